import PyProof.Rows.All
import Wide.All
import OpenK.AllK
import Wide.FinOn
import Open.SpecLaws
import KE.OsGo
import KE.KDictKeyed
import KE.KDictDisplayH
import HandS.ForSpec
import HandS.Dict
import HandS.WordsDict
import HandS.Comp
import HandS.Iter
import HandS.SetKeys
import HandS.SortInts
import HandS.Conv
import HandS.ExcInit
import HandS.ExcField
import HandS.CallSlots
import HandS.RevTup
import HandS.Rev
import HandS.Strs
import HandS.SetFor
import KE.KEqDict
import HandS.CallRecv
import PySem.Challenge.RW_rolledcube_s01_answers
set_option Elab.async false
set_option linter.all false
set_option maxRecDepth 100000
set_option maxHeartbeats 4000000
/-! text Rc1 -/
namespace Rc
open Sy74

/-! ### how a die lies: 24 ways, in the order in which the program finds them -/
def lyNext (x : Nat × Nat × Nat) (w : Nat) : Nat × Nat × Nat :=
  if w = 0 then (7 - x.2.1, x.1, x.2.2) else if w = 2 then (x.2.1, 7 - x.1, x.2.2) else if w = 1 then (7 - x.2.2, x.2.1, x.1) else (x.2.2, x.2.1, 7 - x.1)
def lyAdd (l : List (Nat × Nat × Nat)) (x : Nat × Nat × Nat) : List (Nat × Nat × Nat) := if x ∈ l then l else l ++ [x]
def lyRow (l : List (Nat × Nat × Nat)) (x : Nat × Nat × Nat) : Nat → List (Nat × Nat × Nat)
  | 0 => l
  | k + 1 => lyAdd (lyRow l x k) (lyNext x k)
def lyN : Nat → List (Nat × Nat × Nat)
  | 0 => [(1,2,3)]
  | n + 1 => match (lyN n)[n]? with
    | none => lyN n
    | some x => lyRow (lyN n) x 4
def lyings : List (Nat × Nat × Nat) := [(1,2,3),(5,1,3),(4,2,1),(2,6,3),(3,2,6),(6,5,3),(4,1,5),(3,1,2),(5,4,1),(6,2,4),(2,3,1),(4,6,2),(3,6,5),(5,3,6),(2,4,6),(4,5,6),(3,5,1),(6,4,5),(2,1,4),(1,3,5),(6,3,2),(1,4,2),(5,6,4),(1,5,4)]
theorem lyN_24 : lyN 24 = lyings := by decide +kernel
theorem lyN_len : ∀ n < 24, n < (lyN n).length ∧ (lyN n).length ≤ 24 ∧ ∀ k < 5, ∀ x, (lyN n)[n]? = some x → (lyRow (lyN n) x k).length ≤ 24 ∧ (lyRow (lyN n) x k)[n]? = some x := by decide +kernel
theorem lyings_len : lyings.length = 24 := rfl
theorem ly_range : ∀ x ∈ lyings, (1 ≤ x.1 ∧ x.1 ≤ 6) ∧ (1 ≤ x.2.1 ∧ x.2.1 ≤ 6) ∧ (1 ≤ x.2.2 ∧ x.2.2 ≤ 6) := by decide +kernel
theorem ly_next : ∀ x ∈ lyings, ∀ w < 4, lyNext x w ∈ lyings := by decide +kernel
theorem ly_east : ∀ x ∈ lyings, eastOf x.1 x.2.1 = x.2.2 ∧ isDie x.1 x.2.1 = true := by decide +kernel
theorem ly_uniq : ∀ x ∈ lyings, ∀ y ∈ lyings, x.1 = y.1 → x.2.1 = y.2.1 → x = y := by decide +kernel
theorem lyN_range : ∀ n < 25, ∀ x ∈ lyN n, x ∈ lyings := by decide +kernel
theorem lyRow_range0 : ∀ n < 24, ∀ k < 5, ∀ x, (lyN n)[n]? = some x → ((lyRow (lyN n) x k).all fun y => lyings.contains y) = true := by decide +kernel
theorem lyRow_range {n k : Nat} {x y : Nat × Nat × Nat} (hn : n < 24) (hk : k < 5) (hx : (lyN n)[n]? = some x) (hy : y ∈ lyRow (lyN n) x k) : y ∈ lyings := by
  have q := List.all_eq_true.mp (lyRow_range0 n hn k hk x hx) y hy
  simpa using q
theorem isDie_lt {t n : Nat} (h : isDie t n = true) : t < 7 ∧ n < 7 := by
  unfold isDie at h
  simp only [Bool.and_eq_true, decide_eq_true_eq] at h
  omega
/-- the first that lies so -/
theorem ly_find : ∀ t < 7, ∀ n < 7, (lyings.find? fun x => x.1 == t && x.2.1 == n) = if isDie t n = true then some (t, n, eastOf t n) else none := by decide +kernel
theorem ly_find_all (t n : Nat) : (lyings.find? fun x => x.1 == t && x.2.1 == n) = if isDie t n = true then some (t, n, eastOf t n) else none := by
  by_cases h : t < 7 ∧ n < 7
  · exact ly_find t h.1 n h.2
  · have e : isDie t n ≠ true := fun z => h (isDie_lt z)
    rw [if_neg e, List.find?_eq_none]
    intro x hx z
    have r := ly_range x hx
    simp only [Bool.and_eq_true, beq_iff_eq] at z
    omega

theorem ly_of {t n : Nat} (h : isDie t n = true) : (t, n, eastOf t n) ∈ lyings := by
  have q := ly_find_all t n
  rw [if_pos h] at q
  exact List.mem_of_find?_eq_some q

def Ok (d : Die) : Prop := (d.top, d.north, d.east) ∈ lyings
theorem Ok.range {d : Die} (h : Ok d) : (1 ≤ d.top ∧ d.top ≤ 6) ∧ (1 ≤ d.north ∧ d.north ≤ 6) ∧ (1 ≤ d.east ∧ d.east ≤ 6) := ly_range _ h
/-- a board -/
structure Bd (s : St) : Prop where
  r1 : 1 ≤ s.rows
  r5 : s.rows ≤ 5
  c1 : 1 ≤ s.cols
  c5 : s.cols ≤ 5
/-- where a die may be -/
structure Vd (s : St) (d : Die) : Prop where
  ok : Ok d
  cell : d.cell < s.rows * s.cols
  free : s.walls.contains d.cell = false
/-- all that's promised of a state -/
structure Good (s : St) : Prop where
  bd : Bd s
  die : Vd s s.die
  goalc : s.goal.1 < s.rows * s.cols
  goalf : s.walls.contains s.goal.1 = false
  goalt : s.goal.2 ≤ 6
  wl : ∀ x ∈ s.walls, x < s.rows * s.cols
  ws : s.walls.Pairwise (· < ·)

theorem bd_cases {s : St} (b : Bd s) : (s.rows = 1 ∨ s.rows = 2 ∨ s.rows = 3 ∨ s.rows = 4 ∨ s.rows = 5) ∧ (s.cols = 1 ∨ s.cols = 2 ∨ s.cols = 3 ∨ s.cols = 4 ∨ s.cols = 5) := by
  have := b.r1; have := b.r5; have := b.c1; have := b.c5
  omega
theorem bd_25 {s : St} (b : Bd s) : s.rows * s.cols ≤ 25 := by
  have h : s.rows * s.cols ≤ 5 * 5 := Nat.mul_le_mul b.r5 b.c5
  omega

theorem code_lt {s : St} {d : Die} (b : Bd s) (v : Vd s d) : code d < 900 := by
  have := v.ok.range
  have := v.cell
  have := bd_25 b
  unfold code
  omega
theorem code_inj {d e : Die} (v : Ok d) (u : Ok e) (h : code d = code e) : d = e := by
  have a := v.range
  have b := u.range
  unfold code at h
  have h1 : d.cell = e.cell ∧ d.top = e.top ∧ d.north = e.north := by omega
  have q := ly_uniq _ v _ u h1.2.1 h1.2.2
  cases d
  cases e
  simp only [Prod.mk.injEq] at q
  obtain ⟨q1, q2, q3⟩ := q
  obtain ⟨h0, _⟩ := h1
  simp_all

/-- where a roll leads, as the program has it -/
def nextCell (s : St) (x w : Nat) : Option Nat :=
  let r := x / s.cols
  let c := x % s.cols
  if w = 0 then (if r = 0 then none else some (x - s.cols))
  else if w = 1 then (if c + 1 = s.cols then none else some (x + 1))
  else if w = 2 then (if r + 1 = s.rows then none else some (x + s.cols))
  else if w = 3 then (if c = 0 then none else some (x - 1)) else none
theorem rolled_eq (s : St) (d : Die) (w : Nat) : rolled s d w = (nextCell s d.cell w).bind fun x => if s.walls.contains x = true then none else
    some ⟨x, (lyNext (d.top, d.north, d.east) w).1, (lyNext (d.top, d.north, d.east) w).2.1, (lyNext (d.top, d.north, d.east) w).2.2⟩ := by
  unfold rolled nextCell lyNext
  dsimp only
  by_cases h0 : w = 0
  · subst h0
    simp only [if_pos]
    by_cases c : d.cell / s.cols = 0
    · simp [c]
    · simp [c]
  · by_cases h1 : w = 1
    · subst h1
      
      by_cases c : d.cell % s.cols + 1 = s.cols
      · simp [c]
      · simp [c]
    · by_cases h2 : w = 2
      · subst h2
        by_cases c : d.cell / s.cols + 1 = s.rows
        · simp [c]
        · simp [c]
      · by_cases h3 : w = 3
        · subst h3
          by_cases c : d.cell % s.cols = 0
          · simp [c]
          · simp [c]
        · simp [h0, h1, h2, h3]
theorem nextCell_lt {s : St} (b : Bd s) {x w y : Nat} (hx : x < s.rows * s.cols) (h : nextCell s x w = some y) : y < s.rows * s.cols ∧ w < 4 := by
  unfold nextCell at h
  dsimp only at h
  obtain ⟨hr, hc⟩ := bd_cases b
  rcases hc with c | c | c | c | c <;> rw [c] at h hx ⊢ <;>
  (split at h
   · split at h
     · cases h
     · have h := Option.some.inj h; subst h; omega
   · split at h
     · split at h
       · cases h
       · have h := Option.some.inj h; subst h; omega
     · split at h
       · split at h
         · cases h
         · have h := Option.some.inj h; subst h; omega
       · split at h
         · split at h
           · cases h
           · have h := Option.some.inj h; subst h; omega
         · cases h)
def opp (w : Nat) : Nat := if w = 0 then 2 else if w = 1 then 3 else if w = 2 then 0 else 1
theorem nextCell_back {s : St} (b : Bd s) {x w y : Nat} (hx : x < s.rows * s.cols) (h : nextCell s x w = some y) : nextCell s y (opp w) = some x := by
  have hy := (nextCell_lt b hx h).1
  obtain ⟨hr, hc⟩ := bd_cases b
  have w4 := (nextCell_lt b hx h).2
  unfold nextCell at h ⊢
  dsimp only at h ⊢
  have hw : w = 0 ∨ w = 1 ∨ w = 2 ∨ w = 3 := by omega
  rcases hw with w0 | w0 | w0 | w0 <;> subst w0 <;> simp [opp] at h ⊢ <;>
    rcases hc with c | c | c | c | c <;> rw [c] at h hx hy ⊢ <;> omega
theorem ly_back : ∀ x ∈ lyings, ∀ w < 4, lyNext (lyNext x w) (opp w) = x := by decide +kernel

def Edge (s : St) (d e : Die) : Prop := ∃ w, rolled s d w = some e
theorem rolled_some {s : St} {d e : Die} {w : Nat} (h : rolled s d w = some e) : nextCell s d.cell w = some e.cell ∧ s.walls.contains e.cell = false ∧ (e.top, e.north, e.east) = lyNext (d.top, d.north, d.east) w := by
  rw [rolled_eq] at h
  cases hc : nextCell s d.cell w with
  | none => rw [hc] at h; cases h
  | some x =>
    rw [hc] at h
    dsimp only [Option.bind_some] at h
    split at h
    · cases h
    · rename_i hw
      have h := Option.some.inj h
      subst h
      exact ⟨rfl, by simpa using hw, rfl⟩
theorem rolled_lt {s : St} {d e : Die} {w : Nat} (h : rolled s d w = some e) : w < 4 := by
  have q := (rolled_some h).1
  unfold nextCell at q
  dsimp only at q
  by_cases h0 : w < 4
  · exact h0
  · rw [if_neg (by omega), if_neg (by omega), if_neg (by omega), if_neg (by omega)] at q
    cases q
theorem rolled_vd {s : St} (b : Bd s) {d e : Die} {w : Nat} (v : Vd s d) (h : rolled s d w = some e) : Vd s e := by
  obtain ⟨h1, h2, h3⟩ := rolled_some h
  refine ⟨?_, (nextCell_lt b v.cell h1).1, h2⟩
  show (e.top, e.north, e.east) ∈ lyings
  rw [h3]
  exact ly_next _ v.ok w (rolled_lt h)
theorem rolled_back {s : St} (b : Bd s) {d e : Die} {w : Nat} (v : Vd s d) (h : rolled s d w = some e) : rolled s e (opp w) = some d := by
  obtain ⟨h1, h2, h3⟩ := rolled_some h
  rw [rolled_eq, nextCell_back b v.cell h1, h3, ly_back _ v.ok w (rolled_lt h)]
  dsimp only [Option.bind_some]
  rw [if_neg (by rw [v.free]; exact Bool.false_ne_true)]
theorem Edge.symm {s : St} (b : Bd s) {d e : Die} (v : Vd s d) (h : Edge s d e) : Edge s e d := let ⟨w, q⟩ := h; ⟨opp w, rolled_back b v q⟩
theorem Edge.vd {s : St} (b : Bd s) {d e : Die} (v : Vd s d) (h : Edge s d e) : Vd s e := let ⟨_, q⟩ := h; rolled_vd b v q
theorem mem_nexts {s : St} {d e : Die} : e ∈ nexts s d ↔ Edge s d e := by
  unfold nexts
  rw [List.mem_filterMap]
  constructor
  · rintro ⟨w, _, h⟩
    exact ⟨w, h⟩
  · rintro ⟨w, h⟩
    exact ⟨w, List.mem_range.mpr (rolled_lt h), h⟩
end Rc

/-! text Rc2 -/
namespace Rc
open Sy74

/-! ### a number as a set -/
theorem testBit_add_pow : ∀ (i n j : Nat), n.testBit i = false → (n + 2 ^ i).testBit j = (n.testBit j || decide (j = i))
  | 0, n, j, h => by
    rw [Nat.testBit_zero] at h
    have h := of_decide_eq_false h
    cases j with
    | zero =>
      rw [Nat.testBit_zero, Nat.testBit_zero]
      have a : (n + 2 ^ 0) % 2 = 1 := by omega
      simp [a]
    | succ j =>
      rw [Nat.testBit_succ, Nat.testBit_succ]
      have a : (n + 2 ^ 0) / 2 = n / 2 := by omega
      simp [a]
  | i + 1, n, j, h => by
    rw [Nat.testBit_succ] at h
    have p : 2 ^ (i + 1) = 2 * 2 ^ i := by rw [Nat.pow_succ]; omega
    cases j with
    | zero =>
      rw [Nat.testBit_zero, Nat.testBit_zero]
      have a : (n + 2 ^ (i + 1)) % 2 = n % 2 := by omega
      simp [a]
    | succ j =>
      rw [Nat.testBit_succ, Nat.testBit_succ]
      have a : (n + 2 ^ (i + 1)) / 2 = n / 2 + 2 ^ i := by omega
      rw [a, testBit_add_pow i (n / 2) j h]
      simp

abbrev frStep : List Die × Nat → Die → List Die × Nat := fun (x : List Die × Nat) (d : Die) => if x.2.testBit (code d) = true then x else (x.1 ++ [d], x.2 + 2 ^ code d)
theorem fresh_acc : ∀ (l : List Die) (acc : List Die) (seen : Nat), l.foldl frStep (acc, seen) = (acc ++ (fresh l seen).1, (fresh l seen).2)
  | [], acc, seen => by simp [fresh]
  | d :: l, acc, seen => by
    show l.foldl frStep (frStep (acc, seen) d) = (acc ++ (l.foldl frStep (frStep ([], seen) d)).1, (l.foldl frStep (frStep ([], seen) d)).2)
    by_cases h : seen.testBit (code d) = true
    · have e1 : frStep (acc, seen) d = (acc, seen) := if_pos h
      have e2 : frStep ([], seen) d = ([], seen) := if_pos h
      rw [e1, e2]
      exact fresh_acc l acc seen
    · have e1 : frStep (acc, seen) d = (acc ++ [d], seen + 2 ^ code d) := if_neg h
      have e2 : frStep ([], seen) d = ([] ++ [d], seen + 2 ^ code d) := if_neg h
      rw [e1, e2, fresh_acc l (acc ++ [d]), fresh_acc l ([] ++ [d])]
      simp
theorem fresh_nil (seen : Nat) : fresh [] seen = ([], seen) := rfl
theorem fresh_old {d : Die} {l : List Die} {seen : Nat} (h : seen.testBit (code d) = true) : fresh (d :: l) seen = fresh l seen := by
  show l.foldl frStep (frStep ([], seen) d) = _
  have e2 : frStep ([], seen) d = ([], seen) := if_pos h
  rw [e2]
  rfl
theorem fresh_new {d : Die} {l : List Die} {seen : Nat} (h : seen.testBit (code d) = false) : fresh (d :: l) seen = (d :: (fresh l (seen + 2 ^ code d)).1, (fresh l (seen + 2 ^ code d)).2) := by
  show l.foldl frStep (frStep ([], seen) d) = _
  have e2 : frStep ([], seen) d = ([] ++ [d], seen + 2 ^ code d) := if_neg (by rw [h]; exact Bool.false_ne_true)
  rw [e2, fresh_acc]
  simp
structure Fr (l : List Die) (seen : Nat) (r : List Die × Nat) : Prop where
  sub : ∀ x ∈ r.1, x ∈ l ∧ seen.testBit (code x) = false
  all : ∀ x ∈ l, seen.testBit (code x) = false → ∃ y ∈ r.1, code y = code x
  bit : ∀ c, r.2.testBit c = true ↔ (seen.testBit c = true ∨ ∃ y ∈ r.1, code y = c)
  nd : (r.1.map code).Nodup
theorem fresh_spec : ∀ (l : List Die) (seen : Nat), Fr l seen (fresh l seen)
  | [], seen => ⟨fun x h => by simp [fresh_nil] at h, fun x h => by simp at h, fun c => by simp [fresh_nil], by simp [fresh_nil]⟩
  | d :: l, seen => by
    cases h : seen.testBit (code d) with
    | true =>
      have F := fresh_spec l seen
      rw [fresh_old h]
      refine ⟨fun x hx => ⟨List.mem_cons_of_mem _ (F.sub x hx).1, (F.sub x hx).2⟩, fun x hx hs => ?_, F.bit, F.nd⟩
      rcases List.mem_cons.mp hx with e | hx
      · rw [e, h] at hs; cases hs
      · exact F.all x hx hs
    | false =>
      have F := fresh_spec l (seen + 2 ^ code d)
      have tb := fun c => testBit_add_pow (code d) seen c h
      rw [fresh_new h]
      refine ⟨fun x hx => ?_, fun x hx hs => ?_, fun c => ?_, ?_⟩
      · rcases List.mem_cons.mp hx with e | hx
        · subst e; exact ⟨List.mem_cons_self, h⟩
        · have q := (F.sub x hx).2
          rw [tb, Bool.or_eq_false_iff] at q
          exact ⟨List.mem_cons_of_mem _ (F.sub x hx).1, q.1⟩
      · by_cases e : code x = code d
        · exact ⟨d, List.mem_cons_self, e.symm⟩
        · rcases List.mem_cons.mp hx with e' | hx
          · subst e'; exact absurd rfl e
          · obtain ⟨y, hy, ey⟩ := F.all x hx (by rw [tb, hs]; simp [e])
            exact ⟨y, List.mem_cons_of_mem _ hy, ey⟩
      · rw [F.bit c, tb]
        simp only [Bool.or_eq_true, decide_eq_true_eq]
        constructor
        · rintro ((q | q) | ⟨y, hy, q⟩)
          · exact .inl q
          · exact .inr ⟨d, List.mem_cons_self, q.symm⟩
          · exact .inr ⟨y, List.mem_cons_of_mem _ hy, q⟩
        · rintro (q | ⟨y, hy, q⟩)
          · exact .inl (.inl q)
          · rcases List.mem_cons.mp hy with e | hy
            · subst e; exact .inl (.inr q.symm)
            · exact .inr ⟨y, hy, q⟩
      · show (code d :: _).Nodup
        rw [List.nodup_cons]
        refine ⟨fun z => ?_, F.nd⟩
        obtain ⟨y, hy, ey⟩ := List.mem_map.mp z
        have q := (F.sub y hy).2
        rw [tb, ey] at q
        simp at q

/-! ### how far -/
/-- there are so many rolls from one of L -/
def Bn (s : St) (L : List Die) : Nat → Die → Prop
  | 0, e => e ∈ L
  | n + 1, e => ∃ m, Bn s L n m ∧ Edge s m e
/-- .. and no fewer -/
def Lev (s : St) (L : List Die) (n : Nat) (e : Die) : Prop := Bn s L n e ∧ ∀ k < n, ¬ Bn s L k e
section
variable {s : St} {L : List Die} (b : Bd s) (hL : ∀ d ∈ L, Vd s d)
include b hL
theorem Bn.vd : ∀ {n : Nat} {e : Die}, Bn s L n e → Vd s e
  | 0, _, h => hL _ h
  | _ + 1, _, h => let ⟨_, h1, h2⟩ := h; h2.vd b (Bn.vd h1)
omit b hL in
theorem Bn.lev : ∀ {n : Nat} {e : Die}, Bn s L n e → ∃ k, k ≤ n ∧ Lev s L k e := by
  intro n
  induction n using Nat.strongRecOn with
  | _ n ih =>
    intro e h
    by_cases q : ∃ k, k < n ∧ Bn s L k e
    · obtain ⟨k, hk, h'⟩ := q
      obtain ⟨j, hj, l⟩ := ih k hk h'
      exact ⟨j, by omega, l⟩
    · exact ⟨n, Nat.le_refl _, h, fun k hk z => q ⟨k, hk, z⟩⟩
omit b hL in
theorem Lev.uniq {n k : Nat} {e : Die} (a : Lev s L n e) (c : Lev s L k e) : n = k := by
  rcases Nat.lt_trichotomy n k with h | h | h
  · exact absurd a.1 (c.2 n h)
  · exact h
  · exact absurd c.1 (a.2 k h)
omit b hL in
theorem Lev.pred {n : Nat} {e : Die} (a : Lev s L (n + 1) e) : ∃ m, Lev s L n m ∧ Edge s m e := by
  obtain ⟨m, h1, h2⟩ := a.1
  refine ⟨m, ⟨h1, fun k hk z => a.2 (k + 1) (by omega) ⟨m, z, h2⟩⟩, h2⟩
omit b hL in
theorem Lev.down : ∀ {i n : Nat} {e : Die}, Lev s L (n + i) e → ∃ m, Lev s L n m
  | 0, _, e, a => ⟨e, a⟩
  | i + 1, _, _, a => let ⟨_, q, _⟩ := Lev.pred a; Lev.down q
theorem Lev.chain : ∀ {n : Nat} {e : Die}, Lev s L n e → ∃ l : List Die, l.length = n + 1 ∧ (l.map code).Nodup ∧ ∀ x ∈ l, ∃ j, j ≤ n ∧ Lev s L j x
  | 0, e, a => ⟨[e], rfl, by simp, fun x hx => ⟨0, Nat.le_refl _, by rw [List.mem_singleton.mp hx]; exact a⟩⟩
  | n + 1, e, a => by
    obtain ⟨m, q, _⟩ := a.pred
    obtain ⟨l, h1, h2, h3⟩ := Lev.chain q
    refine ⟨e :: l, by rw [List.length_cons, h1], ?_, fun x hx => ?_⟩
    · show (code e :: _).Nodup
      rw [List.nodup_cons]
      refine ⟨fun z => ?_, h2⟩
      obtain ⟨y, hy, ey⟩ := List.mem_map.mp z
      obtain ⟨j, hj, ly⟩ := h3 y hy
      have : y = e := code_inj (ly.1.vd b hL).ok (a.1.vd b hL).ok ey
      subst this
      have := a.uniq ly
      omega
    · rcases List.mem_cons.mp hx with h | h
      · subst h; exact ⟨n + 1, Nat.le_refl _, a⟩
      · obtain ⟨j, hj, q⟩ := h3 x h
        exact ⟨j, by omega, q⟩
omit hL in
theorem codes_le {l : List Die} (nd : (l.map code).Nodup) (hv : ∀ x ∈ l, Vd s x) : l.length ≤ 900 := by
  have h := nd.length_le_of_subset (l₂ := List.range 900) fun c hc => by
    obtain ⟨y, hy, ey⟩ := List.mem_map.mp hc
    rw [← ey, List.mem_range]
    exact code_lt b (hv y hy)
  simpa using h
theorem Lev.bound {n : Nat} {e : Die} (a : Lev s L n e) : n < 900 := by
  obtain ⟨l, h1, h2, h3⟩ := a.chain b hL
  have := codes_le b h2 fun x hx => let ⟨_, _, q⟩ := h3 x hx; q.1.vd b hL
  omega

theorem levels_spec : ∀ (f n : Nat) (now : List Die) (seen : Nat), (∀ e, e ∈ now ↔ Lev s L n e) → (now.map code).Nodup → (∀ c, seen.testBit c = true ↔ ∃ k, k ≤ n ∧ ∃ e, Lev s L k e ∧ code e = c) →
    (∀ i l, (levels s f now seen)[i]? = some l → (∀ e, e ∈ l ↔ Lev s L (n + i) e) ∧ (l.map code).Nodup) ∧ ∀ i e, i < f → Lev s L (n + i) e → ∃ l, (levels s f now seen)[i]? = some l
  | 0, n, now, seen, _, _, _ => ⟨fun i l h => by simp [levels] at h, fun i e h => by omega⟩
  | f + 1, n, now, seen, hn, nd, hs => by
    show (∀ i l, (if now.isEmpty = true then [] else now :: levels s f (fresh (now.flatMap (nexts s)) seen).1 (fresh (now.flatMap (nexts s)) seen).2)[i]? = some l → _) ∧ ∀ i e, i < f + 1 → Lev s L (n + i) e → ∃ l, (if now.isEmpty = true then [] else now :: levels s f (fresh (now.flatMap (nexts s)) seen).1 (fresh (now.flatMap (nexts s)) seen).2)[i]? = some l
    by_cases he : now.isEmpty = true
    · rw [if_pos he]
      refine ⟨fun i l h => by simp at h, fun i e _ h => ?_⟩
      obtain ⟨m, q⟩ := Lev.down h
      have := (hn m).mpr q
      rw [List.isEmpty_iff.mp he] at this
      cases this
    · rw [if_neg he]
      have F := fresh_spec (now.flatMap (nexts s)) seen
      generalize fresh (now.flatMap (nexts s)) seen = r at F
      have mem : ∀ e, e ∈ now.flatMap (nexts s) ↔ ∃ m, Lev s L n m ∧ Edge s m e := fun e => by
        rw [List.mem_flatMap]
        constructor
        · rintro ⟨m, h1, h2⟩; exact ⟨m, (hn m).mp h1, mem_nexts.mp h2⟩
        · rintro ⟨m, h1, h2⟩; exact ⟨m, (hn m).mpr h1, mem_nexts.mpr h2⟩
      have h1 : ∀ e, e ∈ r.1 ↔ Lev s L (n + 1) e := fun e => by
        constructor
        · intro h
          obtain ⟨q, ns⟩ := F.sub e h
          obtain ⟨m, lm, em⟩ := (mem e).mp q
          refine ⟨⟨m, lm.1, em⟩, fun k hk z => ?_⟩
          obtain ⟨j, hj, lj⟩ := z.lev
          have := (hs (code e)).mpr ⟨j, by omega, e, lj, rfl⟩
          rw [this] at ns; cases ns
        · intro a
          obtain ⟨m, lm, em⟩ := a.pred
          have ns : seen.testBit (code e) = false := by
            cases z : seen.testBit (code e) with
            | false => rfl
            | true =>
              obtain ⟨k, hk, e', l', ec⟩ := (hs _).mp z
              have : e' = e := code_inj (l'.1.vd b hL).ok (a.1.vd b hL).ok ec
              subst this
              have := a.uniq l'
              omega
          obtain ⟨y, hy, ey⟩ := F.all e ((mem e).mpr ⟨m, lm, em⟩) ns
          obtain ⟨m', lm', em'⟩ := (mem y).mp (F.sub y hy).1
          have : y = e := code_inj (em'.vd b (lm'.1.vd b hL)).ok (a.1.vd b hL).ok ey
          rw [← this]; exact hy
      have h3 : ∀ c, r.2.testBit c = true ↔ ∃ k, k ≤ n + 1 ∧ ∃ e, Lev s L k e ∧ code e = c := fun c => by
        rw [F.bit c, hs c]
        constructor
        · rintro (⟨k, hk, q⟩ | ⟨y, hy, q⟩)
          · exact ⟨k, by omega, q⟩
          · exact ⟨n + 1, Nat.le_refl _, y, (h1 y).mp hy, q⟩
        · rintro ⟨k, hk, e, q, ec⟩
          by_cases hk' : k ≤ n
          · exact .inl ⟨k, hk', e, q, ec⟩
          · have : k = n + 1 := by omega
            subst this
            exact .inr ⟨e, (h1 e).mpr q, ec⟩
      obtain ⟨A, B⟩ := levels_spec f (n + 1) r.1 r.2 h1 F.nd h3
      constructor
      · intro i l h
        cases i with
        | zero =>
          rw [List.getElem?_cons_zero] at h
          have h := Option.some.inj h
          subst h
          exact ⟨hn, nd⟩
        | succ i =>
          rw [List.getElem?_cons_succ] at h
          have := A i l h
          rwa [show n + 1 + i = n + (i + 1) by omega] at this
      · intro i e hi a
        cases i with
        | zero => exact ⟨now, rfl⟩
        | succ i =>
          rw [List.getElem?_cons_succ]
          exact B i e (by omega) (by rwa [show n + 1 + i = n + (i + 1) by omega])
theorem from_spec : (∀ i l, (from_ s L)[i]? = some l → (∀ e, e ∈ l ↔ Lev s L i e) ∧ (l.map code).Nodup) ∧ ∀ i e, Lev s L i e → ∃ l, (from_ s L)[i]? = some l := by
  have F := fresh_spec L 0
  have lev0 : ∀ e, Lev s L 0 e ↔ e ∈ L := fun e => ⟨fun a => a.1, fun h => ⟨h, fun k hk => by omega⟩⟩
  show (∀ i l, (levels s 1000 (fresh L 0).1 (fresh L 0).2)[i]? = some l → _) ∧ ∀ i e, Lev s L i e → ∃ l, (levels s 1000 (fresh L 0).1 (fresh L 0).2)[i]? = some l
  generalize fresh L 0 = r at F
  have h1 : ∀ e, e ∈ r.1 ↔ Lev s L 0 e := fun e => by
    rw [lev0]
    constructor
    · exact fun h => (F.sub e h).1
    · intro h
      obtain ⟨y, hy, ey⟩ := F.all e h (Nat.zero_testBit _)
      have : y = e := code_inj (hL _ (F.sub y hy).1).ok (hL _ h).ok ey
      rw [← this]; exact hy
  have S := levels_spec b hL 1000 0 r.1 r.2 h1 F.nd fun c => by
    rw [F.bit c]
    constructor
    · rintro (h | ⟨y, hy, q⟩)
      · rw [Nat.zero_testBit] at h; cases h
      · exact ⟨0, Nat.le_refl _, y, (h1 y).mp hy, q⟩
    · rintro ⟨k, hk, e, q, ec⟩
      have : k = 0 := by omega
      subst this
      exact .inr ⟨e, (h1 e).mpr q, ec⟩
  refine ⟨fun i l h => by have := S.1 i l h; rwa [Nat.zero_add] at this, fun i e a => S.2 i e (Nat.lt_of_lt_of_le (a.bound b hL) (by decide)) (by rwa [Nat.zero_add])⟩
theorem distance_iff {d : Die} {k : Nat} : distance (from_ s L) d = some k ↔ Lev s L k d := by
  obtain ⟨A, B⟩ := from_spec b hL
  unfold distance
  rw [List.findIdx?_eq_some_iff_getElem]
  constructor
  · rintro ⟨h, p, _⟩
    have := (A k _ (List.getElem?_eq_getElem h)).1 d
    exact this.mp (by simpa using p)
  · intro a
    obtain ⟨l, hl⟩ := B k d a
    obtain ⟨h, e⟩ := List.getElem?_eq_some_iff.mp hl
    refine ⟨h, ?_, fun j hj z => ?_⟩
    · rw [e]
      simpa using ((A k l hl).1 d).mpr a
    · have := ((A j _ (List.getElem?_eq_getElem (by omega))).1 d).mp (by simpa using z)
      have := a.uniq this
      omega
theorem distance_none {d : Die} : distance (from_ s L) d = none ↔ ∀ k, ¬ Lev s L k d := by
  constructor
  · intro h k a
    rw [(distance_iff b hL).mpr a] at h
    cases h
  · intro h
    cases q : distance (from_ s L) d with
    | none => rfl
    | some k => exact absurd ((distance_iff b hL).mp q) (h k)
end
/-! ### all that it can come to -/
theorem reach_spec {s : St} (b : Bd s) (v : Vd s s.die) : (∀ e, e ∈ reach s ↔ ∃ k, Bn s [s.die] k e) ∧ ((reach s).map code).Nodup := by
  have hL : ∀ d ∈ [s.die], Vd s d := fun d hd => by rw [List.mem_singleton.mp hd]; exact v
  obtain ⟨A, B⟩ := from_spec b hL
  unfold reach
  constructor
  · intro e
    rw [List.mem_flatMap]
    constructor
    · rintro ⟨l, hl, he⟩
      obtain ⟨i, hi⟩ := List.mem_iff_getElem?.mp hl
      exact ⟨i, (((A i l hi).1 e).mp he).1⟩
    · rintro ⟨k, h⟩
      obtain ⟨j, _, q⟩ := h.lev
      obtain ⟨l, hl⟩ := B j e q
      exact ⟨l, List.mem_iff_getElem?.mpr ⟨j, hl⟩, ((A j l hl).1 e).mpr q⟩
  · unfold List.Nodup
    rw [List.pairwise_map, List.pairwise_flatMap]
    refine ⟨fun l hl => ?_, ?_⟩
    · obtain ⟨i, hi⟩ := List.mem_iff_getElem?.mp hl
      exact List.pairwise_map.mp (A i l hi).2
    · rw [List.pairwise_iff_getElem]
      intro i j hi hj hij x hx y hy ec
      have qx := ((A i _ (List.getElem?_eq_getElem hi)).1 x).mp hx
      have qy := ((A j _ (List.getElem?_eq_getElem hj)).1 y).mp hy
      have : x = y := code_inj (qx.1.vd b hL).ok (qy.1.vd b hL).ok ec
      subst this
      have := qx.uniq qy
      omega
end Rc

/-! text Rc3 -/
namespace Rc
open Sy74

/-! ### rows of rolls -/
def run (s : St) : Die → List Nat → Option Die
  | d, [] => some d
  | d, w :: p => (rolled s d w).bind fun e => run s e p
theorem run_append {s : St} : ∀ (p q : List Nat) (d : Die), run s d (p ++ q) = (run s d p).bind fun e => run s e q
  | [], q, d => rfl
  | w :: p, q, d => by
    show (rolled s d w).bind (fun e => run s e (p ++ q)) = ((rolled s d w).bind fun e => run s e p).bind _
    cases h : rolled s d w with
    | none => rfl
    | some e => exact run_append p q e
theorem run_snoc {s : St} {p : List Nat} {w : Nat} {d m e : Die} (h : run s d p = some m) (h2 : rolled s m w = some e) : run s d (p ++ [w]) = some e := by
  rw [run_append, h]
  show (rolled s m w).bind _ = _
  rw [h2]
  rfl
theorem run_snoc_inv {s : St} {p : List Nat} {w : Nat} {d e : Die} (h : run s d (p ++ [w]) = some e) : ∃ m, run s d p = some m ∧ rolled s m w = some e := by
  rw [run_append] at h
  cases q : run s d p with
  | none => rw [q] at h; cases h
  | some m =>
    rw [q] at h
    refine ⟨m, rfl, ?_⟩
    have h : (rolled s m w).bind (fun e => run s e []) = some e := h
    cases z : rolled s m w with
    | none => rw [z] at h; cases h
    | some e' => rw [z] at h; exact h
theorem run_lt {s : St} : ∀ {p : List Nat} {d e : Die}, run s d p = some e → ∀ w ∈ p, w < 4
  | [], _, _, _, w, hw => by cases hw
  | v :: p, d, e, h, w, hw => by
    have h : (rolled s d v).bind (fun e => run s e p) = some e := h
    cases z : rolled s d v with
    | none => rw [z] at h; cases h
    | some m =>
      rw [z] at h
      rcases List.mem_cons.mp hw with rfl | hw
      · exact rolled_lt z
      · exact run_lt h w hw
theorem run_cons_inv {s : St} {p : List Nat} {w : Nat} {d e : Die} (h : run s d (w :: p) = some e) : ∃ m, rolled s d w = some m ∧ run s m p = some e := by
  have h : (rolled s d w).bind (fun e => run s e p) = some e := h
  cases z : rolled s d w with
  | none => rw [z] at h; cases h
  | some m => rw [z] at h; exact ⟨m, rfl, h⟩
theorem run_cons {s : St} {p : List Nat} {w : Nat} {d m e : Die} (h : rolled s d w = some m) (h2 : run s m p = some e) : run s d (w :: p) = some e := by
  show (rolled s d w).bind (fun e => run s e p) = some e
  rw [h]
  exact h2
theorem snoc_cases (p : List Nat) : p = [] ∨ ∃ p' w, p = p' ++ [w] := by
  cases h : p.reverse with
  | nil => exact .inl (by simpa using h)
  | cons w r =>
    refine .inr ⟨r.reverse, w, ?_⟩
    have := congrArg List.reverse h
    simpa using this
theorem snoc_ind {P : List Nat → Prop} (h0 : P []) (hs : ∀ p w, P p → P (p ++ [w])) (p : List Nat) : P p := by
  suffices h : ∀ n (p : List Nat), p.length = n → P p from h _ p rfl
  intro n
  induction n with
  | zero => intro p hp; rw [List.length_eq_zero_iff.mp hp]; exact h0
  | succ n ih =>
    intro p hp
    rcases snoc_cases p with e | ⟨p', w, e⟩
    · rw [e] at hp; cases hp
    · subst e
      exact hs p' w (ih p' (by simpa using hp))
theorem bn_run {s : St} {d : Die} : ∀ {n : Nat} {e : Die}, Bn s [d] n e ↔ ∃ p, p.length = n ∧ run s d p = some e
  | 0, e => by
    constructor
    · intro h
      rw [List.mem_singleton.mp (show e ∈ [d] from h)]
      exact ⟨[], rfl, rfl⟩
    · rintro ⟨p, hp, h⟩
      rw [List.length_eq_zero_iff.mp hp] at h
      have h : some d = some e := h
      cases h
      exact List.mem_singleton.mpr rfl
  | n + 1, e => by
    constructor
    · rintro ⟨m, h, w, hw⟩
      obtain ⟨p, hp, q⟩ := bn_run.mp h
      exact ⟨p ++ [w], by simp [hp], run_snoc q hw⟩
    · rintro ⟨p, hp, h⟩
      rcases snoc_cases p with e' | ⟨p', w, e'⟩
      · rw [e'] at hp; cases hp
      · subst e'
        obtain ⟨m, h1, h2⟩ := run_snoc_inv h
        exact ⟨m, bn_run.mpr ⟨p', by simpa using hp, h1⟩, w, h2⟩
/-- a row of rolls behind which it's where it's wanted -/
def Wins (s : St) (d : Die) (p : List Nat) : Prop := ∃ e, run s d p = some e ∧ done s e = true
section
variable {s : St} (b : Bd s) (v : Vd s s.die)
include b v
theorem ends_vd : ∀ d ∈ (reach s).filter (done s), Vd s d := fun d hd => by
  have h := (List.mem_filter.mp hd).1
  obtain ⟨k, q⟩ := ((reach_spec b v).1 d).mp h
  exact q.vd b fun x hx => by rw [List.mem_singleton.mp hx]; exact v
theorem bn_ends : ∀ {n : Nat} {d : Die}, Vd s d → (∃ k, Bn s [s.die] k d) → (Bn s ((reach s).filter (done s)) n d ↔ ∃ p, p.length = n ∧ Wins s d p)
  | 0, d, vd, hr => by
    constructor
    · intro h
      exact ⟨[], rfl, d, rfl, (List.mem_filter.mp (show d ∈ _ from h)).2⟩
    · rintro ⟨p, hp, e, h, q⟩
      rw [List.length_eq_zero_iff.mp hp] at h
      have h : some d = some e := h
      cases h
      exact List.mem_filter.mpr ⟨((reach_spec b v).1 d).mpr hr, q⟩
  | n + 1, d, vd, ⟨k, hk⟩ => by
    constructor
    · rintro ⟨m, h, hw⟩
      have vm := h.vd b (ends_vd b v)
      obtain ⟨w, q⟩ := hw.symm b vm
      obtain ⟨p, hp, e, h1, h2⟩ := (bn_ends (n := n) vm ⟨k + 1, d, hk, w, q⟩).mp h
      exact ⟨w :: p, by simp [hp], e, run_cons q h1, h2⟩
    · rintro ⟨p, hp, e, h, q⟩
      cases p with
      | nil => cases hp
      | cons w p =>
        obtain ⟨m, h1, h2⟩ := run_cons_inv h
        have vm := rolled_vd b vd h1
        exact ⟨m, (bn_ends (n := n) vm ⟨k + 1, d, hk, w, h1⟩).mpr ⟨p, by simpa using hp, e, h2, q⟩, Edge.symm b vd ⟨w, h1⟩⟩
end
/-! ### rows of rolls in order: a number to the base four -/
def key (c : Nat) (p : List Nat) : Nat := p.foldl (fun c w => 4 * c + w) c
theorem key_snoc (c : Nat) (p : List Nat) (w : Nat) : key c (p ++ [w]) = 4 * key c p + w := by unfold key; rw [List.foldl_append]; rfl
theorem key_lt : ∀ {p q : List Nat} {c c' : Nat}, c < c' → p.length = q.length → (∀ w ∈ p, w < 4) → key c p < key c' q
  | [], [], c, c', h, _, _ => h
  | [], _ :: _, _, _, _, h, _ => by cases h
  | _ :: _, [], _, _, _, h, _ => by cases h
  | w :: p, x :: q, c, c', h, hl, hw => by
    show key (4 * c + w) p < key (4 * c' + x) q
    have := hw w List.mem_cons_self
    exact key_lt (by omega) (by simpa using hl) fun y hy => hw y (List.mem_cons_of_mem _ hy)
theorem key_len : ∀ {q p : List Nat} {c c' : Nat}, p.length < q.length → 1 ≤ c' → c < 4 * c' → (∀ w ∈ p, w < 4) → key c p < key c' q
  | [], _, _, _, h, _, _, _ => by cases h
  | x :: q, p, c, c', h, h1, h4, hw => by
    show key c p < key (4 * c' + x) q
    rw [List.length_cons] at h
    by_cases e : p.length = q.length
    · exact key_lt (by omega) e hw
    · exact key_len (by omega) (by omega) (by omega) hw
theorem key_inj : ∀ {p q : List Nat} {c : Nat}, 1 ≤ c → (∀ w ∈ p, w < 4) → (∀ w ∈ q, w < 4) → key c p = key c q → p = q := by
  intro p q c h1 hp hq e
  have hl : p.length = q.length := by
    rcases Nat.lt_trichotomy p.length q.length with h | h | h
    · have := key_len (c := c) (c' := c) h h1 (by omega) hp
      omega
    · exact h
    · have := key_len (c := c) (c' := c) h h1 (by omega) hq
      omega
  clear h1
  induction p generalizing q c with
  | nil =>
    cases q with
    | nil => rfl
    | cons x q => cases hl
  | cons w p ih =>
    cases q with
    | nil => cases hl
    | cons x q =>
      have e : key (4 * c + w) p = key (4 * c + x) q := e
      have hw := hp w List.mem_cons_self
      have hx := hq x List.mem_cons_self
      have hp' : ∀ y ∈ p, y < 4 := fun y hy => hp y (List.mem_cons_of_mem _ hy)
      have hq' : ∀ y ∈ q, y < 4 := fun y hy => hq y (List.mem_cons_of_mem _ hy)
      have hl' : p.length = q.length := by simpa using hl
      have ewx : w = x := by
        rcases Nat.lt_trichotomy w x with h | h | h
        · have := key_lt (c := 4 * c + w) (c' := 4 * c + x) (by omega) hl' hp'
          omega
        · exact h
        · have := key_lt (c := 4 * c + x) (c' := 4 * c + w) (by omega) hl'.symm hq'
          omega
      subst ewx
      rw [ih hp' hq' e hl']
/-! ### the plan of the specification -/
section
variable {s : St} (b : Bd s) (v : Vd s s.die)
include b v
theorem plan_spec : ∀ (k : Nat) (d : Die), Vd s d → (∃ j, Bn s [s.die] j d) → distance (ends s) d = some k →
    (Sy74.plan s (ends s) k d).length = k ∧ Wins s d (Sy74.plan s (ends s) k d) ∧ ∀ p, p.length = k → Wins s d p → ∀ c, key c (Sy74.plan s (ends s) k d) ≤ key c p
  | 0, d, vd, hr, h => by
    have l := (distance_iff b (ends_vd b v)).mp h
    refine ⟨rfl, ⟨d, rfl, (List.mem_filter.mp (show d ∈ _ from l.1)).2⟩, fun p hp _ c => ?_⟩
    rw [List.length_eq_zero_iff.mp hp]
    exact Nat.le_refl _
  | k + 1, d, vd, ⟨j, hj⟩, h => by
    have l := (distance_iff b (ends_vd b v)).mp h
    -- the first roll of any row
    have first : ∀ p, p.length = k + 1 → Wins s d p → ∃ w p' m, p = w :: p' ∧ p'.length = k ∧ rolled s d w = some m ∧ Wins s m p' ∧ distance (ends s) m = some k := by
      rintro p hp ⟨e, h1, h2⟩
      cases p with
      | nil => cases hp
      | cons w p =>
        obtain ⟨m, h3, h4⟩ := run_cons_inv h1
        have hp : p.length = k := by simpa using hp
        refine ⟨w, p, m, rfl, hp, h3, ⟨e, h4, h2⟩, (distance_iff b (ends_vd b v)).mpr ⟨?_, fun i hi z => ?_⟩⟩
        · exact (bn_ends b v (rolled_vd b vd h3) ⟨j + 1, d, hj, w, h3⟩).mpr ⟨p, hp, e, h4, h2⟩
        · exact l.2 (i + 1) (by omega) ⟨m, z, Edge.symm b vd ⟨w, h3⟩⟩
    obtain ⟨p0, hp0, w0⟩ := (bn_ends b v vd ⟨j, hj⟩).mp l.1
    obtain ⟨w1, p1, m1, e1, l1, r1, q1, d1⟩ := first p0 hp0 w0
    have test : ∀ w m, rolled s d w = some m → (((rolled s d w).any fun (e : Die) => distance (ends s) e == some k) = true ↔ distance (ends s) m = some k) := fun w m hm => by
      rw [hm]
      simp
    cases hf : (List.range 4).find? fun (w : Nat) => (rolled s d w).any fun (e : Die) => distance (ends s) e == some k with
    | none =>
      rw [List.find?_eq_none] at hf
      exact absurd ((test w1 m1 r1).mpr d1) (hf w1 (List.mem_range.mpr (rolled_lt r1)))
    | some w =>
      obtain ⟨pw, _, least⟩ := List.find?_range_eq_some.mp hf
      cases hm : rolled s d w with
      | none => rw [hm] at pw; simp at pw
      | some m =>
        have dm := (test w m hm).mp pw
        have eP : Sy74.plan s (ends s) (k + 1) d = w :: Sy74.plan s (ends s) k m := by
          show (match (List.range 4).find? fun (w : Nat) => (rolled s d w).any fun (e : Die) => distance (ends s) e == some k with | none => [] | some w => w :: Sy74.plan s (ends s) k ((rolled s d w).getD d)) = _
          rw [hf]
          dsimp only
          rw [hm]
          rfl
        obtain ⟨i1, i2, i3⟩ := plan_spec k m (rolled_vd b vd hm) ⟨j + 1, d, hj, w, hm⟩ dm
        rw [eP]
        obtain ⟨e, i4, i5⟩ := i2
        refine ⟨by simp [i1], ⟨e, run_cons hm i4, i5⟩, fun p hp wp c => ?_⟩
        obtain ⟨w2, p2, m2, e2, l2, r2, q2, d2⟩ := first p hp wp
        subst e2
        show key (4 * c + w) _ ≤ key (4 * c + w2) p2
        rcases Nat.lt_trichotomy w w2 with hlt | heq | hgt
        · exact Nat.le_of_lt (key_lt (by omega) (by omega) (run_lt i4))
        · subst heq
          rw [hm] at r2
          cases r2
          exact i3 p2 l2 q2 _
        · have := least w2 hgt
          rw [(test w2 m2 r2).mpr d2] at this
          cases this
/-- the plan is first of all rows of rolls -/
theorem plan_first {k : Nat} (h : distance (ends s) s.die = some k) : Wins s s.die (Sy74.plan s (ends s) k s.die) ∧ (Sy74.plan s (ends s) k s.die).length = k ∧ ∀ p, Wins s s.die p → key 1 (Sy74.plan s (ends s) k s.die) ≤ key 1 p := by
  have hr : ∃ j, Bn s [s.die] j s.die := ⟨0, List.mem_singleton.mpr rfl⟩
  obtain ⟨i1, i2, i3⟩ := plan_spec b v k s.die v hr h
  refine ⟨i2, i1, fun p hp => ?_⟩
  have l := (distance_iff b (ends_vd b v)).mp h
  obtain ⟨e, i4, i5⟩ := i2
  rcases Nat.lt_trichotomy p.length k with hl | hl | hl
  · exact absurd ((bn_ends b v v hr).mpr ⟨p, rfl, hp⟩) (l.2 _ hl)
  · exact i3 p hl hp 1
  · exact Nat.le_of_lt (key_len (by omega) (Nat.le_refl _) (by omega) (run_lt i4))
end
end Rc

/-! text Rc4 -/
namespace Rc
open Sy74

/-! ### the program's queue: ways to lie, each with the number of the one ahead and the roll -/
abbrev En := Die × Option (Nat × Nat)
def push (q : List En) (at_ w : Nat) (o : Option Die) : List En := match o with
  | none => q
  | some d => if (q.any fun x => decide (x.1 = d)) = true then q else q ++ [(d, some (at_, w))]
/-- k ways gone through at one -/
def row (s : St) (q : List En) (at_ : Nat) (d : Die) : Nat → List En
  | 0 => q
  | k + 1 => push (row s q at_ d k) at_ k (rolled s d k)
def bfsN (s : St) (d : Die) : Nat → List En
  | 0 => [(d, none)]
  | n + 1 => match (bfsN s d n)[n]? with
    | none => bfsN s d n
    | some x => row s (bfsN s d n) n x.1 4
inductive Pt (q : List En) : Nat → List Nat → Prop
  | root {i : Nat} {d : Die} : q[i]? = some (d, none) → Pt q i []
  | step {i : Nat} {d : Die} {a w : Nat} {p : List Nat} : q[i]? = some (d, some (a, w)) → Pt q a p → Pt q i (p ++ [w])
theorem Pt.uniq {q : List En} {i : Nat} {p : List Nat} (h : Pt q i p) : ∀ {p' : List Nat}, Pt q i p' → p = p' := by
  induction h with
  | root h =>
    intro p' h'
    cases h' with
    | root h' => rfl
    | step h' _ => rw [h] at h'; cases h'
  | step h _ ih =>
    intro p' h'
    cases h' with
    | root h' => rw [h] at h'; cases h'
    | step h' t =>
      rw [h] at h'
      cases h'
      rw [ih t]
theorem get_append {α : Type} {q r : List α} {i : Nat} {x : α} (h : q[i]? = some x) : (q ++ r)[i]? = some x := by
  obtain ⟨h1, h2⟩ := List.getElem?_eq_some_iff.mp h
  rw [List.getElem?_append_left h1]
  exact h
theorem Pt.mono {q : List En} (r : List En) {i : Nat} {p : List Nat} (h : Pt q i p) : Pt (q ++ r) i p := by
  induction h with
  | root h => exact .root (get_append h)
  | step h _ ih => exact .step (get_append h) ih
/-- what holds when all ways of the first at_ are gone through, and of the next those below w -/
structure Bfs (s : St) (d0 : Die) (q : List En) (at_ w : Nat) : Prop where
  first : q[0]? = some (d0, none)
  le : at_ ≤ q.length
  path : ∀ (i : Nat) (x : En), q[i]? = some x → ∃ p, Pt q i p ∧ run s d0 p = some x.1
  back : ∀ (i : Nat) (d : Die) (a v : Nat), q[i]? = some (d, some (a, v)) → a < i
  nd : (q.map fun x => code x.1).Nodup
  inc : ∀ (i j : Nat) (p p' : List Nat), i < j → Pt q i p → Pt q j p' → key 1 p < key 1 p'
  top : ∀ (i : Nat) (p pa : List Nat), Pt q i p → Pt q at_ pa → key 1 p < 4 * key 1 pa + w
  clo : ∀ (a v : Nat) (x : En) (e : Die), q[a]? = some x → (a < at_ ∨ (a = at_ ∧ v < w)) → rolled s x.1 v = some e → ∃ (j : Nat) (y : En) (p pa : List Nat), q[j]? = some y ∧ y.1 = e ∧ Pt q j p ∧ Pt q a pa ∧ key 1 p ≤ 4 * key 1 pa + v
section
variable {s : St} {d0 : Die} {q : List En} {at_ w : Nat}
theorem Pt.get {i : Nat} {p : List Nat} (h : Pt q i p) : ∃ x, q[i]? = some x := by
  cases h with
  | root h => exact ⟨_, h⟩
  | step h _ => exact ⟨_, h⟩
theorem Pt.lt {i : Nat} {p : List Nat} (h : Pt q i p) : i < q.length := by
  obtain ⟨x, e⟩ := h.get
  exact (List.getElem?_eq_some_iff.mp e).1
theorem bfs_start {s : St} {d0 : Die} : Bfs s d0 [(d0, none)] 0 0 := by
  have z : ∀ {i : Nat} {x : En}, ([(d0, none)] : List En)[i]? = some x → i = 0 ∧ x = (d0, none) := fun {i x} h => by
    cases i with
    | zero => exact ⟨rfl, (Option.some.inj h).symm⟩
    | succ i => simp at h
  refine ⟨rfl, Nat.zero_le _, fun i x h => ?_, fun i d a v h => ?_, by simp, fun i j p p' hij h h' => ?_, fun i p pa h h' => ?_, fun a v x e h hl => by omega⟩
  · obtain ⟨rfl, rfl⟩ := z h
    exact ⟨[], .root rfl, rfl⟩
  · have := (z h).2
    cases this
  · obtain ⟨x, e⟩ := h.get
    obtain ⟨y, e'⟩ := h'.get
    have := (z e).1
    have := (z e').1
    omega
  · obtain ⟨x, e⟩ := h.get
    have := (z e).1
    subst this
    have e1 := h.uniq (Pt.root (q := [(d0, none)]) (i := 0) (d := d0) rfl)
    have e2 := h'.uniq (Pt.root (q := [(d0, none)]) (i := 0) (d := d0) rfl)
    subst e1 e2
    decide
theorem Bfs.vd (B : Bfs s d0 q at_ w) (b : Bd s) (v0 : Vd s d0) {i : Nat} {x : En} (h : q[i]? = some x) : Vd s x.1 := by
  obtain ⟨p, hp, r⟩ := B.path i x h
  clear h hp
  generalize x.1 = e at r
  induction p using snoc_ind generalizing e with
  | h0 =>
    have r : some d0 = some e := r
    cases r
    exact v0
  | hs p w ih =>
    obtain ⟨m, h1, h2⟩ := run_snoc_inv r
    exact rolled_vd b (ih m h1) h2
theorem Bfs.len (B : Bfs s d0 q at_ w) (b : Bd s) (v0 : Vd s d0) : q.length ≤ 900 := by
  have h := B.nd.length_le_of_subset (l₂ := List.range 900) fun c hc => by
    obtain ⟨y, hy, ey⟩ := List.mem_map.mp hc
    obtain ⟨i, hi⟩ := List.mem_iff_getElem?.mp hy
    rw [← ey, List.mem_range]
    exact code_lt b (B.vd b v0 hi)
  simpa using h
/-- one way -/
theorem Bfs.push (B : Bfs s d0 q at_ w) (b : Bd s) (v0 : Vd s d0) {x : En} (hx : q[at_]? = some x) (h4 : w < 4) : Bfs s d0 (push q at_ w (rolled s x.1 w)) at_ (w + 1) ∧ (push q at_ w (rolled s x.1 w))[at_]? = some x := by
  have old : ∀ (hq : ∀ e, rolled s x.1 w = some e → ∃ y ∈ q, y.1 = e), Bfs s d0 q at_ (w + 1) := fun hq => by
    refine ⟨B.first, B.le, B.path, B.back, B.nd, B.inc, fun i p pa h h' => by have := B.top i p pa h h'; omega, fun a v y e hy hl he => ?_⟩
    by_cases hn : a = at_ ∧ v = w
    · obtain ⟨rfl, rfl⟩ := hn
      rw [hx] at hy
      cases hy
      obtain ⟨z, hz, ez⟩ := hq e he
      obtain ⟨j, hj⟩ := List.mem_iff_getElem?.mp hz
      obtain ⟨p, hp, _⟩ := B.path j z hj
      obtain ⟨pa, hpa, _⟩ := B.path _ _ hx
      have := B.top j p pa hp hpa
      exact ⟨j, z, p, pa, hj, ez, hp, hpa, by omega⟩
    · exact B.clo a v y e hy (by omega) he
  unfold Rc.push
  cases hr : rolled s x.1 w with
  | none => exact ⟨old (fun e he => by rw [hr] at he; cases he), hx⟩
  | some d =>
    dsimp only
    by_cases hin : (q.any fun x => decide (x.1 = d)) = true
    · rw [if_pos hin]
      refine ⟨old fun e he => ?_, hx⟩
      rw [hr] at he
      cases he
      obtain ⟨y, hy, ey⟩ := List.any_eq_true.mp hin
      exact ⟨y, hy, of_decide_eq_true ey⟩
    · rw [if_neg hin]
      refine ⟨?_, get_append hx⟩
      have hat : at_ < q.length := (List.getElem?_eq_some_iff.mp hx).1
      have nin : ∀ y ∈ q, y.1 ≠ d := fun y hy e => hin (List.any_eq_true.mpr ⟨y, hy, decide_eq_true e⟩)
      have vx := B.vd b v0 hx
      have vdd := rolled_vd b vx hr
      have new : ∀ {i : Nat} {y : En}, (q ++ [(d, some (at_, w))])[i]? = some y → q[i]? = some y ∨ (i = q.length ∧ y = (d, some (at_, w))) := fun {i y} h => by
        by_cases hi : i < q.length
        · rw [List.getElem?_append_left hi] at h
          exact .inl h
        · rw [List.getElem?_append_right (by omega)] at h
          by_cases hz : i - q.length = 0
          · rw [hz] at h
            exact .inr ⟨by omega, (Option.some.inj h).symm⟩
          · rw [List.getElem?_eq_none (by simp; omega)] at h
            cases h
      obtain ⟨px, hpx, rx⟩ := B.path _ _ hx
      have ptn : Pt (q ++ [(d, some (at_, w))]) q.length (px ++ [w]) := .step (d := d) (by simp) (hpx.mono _)
      -- every path of the new queue is one of the old, or the new one
      have pts : ∀ {i : Nat} {p : List Nat}, Pt (q ++ [(d, some (at_, w))]) i p → (Pt q i p) ∨ (i = q.length ∧ p = px ++ [w]) := fun {i p} h => by
        obtain ⟨y, hy⟩ := h.get
        rcases new hy with h' | ⟨rfl, rfl⟩
        · obtain ⟨p0, hp0, _⟩ := B.path _ _ h'
          rw [h.uniq (hp0.mono _)]
          exact .inl hp0
        · exact .inr ⟨rfl, h.uniq ptn⟩
      refine ⟨get_append B.first, by rw [List.length_append]; have := B.le; omega, fun i y h => ?_, fun i e a u h => ?_, ?_, fun i j p p' hij h h' => ?_, fun i p pa h h' => ?_, fun a u y e hy hl he => ?_⟩
      · rcases new h with h' | ⟨rfl, rfl⟩
        · obtain ⟨p, hp, r⟩ := B.path _ _ h'
          exact ⟨p, hp.mono _, r⟩
        · exact ⟨px ++ [w], ptn, run_snoc rx hr⟩
      · rcases new h with h' | ⟨rfl, e'⟩
        · exact B.back _ _ _ _ h'
        · cases e'
          exact hat
      · rw [List.map_append, List.map_cons, List.map_nil, List.nodup_append]
        refine ⟨B.nd, by simp, fun c hc c' hc' => ?_⟩
        obtain ⟨y, hy, ey⟩ := List.mem_map.mp hc
        rw [List.mem_singleton] at hc'
        subst hc'
        obtain ⟨j, hj⟩ := List.mem_iff_getElem?.mp hy
        intro z
        exact nin y hy (code_inj (B.vd b v0 hj).ok vdd.ok (ey.trans z))
      · rcases pts h with h1 | ⟨rfl, rfl⟩
        · rcases pts h' with h2 | ⟨rfl, rfl⟩
          · exact B.inc i j p p' hij h1 h2
          · rw [key_snoc]
            exact B.top i p px h1 hpx
        · have := h'.lt
          rw [List.length_append] at this
          simp at this
          omega
      · have e2 := h'.uniq (hpx.mono _)
        subst e2
        rcases pts h with h1 | ⟨rfl, rfl⟩
        · have := B.top i p pa h1 hpx
          omega
        · rw [key_snoc]
          omega
      · by_cases hn : a = at_ ∧ u = w
        · obtain ⟨rfl, rfl⟩ := hn
          rw [get_append hx] at hy
          cases hy
          rw [hr] at he
          cases he
          exact ⟨q.length, (d, some (a, u)), _, px, by simp, rfl, ptn, hpx.mono _, by rw [key_snoc]; exact Nat.le_refl _⟩
        · rcases new hy with h' | ⟨rfl, rfl⟩
          · obtain ⟨j, y', p, pa, j1, j2, j3, j4, j5⟩ := B.clo a u y e h' (by omega) he
            exact ⟨j, y', p, pa, get_append j1, j2, j3.mono _, j4.mono _, j5⟩
          · omega
theorem Bfs.row (B : Bfs s d0 q at_ 0) (b : Bd s) (v0 : Vd s d0) {x : En} (hx : q[at_]? = some x) : ∀ k, k ≤ 4 → Bfs s d0 (row s q at_ x.1 k) at_ k ∧ (row s q at_ x.1 k)[at_]? = some x
  | 0, _ => ⟨B, hx⟩
  | k + 1, h => by
    obtain ⟨B', hx'⟩ := Bfs.row B b v0 hx k (by omega)
    exact B'.push b v0 hx' (by omega)
theorem Bfs.next (B : Bfs s d0 q at_ 4) (h : at_ < q.length) : Bfs s d0 q (at_ + 1) 0 := by
  refine ⟨B.first, h, B.path, B.back, B.nd, B.inc, fun i p pa h1 h2 => ?_, fun a v x e hx hl he => ?_⟩
  · obtain ⟨p0, hp0, _⟩ := B.path at_ _ (List.getElem?_eq_getElem h)
    have a1 := B.top i p p0 h1 hp0
    have a2 := B.inc at_ (at_ + 1) p0 pa (by omega) hp0 h2
    omega
  · exact B.clo a v x e hx (by have := rolled_lt he; omega) he
theorem bfsN_spec (b : Bd s) (v0 : Vd s d0) : ∀ n, (n ≤ (bfsN s d0 n).length → Bfs s d0 (bfsN s d0 n) n 0)
  | 0, _ => bfs_start
  | n + 1, h => by
    have st : bfsN s d0 (n + 1) = (match (bfsN s d0 n)[n]? with | none => bfsN s d0 n | some x => Rc.row s (bfsN s d0 n) n x.1 4) := rfl
    rw [st] at h ⊢
    cases hx : (bfsN s d0 n)[n]? with
    | none =>
      rw [hx] at h
      have := List.getElem?_eq_none_iff.mp hx
      dsimp only at h
      omega
    | some x =>
      have hn := (List.getElem?_eq_some_iff.mp hx).1
      obtain ⟨B, hx'⟩ := (bfsN_spec b v0 n (Nat.le_of_lt hn)).row b v0 hx 4 (Nat.le_refl _)
      exact B.next (List.getElem?_eq_some_iff.mp hx').1
/-- all gone through -/
structure Full (s : St) (d0 : Die) (q : List En) : Prop where
  bfs : Bfs s d0 q q.length 0
theorem Full.all (F : Full s d0 q) (p : List Nat) : ∀ e, run s d0 p = some e → ∃ (j : Nat) (y : En) (pj : List Nat), q[j]? = some y ∧ y.1 = e ∧ Pt q j pj ∧ key 1 pj ≤ key 1 p := by
  induction p using snoc_ind with
  | h0 =>
    intro e r
    have r : some d0 = some e := r
    cases r
    exact ⟨0, _, [], F.bfs.first, rfl, .root F.bfs.first, Nat.le_refl _⟩
  | hs p w ih =>
    intro e r
    obtain ⟨m, h1, h2⟩ := run_snoc_inv r
    obtain ⟨j, y, pj, j1, j2, j3, j4⟩ := ih m h1
    subst j2
    obtain ⟨i, z, pi, pa, i1, i2, i3, i4, i5⟩ := F.bfs.clo j w y e j1 (.inl (List.getElem?_eq_some_iff.mp j1).1) h2
    refine ⟨i, z, pi, i1, i2, i3, ?_⟩
    rw [i4.uniq j3] at i5
    rw [key_snoc]
    omega
end
section
variable {s : St} {q : List En} (b : Bd s) (v : Vd s s.die) (F : Full s s.die q)
include b v F
theorem Full.mem {e : Die} : e ∈ q.map (·.1) ↔ e ∈ reach s := by
  rw [(reach_spec b v).1 e]
  constructor
  · intro h
    obtain ⟨x, hx, ex⟩ := List.mem_map.mp h
    obtain ⟨i, hi⟩ := List.mem_iff_getElem?.mp hx
    obtain ⟨p, _, r⟩ := F.bfs.path i x hi
    exact ⟨p.length, bn_run.mpr ⟨p, rfl, by rw [r, ex]⟩⟩
  · rintro ⟨k, h⟩
    obtain ⟨p, _, r⟩ := bn_run.mp h
    obtain ⟨j, y, pj, j1, j2, _⟩ := F.all p e r
    exact List.mem_map.mpr ⟨y, List.mem_iff_getElem?.mpr ⟨j, j1⟩, j2⟩
theorem Full.length : q.length = (reach s).length := by
  have n1 : (q.map (·.1)).Nodup := by
    have := F.bfs.nd
    unfold List.Nodup at this ⊢
    rw [List.pairwise_map] at this ⊢
    exact this.imp fun h e => h (by rw [e])
  have n2 : (reach s).Nodup := by
    have := (reach_spec b v).2
    unfold List.Nodup at this ⊢
    rw [List.pairwise_map] at this
    exact this.imp fun h e => h (by rw [e])
  have := ((List.perm_ext_iff_of_nodup n1 n2).mpr fun e => F.mem b v).length_eq
  simpa using this
/-- the first that's where it's wanted tells a plan -/
theorem Full.plan {i : Nat} {x : En} {p : List Nat} (hx : q[i]? = some x) (hd : done s x.1 = true) (hf : ∀ (j : Nat) (y : En), j < i → q[j]? = some y → done s y.1 = false) (hp : Pt q i p) :
    distance (ends s) s.die = some p.length ∧ Sy74.plan s (ends s) p.length s.die = p := by
  obtain ⟨p', hp', r⟩ := F.bfs.path i x hx
  have e := hp'.uniq hp
  subst e
  have w : Wins s s.die p' := ⟨x.1, r, hd⟩
  have hr : ∃ j, Bn s [s.die] j s.die := ⟨0, List.mem_singleton.mpr rfl⟩
  obtain ⟨k, hk, l⟩ := ((bn_ends b v v hr).mpr ⟨p', rfl, w⟩).lev
  have hd := (distance_iff b (ends_vd b v)).mpr l
  obtain ⟨⟨e, r2, d2⟩, e2, m⟩ := plan_first b v hd
  have le1 := m p' w
  have le2 : key 1 p' ≤ key 1 (Sy74.plan s (ends s) k s.die) := by
    obtain ⟨j, y, pj, j1, j2, j3, j4⟩ := F.all _ e r2
    by_cases hji : j < i
    · have := hf j y hji j1
      rw [j2, d2] at this
      cases this
    · by_cases hij : i = j
      · subst hij
        rw [j3.uniq hp] at j4
        exact j4
      · have := F.bfs.inc i j p' pj (by omega) hp j3
        omega
  have ep : Sy74.plan s (ends s) k s.die = p' := key_inj (Nat.le_refl _) (run_lt r2) (run_lt r) (by omega)
  have ek : p'.length = k := by rw [← ep]; exact e2
  subst ek
  exact ⟨hd, ep⟩
theorem Full.noplan (hf : ∀ (j : Nat) (y : En), q[j]? = some y → done s y.1 = false) : distance (ends s) s.die = none := by
  rw [show ends s = from_ s ((reach s).filter (done s)) from rfl, distance_none b (ends_vd b v)]
  intro k l
  have hr : ∃ j, Bn s [s.die] j s.die := ⟨0, List.mem_singleton.mpr rfl⟩
  obtain ⟨p, _, e, r, d⟩ := (bn_ends b v v hr).mp l.1
  obtain ⟨j, y, pj, j1, j2, _⟩ := F.all p e r
  have := hf j y j1
  rw [j2, d] at this
  cases this
end
/-! ### what can be on top -/
theorem insert_mem {n x : Nat} : ∀ {l : List Nat}, x ∈ Sy74.insert n l ↔ x = n ∨ x ∈ l
  | [] => by simp [Sy74.insert]
  | m :: l => by
    unfold Sy74.insert
    split
    · simp
    · split
      · rename_i h; subst h
        simp
      · simp only [List.mem_cons, insert_mem (l := l)]
        constructor
        · rintro (h | h | h)
          · exact .inr (.inl h)
          · exact .inl h
          · exact .inr (.inr h)
        · rintro (h | h | h)
          · exact .inr (.inl h)
          · exact .inl h
          · exact .inr (.inr h)
theorem insert_sorted {n : Nat} : ∀ {l : List Nat}, l.Pairwise (· < ·) → (Sy74.insert n l).Pairwise (· < ·)
  | [], _ => by simp [Sy74.insert]
  | m :: l, h => by
    obtain ⟨h1, h2⟩ := List.pairwise_cons.mp h
    unfold Sy74.insert
    split
    · rename_i hlt
      refine List.pairwise_cons.mpr ⟨fun x hx => ?_, h⟩
      rcases List.mem_cons.mp hx with e | hx
      · omega
      · have := h1 x hx; omega
    · split
      · exact h
      · refine List.pairwise_cons.mpr ⟨fun x hx => ?_, insert_sorted h2⟩
        rcases insert_mem.mp hx with e | hx
        · omega
        · exact h1 x hx
theorem sorted_uniq : ∀ {l l' : List Nat}, l.Pairwise (· < ·) → l'.Pairwise (· < ·) → (∀ x, x ∈ l ↔ x ∈ l') → l = l'
  | [], [], _, _, _ => rfl
  | [], y :: l', _, _, h => by have := (h y).mpr List.mem_cons_self; cases this
  | x :: l, [], _, _, h => by have := (h x).mp List.mem_cons_self; cases this
  | x :: l, y :: l', h1, h2, h => by
    obtain ⟨a1, a2⟩ := List.pairwise_cons.mp h1
    obtain ⟨b1, b2⟩ := List.pairwise_cons.mp h2
    have e : x = y := by
      rcases List.mem_cons.mp ((h x).mp List.mem_cons_self) with e | hx
      · exact e
      · rcases List.mem_cons.mp ((h y).mpr List.mem_cons_self) with e | hy
        · exact e.symm
        · have := b1 x hx
          have := a1 y hy
          omega
    subst e
    rw [sorted_uniq a2 b2 fun z => ?_]
    constructor
    · intro hz
      rcases List.mem_cons.mp ((h z).mp (List.mem_cons_of_mem _ hz)) with e | hz'
      · have := a1 z hz
        omega
      · exact hz'
    · intro hz
      rcases List.mem_cons.mp ((h z).mpr (List.mem_cons_of_mem _ hz)) with e | hz'
      · have := b1 z hz
        omega
      · exact hz'
theorem foldl_insert : ∀ (l : List Die) (m : List Nat), m.Pairwise (· < ·) → (l.foldl (fun (m : List Nat) (d : Die) => Sy74.insert d.top m) m).Pairwise (· < ·) ∧ ∀ x, x ∈ l.foldl (fun (m : List Nat) (d : Die) => Sy74.insert d.top m) m ↔ x ∈ m ∨ ∃ d ∈ l, d.top = x
  | [], m, h => ⟨h, fun x => by simp⟩
  | d :: l, m, h => by
    obtain ⟨i1, i2⟩ := foldl_insert l (Sy74.insert d.top m) (insert_sorted h)
    refine ⟨i1, fun x => ?_⟩
    show x ∈ l.foldl _ (Sy74.insert d.top m) ↔ _
    rw [i2 x, insert_mem]
    constructor
    · rintro ((e | h) | ⟨d', h1, h2⟩)
      · exact .inr ⟨d, List.mem_cons_self, e.symm⟩
      · exact .inl h
      · exact .inr ⟨d', List.mem_cons_of_mem _ h1, h2⟩
    · rintro (h | ⟨d', h1, h2⟩)
      · exact .inl (.inr h)
      · rcases List.mem_cons.mp h1 with e | h1
        · subst e; exact .inl (.inl h2.symm)
        · exact .inr ⟨d', h1, h2⟩
/-- the numbers on top on a cell -/
theorem Full.tops {s : St} {q : List En} (b : Bd s) (v : Vd s s.die) (F : Full s s.die q) {x : Nat} {l : List Nat} (hs : l.Pairwise (· < ·)) (hm : ∀ t, t ∈ l ↔ ∃ d ∈ q.map (·.1), d.cell = x ∧ d.top = t) : l = Sy74.tops s x := by
  obtain ⟨i1, i2⟩ := foldl_insert ((reach s).filter fun (d : Die) => d.cell == x) [] (by simp)
  refine sorted_uniq hs i1 fun t => ?_
  rw [hm t]
  unfold Sy74.tops
  rw [i2 t]
  constructor
  · rintro ⟨d, h1, h2, h3⟩
    exact .inr ⟨d, List.mem_filter.mpr ⟨(F.mem b v).mp h1, by simp [h2]⟩, h3⟩
  · rintro (h | ⟨d, h1, h2⟩)
    · cases h
    · obtain ⟨h3, h4⟩ := List.mem_filter.mp h1
      exact ⟨d, (F.mem b v).mpr h3, by simpa using h4, h2⟩
end Rc

/-! text Rc5 -/
namespace Rc
open Sy74

/-! ### what rolls cost -/
/-- by rolls that cost so much it comes there -/
inductive Cs (s : St) (d0 : Die) : Nat → Die → Prop
  | nil : Cs s d0 0 d0
  | roll {c : Nat} {e f : Die} : Cs s d0 c e → Edge s e f → Cs s d0 (c + f.top) f
/-- .. and by none that cost less -/
def MinC (s : St) (d0 : Die) (c : Nat) (e : Die) : Prop := Cs s d0 c e ∧ ∀ k < c, ¬ Cs s d0 k e
section
variable {s : St} {d0 : Die} (b : Bd s) (v : Vd s d0)
include b v
theorem Cs.vd {c : Nat} {e : Die} (h : Cs s d0 c e) : Vd s e := by
  induction h with
  | nil => exact v
  | roll _ h ih => exact h.vd b ih
omit b v in
theorem Cs.min : ∀ {c : Nat} {e : Die}, Cs s d0 c e → ∃ k, k ≤ c ∧ MinC s d0 k e := by
  intro c
  induction c using Nat.strongRecOn with
  | _ c ih =>
    intro e h
    by_cases q : ∃ k, k < c ∧ Cs s d0 k e
    · obtain ⟨k, hk, h'⟩ := q
      obtain ⟨j, hj, l⟩ := ih k hk h'
      exact ⟨j, by omega, l⟩
    · exact ⟨c, Nat.le_refl _, h, fun k hk z => q ⟨k, hk, z⟩⟩
omit b v in
theorem MinC.uniq {n k : Nat} {e : Die} (a : MinC s d0 n e) (c : MinC s d0 k e) : n = k := by
  rcases Nat.lt_trichotomy n k with h | h | h
  · exact absurd a.1 (c.2 n h)
  · exact h
  · exact absurd c.1 (a.2 k h)
theorem MinC.top {n : Nat} {e : Die} (a : MinC s d0 n e) : 1 ≤ e.top ∧ e.top ≤ 6 := (a.1.vd b v).ok.range.1
omit b v in
theorem MinC.pred {c : Nat} {e : Die} (a : MinC s d0 c e) : (c = 0 ∧ e = d0) ∨ ∃ m, e.top ≤ c ∧ MinC s d0 (c - e.top) m ∧ Edge s m e := by
  obtain ⟨h, l⟩ := a
  cases h with
  | nil => exact .inl ⟨rfl, rfl⟩
  | @roll c1 m _ h1 h2 =>
    refine .inr ⟨m, by omega, ?_, h2⟩
    rw [Nat.add_sub_cancel]
    exact ⟨h1, fun k hk z => l (k + e.top) (by omega) (.roll z h2)⟩
theorem MinC.zero {e : Die} (a : MinC s d0 0 e) : e = d0 := by
  rcases a.pred with ⟨_, h⟩ | ⟨m, h, _, _⟩
  · exact h
  · have := a.top b v
    omega
theorem MinC.chain : ∀ {c : Nat} {e : Die}, MinC s d0 c e → ∃ l : List Die, c + 6 ≤ 6 * l.length ∧ (l.map code).Nodup ∧ ∀ x ∈ l, ∃ j, j ≤ c ∧ MinC s d0 j x := by
  intro c
  induction c using Nat.strongRecOn with
  | _ c ih =>
    intro e a
    rcases a.pred with ⟨rfl, rfl⟩ | ⟨m, h1, h2, h3⟩
    · exact ⟨[e], by simp, by simp, fun x hx => ⟨0, Nat.le_refl _, by rw [List.mem_singleton.mp hx]; exact a⟩⟩
    · have tp := a.top b v
      obtain ⟨l, i1, i2, i3⟩ := ih (c - e.top) (by omega) h2
      refine ⟨e :: l, by rw [List.length_cons]; omega, ?_, fun x hx => ?_⟩
      · show (code e :: _).Nodup
        rw [List.nodup_cons]
        refine ⟨fun z => ?_, i2⟩
        obtain ⟨y, hy, ey⟩ := List.mem_map.mp z
        obtain ⟨j, hj, ly⟩ := i3 y hy
        have : y = e := code_inj (ly.1.vd b v).ok (a.1.vd b v).ok ey
        subst this
        have := a.uniq ly
        omega
      · rcases List.mem_cons.mp hx with h | h
        · subst h; exact ⟨c, Nat.le_refl _, a⟩
        · obtain ⟨j, hj, q⟩ := i3 x h
          exact ⟨j, by omega, q⟩
theorem MinC.bound {c : Nat} {e : Die} (a : MinC s d0 c e) : c < 5400 := by
  obtain ⟨l, h1, h2, h3⟩ := a.chain b v
  have := codes_le b h2 fun x hx => let ⟨_, _, q⟩ := h3 x hx; q.1.vd b v
  omega
/-- one of the last six is met on the way -/
theorem MinC.last {m : Nat} (hm : 1 ≤ m) : ∀ {j : Nat} {e : Die}, m ≤ j → MinC s d0 j e → ∃ i f, i < m ∧ m ≤ i + 6 ∧ MinC s d0 i f := by
  intro j
  induction j using Nat.strongRecOn with
  | _ j ih =>
    intro e h a
    have tp := a.top b v
    rcases a.pred with ⟨rfl, rfl⟩ | ⟨f, h1, h2, h3⟩
    · omega
    · by_cases q : m ≤ j - e.top
      · exact ih (j - e.top) (by omega) q h2
      · exact ⟨j - e.top, f, by omega, by omega, h2⟩
/-- the levels so far, the last first -/
def Lv (s : St) (d0 : Die) (l : List (List Die)) : Prop := ∀ k, k < l.length → ∃ lv, l[k]? = some lv ∧ ∀ e, e ∈ lv ↔ MinC s d0 (l.length - 1 - k) e
theorem sums_spec : ∀ (f : Nat) (l : List (List Die)) (seen : Nat), 1 ≤ l.length → Lv s d0 l → (∀ c, seen.testBit c = true ↔ ∃ j, j < l.length ∧ ∃ e, MinC s d0 j e ∧ code e = c) →
    Lv s d0 (sums s f l seen) ∧ ∀ j e, j < l.length + f → MinC s d0 j e → j < (sums s f l seen).length
  | 0, l, seen, h1, hl, hs => ⟨hl, fun j e hj _ => hj⟩
  | f + 1, l, seen, h1, hl, hs => by
    have eq : sums s (f + 1) l seen = if (l.take 6).all (fun (x : List Die) => x.isEmpty) = true then l else
      sums s f ((fresh ((List.range 6).flatMap fun (k : Nat) => ((l.getD k []).flatMap (nexts s)).filter fun (d : Die) => d.top == k + 1) seen).1 :: l) (fresh ((List.range 6).flatMap fun (k : Nat) => ((l.getD k []).flatMap (nexts s)).filter fun (d : Die) => d.top == k + 1) seen).2 := rfl
    rw [eq]
    by_cases hz : (l.take 6).all (fun (x : List Die) => x.isEmpty) = true
    · rw [if_pos hz]
      refine ⟨hl, fun j e _ a => ?_⟩
      by_cases hj : j < l.length
      · exact hj
      · obtain ⟨i, g, i1, i2, i3⟩ := a.last b v h1 (by omega)
        obtain ⟨lv, e1, e2⟩ := hl (l.length - 1 - i) (by omega)
        have hg : g ∈ lv := (e2 g).mpr (by rwa [show l.length - 1 - (l.length - 1 - i) = i by omega])
        have : lv ∈ l.take 6 := List.mem_iff_getElem?.mpr ⟨l.length - 1 - i, by rw [List.getElem?_take_of_lt (by omega)]; exact e1⟩
        have := List.all_eq_true.mp hz lv this
        rw [List.isEmpty_iff.mp this] at hg
        cases hg
    · rw [if_neg hz]
      have F := fresh_spec ((List.range 6).flatMap fun (k : Nat) => ((l.getD k []).flatMap (nexts s)).filter fun (d : Die) => d.top == k + 1) seen
      have mem : ∀ e, (e ∈ (List.range 6).flatMap fun (k : Nat) => ((l.getD k []).flatMap (nexts s)).filter fun (d : Die) => d.top == k + 1) ↔ (∃ m, e.top ≤ l.length ∧ MinC s d0 (l.length - e.top) m ∧ Edge s m e) := fun e => by
        rw [List.mem_flatMap]
        constructor
        · rintro ⟨k, hk, h⟩
          obtain ⟨h2, h3⟩ := List.mem_filter.mp h
          obtain ⟨m, h4, h5⟩ := List.mem_flatMap.mp h2
          have h3 : e.top = k + 1 := by simpa using h3
          rw [List.getD_eq_getElem?_getD] at h4
          by_cases hkl : k < l.length
          · obtain ⟨lv, e1, e2⟩ := hl k hkl
            rw [e1] at h4
            refine ⟨m, by omega, ?_, mem_nexts.mp h5⟩
            have := (e2 m).mp h4
            rwa [show l.length - 1 - k = l.length - e.top by omega] at this
          · rw [List.getElem?_eq_none (by omega)] at h4
            cases h4
        · rintro ⟨m, h2, h3, h4⟩
          have vm := h3.1.vd b v
          have tp := (h4.vd b vm).ok.range.1
          refine ⟨e.top - 1, List.mem_range.mpr (by omega), List.mem_filter.mpr ⟨List.mem_flatMap.mpr ⟨m, ?_, mem_nexts.mpr h4⟩, by simp; omega⟩⟩
          rw [List.getD_eq_getElem?_getD]
          obtain ⟨lv, e1, e2⟩ := hl (e.top - 1) (by omega)
          rw [e1]
          exact (e2 m).mpr (by rwa [show l.length - 1 - (e.top - 1) = l.length - e.top by omega])
      generalize fresh ((List.range 6).flatMap fun (k : Nat) => ((l.getD k []).flatMap (nexts s)).filter fun (d : Die) => d.top == k + 1) seen = r at F
      generalize ((List.range 6).flatMap fun (k : Nat) => ((l.getD k []).flatMap (nexts s)).filter fun (d : Die) => d.top == k + 1) = cand at F mem
      have n1 : ∀ e, e ∈ r.1 ↔ MinC s d0 l.length e := fun e => by
        constructor
        · intro h
          obtain ⟨q, ns⟩ := F.sub e h
          obtain ⟨m, q1, q2, q3⟩ := (mem e).mp q
          have c := Cs.roll q2.1 q3
          rw [Nat.sub_add_cancel q1] at c
          refine ⟨c, fun k hk z => ?_⟩
          obtain ⟨j, hj, lj⟩ := z.min
          have := (hs (code e)).mpr ⟨j, by omega, e, lj, rfl⟩
          rw [this] at ns; cases ns
        · intro a
          rcases a.pred with ⟨z, _⟩ | ⟨m, h2, h3, h4⟩
          · omega
          · have ns : seen.testBit (code e) = false := by
              cases z : seen.testBit (code e) with
              | false => rfl
              | true =>
                obtain ⟨k, hk, e', l', ec⟩ := (hs _).mp z
                have : e' = e := code_inj (l'.1.vd b v).ok (a.1.vd b v).ok ec
                subst this
                have := a.uniq l'
                omega
            obtain ⟨y, hy, ey⟩ := F.all e ((mem e).mpr ⟨m, h2, h3, h4⟩) ns
            obtain ⟨m', _, lm', em'⟩ := (mem y).mp (F.sub y hy).1
            have : y = e := code_inj (em'.vd b (lm'.1.vd b v)).ok (a.1.vd b v).ok ey
            rw [← this]; exact hy
      have S := sums_spec f (r.1 :: l) r.2 (by simp) (fun k hk => by
          cases k with
          | zero => exact ⟨r.1, rfl, by simpa using n1⟩
          | succ k =>
            obtain ⟨lv, e1, e2⟩ := hl k (by rw [List.length_cons] at hk; omega)
            refine ⟨lv, e1, fun e => ?_⟩
            rw [e2 e, List.length_cons, show l.length + 1 - 1 - (k + 1) = l.length - 1 - k by omega]) fun c => by
          rw [F.bit c, hs c, List.length_cons]
          constructor
          · rintro (⟨k, hk, q⟩ | ⟨y, hy, q⟩)
            · exact ⟨k, by omega, q⟩
            · exact ⟨l.length, by omega, y, (n1 y).mp hy, q⟩
          · rintro ⟨k, hk, e, q, ec⟩
            by_cases hk' : k < l.length
            · exact .inl ⟨k, hk', e, q, ec⟩
            · have : k = l.length := by omega
              subst this
              exact .inr ⟨e, (n1 e).mpr q, ec⟩
      refine ⟨S.1, fun j e hj a => S.2 j e (by rw [List.length_cons]; omega) a⟩
end
theorem bySum_spec {s : St} (b : Bd s) (v : Vd s s.die) : (∀ j lv, (bySum s)[j]? = some lv → ∀ e, e ∈ lv ↔ MinC s s.die j e) ∧ ∀ j e, MinC s s.die j e → ∃ lv, (bySum s)[j]? = some lv := by
  have m0 : MinC s s.die 0 s.die := ⟨.nil, fun k hk => by omega⟩
  have z : ∀ e, MinC s s.die 0 e ↔ e = s.die := fun e => ⟨fun a => a.zero b v, fun h => by subst h; exact m0⟩
  have tb : ∀ c, (2 ^ code s.die).testBit c = true ↔ c = code s.die := fun c => by
    have := testBit_add_pow (code s.die) 0 c (Nat.zero_testBit _)
    rw [Nat.zero_add, Nat.zero_testBit] at this
    rw [this]
    simp
  obtain ⟨A, B⟩ := sums_spec b v 6000 [[s.die]] (2 ^ code s.die) (by simp) (fun k hk => by
      have : k = 0 := by simpa using hk
      subst this
      exact ⟨[s.die], rfl, fun e => by rw [List.mem_singleton]; exact (z e).symm⟩) fun c => by
      rw [tb c]
      constructor
      · intro h; subst h; exact ⟨0, by simp, s.die, m0, rfl⟩
      · rintro ⟨j, hj, e, a, ec⟩
        have : j = 0 := by simpa using hj
        subst this
        rw [← ec, (z e).mp a]
  unfold bySum
  generalize sums s 6000 [[s.die]] (2 ^ code s.die) = r at A B
  constructor
  · intro j lv h e
    have hj : j < r.length := by
      have := (List.getElem?_eq_some_iff.mp h).1
      simpa using this
    rw [List.getElem?_reverse hj] at h
    obtain ⟨lv', e1, e2⟩ := A (r.length - 1 - j) (by omega)
    rw [h] at e1
    cases e1
    rw [e2 e, show r.length - 1 - (r.length - 1 - j) = j by omega]
  · intro j e a
    have hj := B j e (by have := a.bound b v; simp only [List.length_singleton]; omega) a
    exact ⟨_, List.getElem?_eq_getElem (by simpa using hj)⟩
theorem least_some {s : St} (b : Bd s) (v : Vd s s.die) {k : Nat} {e : Die} (h : Cs s s.die k e) (hd : done s e = true) (hm : ∀ k' e', Cs s s.die k' e' → done s e' = true → k ≤ k') : least s = some k := by
  obtain ⟨A, B⟩ := bySum_spec b v
  have a : MinC s s.die k e := ⟨h, fun j hj z => by have := hm j e z hd; omega⟩
  obtain ⟨lv, hl⟩ := B k e a
  unfold least
  rw [List.findIdx?_eq_some_iff_getElem]
  obtain ⟨h1, h2⟩ := List.getElem?_eq_some_iff.mp hl
  refine ⟨h1, ?_, fun j hj z => ?_⟩
  · rw [h2, List.any_eq_true]
    exact ⟨e, (A k lv hl e).mpr a, hd⟩
  · rw [List.any_eq_true] at z
    obtain ⟨e', he, hd'⟩ := z
    have := (A j _ (List.getElem?_eq_getElem (by omega)) e').mp he
    have := hm j e' this.1 hd'
    omega
theorem least_none {s : St} (b : Bd s) (v : Vd s s.die) (hm : ∀ k e, Cs s s.die k e → done s e = false) : least s = none := by
  obtain ⟨A, B⟩ := bySum_spec b v
  unfold least
  rw [List.findIdx?_eq_none_iff]
  intro lv hl
  rw [List.any_eq_false]
  intro e he
  obtain ⟨j, hj⟩ := List.mem_iff_getElem?.mp hl
  rw [hm j e ((A j lv hj e).mp he).1]
  exact Bool.false_ne_true
end Rc

/-! text Rc6 -/
namespace Rc
open Sy74

/-! ### the program's search by costs: ways to lie that wait, by cost; those settled -/
abbrev Wt := List (Nat × List Die)
def Has (W : Wt) (c : Nat) (d : Die) : Prop := ∃ l, (c, l) ∈ W ∧ d ∈ l
def openW (W : Wt) (c : Nat) : Wt := if (W.any fun x => decide (x.1 = c)) = true then W else W ++ [(c, [])]
def putW (W : Wt) (c : Nat) (d : Die) : Wt := W.map fun x => if x.1 = c then (x.1, x.2 ++ [d]) else x
def addW (W : Wt) (c : Nat) (d : Die) : Wt := putW (openW W c) c d
def dropW (W : Wt) (c : Nat) : Wt := W.filter fun x => !decide (x.1 = c)
def total (W : Wt) : Nat := (W.map fun x => x.2.length).sum
def mu (W : Wt) (S : List Die) : Nat := 5 * (900 - S.length) + total W
/-- k ways gone through -/
def settleW (s : St) (W : Wt) (S : List Die) (c : Nat) (d : Die) : Nat → Wt
  | 0 => W
  | k + 1 => match rolled s d k with
    | none => settleW s W S c d k
    | some f => if f ∈ S then settleW s W S c d k else addW (settleW s W S c d k) (c + f.top) f

theorem openW_has {W : Wt} {c : Nat} : ∃ l, (c, l) ∈ openW W c := by
  unfold openW
  split
  · rename_i h
    obtain ⟨x, hx, e⟩ := List.any_eq_true.mp h
    have e := of_decide_eq_true e
    subst e
    exact ⟨x.2, hx⟩
  · exact ⟨[], List.mem_append_right _ (List.mem_singleton.mpr rfl)⟩
theorem has_openW {W : Wt} {c c' : Nat} {d : Die} : Has (openW W c) c' d ↔ Has W c' d := by
  unfold openW
  split
  · exact Iff.rfl
  · constructor
    · rintro ⟨l, h, hd⟩
      rcases List.mem_append.mp h with h | h
      · exact ⟨l, h, hd⟩
      · rw [List.mem_singleton] at h
        cases h
        cases hd
    · rintro ⟨l, h, hd⟩
      exact ⟨l, List.mem_append_left _ h, hd⟩
theorem keys_openW {W : Wt} {c : Nat} (h : (W.map (·.1)).Nodup) : ((openW W c).map (·.1)).Nodup := by
  unfold openW
  split
  · exact h
  · rename_i hn
    rw [List.map_append, List.map_cons, List.map_nil, List.nodup_append]
    refine ⟨h, by simp, fun a ha a' ha' => ?_⟩
    rw [List.mem_singleton] at ha'
    subst ha'
    obtain ⟨x, hx, ex⟩ := List.mem_map.mp ha
    intro z
    exact hn (List.any_eq_true.mpr ⟨x, hx, decide_eq_true (ex.trans z)⟩)
theorem total_append (W V : Wt) : total (W ++ V) = total W + total V := by unfold total; rw [List.map_append, List.sum_append]
theorem total_openW (W : Wt) (c : Nat) : total (openW W c) = total W := by
  unfold openW
  split
  · rfl
  · rw [total_append]
    rfl
theorem keys_putW (W : Wt) (c : Nat) (d : Die) : (putW W c d).map (·.1) = W.map (·.1) := by
  unfold putW
  rw [List.map_map]
  refine List.map_congr_left fun x _ => ?_
  show (if x.1 = c then (x.1, x.2 ++ [d]) else x).1 = x.1
  split <;> rfl
theorem total_putW : ∀ (W : Wt) (c : Nat) (d : Die), (W.map (·.1)).Nodup → total (putW W c d) ≤ total W + 1
  | [], _, _, _ => by simp [putW, total]
  | x :: W, c, d, h => by
    rw [List.map_cons, List.nodup_cons] at h
    have ih := total_putW W c d h.2
    have t : ∀ (y : Nat × List Die) (V : Wt), total (y :: V) = y.2.length + total V := fun y V => by unfold total; rw [List.map_cons, List.sum_cons]
    have eq : putW (x :: W) c d = (if x.1 = c then (x.1, x.2 ++ [d]) else x) :: putW W c d := rfl
    rw [eq, t, t]
    by_cases hx : x.1 = c
    · rw [if_pos hx]
      have same : putW W c d = W := by
        unfold putW
        conv => rhs; rw [← List.map_id W]
        refine List.map_congr_left fun y hy => ?_
        rw [if_neg]
        · rfl
        · intro e
          exact h.1 (List.mem_map.mpr ⟨y, hy, e.trans hx.symm⟩)
      rw [same, List.length_append]
      simp
      omega
    · rw [if_neg hx]
      omega
theorem has_putW {W : Wt} {c c' : Nat} {d y : Die} (hc : ∃ l, (c, l) ∈ W) : Has (putW W c d) c' y ↔ Has W c' y ∨ (c' = c ∧ y = d) := by
  unfold putW
  constructor
  · rintro ⟨l, h, hy⟩
    obtain ⟨x, hx, e⟩ := List.mem_map.mp h
    by_cases hxc : x.1 = c
    · rw [if_pos hxc] at e
      cases e
      rcases List.mem_append.mp hy with hy | hy
      · exact .inl ⟨x.2, hx, hy⟩
      · exact .inr ⟨hxc, List.mem_singleton.mp hy⟩
    · rw [if_neg hxc] at e
      subst e
      exact .inl ⟨l, hx, hy⟩
  · rintro (⟨l, h, hy⟩ | ⟨rfl, rfl⟩)
    · by_cases hxc : c' = c
      · exact ⟨l ++ [d], List.mem_map.mpr ⟨(c', l), h, if_pos hxc⟩, List.mem_append_left _ hy⟩
      · exact ⟨l, List.mem_map.mpr ⟨(c', l), h, if_neg hxc⟩, hy⟩
    · obtain ⟨l, h⟩ := hc
      exact ⟨l ++ [y], List.mem_map.mpr ⟨(c', l), h, if_pos rfl⟩, List.mem_append_right _ (List.mem_singleton.mpr rfl)⟩
theorem ne_putW {W : Wt} {c : Nat} {d : Die} (h : ∀ x ∈ W, x.1 ≠ c → x.2 ≠ []) : ∀ x ∈ putW W c d, x.2 ≠ [] := fun x hx => by
  obtain ⟨y, hy, e⟩ := List.mem_map.mp hx
  by_cases hyc : y.1 = c
  · rw [if_pos hyc] at e
    subst e
    simp
  · rw [if_neg hyc] at e
    subst e
    exact h y hy hyc
theorem ne_openW {W : Wt} {c : Nat} (h : ∀ x ∈ W, x.2 ≠ []) : ∀ x ∈ openW W c, x.1 ≠ c → x.2 ≠ [] := fun x hx hn => by
  unfold openW at hx
  split at hx
  · exact h x hx
  · rcases List.mem_append.mp hx with hx | hx
    · exact h x hx
    · rw [List.mem_singleton] at hx
      subst hx
      exact absurd rfl hn
structure Wok (W : Wt) (m : Nat) : Prop where
  kn : (W.map (·.1)).Nodup
  ne : ∀ x ∈ W, x.2 ≠ []
  gt : ∀ x ∈ W, m < x.1
theorem mem_fst_addW {W : Wt} {c : Nat} {d : Die} {x : Nat × List Die} (h : x ∈ addW W c d) : x.1 = c ∨ ∃ y ∈ W, y.1 = x.1 := by
  have h : x.1 ∈ (addW W c d).map (·.1) := List.mem_map.mpr ⟨x, h, rfl⟩
  unfold addW at h
  rw [keys_putW] at h
  obtain ⟨y, hy, e⟩ := List.mem_map.mp h
  unfold openW at hy
  split at hy
  · exact .inr ⟨y, hy, e⟩
  · rcases List.mem_append.mp hy with hy | hy
    · exact .inr ⟨y, hy, e⟩
    · rw [List.mem_singleton] at hy
      subst hy
      exact .inl e.symm
theorem Wok.add {W : Wt} {m c : Nat} {d : Die} (h : Wok W m) (hc : m < c) : Wok (addW W c d) m := by
  refine ⟨?_, ne_putW (ne_openW h.ne), fun x hx => ?_⟩
  · unfold addW
    rw [keys_putW]
    exact keys_openW h.kn
  · rcases mem_fst_addW hx with e | ⟨y, hy, e⟩
    · omega
    · have := h.gt y hy
      omega
theorem has_addW {W : Wt} {c c' : Nat} {d y : Die} : Has (addW W c d) c' y ↔ Has W c' y ∨ (c' = c ∧ y = d) := by
  unfold addW
  rw [has_putW openW_has, has_openW]
theorem total_addW {W : Wt} {c : Nat} {d : Die} (h : (W.map (·.1)).Nodup) : total (addW W c d) ≤ total W + 1 := by
  unfold addW
  have := total_putW (openW W c) c d (keys_openW h)
  rw [total_openW] at this
  exact this
/-! ### a settled way's neighbours wait -/
structure Stl (s : St) (W0 : Wt) (S : List Die) (c : Nat) (d : Die) (k : Nat) (W : Wt) : Prop where
  ok : Wok W c
  old : ∀ c' y, Has W0 c' y → Has W c' y
  new : ∀ c' y, Has W c' y → Has W0 c' y ∨ (Edge s d y ∧ c' = c + y.top)
  clo : ∀ w f, w < k → rolled s d w = some f → f ∈ S ∨ Has W (c + f.top) f
  tot : total W ≤ total W0 + k
theorem settle_spec {s : St} (b : Bd s) {W0 : Wt} {S : List Die} {c : Nat} {d : Die} (vd : Vd s d) (h : Wok W0 c) : ∀ k, Stl s W0 S c d k (settleW s W0 S c d k)
  | 0 => ⟨h, fun _ _ q => q, fun _ _ q => .inl q, fun w f hw => by omega, Nat.le_refl _⟩
  | k + 1 => by
    have A := settle_spec b (S := S) vd h k
    have same : (∀ f, rolled s d k = some f → f ∈ S) → Stl s W0 S c d (k + 1) (settleW s W0 S c d k) := fun hk =>
      ⟨A.ok, A.old, A.new, fun w f hw hf => by
        by_cases e : w = k
        · subst e; exact .inl (hk f hf)
        · exact A.clo w f (by omega) hf, Nat.le_succ_of_le A.tot⟩
    unfold settleW
    cases hr : rolled s d k with
    | none => exact same fun f hf => by rw [hr] at hf; cases hf
    | some f =>
      dsimp only
      by_cases hf : f ∈ S
      · rw [if_pos hf]
        exact same fun g hg => by rw [hr] at hg; cases hg; exact hf
      · rw [if_neg hf]
        have tp := (rolled_vd b vd hr).ok.range.1
        refine ⟨A.ok.add (by omega), fun c' y q => has_addW.mpr (.inl (A.old c' y q)), fun c' y q => ?_, fun w g hw hg => ?_, ?_⟩
        · rcases has_addW.mp q with q | ⟨e1, e2⟩
          · exact A.new c' y q
          · subst e2
            exact .inr ⟨⟨k, hr⟩, e1⟩
        · by_cases e : w = k
          · subst e
            rw [hr] at hg
            cases hg
            exact .inr (has_addW.mpr (.inr ⟨rfl, rfl⟩))
          · rcases A.clo w g (by omega) hg with q | q
            · exact .inl q
            · exact .inr (has_addW.mpr (.inl q))
        · have := total_addW (c := c + f.top) (d := f) A.ok.kn
          have := A.tot
          omega
/-! ### the search's invariants -/
structure Mid (s : St) (d0 : Die) (W : Wt) (S : List Die) (c : Nat) (rest : List Die) : Prop where
  ok : Wok W c
  sound : ∀ c' d, Has W c' d → Cs s d0 c' d
  rs : ∀ d ∈ rest, Cs s d0 c d ∧ done s d = false
  sd : ∀ d ∈ S, done s d = false
  sn : (S.map code).Nodup
  clo : ∀ d ∈ S, ∃ cd, MinC s d0 cd d ∧ ∀ f, Edge s d f → f ∈ S ∨ (cd + f.top = c ∧ f ∈ rest) ∨ Has W (cd + f.top) f
  st : d0 ∈ S ∨ (c = 0 ∧ d0 ∈ rest) ∨ Has W 0 d0
  low : ∀ c' e, c' < c → MinC s d0 c' e → e ∈ S
structure Head (s : St) (d0 : Die) (W : Wt) (S : List Die) : Prop where
  kn : (W.map (·.1)).Nodup
  ne : ∀ x ∈ W, x.2 ≠ []
  sound : ∀ c' d, Has W c' d → Cs s d0 c' d
  sd : ∀ d ∈ S, done s d = false
  sn : (S.map code).Nodup
  clo : ∀ d ∈ S, ∃ cd, MinC s d0 cd d ∧ ∀ f, Edge s d f → f ∈ S ∨ Has W (cd + f.top) f
  st : d0 ∈ S ∨ Has W 0 d0
section
variable {s : St} {d0 : Die} {W : Wt} {S rest : List Die} {c : Nat}
theorem head_start (s : St) (d0 : Die) : Head s d0 [(0, [d0])] [] := by
  have z : ∀ {c' : Nat} {d : Die}, Has [(0, [d0])] c' d → c' = 0 ∧ d = d0 := fun {c' d} ⟨l, h, hd⟩ => by
    rw [List.mem_singleton] at h
    cases h
    exact ⟨rfl, List.mem_singleton.mp hd⟩
  refine ⟨by simp, fun x hx => ?_, fun c' d h => ?_, (fun d hd => by cases hd), by simp, (fun d hd => by cases hd), .inr ⟨[d0], List.mem_singleton.mpr rfl, List.mem_singleton.mpr rfl⟩⟩
  · rw [List.mem_singleton] at hx
    subst hx
    simp
  · obtain ⟨rfl, rfl⟩ := z h
    exact .nil
end
section
variable {s : St} {d0 : Die} {W : Wt} {S rest : List Die} {c : Nat} (b : Bd s) (v : Vd s d0)
include b v
theorem Head.low (h : Head s d0 W S) (hm : ∀ x ∈ W, c ≤ x.1) : ∀ k e, k < c → MinC s d0 k e → e ∈ S := by
  intro k
  induction k using Nat.strongRecOn with
  | _ k ih =>
    intro e hk a
    have tp := a.top b v
    rcases a.pred with ⟨rfl, rfl⟩ | ⟨m, h2, h3, h4⟩
    · rcases h.st with q | ⟨l, q, _⟩
      · exact q
      · have := hm _ q
        dsimp only at this
        omega
    · have ms := ih (k - e.top) (by omega) m (by omega) h3
      obtain ⟨cd, q1, q2⟩ := h.clo m ms
      have e1 := q1.uniq h3
      subst e1
      rcases q2 e h4 with q | ⟨l, q, _⟩
      · exact q
      · have := hm _ q
        dsimp only at this
        omega
omit v in
theorem Head.found (h : Head s s.die W S) (v : Vd s s.die) {l : List Die} {d : Die} (hl : (c, l) ∈ W) (hm : ∀ x ∈ W, c ≤ x.1) (hd : d ∈ l) (dd : done s d = true) : least s = some c := by
  refine least_some b v (h.sound c d ⟨l, hl, hd⟩) dd fun k e hk he => ?_
  obtain ⟨j, hj, a⟩ := hk.min
  by_cases q : j < c
  · have := h.sd e (h.low b v hm j e q a)
    rw [he] at this
    cases this
  · omega
omit v in
theorem Head.none (h : Head s s.die [] S) (v : Vd s s.die) : least s = none := by
  refine least_none b v fun k e hk => ?_
  obtain ⟨j, hj, a⟩ := hk.min
  exact h.sd e (h.low b v (c := j + 1) (fun x hx => nomatch hx) j e (Nat.lt_succ_self _) a)
theorem Head.mid (h : Head s d0 W S) {l : List Die} (hl : (c, l) ∈ W) (hm : ∀ x ∈ W, c ≤ x.1) (hn : ∀ d ∈ l, done s d = false) : Mid s d0 (dropW W c) S c l ∧ mu (dropW W c) S + 1 ≤ mu W S := by
  have sub : ∀ x, x ∈ dropW W c ↔ x ∈ W ∧ x.1 ≠ c := fun x => by
    unfold dropW
    rw [List.mem_filter]
    simp
  have one : ∀ {l' : List Die}, (c, l') ∈ W → l' = l := by
    have nd := h.kn
    clear hm hn sub h
    intro l'
    induction W with
    | nil => intro h'; cases h'
    | cons x W ih =>
      intro h'
      rw [List.map_cons, List.nodup_cons] at nd
      rcases List.mem_cons.mp hl with e | h1
      · rcases List.mem_cons.mp h' with e' | h2
        · rw [← e] at e'; cases e'; rfl
        · subst e
          exact absurd (List.mem_map.mpr ⟨_, h2, rfl⟩) nd.1
      · rcases List.mem_cons.mp h' with e' | h2
        · subst e'
          exact absurd (List.mem_map.mpr ⟨_, h1, rfl⟩) nd.1
        · exact ih h1 nd.2 h2
  have hs : ∀ {c' : Nat} {d : Die}, Has W c' d → (c' = c ∧ d ∈ l) ∨ Has (dropW W c) c' d := fun {c' d} ⟨l', h1, h2⟩ => by
    by_cases e : c' = c
    · subst e
      rw [one h1] at h2
      exact .inl ⟨rfl, h2⟩
    · exact .inr ⟨l', (sub _).mpr ⟨h1, e⟩, h2⟩
  refine ⟨⟨⟨?_, fun x hx => h.ne x ((sub x).mp hx).1, fun x hx => ?_⟩, fun c' d ⟨l', h1, h2⟩ => h.sound c' d ⟨l', ((sub _).mp h1).1, h2⟩, fun d hd => ⟨h.sound c d ⟨l, hl, hd⟩, hn d hd⟩, h.sd, h.sn, fun d hd => ?_, ?_, fun k e hk a => h.low b v hm k e hk a⟩, ?_⟩
  · exact h.kn.sublist (List.filter_sublist.map _)
  · have := hm x ((sub x).mp hx).1
    have := ((sub x).mp hx).2
    omega
  · obtain ⟨cd, q1, q2⟩ := h.clo d hd
    refine ⟨cd, q1, fun f hf => ?_⟩
    rcases q2 f hf with q | q
    · exact .inl q
    · rcases hs q with q | q
      · exact .inr (.inl q)
      · exact .inr (.inr q)
  · rcases h.st with q | q
    · exact .inl q
    · rcases hs q with ⟨q1, q2⟩ | q
      · exact .inr (.inl ⟨q1.symm, q2⟩)
      · exact .inr (.inr q)
  · have tot : total (dropW W c) + l.length ≤ total W := by
      clear hs one sub hm hn h
      induction W with
      | nil => cases hl
      | cons x W ih =>
        have t : ∀ (y : Nat × List Die) (V : Wt), total (y :: V) = y.2.length + total V := fun y V => by unfold total; rw [List.map_cons, List.sum_cons]
        have le : ∀ V : Wt, total (dropW V c) ≤ total V := by
          intro V
          induction V with
          | nil => exact Nat.le_refl _
          | cons y V iv =>
            have : dropW (y :: V) c = if y.1 = c then dropW V c else y :: dropW V c := by
              unfold dropW
              rw [List.filter_cons]
              by_cases e : y.1 = c <;> simp [e]
            rw [this, t]
            split
            · omega
            · rw [t]; omega
        have : dropW (x :: W) c = if x.1 = c then dropW W c else x :: dropW W c := by
          unfold dropW
          rw [List.filter_cons]
          by_cases e : x.1 = c <;> simp [e]
        rw [this, t]
        rcases List.mem_cons.mp hl with e | h1
        · subst e
          rw [if_pos rfl]
          have := le W
          dsimp only
          omega
        · have := ih h1
          split
          · omega
          · rw [t]; omega
    have : 1 ≤ l.length := by
      have := h.ne _ hl
      cases l with
      | nil => exact absurd rfl this
      | cons y l => simp
    unfold mu
    omega
theorem Mid.vdS (h : Mid s d0 W S c rest) : ∀ d ∈ S, Vd s d := fun d hd => let ⟨_, q, _⟩ := h.clo d hd; q.1.vd b v
theorem Mid.len (h : Mid s d0 W S c rest) : S.length ≤ 900 := codes_le b h.sn (h.vdS b v)
omit b v in
theorem Mid.old {d : Die} (h : Mid s d0 W S c (d :: rest)) (hd : d ∈ S) : Mid s d0 W S c rest := by
  refine ⟨h.ok, h.sound, fun e he => h.rs e (List.mem_cons_of_mem _ he), h.sd, h.sn, fun e he => ?_, ?_, h.low⟩
  · obtain ⟨cd, q1, q2⟩ := h.clo e he
    refine ⟨cd, q1, fun f hf => ?_⟩
    rcases q2 f hf with q | ⟨q, q'⟩ | q
    · exact .inl q
    · rcases List.mem_cons.mp q' with e' | q'
      · subst e'; exact .inl hd
      · exact .inr (.inl ⟨q, q'⟩)
    · exact .inr (.inr q)
  · rcases h.st with q | ⟨q, q'⟩ | q
    · exact .inl q
    · rcases List.mem_cons.mp q' with e' | q'
      · subst e'; exact .inl hd
      · exact .inr (.inl ⟨q, q'⟩)
    · exact .inr (.inr q)
theorem Mid.new {d : Die} (h : Mid s d0 W S c (d :: rest)) (hd : d ∉ S) :
    Mid s d0 (settleW s W (S ++ [d]) c d 4) (S ++ [d]) c rest ∧ mu (settleW s W (S ++ [d]) c d 4) (S ++ [d]) ≤ mu W S ∧ S.length < 900 := by
  obtain ⟨h1, h2⟩ := h.rs d List.mem_cons_self
  have vd := h1.vd b v
  have md : MinC s d0 c d := by
    obtain ⟨j, hj, a⟩ := h1.min
    by_cases q : j < c
    · exact absurd (h.low j d q a) hd
    · have : j = c := by omega
      subst this
      exact a
  have A := settle_spec b (S := S ++ [d]) vd h.ok 4
  generalize settleW s W (S ++ [d]) c d 4 = W' at A
  have mS : ∀ {x : Die}, x ∈ S → x ∈ S ++ [d] := fun {x} q => List.mem_append_left _ q
  have dS : d ∈ S ++ [d] := List.mem_append_right _ (List.mem_singleton.mpr rfl)
  have sn : ((S ++ [d]).map code).Nodup := by
    rw [List.map_append, List.map_cons, List.map_nil, List.nodup_append]
    refine ⟨h.sn, by simp, fun x hx x' hx' => ?_⟩
    rw [List.mem_singleton] at hx'
    subst hx'
    obtain ⟨y, hy, ey⟩ := List.mem_map.mp hx
    intro z
    have : y = d := code_inj (h.vdS b v y hy).ok vd.ok (ey.trans z)
    subst this
    exact hd hy
  have M : Mid s d0 W' (S ++ [d]) c rest := by
    refine ⟨A.ok, fun c' y q => ?_, fun e he => h.rs e (List.mem_cons_of_mem _ he), fun e he => ?_, sn, fun e he => ?_, ?_, fun k e hk a => mS (h.low k e hk a)⟩
    · rcases A.new c' y q with q2 | ⟨q2, e2⟩
      · exact h.sound c' y q2
      · subst e2; exact .roll h1 q2
    · rcases List.mem_append.mp he with q | q
      · exact h.sd e q
      · rw [List.mem_singleton.mp q]; exact h2
    · rcases List.mem_append.mp he with q | q
      · obtain ⟨cd, q1, q2⟩ := h.clo e q
        refine ⟨cd, q1, fun f hf => ?_⟩
        rcases q2 f hf with z | ⟨z, z'⟩ | z
        · exact .inl (mS z)
        · rcases List.mem_cons.mp z' with e' | z'
          · subst e'; exact .inl dS
          · exact .inr (.inl ⟨z, z'⟩)
        · exact .inr (.inr (A.old _ _ z))
      · rw [List.mem_singleton.mp q]
        refine ⟨c, md, fun f ⟨w, hw⟩ => ?_⟩
        rcases A.clo w f (rolled_lt hw) hw with z | z
        · exact .inl z
        · exact .inr (.inr z)
    · rcases h.st with q | ⟨q, q'⟩ | q
      · exact .inl (mS q)
      · rcases List.mem_cons.mp q' with e' | q'
        · subst e'; exact .inl dS
        · exact .inr (.inl ⟨q, q'⟩)
      · exact .inr (.inr (A.old _ _ q))
  have l1 := M.len b v
  rw [List.length_append, List.length_singleton] at l1
  have l2 := A.tot
  refine ⟨M, ?_, by omega⟩
  unfold mu
  rw [List.length_append, List.length_singleton]
  omega
omit b v in
theorem Mid.head (h : Mid s d0 W S c []) : Head s d0 W S := by
  refine ⟨h.ok.kn, h.ok.ne, h.sound, h.sd, h.sn, fun d hd => ?_, ?_⟩
  · obtain ⟨cd, q1, q2⟩ := h.clo d hd
    refine ⟨cd, q1, fun f hf => ?_⟩
    rcases q2 f hf with q | ⟨_, q⟩ | q
    · exact .inl q
    · cases q
    · exact .inr q
  · rcases h.st with q | ⟨_, q⟩ | q
    · exact .inl q
    · cases q
    · exact .inr q
end
end Rc

/-! text Rc7 -/
namespace Rc
open Sy74

/-! ### the calls keep a state good -/
theorem good_init : Good init := by
  refine ⟨⟨by decide, by decide, by decide, by decide⟩, ⟨?_, by decide, rfl⟩, by decide, rfl, by decide, fun x h => ?_, List.Pairwise.nil⟩
  · show ((1, 2, 3) : Nat × Nat × Nat) ∈ lyings
    decide
  · cases h
theorem contains_iff {l : List Nat} {x : Nat} : l.contains x = true ↔ x ∈ l := by simp
theorem contains_false {l : List Nat} {x : Nat} : l.contains x = false ↔ x ∉ l := by simp
theorem good_begins {s : St} (g : Good s) (r c : Nat) : Good (step s (.begins r c)).1 := by
  unfold step
  dsimp only
  split
  · exact g
  · rename_i h
    have h1 : 1 ≤ r ∧ r ≤ 5 ∧ 1 ≤ c ∧ c ≤ 5 := by omega
    have p : 0 < r * c := Nat.mul_pos h1.1 h1.2.2.1
    refine ⟨⟨h1.1, h1.2.1, h1.2.2.1, h1.2.2.2⟩, ⟨?_, p, rfl⟩, p, rfl, (by show 0 ≤ 6; decide), fun x h => ?_, List.Pairwise.nil⟩
    · show ((1, 2, 3) : Nat × Nat × Nat) ∈ lyings
      decide
    · cases h
/-- the cells with walls behind a call of wall -/
def walls' (s : St) (x b : Nat) : List Nat := if b = 1 then Sy74.insert x s.walls else s.walls.filter fun y : Nat => y != x
theorem mem_walls' {s : St} {x b y : Nat} : y ∈ walls' s x b ↔ (b = 1 ∧ y = x) ∨ (y ∈ s.walls ∧ (b = 1 ∨ y ≠ x)) := by
  unfold walls'
  split
  · rename_i h
    rw [insert_mem]
    constructor
    · rintro (h' | h')
      · exact .inl ⟨h, h'⟩
      · exact .inr ⟨h', .inl h⟩
    · rintro (⟨_, h'⟩ | ⟨h', _⟩)
      · exact .inl h'
      · exact .inr h'
  · rename_i h
    rw [List.mem_filter]
    simp only [bne_iff_ne]
    constructor
    · rintro ⟨h1, h2⟩
      exact .inr ⟨h1, .inr h2⟩
    · rintro (⟨h', _⟩ | ⟨h1, h2⟩)
      · exact absurd h' h
      · exact ⟨h1, h2.resolve_left h⟩
theorem sorted_walls' {s : St} (h : s.walls.Pairwise (· < ·)) (x b : Nat) : (walls' s x b).Pairwise (· < ·) := by
  unfold walls'
  split
  · exact insert_sorted h
  · exact h.sublist List.filter_sublist
theorem step_wall {s : St} {x b : Nat} (h1 : ¬ s.rows * s.cols ≤ x) (h2 : ¬ 1 < b) (h3 : ¬ (s.die.cell = x ∨ s.goal.1 = x)) : step s (.wall x b) = ({ s with walls := walls' s x b }, ok ((walls' s x b).length : Nat)) := by
  unfold step walls'
  dsimp only
  rw [if_neg h1, if_neg h2, if_neg h3]
theorem good_wall {s : St} (g : Good s) (x b : Nat) : Good (step s (.wall x b)).1 := by
  by_cases h1 : s.rows * s.cols ≤ x
  · rw [show step s (.wall x b) = (s, ok (-2)) from if_pos h1]; exact g
  · by_cases h2 : 1 < b
    · rw [show step s (.wall x b) = (s, ok (-1)) from (if_neg h1).trans (if_pos h2)]; exact g
    · by_cases h3 : s.die.cell = x ∨ s.goal.1 = x
      · rw [show step s (.wall x b) = (s, ok (-4)) from (if_neg h1).trans ((if_neg h2).trans (if_pos h3))]; exact g
      · rw [step_wall h1 h2 h3]
        have nf : ∀ y, y ≠ x → s.walls.contains y = false → (walls' s x b).contains y = false := fun y hy h => by
          rw [contains_false] at h ⊢
          rw [mem_walls']
          rintro (⟨_, e⟩ | ⟨e, _⟩)
          · exact hy e
          · exact h e
        exact ⟨⟨g.bd.r1, g.bd.r5, g.bd.c1, g.bd.c5⟩, ⟨g.die.ok, g.die.cell, nf _ (fun e => h3 (.inl e)) g.die.free⟩, g.goalc, nf _ (fun e => h3 (.inr e)) g.goalf, g.goalt, fun y hy => by
          rcases mem_walls'.mp hy with ⟨_, e⟩ | ⟨e, _⟩
          · rw [e]; show x < s.rows * s.cols; omega
          · exact g.wl y e, sorted_walls' g.ws x b⟩
theorem good_put {s : St} (g : Good s) (x t n : Nat) : Good (step s (.put x t n)).1 := by
  by_cases h1 : s.rows * s.cols ≤ x
  · rw [show step s (.put x t n) = (s, ok (-2)) from if_pos h1]; exact g
  · by_cases h2 : isDie t n = false
    · rw [show step s (.put x t n) = (s, ok (-1)) from (if_neg h1).trans (if_pos h2)]; exact g
    · by_cases h3 : s.walls.contains x = true
      · rw [show step s (.put x t n) = (s, ok (-4)) from (if_neg h1).trans ((if_neg h2).trans (if_pos h3))]; exact g
      · rw [show step s (.put x t n) = ({ s with die := ⟨x, t, n, eastOf t n⟩ }, ok (eastOf t n : Nat)) from (if_neg h1).trans ((if_neg h2).trans (if_neg h3))]
        exact ⟨⟨g.bd.r1, g.bd.r5, g.bd.c1, g.bd.c5⟩, ⟨ly_of (by simpa using h2), (by show x < s.rows * s.cols; omega), (by show s.walls.contains x = false; simpa using h3)⟩, g.goalc, g.goalf, g.goalt, g.wl, g.ws⟩
theorem good_roll {s : St} (g : Good s) (w : Nat) : Good (step s (.roll w)).1 := by
  by_cases h1 : 3 < w
  · rw [show step s (.roll w) = (s, ok (-1)) from if_pos h1]; exact g
  · cases h2 : rolled s s.die w with
    | none =>
      rw [show step s (.roll w) = (s, ok (-6)) from (if_neg h1).trans (by rw [h2])]
      exact g
    | some d =>
      rw [show step s (.roll w) = ({ s with die := d, rolls := s.rolls + 1, sum := s.sum + d.top }, ⟨(d.top : Nat), [[(d.cell : Int)]]⟩) from (if_neg h1).trans (by rw [h2])]
      have vd := rolled_vd g.bd g.die h2
      exact ⟨⟨g.bd.r1, g.bd.r5, g.bd.c1, g.bd.c5⟩, ⟨vd.ok, vd.cell, vd.free⟩, g.goalc, g.goalf, g.goalt, g.wl, g.ws⟩
theorem good_goal {s : St} (g : Good s) (x t : Nat) : Good (step s (.goal x t)).1 := by
  by_cases h1 : s.rows * s.cols ≤ x
  · rw [show step s (.goal x t) = (s, ok (-2)) from if_pos h1]; exact g
  · by_cases h2 : 6 < t
    · rw [show step s (.goal x t) = (s, ok (-1)) from (if_neg h1).trans (if_pos h2)]; exact g
    · by_cases h3 : s.walls.contains x = true
      · rw [show step s (.goal x t) = (s, ok (-4)) from (if_neg h1).trans ((if_neg h2).trans (if_pos h3))]; exact g
      · rw [show step s (.goal x t) = ({ s with goal := (x, t) }, ok 0) from (if_neg h1).trans ((if_neg h2).trans (if_neg h3))]
        exact ⟨⟨g.bd.r1, g.bd.r5, g.bd.c1, g.bd.c5⟩, ⟨g.die.ok, g.die.cell, g.die.free⟩, (by show x < s.rows * s.cols; omega), (by show s.walls.contains x = false; simpa using h3), (by show t ≤ 6; omega), g.wl, g.ws⟩
theorem good_step {s : St} (g : Good s) : ∀ c, Good (step s c).1
  | .begins r c => good_begins g r c
  | .wall x b => good_wall g x b
  | .put x t n => good_put g x t n
  | .roll w => good_roll g w
  | .goal x t => good_goal g x t
  | .fewest => g
  | .plan => g
  | .least => g
  | .tops _ => g
  | .reach => g
  | .lies => g
  | .state => g

/-! ### the calls in a list of numbers -/
def numbers : List Nat := [2, 2, 3, 1, 2, 0, 0, 0, 1, 0, 0, 0]
theorem shape_cases {p : Int} {n k : Nat} (h : PySy74.shape p = some (n, k)) : k = 0 ∧ 0 ≤ p ∧ p < 12 ∧ numbers[p.toNat]? = some n := by
  unfold PySy74.shape at h
  by_cases h0 : p = 0
  · subst h0; cases h; exact ⟨rfl, by decide, by decide, rfl⟩
  by_cases h1 : p = 1
  · subst h1; cases h; exact ⟨rfl, by decide, by decide, rfl⟩
  by_cases h2 : p = 2
  · subst h2; cases h; exact ⟨rfl, by decide, by decide, rfl⟩
  by_cases h3 : p = 3
  · subst h3; cases h; exact ⟨rfl, by decide, by decide, rfl⟩
  by_cases h4 : p = 4
  · subst h4; cases h; exact ⟨rfl, by decide, by decide, rfl⟩
  by_cases h5 : p = 5
  · subst h5; cases h; exact ⟨rfl, by decide, by decide, rfl⟩
  by_cases h6 : p = 6
  · subst h6; cases h; exact ⟨rfl, by decide, by decide, rfl⟩
  by_cases h7 : p = 7
  · subst h7; cases h; exact ⟨rfl, by decide, by decide, rfl⟩
  by_cases h8 : p = 8
  · subst h8; cases h; exact ⟨rfl, by decide, by decide, rfl⟩
  by_cases h9 : p = 9
  · subst h9; cases h; exact ⟨rfl, by decide, by decide, rfl⟩
  by_cases h10 : p = 10
  · subst h10; cases h; exact ⟨rfl, by decide, by decide, rfl⟩
  by_cases h11 : p = 11
  · subst h11; cases h; exact ⟨rfl, by decide, by decide, rfl⟩
  rw [if_neg h0, if_neg h1, if_neg h2, if_neg h3, if_neg h4, if_neg h5, if_neg h6, if_neg h7, if_neg h8, if_neg h9, if_neg h10, if_neg h11] at h
  cases h
theorem calls_cons {f : Nat} {p : Int} {r : List Int} {cs : List (List (List Int))} (h : PyFlat.calls PySy74.shape (f + 1) (p :: r) = some cs) :
    ∃ n cs', PySy74.shape p = some (n, 0) ∧ n ≤ r.length ∧ PyFlat.calls PySy74.shape f (r.drop n) = some cs' ∧ cs = [p :: r.take n] :: cs' := by
  unfold PyFlat.calls at h
  cases hc : PyFlat.call PySy74.shape (p :: r) with
  | none => rw [hc] at h; cases h
  | some x =>
    obtain ⟨c, t⟩ := x
    rw [hc] at h
    dsimp only at h
    cases ht : PyFlat.calls PySy74.shape f t with
    | none => rw [ht] at h; cases h
    | some cs' =>
      rw [ht] at h
      dsimp only at h
      have h := Option.some.inj h
      unfold PyFlat.call at hc
      dsimp only at hc
      cases hs : PySy74.shape p with
      | none => rw [hs] at hc; cases hc
      | some nk =>
        obtain ⟨n, k⟩ := nk
        rw [hs] at hc
        dsimp only at hc
        obtain ⟨rfl, _⟩ := shape_cases hs
        by_cases hl : r.length < n
        · rw [if_pos hl] at hc; cases hc
        · rw [if_neg hl] at hc
          have hc := Option.some.inj hc
          cases hc
          exact ⟨n, cs', rfl, by omega, ht, h.symm⟩
theorem calls_nil {f : Nat} {cs : List (List (List Int))} (h : PyFlat.calls PySy74.shape f [] = some cs) : cs = [] := by
  cases f <;> (unfold PyFlat.calls at h; exact (Option.some.inj h).symm)
/-- a call alone has no rows, so the counts change nothing -/
theorem whole_one (c : List Int) : PySy74.whole [c] = [c] := by
  unfold PySy74.whole
  split <;> first | rfl | simp_all
def stp (s : St) (c : List (List Int)) : St × List Int := Sy74Neutral.step s (c.headD [])
/-- the answers to the rest -/
def rest (s : St) (cs : List (List (List Int))) : List Int := PyFlat.told (PyFlat.played stp s (cs.map PySy74.whole))
theorem rest_nil (s : St) : rest s [] = [] := rfl
theorem rest_cons (s : St) (c : List Int) (cs : List (List (List Int))) : rest s ([c] :: cs) = ((Sy74Neutral.step s c).2.length : Int) :: (Sy74Neutral.step s c).2 ++ rest (Sy74Neutral.step s c).1 cs := by
  unfold rest
  rw [List.map_cons, whole_one]
  rfl
structure Due (l : List Int) (raw : List (List (List Int))) : Prop where
  calls : PyFlat.calls PySy74.shape l.length l = some raw
  ok : ∀ c ∈ raw, ∃ x, Sy74Neutral.callOf ((PySy74.whole c).headD []) = some x
  ans : PySy74.answers l = rest init raw
  short : (PySy74.answers l).length ≤ 10000000
theorem due_of {l : List Int} (h : PySy74.answers_asked l = true) : ∃ raw, Due l raw := by
  unfold PySy74.answers_asked at h
  cases hc : PyFlat.calls PySy74.shape l.length l with
  | none => rw [hc] at h; cases h
  | some raw =>
    rw [hc] at h
    dsimp only at h
    simp only [Bool.and_eq_true] at h
    obtain ⟨⟨⟨⟨_, _⟩, _⟩, ha⟩, hs⟩ := h
    refine ⟨raw, hc, fun c hm => ?_, ?_, ?_⟩
    · unfold Sy74Neutral.asked at ha
      simp only [Bool.and_eq_true] at ha
      have := List.all_eq_true.mp ha.1 ((PySy74.whole c).headD []) (List.mem_map.mpr ⟨_, List.mem_map.mpr ⟨c, hm, rfl⟩, rfl⟩)
      exact Option.isSome_iff_exists.mp this
    · unfold PySy74.answers PySy74.calls
      rw [hc]
      rfl
    · unfold PyFlat.short at hs
      exact of_decide_eq_true hs
/-- a call's numbers -/
theorem natIn_some {l : List Int} {x : Nat × List Int} (h : Sy74Neutral.natIn l = some x) : l = (x.1 : Int) :: x.2 ∧ x.1 < 4294967296 := by
  cases l with
  | nil => cases h
  | cons n l =>
    have h : (if 0 ≤ n ∧ n < 2 ^ 32 then some (n.toNat, l) else none) = some x := h
    by_cases hn : 0 ≤ n ∧ n < 2 ^ 32
    · rw [if_pos hn] at h
      have h := Option.some.inj h
      subst h
      refine ⟨by rw [show ((n.toNat : Nat) : Int) = n by omega], ?_⟩
      dsimp only
      have := hn.2
      omega
    · rw [if_neg hn] at h
      cases h
theorem many_some : ∀ {k : Nat} {l : List Int} {x : List Nat × List Int}, Sy74Neutral.many_ Sy74Neutral.natIn k l = some x → l = x.1.map (fun (n : Nat) => (n : Int)) ++ x.2 ∧ x.1.length = k ∧ ∀ n ∈ x.1, n < 4294967296
  | 0, l, x, h => by
    have h := Option.some.inj (show some ([], l) = some x from h)
    subst h
    exact ⟨rfl, rfl, fun n h => by cases h⟩
  | k + 1, l, x, h => by
    have h : (Sy74Neutral.natIn l).bind (fun (x : Nat × List Int) => (Sy74Neutral.many_ Sy74Neutral.natIn k x.2).map fun (y : List Nat × List Int) => (x.1 :: y.1, y.2)) = some x := h
    cases h1 : Sy74Neutral.natIn l with
    | none => rw [h1] at h; cases h
    | some y =>
      rw [h1] at h
      dsimp only [Option.bind_some] at h
      cases h2 : Sy74Neutral.many_ Sy74Neutral.natIn k y.2 with
      | none => rw [h2] at h; cases h
      | some z =>
        rw [h2] at h
        have h := Option.some.inj h
        subst h
        obtain ⟨e1, b1⟩ := natIn_some h1
        obtain ⟨e2, l2, b2⟩ := many_some h2
        refine ⟨?_, by simp [l2], fun n hn => ?_⟩
        · rw [e1, e2]
          rfl
        · rcases List.mem_cons.mp hn with e | hn
          · rw [e]; exact b1
          · exact b2 n hn
theorem all_some {k : Nat} {l : List Int} {x : List Nat} (h : Sy74Neutral.all_ (Sy74Neutral.some_ k l) = some x) : l = x.map (fun (n : Nat) => (n : Int)) ∧ x.length = k := by
  unfold Sy74Neutral.all_ Sy74Neutral.some_ at h
  cases h1 : Sy74Neutral.many_ Sy74Neutral.natIn k l with
  | none => rw [h1] at h; cases h
  | some y =>
    rw [h1] at h
    dsimp only [Option.bind_some] at h
    split at h
    · rename_i he
      have h := Option.some.inj h
      subst h
      obtain ⟨e, l1, _⟩ := many_some h1
      rw [List.isEmpty_iff.mp he, List.append_nil] at e
      exact ⟨e, l1⟩
    · cases h
/-- which call, with which numbers -/
inductive Told : Int → List Int → Call → Prop
  | begins (r c : Nat) : Told 0 [(r : Int), (c : Int)] (.begins r c)
  | wall (x t : Nat) : Told 1 [(x : Int), (t : Int)] (.wall x t)
  | put (x t n : Nat) : Told 2 [(x : Int), (t : Int), (n : Int)] (.put x t n)
  | roll (w : Nat) : Told 3 [(w : Int)] (.roll w)
  | goal (x t : Nat) : Told 4 [(x : Int), (t : Int)] (.goal x t)
  | fewest : Told 5 [] .fewest
  | plan : Told 6 [] .plan
  | least : Told 7 [] .least
  | tops (x : Nat) : Told 8 [(x : Int)] (.tops x)
  | reach : Told 9 [] .reach
  | lies : Told 10 [] .lies
  | state : Told 11 [] .state
theorem told_of {p : Int} {r : List Int} {x : Call} (hp : 0 ≤ p ∧ p < 12) (h : Sy74Neutral.callOf (p :: r) = some x) : Told p r x := by
  have cases2 : ∀ {y : List Nat}, y.length = 2 → ∃ a b, y = [a, b] := fun {y} h => match y, h with | [a, b], _ => ⟨a, b, rfl⟩
  have cases3 : ∀ {y : List Nat}, y.length = 3 → ∃ a b c, y = [a, b, c] := fun {y} h => match y, h with | [a, b, c], _ => ⟨a, b, c, rfl⟩
  have cases1 : ∀ {y : List Nat}, y.length = 1 → ∃ a, y = [a] := fun {y} h => match y, h with | [a], _ => ⟨a, rfl⟩
  have cases0 : ∀ {y : List Nat}, y.length = 0 → y = [] := fun {y} h => match y, h with | [], _ => rfl
  have g : ∀ (k : Nat) (f : List Nat → Call), (Sy74Neutral.all_ (Sy74Neutral.some_ k r)).map f = some x → ∃ y : List Nat, r = y.map (fun (n : Nat) => (n : Int)) ∧ y.length = k ∧ f y = x := fun k f h => by
    obtain ⟨y, hy, e⟩ := Option.map_eq_some_iff.mp h
    obtain ⟨e1, e2⟩ := all_some hy
    exact ⟨y, e1, e2, e⟩
  have hc : p = 0 ∨ p = 1 ∨ p = 2 ∨ p = 3 ∨ p = 4 ∨ p = 5 ∨ p = 6 ∨ p = 7 ∨ p = 8 ∨ p = 9 ∨ p = 10 ∨ p = 11 := by omega
  rcases hc with e | e | e | e | e | e | e | e | e | e | e | e <;> subst e
  · obtain ⟨y, e1, e2, e3⟩ := g 2 _ h
    obtain ⟨a, b, rfl⟩ := cases2 e2
    subst e1 e3
    exact .begins a b
  · obtain ⟨y, e1, e2, e3⟩ := g 2 _ h
    obtain ⟨a, b, rfl⟩ := cases2 e2
    subst e1 e3
    exact .wall a b
  · obtain ⟨y, e1, e2, e3⟩ := g 3 _ h
    obtain ⟨a, b, c, rfl⟩ := cases3 e2
    subst e1 e3
    exact .put a b c
  · obtain ⟨y, e1, e2, e3⟩ := g 1 _ h
    obtain ⟨a, rfl⟩ := cases1 e2
    subst e1 e3
    exact .roll a
  · obtain ⟨y, e1, e2, e3⟩ := g 2 _ h
    obtain ⟨a, b, rfl⟩ := cases2 e2
    subst e1 e3
    exact .goal a b
  · obtain ⟨y, e1, e2, e3⟩ := g 0 _ h
    obtain rfl := cases0 e2
    subst e1 e3
    exact .fewest
  · obtain ⟨y, e1, e2, e3⟩ := g 0 _ h
    obtain rfl := cases0 e2
    subst e1 e3
    exact .plan
  · obtain ⟨y, e1, e2, e3⟩ := g 0 _ h
    obtain rfl := cases0 e2
    subst e1 e3
    exact .least
  · obtain ⟨y, e1, e2, e3⟩ := g 1 _ h
    obtain ⟨a, rfl⟩ := cases1 e2
    subst e1 e3
    exact .tops a
  · obtain ⟨y, e1, e2, e3⟩ := g 0 _ h
    obtain rfl := cases0 e2
    subst e1 e3
    exact .reach
  · obtain ⟨y, e1, e2, e3⟩ := g 0 _ h
    obtain rfl := cases0 e2
    subst e1 e3
    exact .lies
  · obtain ⟨y, e1, e2, e3⟩ := g 0 _ h
    obtain rfl := cases0 e2
    subst e1 e3
    exact .state
/-- the numbers answered -/
def out (s : St) (c : Call) : List Int := Sy74Neutral.out (step s c).2
theorem step_told {p : Int} {r : List Int} {x : Call} (h : Sy74Neutral.callOf (p :: r) = some x) (s : St) : Sy74Neutral.step s (p :: r) = ((step s x).1, out s x) := by
  unfold Sy74Neutral.step
  rw [h]
  rfl
end Rc

/-! text Rc8 -/
namespace Rc
open Sy74
/-! ### the next cell, by whole numbers -/
def nrow (r : Int) (w : Nat) : Int := if w = 0 then r - 1 else if w = 2 then r + 1 else r
def ncol (c : Int) (w : Nat) : Int := if w = 0 then c else if w = 2 then c else if w = 1 then c + 1 else c - 1
theorem beside_eq {s : St} (b : Bd s) {x w : Nat} (hx : x < s.rows * s.cols) (hw : w < 4) :
    ((0 ≤ nrow ((x / s.cols : Nat) : Int) w ∧ nrow ((x / s.cols : Nat) : Int) w < s.rows ∧ 0 ≤ ncol ((x % s.cols : Nat) : Int) w ∧ ncol ((x % s.cols : Nat) : Int) w < s.cols) →
      ∃ y : Nat, nextCell s x w = some y ∧ (y : Int) = nrow ((x / s.cols : Nat) : Int) w * s.cols + ncol ((x % s.cols : Nat) : Int) w) ∧
    (¬ (0 ≤ nrow ((x / s.cols : Nat) : Int) w ∧ nrow ((x / s.cols : Nat) : Int) w < s.rows ∧ 0 ≤ ncol ((x % s.cols : Nat) : Int) w ∧ ncol ((x % s.cols : Nat) : Int) w < s.cols) → nextCell s x w = none) := by
  obtain ⟨hr, hc⟩ := bd_cases b
  have hw' : w = 0 ∨ w = 1 ∨ w = 2 ∨ w = 3 := by omega
  unfold nextCell
  dsimp only
  rcases hw' with w0 | w0 | w0 | w0 <;> subst w0 <;> simp [nrow, ncol] <;>
    rcases hc with c | c | c | c | c <;> rw [c] at hx ⊢ <;> (first | omega | (refine ⟨fun h1 h2 h3 h4 => ?_, fun h => ?_⟩ <;> (first | omega | exact ⟨_, ⟨by omega, rfl⟩, by omega⟩)))
def rollCell (s : St) (x w : Nat) : Option Nat := (nextCell s x w).bind fun y => if s.walls.contains y = true then none else some y
theorem rolled_cell (s : St) (d : Die) (w : Nat) : rolled s d w = (rollCell s d.cell w).map fun x => ⟨x, (lyNext (d.top, d.north, d.east) w).1, (lyNext (d.top, d.north, d.east) w).2.1, (lyNext (d.top, d.north, d.east) w).2.2⟩ := by
  rw [rolled_eq]
  unfold rollCell
  cases nextCell s d.cell w with
  | none => rfl
  | some y =>
    dsimp only [Option.bind_some]
    by_cases h : s.walls.contains y = true
    · rw [if_pos h, if_pos h]; rfl
    · rw [if_neg h, if_neg h]; rfl
/-- a list told in order -/
theorem sorted_le_uniq {l : List Int} {l' : List Nat} (h1 : l.Pairwise (· ≤ ·)) (hn : l.Nodup) (h2 : l'.Pairwise (· < ·)) (hm : ∀ z : Int, z ∈ l ↔ ∃ n ∈ l', z = (n : Int)) : l = l'.map fun (n : Nat) => (n : Int) := by
  have h3 : l.Pairwise (· < ·) := by
    unfold List.Nodup at hn
    exact (h1.and hn).imp fun ⟨a, b⟩ => by omega
  have h4 : (l'.map fun (n : Nat) => (n : Int)).Pairwise (· < ·) := List.pairwise_map.mpr (h2.imp fun h => by omega)
  have gen : ∀ {a b : List Int}, a.Pairwise (· < ·) → b.Pairwise (· < ·) → (∀ z, z ∈ a ↔ z ∈ b) → a = b := by
    intro a
    induction a with
    | nil =>
      intro b _ _ h
      cases b with
      | nil => rfl
      | cons y b => have := (h y).mpr List.mem_cons_self; cases this
    | cons x a ih =>
      intro b ha hb h
      cases b with
      | nil => have := (h x).mp List.mem_cons_self; cases this
      | cons y b =>
        obtain ⟨a1, a2⟩ := List.pairwise_cons.mp ha
        obtain ⟨b1, b2⟩ := List.pairwise_cons.mp hb
        have e : x = y := by
          rcases List.mem_cons.mp ((h x).mp List.mem_cons_self) with e | hx
          · exact e
          · rcases List.mem_cons.mp ((h y).mpr List.mem_cons_self) with e | hy
            · exact e.symm
            · have := b1 x hx
              have := a1 y hy
              omega
        subst e
        rw [ih a2 b2 fun z => ?_]
        constructor
        · intro hz
          rcases List.mem_cons.mp ((h z).mp (List.mem_cons_of_mem _ hz)) with e | hz'
          · have := a1 z hz; omega
          · exact hz'
        · intro hz
          rcases List.mem_cons.mp ((h z).mpr (List.mem_cons_of_mem _ hz)) with e | hz'
          · have := b1 z hz; omega
          · exact hz'
  refine gen h3 h4 fun z => ?_
  rw [hm z, List.mem_map]
  exact ⟨fun ⟨n, a, b⟩ => ⟨n, a, b.symm⟩, fun ⟨n, a, b⟩ => ⟨n, a, b.symm⟩⟩
end Rc

/-! text RcR -/
namespace L2.Rw
open PySem PySem.Spec PyProof.Rows

/-! ### dicts whose keys are nested tuples of numbers -/
mutual
/-- the value is the key: a number, or a tracked tuple of such -/
inductive VKey (H : Hp) : NestedKey → V → Prop
  | num (i : Int) : VKey H (.num i) (.int i)
  | tup {p : Addr} {vs : List V} {ks : List NestedKey} : H p = some (.tup vs) → VKeys H ks vs → VKey H (.tup ks) (.ref p)
inductive VKeys (H : Hp) : List NestedKey → List V → Prop
  | nil : VKeys H [] []
  | cons {k : NestedKey} {v : V} {ks : List NestedKey} {vs : List V} : VKey H k v → VKeys H ks vs → VKeys H (k :: ks) (v :: vs)
end
/-- the tuples stand -/
def Tups (H H' : Hp) : Prop := ∀ b xs, H b = some (.tup xs) → H' b = some (.tup xs)
theorem Tups.of_same {H H' : Hp} (h : Same H H') : Tups H H' := fun b xs e => h b _ e
mutual
theorem VKey.mono {H H' : Hp} (h : Tups H H') : ∀ (k : NestedKey) (v : V), VKey H k v → VKey H' k v
  | .num i, _, x => by cases x; exact .num i
  | .none, _, x => by cases x
  | .text _, _, x => by cases x
  | .tup ks, _, x => by
    cases x with
    | tup h1 h2 => exact .tup (h _ _ h1) (VKeys.mono h ks _ h2)
theorem VKeys.mono {H H' : Hp} (h : Tups H H') : ∀ (ks : List NestedKey) (vs : List V), VKeys H ks vs → VKeys H' ks vs
  | [], _, x => by cases x; exact .nil
  | k :: ks, _, x => by
    cases x with
    | cons h1 h2 => exact .cons (VKey.mono h k _ h1) (VKeys.mono h ks _ h2)
end
mutual
theorem VKey.nested {P : Program} {w : World} {H : Hp} {h : Heap} (ok : HOk P w H h) : ∀ (k : NestedKey) (v : V) (u : Value), VKey H k v → RelV v u → NestedIs h k u
  | .num i, _, u, x, r => by
    cases x
    obtain ⟨t, rfl⟩ := r
    exact .int _ _
  | .none, _, _, x, _ => by cases x
  | .text _, _, _, x, _ => by cases x
  | .tup ks, _, u, x, r => by
    cases x with
    | tup h1 h2 =>
      obtain rfl : u = Value.ref _ := r
      obtain ⟨_, its, rv, o, ho, hc, n, hd⟩ := ok _ _ h1
      exact .tup ho hc hd (by simpa using VKeys.nested ok ks _ _ h2 rv)
theorem VKeys.nested {P : Program} {w : World} {H : Hp} {h : Heap} (ok : HOk P w H h) : ∀ (ks : List NestedKey) (vs : List V) (us : List Value), VKeys H ks vs → Vals vs us → NestedAll h ks us
  | [], _, _, x, r => by cases x; cases r; exact .nil
  | k :: ks, _, _, x, r => by
    cases x with
    | cons h1 h2 =>
      cases r with
      | cons r1 r2 => exact .cons (VKey.nested ok k _ _ h1 r1) (VKeys.nested ok ks _ _ h2 r2)
end
/-- what stands at a dict with nested keys -/
def DN (P : Program) (w : World) (a : Addr) (xs : List (NestedKey × Addr × Value)) : HO := .ext fun h => (a == sysModules) = false ∧ xs.length ≤ sizeLine ∧ (xs.map (·.1)).Nodup ∧
  ∃ o es ep, h.get? a = some o ∧ o.ExactDict ∧ o.data = .dict es ep ∧ es.toList = xs.map (entryOfKey (nestedKind P w))
/-- the dict at a has the keys ks, in the order of insertion -/
def DNAt (P : Program) (w : World) (H : Hp) (a : Addr) (ks : List NestedKey) : Prop :=
  ∃ xs, H a = some (DN P w a xs) ∧ xs.map (·.1) = ks ∧ ∀ x ∈ xs, VKey H x.1 (.ref x.2.1) ∧ x.1.depth ≤ 8
theorem DN_ne {P : Program} {w : World} {a : Addr} {xs : List (NestedKey × Addr × Value)} {o : HO} (h : ∀ φ, o ≠ .ext φ) : o ≠ DN P w a xs := fun e => h _ e
theorem DNAt.mono {P : Program} {w : World} {H H' : Hp} {a : Addr} {ks : List NestedKey} (x : DNAt P w H a ks) (ha : H' a = H a) (ht : Tups H H') : DNAt P w H' a ks := by
  obtain ⟨xs, e, ek, hk⟩ := x
  exact ⟨xs, by rw [ha]; exact e, ek, fun y hy => ⟨VKey.mono ht _ _ (hk y hy).1, (hk y hy).2⟩⟩
theorem DN_ok {P : Program} {w : World} {H : Hp} {h : Heap} {a : Addr} {xs : List (NestedKey × Addr × Value)} (hd : (a == sysModules) = false) (hl : xs.length ≤ sizeLine) (x : h.DictOfH (nestedKind P w) a xs) : ObjOk P w H h a (DN P w a xs) := by
  obtain ⟨o, es, ep, h1, h2, h3, h4, _, h5⟩ := x
  refine ⟨⟨hd, hl, h5, o, es, ep, h1, h2, h3, h4⟩, ⟨o, h1⟩, fun h1' h2' p k => ?_⟩
  obtain ⟨q1, q2, q3, o', es', ep', q4, q5⟩ := p
  exact ⟨q1, q2, q3, o', es', ep', k _ q4, q5⟩
theorem DN_of {P : Program} {w : World} {H : Hp} {h : Heap} {a : Addr} {xs : List (NestedKey × Addr × Value)} (ok : HOk P w H h) (e : H a = some (DN P w a xs)) (hk : ∀ x ∈ xs, VKey H x.1 (.ref x.2.1) ∧ x.1.depth ≤ 8) :
    (a == sysModules) = false ∧ xs.length ≤ sizeLine ∧ h.DictOfH (nestedKind P w) a xs := by
  have q := ok a _ e
  unfold DN at q
  obtain ⟨⟨q1, q2, q3, o, es, ep, q4, q5, q6, q7⟩, _⟩ := q
  exact ⟨q1, q2, o, es, ep, q4, q5, q6, q7, fun x hx => ⟨VKey.nested ok _ _ _ (hk x hx).1 rfl, (hk x hx).2⟩, q3⟩
theorem atKey_isSome {xs : List (NestedKey × Addr × Value)} {k : NestedKey} : (atKey xs k).isSome = decide (k ∈ xs.map (·.1)) := by
  unfold atKey
  rw [Option.isSome_map]
  cases h : xs.find? fun x => decide (x.1 = k) with
  | none =>
    rw [List.find?_eq_none] at h
    rw [decide_eq_false]
    · rfl
    · intro hk
      obtain ⟨x, hx, e⟩ := List.mem_map.mp hk
      exact h x hx (decide_eq_true e)
  | some x =>
    have hx := List.mem_of_find?_eq_some h
    have e : x.1 = k := by simpa using List.find?_some h
    rw [decide_eq_true]
    · rfl
    · exact List.mem_map.mpr ⟨x, hx, e⟩
section
variable {X : Cx} {pins : List (Addr × Obj)} {σ : St} {H : Hp} {s : Shared} {a b : Addr} {k : NestedKey} {ks : List NestedKey} {A : Around} {E : Value → Shared → Prop}
theorem n_notIn {Q : Value → Shared → Prop} (hu : A.units + 9 < cLine) (I : Inv X pins σ H s) (g : DNAt X.prog X.w H a ks) (gk : VKey H k (.ref b)) (hd8 : k.depth ≤ 8) (h : ∀ s', Inv X pins σ H s' → Q (.bool (!decide (k ∈ ks))) s') :
    wpAny (model X.prog X.w) A (compareOp .NotIn (.ref b) (.ref a)) Q E s := by
  obtain ⟨xs, e, rfl, hk⟩ := g
  obtain ⟨q1, q2, q3⟩ := DN_of I.hok e hk
  refine wpAny_notIn_heap (knd := nestedKind X.prog X.w) (k := k) (show A.in1.units + 8 < cLine by simp only [Around.in1_units]; omega) ⟨VKey.nested I.hok _ _ _ gk rfl, hd8⟩ q1 q3 ?_
  rw [atKey_isSome]
  exact h _ (I.tok _)
theorem n_setItem {v : V} {r : Value} {Q : Unit → Shared → Prop} (hu : A.units + 9 < cLine) (I : Inv X pins σ H s) (g : DNAt X.prog X.w H a ks) (gk : VKey H k (.ref b)) (hd8 : k.depth ≤ 8) (hn : k ∉ ks) (hl : ks.length < sizeLine) (rv : RelV v r)
    (h : ∀ H' s', Inv X pins σ H' s' → DNAt X.prog X.w H' a (ks ++ [k]) → (∀ c, c ≠ a → H' c = H c) → Q () s') :
    wpAny (model X.prog X.w) A (setItem (.ref a) (.ref b) r) Q E s := by
  obtain ⟨xs, e, rfl, hk⟩ := g
  obtain ⟨q1, q2, q3⟩ := DN_of I.hok e hk
  rw [List.length_map] at hl
  have hno : atKey xs k = none := by
    have := atKey_isSome (xs := xs) (k := k)
    rw [decide_eq_false hn] at this
    cases hq : atKey xs k with
    | none => rfl
    | some p => rw [hq] at this; cases this
  refine wpAny_setItem_heap (hsz := q2) (knd := nestedKind X.prog X.w) (k := k) (show A.in1.units + 8 < cLine by simp only [Around.in1_units]; omega) ⟨VKey.nested I.hok _ _ _ gk rfl, hd8⟩ q3 fun h' dd' hs => ?_
  rw [storedH_new hno] at dd'
  have he : ∃ q, h'.get? a = some q := let ⟨q, _, _, hq, _⟩ := dd'; ⟨q, hq⟩
  have hl2 : (xs ++ [(k, b, r)]).length ≤ sizeLine := by rw [List.length_append, List.length_singleton]; omega
  have J := d_write (t' := s.toks + (nestedKind X.prog X.w).draws k) (ob := DN X.prog X.w a (xs ++ [(k, b, r)])) I (by rw [e]; exact True.intro) hs he (DN_ok q1 hl2 dd')
  have ht : Tups H (upd H a (DN X.prog X.w a (xs ++ [(k, b, r)]))) := fun c ys ec => by
    rw [upd_ne (ne_of ec e (DN_ne fun φ z => by cases z))]
    exact ec
  refine h _ _ J ⟨_, upd_same, by simp, fun x hx => ?_⟩ fun c hc => upd_ne hc
  rcases List.mem_append.mp hx with hx | hx
  · exact ⟨VKey.mono ht _ _ (hk x hx).1, (hk x hx).2⟩
  · rw [List.mem_singleton] at hx
    subst hx
    exact ⟨VKey.mono ht _ _ gk, hd8⟩
theorem DN_empty {P : Program} {w : World} {H : Hp} (h : Heap) (hb : sysModules < h.objs.size) : ObjOk P w H (h.push { cls := .type "dict", data := .dict #[] }) h.objs.size (DN P w h.objs.size []) :=
  DN_ok (beq_eq_false_iff_ne.mpr (Ne.symm (Nat.ne_of_lt hb))) (Nat.zero_le _) (Heap.DictOfH.new h)
end
/-- y not in d -/
def tNin (P : Program) (w : World) (ty td : TE) : TE := fun σ H Q => ty σ H fun y H1 => td σ H1 fun x H2 => ∃ a b k ks, x = .ref a ∧ y = .ref b ∧ DNAt P w H2 a ks ∧ VKey H2 k (.ref b) ∧ k.depth ≤ 8 ∧ Q (.bl (!decide (k ∈ ks))) H2
/-- d[y] = v, y not there -/
def sNPut (P : Program) (w : World) (td ty tv : TE) : TS := fun D σ H => tv σ H fun v H1 => td σ H1 fun x H2 => ty σ H2 fun y H3 => ∃ a b k ks, x = .ref a ∧ y = .ref b ∧ DNAt P w H3 a ks ∧ VKey H3 k (.ref b) ∧ k.depth ≤ 8 ∧ k ∉ ks ∧ ks.length < sizeLine ∧
  ∀ H4, DNAt P w H4 a (ks ++ [k]) → (∀ c, c ≠ a → H4 c = H3 c) → D.nx σ H4
/-- {} -/
def tNNew (P : Program) (w : World) : TE := fun _ H Q => ∀ p H', H p = none → DNAt P w H' p [] → (∀ c, c ≠ p → H' c = H c) → Q (.ref p) H'
/-- {y: v} -/
def tNDisp (P : Program) (w : World) (ty tv : TE) : TE := fun σ H Q => ∀ p H1, H p = none → DNAt P w H1 p [] → (∀ c, c ≠ p → H1 c = H c) →
  ty σ H1 fun y H2 => tv σ H2 fun v H3 => ∃ b k, y = .ref b ∧ DNAt P w H3 p [] ∧ VKey H3 k (.ref b) ∧ k.depth ≤ 8 ∧ ∀ H4, DNAt P w H4 p [k] → (∀ c, c ≠ p → H4 c = H3 c) → Q (.ref p) H4
section
variable {X : Cx} {o i e value : Expr} {pos pos' : Pos} {td ty tv : TE}
theorem pc_nnotin (hu : X.A.units + 9 < cLine) (hi : PE X i ty) (ho : PE X o td) : PC X .NotIn i o (tNin X.prog X.w ty td) := by
  refine ⟨fun pins s σ H Q I h => ?_⟩
  refine thn (hi.run pins s σ H _ I h) fun iv s1 ⟨y, H1, I1, ry, q1⟩ => thn (ho.run pins s1 σ H1 _ I1 q1) fun u s2 ⟨x, H2, I2, rx, a, b, k, ks, ex, ey, g, gk, h8, q2⟩ => ?_
  subst ex ey
  obtain rfl : u = Value.ref a := rx
  obtain rfl : iv = Value.ref b := ry
  exact n_notIn hu I2 g gk h8 fun s3 I3 => ⟨.bl (!decide (k ∈ ks)), H2, I3, rfl, q2⟩
theorem ps_nput (hu : X.A.units + 9 < cLine) (ho : PE X o td) (hi : PE X i ty) (hv : PE X value tv) (hs : swapsWith value (some (.Subscript o i pos')) pos.line X.env = pure false := by rfl) :
    PS X (.Assign [.Subscript o i pos'] value pos) (sNPut X.prog X.w td ty tv) := by
  refine ⟨fun pins s σ H D I h => ?_⟩
  refine wpAny_Assign_Subscript (thn (hv.run pins s σ H _ I h) fun r s1 ⟨v, H1, I1, rv, q1⟩ => thn (ho.run pins s1 σ H1 _ I1 q1) fun u s2 ⟨x, H2, I2, rx, q2⟩ => thn (hi.run pins s2 σ H2 _ I2 q2) fun iv s3 ⟨y, H3, I3, ry, a, b, k, ks, ex, ey, g, gk, h8, hn, hl, q3⟩ => ?_) hs
  subst ex ey
  obtain rfl : u = Value.ref a := rx
  obtain rfl : iv = Value.ref b := ry
  exact n_setItem hu I3 g gk h8 hn hl rv fun H4 s4 I4 g4 k4 => ⟨σ, H4, I4, q3 H4 g4 k4⟩
theorem pe_nnew : PE X (.Dict [] [] pos) (tNNew X.prog X.w) := ⟨fun pins s σ H Q I h =>
  wpAny_Dict_empty ⟨.ref s.heap.objs.size, _, I.laid (a := s.heap.objs.size) (o := DN X.prog X.w s.heap.objs.size []) (t' := s.toks) (fun _ _ q => Heap.get?_push_of_some _ q) (Nat.le_refl _) (DN_empty s.heap I.big), rfl,
    h _ _ (I.hok.fresh (Nat.le_refl _)) ⟨[], upd_same, rfl, fun x hx => by cases hx⟩ fun c hc => upd_ne hc⟩⟩
theorem pe_ndisp (hu : X.A.units + 9 < cLine) (hk : PE X i ty) (hv : PE X e tv) : PE X (.Dict [some i] [e] pos) (tNDisp X.prog X.w ty tv) := by
  refine ⟨fun pins s σ H Q I q => ?_⟩
  have hn := I.hok.fresh (Nat.le_refl s.heap.objs.size)
  have I1 := I.laid (a := s.heap.objs.size) (o := DN X.prog X.w s.heap.objs.size []) (h' := s.heap.push { cls := .type "dict", data := .dict #[] }) (t' := s.toks) (fun _ _ q => Heap.get?_push_of_some _ q) (Nat.le_refl _) (DN_empty s.heap I.big)
  have q1 := q _ _ hn ⟨[], upd_same, rfl, fun x hx => by cases hx⟩ fun c hc => upd_ne hc
  have hu8 : (nestedKind X.prog X.w).room X.A := show X.A.units + 8 < cLine by omega
  rw [arm_eval_Dict, zip_pairTrees [some i] [e] X.env pos rfl rfl, dictDisplay_pairs (pairTrees [some i] [e] X.env pos) (by simp [pairTrees]) (by simp [pairTrees])]
  refine wpAny_bind (wpAny_standAt (wpAny_bind (wpAny_subDictH (knd := nestedKind X.prog X.w) (Q := fun d s' => wpAny (model X.prog X.w) X.A (pure (Value.ref d)) (EP X pins σ Q) X.xe s') hu8 (by simp [pairTrees]) ?_)))
  refine pairTrees_cons_walk (thn (hk.run pins _ σ _ _ I1 q1) fun u s1 ⟨x, H1, J1, rx, q2⟩ => thn (hv.run pins s1 σ H1 _ J1 q2) fun w2 s2 ⟨y, H2, J2, ry, b, k, ex, g, gk, h8, q3⟩ => pairTrees_nil_walk ?_)
  subst ex
  obtain rfl : u = Value.ref b := rx
  obtain ⟨xs, e1, e2, e3⟩ := g
  have e2 := List.map_eq_nil_iff.mp e2
  subst e2
  obtain ⟨r1, r2, r3⟩ := DN_of J2.hok e1 e3
  have gn := VKey.nested J2.hok _ _ _ gk (rfl : RelV (.ref b) (.ref b))
  refine ⟨[(k, b, w2)], ⟨rfl, rfl, ⟨gn, h8⟩, trivial⟩, r3, fun h' tk dd' hs => wpAny_pure ?_⟩
  have he : ∃ q, h'.get? s.heap.objs.size = some q := let ⟨q, _, _, hq, _⟩ := dd'; ⟨q, hq⟩
  have dd2 : h'.DictOfH (nestedKind X.prog X.w) s.heap.objs.size [(k, b, w2)] := dd'
  have J := d_write (t' := tk) (ob := DN X.prog X.w s.heap.objs.size [(k, b, w2)]) J2 (by rw [e1]; exact True.intro) hs he (DN_ok r1 (by rw [sizeLine_eq, List.length_singleton]; decide) dd2)
  refine ⟨.ref s.heap.objs.size, _, J, rfl, q3 _ ⟨_, upd_same, rfl, fun x hx => ?_⟩ fun c hc => upd_ne hc⟩
  rw [List.mem_singleton] at hx
  subst hx
  refine ⟨VKey.mono (fun c ys ec => ?_) _ _ gk, h8⟩
  rw [upd_ne (ne_of ec e1 (DN_ne fun φ z => by cases z))]
  exact ec
end
end L2.Rw

/-! text RcR2 -/
namespace RT
open PySem PySem.Spec PyProof.Rows
section
variable {prog : Program} {w : World} {A : Around} {E : Value → Shared → Prop} {s : Shared}
/-! ### list(reversed(list)) -/
abbrev RevItems (items : Array Value) (acc : Array Value) : Prop := ItemsOf (fun i v => items[items.size - 1 - i]? = some v) acc items.size
theorem rev_extend {it l : Addr} {items : Array Value} {R : Result → Shared → Prop} (hh : A.handled = none) (hit : s.heap.IsRevIter it l ((items.size : Int) - 1)) (hl : s.heap.IsList l items) (hne : l ≠ it) (hn : items.size ≤ sizeLine)
    (S : Addr) (hSi : S ≠ it) (hSl : S ≠ l) (res : Value) (c0 : Nat) (hS : s.heap.get? S = some { cls := .type "list", data := .seq #[] c0 })
    (hR : ∀ h' tk acc' c', (∀ b o, b ≠ S → b ≠ it → s.heap.get? b = some o → h'.get? b = some o) → h'.get? S = some { cls := .type "list", dict := none, data := .seq acc' c', slots := #[] } → RevItems items acc' → R (.ok (.ret res)) { s with heap := h', toks := tk }) :
    wpAny (model prog w) A.in1 (Builtin.List.listExtendWith (.ref S) (.ref it) res)
      (fun fin s' => match fin with | .done f => R (.ok f) s' | .again c' => c'.quiet = true ∧ codeAny (model prog w) A c' R s') (fun e s' => R (.error e) s') s := by
  have W := (Walks.listRev (prog := prog) (w := w) (A := A.in1) hh it l hne items).toS
  have hSf : S ∉ [it, l] := by simp only [List.mem_cons, List.not_mem_nil, or_false, not_or]; exact ⟨hSi, hSl⟩
  have hT : s.TypeIs (.ref it) "list_reverseiterator" := hit.typeIs
  have h1 : Builtin.List.listSameRef (.ref S) (.ref it) = false := by simp [Builtin.List.listSameRef, hSi]
  have h2 : (Value.type "list_reverseiterator" == Value.type "list") = false := by decide
  have h3 : (Value.type "list_reverseiterator" == Value.type "tuple") = false := by decide
  unfold Builtin.List.listExtendWith
  refine wpAny_bind (wpAny_typeOf hT ?_)
  simp only [h1, h2, h3, Bool.or_false, Bool.false_eq_true, if_false]
  refine wpAny_bind (wpAny_pyIter_revIter hit ?_)
  refine wpAny_bind (wpAny_holding ?_)
  unfold Builtin.List.listLengthHint
  refine wpAny_bind (wpAny_specialOf hT nolen_lri ?_)
  show wpAny _ A.in1 (specialOf (Value.ref it) (Str.ofString "__length_hint__") >>= _) _ _ _
  refine wpAny_bind (wpAny_specialOf hT hint_lri ?_)
  generalize hid : ("list_reverseiterator.__length_hint__" : String) = id0
  wp_delta
  rw [show splitId id0 = some ("list_reverseiterator", "__length_hint__") from by subst hid; decide +kernel]
  subst hid
  refine wpAny_bind (wpAny_isInstance (b := true) hT (by rw [isSubtype_type]; kernel_rfl) ?_)
  refine wpAny_pure ?_
  rw [if_neg (by decide)]
  have e0 : ((items.size : Nat) : Int) - 1 - ((0 : Nat) : Int) = (items.size : Int) - 1 := by omega
  refine wpAny_pure ⟨plainId_quiet F.plain_extend_loop _, codeAny_extend_loopS W hn _ hSf _ items.size 0 _ _ _ rfl (Nat.zero_le _) ⟨Nat.zero_le _, by rw [e0]; exact hit, hl⟩ hS (ItemsOf.nil _) fun s' acc' c' hm hS' hacc => ?_⟩
  rw [Moved.eq_with hm]
  refine hR s'.heap s'.toks acc' c' (fun b o hb hb2 e => hm.heap b o (fun hmem => ?_) e) hS' hacc
  rcases List.mem_cons.mp hmem with e' | hmem
  · exact hb e'
  · exact hb2 (List.mem_singleton.mp hmem)
theorem rev_init {it l : Addr} {items : Array Value} {R : Result → Shared → Prop} (hh : A.handled = none) (hit : s.heap.IsRevIter it l ((items.size : Int) - 1)) (hl : s.heap.IsList l items) (hne : l ≠ it) (hn : items.size ≤ sizeLine)
    (S : Addr) (hSi : S ≠ it) (hSl : S ≠ l) (hS : s.heap.get? S = some { cls := .type "list", data := .seq #[] })
    (hR : ∀ h' tk acc' c', (∀ b o, b ≠ S → b ≠ it → s.heap.get? b = some o → h'.get? b = some o) → h'.get? S = some { cls := .type "list", dict := none, data := .seq acc' c', slots := #[] } → RevItems items acc' → R (.ok (.ret .none)) { s with heap := h', toks := tk }) :
    wpAny (model prog w) A.in1 (Builtin.«list.__init__» ⟨[.ref S, .ref it], []⟩)
      (fun fin s' => match fin with | .done f => R (.ok f) s' | .again c' => c'.quiet = true ∧ codeAny (model prog w) A c' R s') (fun e s' => R (.error e) s') s := by
  show wpAny _ _ (do let old ← Builtin.List.listItems (.ref S); Builtin.List.listUpdate (.ref S) (fun _ => #[]); letGo old.toList.reverse; Builtin.List.listExtendWith (.ref S) (.ref it) .none) _ _ s
  refine wpAny_bind ?_
  unfold Builtin.List.listItems
  refine wpAny_bind (wpAny_seqItems hS rfl (wpAny_pure ?_))
  show wpAny _ _ (updateSeq S (fun _ => #[]) >>= fun _ => letGo (#[] : Array Value).toList.reverse >>= fun _ => Builtin.List.listExtendWith (.ref S) (.ref it) .none) _ _ s
  refine wpAny_bind (wpAny_updateSeq hS rfl ?_)
  have hS2 := Heap.get?_update_self (Obj.mapSeq (fun _ => (#[] : Array Value))) hS rfl
  have oth : ∀ b o, b ≠ S → s.heap.get? b = some o → (s.heap.update S (Obj.mapSeq (fun _ => (#[] : Array Value)))).get? b = some o :=
    fun b o hb e => (Heap.get?_update_other _ _ (Ne.symm hb)).trans e
  refine wpAny_bind (wpAny_letGo ?_)
  obtain ⟨ol, hol, c1, n1, d1⟩ := id hl
  refine rev_extend (s := { s with heap := s.heap.update S (Obj.mapSeq (fun _ => (#[] : Array Value))) }) hh (hit.at fun o e => oth _ o hSi.symm e) ⟨ol, oth _ _ hSl.symm hol, c1, n1, d1⟩ hne hn S hSi hSl .none _ hS2 (fun h' tk acc' c' hk hS' hacc => ?_)
  exact hR h' tk acc' c' (fun b o hb hb2 e => hk b o hb hb2 (oth b o hb e)) hS' hacc
theorem call_list_rev {it l : Addr} {items : Array Value} {Q : Value → Shared → Prop} (hh : A.handled = none) (hit : s.heap.IsRevIter it l ((items.size : Int) - 1)) (hl : s.heap.IsList l items) (hne : l ≠ it) (hn : items.size ≤ sizeLine)
    (hQ : ∀ h' tk acc' c', (∀ b o, b ≠ it → s.heap.get? b = some o → h'.get? b = some o) → h'.get? s.heap.objs.size = some { cls := .type "list", dict := none, data := .seq acc' c', slots := #[] } → RevItems items acc' → Q (.ref s.heap.objs.size) { s with heap := h', toks := tk }) :
    wpAny (model prog w) A (call (.type "list") [.ref it]) Q E s := by
  obtain ⟨oi, hoi, ci, di⟩ := id hit
  obtain ⟨ol, hol, cl, nl, dl⟩ := id hl
  have hSi : s.heap.objs.size ≠ it := Nat.ne_of_gt (Heap.lt_size hoi)
  have hSl : s.heap.objs.size ≠ l := Nat.ne_of_gt (Heap.lt_size hol)
  refine callType_codes (Q₁ := fun obj s₁ => obj = .ref s.heap.objs.size ∧ s₁ = { s with heap := s.heap.push { cls := .type "list", data := .seq #[] } }) PySem.F.called_list (PySem.F.typeCall_list_1 _) PySem.F.entry_list_init
    (code_list_new _ ⟨rfl, rfl⟩) fun obj s₁ h₁ => ?_
  obtain ⟨rfl, rfl⟩ := h₁
  have hS : (s.heap.push { cls := .type "list", data := .seq #[] }).get? s.heap.objs.size = some { cls := .type "list", data := .seq #[] } := Heap.get?_push_size _ rfl
  refine ⟨⟨_, hS, rfl⟩, PySem.F.args_list_init_2 _ _, rev_init (A := A.in1) (s := { s with heap := s.heap.push { cls := .type "list", data := .seq #[] } }) hh (hit.at fun o e => Heap.get?_push_of_some _ e) ⟨ol, Heap.get?_push_of_some _ hol, cl, nl, dl⟩ hne hn _ hSi hSl hS (fun h' tk acc' c' hk hS' hacc => ?_)⟩
  exact ⟨rfl, hQ h' tk acc' c' (fun b o hb e => hk b o (Nat.ne_of_lt (Heap.lt_size e)) hb (Heap.get?_push_of_some _ e)) hS' hacc⟩
end
end RT
namespace L2.Rw
open PySem PySem.Spec PyProof.Rows
/-- list(reversed(xs)) -/
def tLstRev (K : PySem.W.Frag) (te : TE) : TE := fun σ H Q => te σ H fun v H1 => ∃ (a : Addr) (xs : List V), v = .ref a ∧ SqL K H1 a xs ∧ ∀ q, H1 q = none → Q (.ref q) (upd H1 q (.lst xs.reverse))
theorem pe_lstRev {X : Cx} {e : Expr} {te : TE} {p p2 pos pos2 : Pos} (hc : X.calm = true) (hg : Gl X "list") (hm : X.mg "list" = none) (hg2 : Gl X "reversed") (hm2 : X.mg "reversed" = none) (he : PE X e te)
    (hs : starEach [e] X.env = (false, eval e X.env) :: starEach [] X.env := by rfl)
    (hs2 : starEach [.Call (.Name "reversed" p2) [e] [] pos2] X.env = (false, eval (.Call (.Name "reversed" p2) [e] [] pos2) X.env) :: starEach [] X.env := by rfl) :
    PE X (.Call (.Name "list" p) [.Call (.Name "reversed" p2) [e] [] pos2] [] pos) (tLstRev X.K te) := by
  refine ⟨fun pins s σ H Q I h => ?_⟩
  refine Call_ (ld_blt I hg hm (show bootBuiltins "list" = some (.type "list") by decide +kernel) (PyProof.Rows.callWith_type1 (args_cons (Call_ (ld_blt I hg2 hm2 PyProof.Rows.boot_reversed (PyProof.Rows.callWith_type1 (args_cons (thn (he.run pins s σ H _ I h) fun u s1 ⟨v, H1, I1, r1, q1⟩ => args_nil ?_) hs) hs rfl))) hs2) hs2 rfl))
  obtain ⟨a, xs, ev, hq, q⟩ := q1
  subst ev
  obtain rfl : u = Value.ref a := r1
  obtain ⟨its, rv, p', hz⟩ := I1.list hq
  refine call_reversed_list p'.isList (args_nil ?_)
  have k0 : ∀ b o, s1.heap.get? b = some o → (s1.heap.push (revObj a ((its.toArray.size : Int) - 1))).get? b = some o := fun b o e => Heap.get?_push_of_some _ e
  have I2 : Inv X pins σ H1 { s1 with heap := s1.heap.push (revObj a ((its.toArray.size : Int) - 1)) } := I1.kept (t' := s1.toks) k0
  obtain ⟨f0, f1, f2, f3, f4, f5⟩ := I1.fpOk (H' := H1) (b := s1.heap.objs.size) (Nat.le_refl _) (I1.hok.fresh (Nat.le_refl _))
  have hl := p'.isList
  obtain ⟨ol, hol, _⟩ := id hl
  have hne : a ≠ s1.heap.objs.size := Nat.ne_of_lt (Heap.lt_size hol)
  have hn : its.toArray.size ≤ sizeLine := by rw [List.size_toArray, ← rv.length]; exact hz
  have hsz : (s1.heap.push (revObj a ((its.toArray.size : Int) - 1))).objs.size = s1.heap.objs.size + 1 := Heap.size_push _ _
  refine RT.call_list_rev (s := { s1 with heap := s1.heap.push (revObj a ((its.toArray.size : Int) - 1)) }) (I1.ok.hd hc) ⟨_, Heap.get?_push_size _ rfl, rfl, rfl⟩ (hl.push _) hne hn fun h' tk acc c' hk hS' hi => ?_
  rw [hsz] at hS' ⊢
  have nit : ∀ {b : Addr} {o : Obj}, s1.heap.get? b = some o → b ≠ s1.heap.objs.size := fun {b o} e => Nat.ne_of_lt (Heap.lt_size e)
  have hok : ObjOk X.prog X.w (upd H1 (s1.heap.objs.size + 1) (.lst xs.reverse)) h' (s1.heap.objs.size + 1) (.lst xs.reverse) :=
    ⟨by rw [List.length_reverse]; exact hz, acc.toList, c', RT.vals_rev rv hi, by rw [Array.toArray_toList]; exact hS'⟩
  exact ⟨.ref (s1.heap.objs.size + 1), _, I1.laid (t' := tk) (fun b o e => hk b o (nit e) (k0 b o e)) (Nat.le_succ _) hok, rfl, q _ (I1.hok.fresh (Nat.le_succ _))⟩
end L2.Rw

/-! text RcR3 -/
namespace L2.Rw
open PySem PySem.Spec PyProof.Rows
/-! ### set(xs), xs a list of ints -/
abbrev set0 (w : World) : Obj := { cls := .type "set", dict := none, data := .set #[] 0 (.fresh 0 0 (!w.params.followText "set-order")) }
/-- what is left behind set.__init__ -/
def SetMade (w : World) (h : Heap) (ns : List Int) (h' : Heap) (c : Nat) : Prop := SetR w h' h.objs.size (fun j => decide (j ∈ ns)) c ∧ c ≤ ns.length ∧ ∀ b o, h.get? b = some o → h'.get? b = some o
section
variable {P : Program} {w : World} {A : Around} {E : Value → Shared → Prop} {s : Shared}
set_option maxHeartbeats 8000000 in
theorem call_set_lstI {l : Addr} {items : Array Value} (ns : List Int) {Q : Value → Shared → Prop} (hh : A.handled = none) (hl : s.heap.IsList l items) (hit : IntsAre items.toList ns) (hb : ns.length + 1 < scanBound)
    (h : ∀ (h' : Heap) (tk c : Nat), SetMade w s.heap ns h' c → Q (.ref s.heap.objs.size) { s with heap := h', toks := tk }) : wpAny (model P w) A (call (.type "set") [.ref l]) Q E s := by
  have hisz : items.size = ns.length := by rw [← Array.length_toList]; exact IntsAre.length hit
  obtain ⟨c, tl, hmro⟩ := F.called_set.mro
  have m1 := F.called_set.made
  have m2 := F.called_set.sub
  have m3 := F.called_set.notType
  have m4 := F.called_set.canCreate
  have m5 := F.typeCall_set_1 (.ref l)
  refine wpAny_call (codeAny_of_tree ?_)
  show wpAny _ _ (callAny (.type "set") _) _ _ _
  refine wpAny_pure ⟨Code.quiet_builtin _ (by decide +kernel), codeAny_builtin F.entry_type_call ?_⟩
  rw [Around.under_plain (weight_type_call_type "set" [.ref l] []) rfl]
  repeat (any_goals (first | assumption | wp_step))
  refine codeAny_mono (code_set_led1 (.ref l) (E := E) (Q₁ := fun obj t => obj = .ref s.heap.objs.size ∧ t = { s with heap := s.heap.push (set0 w) }) ⟨rfl, rfl⟩) fun r t hr => ?_
  match r, hr with
  | .error e, hr => exact hr
  | .ok .next, hr => exact hr.elim
  | .ok .brk, hr => exact hr.elim
  | .ok .cont, hr => exact hr.elim
  | .ok (.ret obj), hr =>
    obtain ⟨rfl, rfl⟩ := hr
    have hS : (s.heap.push (set0 w)).get? s.heap.objs.size = some (set0 w) := Heap.get?_push_size _ rfl
    have hT : Shared.TypeIs { s with heap := s.heap.push (set0 w) } (.ref s.heap.objs.size) "set" := ⟨_, hS, rfl⟩
    have m6 := F.called_set.init.lookup
    have m7 := F.called_set.init.bind (.ref s.heap.objs.size)
    repeat (any_goals (first | assumption | wp_step))
    refine codeAny_mono (codeAny_call_builtin (R := wants (fun r t => r = .none ∧ ∃ h' tk c, t = { s with heap := h', toks := tk } ∧ SetMade w s.heap ns h' c) E) F.called_set.init.plain F.entry_set_init (check_set_init_1 hT ?_)) fun r2 t2 hr2 => ?_
    · obtain ⟨⟨ocls, odict, odata, oslots⟩, hol, hcl, nl, hdl⟩ := hl
      simp only at hcl hdl
      subst hcl; subst hdl
      have hol' : (s.heap.push (set0 w)).get? l = some { cls := .type "list", dict := odict, data := .seq items nl, slots := oslots } := Heap.get?_push_of_some _ hol
      have m8 := F.sub_list_set
      have m9 := F.sub_list_frozenset
      have m10 : (Value.type "list" == Value.type "dict") = false := by decide
      have hl1 : (s.heap.push (set0 w)).IsList l items := ⟨_, hol', rfl, nl, rfl⟩
      unfold Builtin.«set.__init__» noKeywords Builtin.Frozenset.updateFrom
      generalize hPI : pyIter = PI
      wp_walk
      subst hPI
      refine wpAny_pyIter_list hl1 ?_
      refine wpAny_bind (wpAny_runValue ?_)
      have hlS : l < s.heap.objs.size := Heap.lt_size hol
      have sz : (s.heap.push (set0 w)).objs.size = s.heap.objs.size + 1 := Heap.size_push ..
      have n1 : l ≠ (s.heap.push (set0 w)).objs.size := by rw [sz]; exact Nat.ne_of_lt (Nat.lt_succ_of_lt hlS)
      have n2 : s.heap.objs.size ∉ [(s.heap.push (set0 w)).objs.size, l] := by
        rw [sz]
        simp only [List.mem_cons, List.not_mem_nil, or_false, not_or]
        exact ⟨Nat.ne_of_lt (Nat.lt_succ_self _), Nat.ne_of_gt hlS⟩
      refine set_update_ints ((Walks.list (show A.in1.in1.in1.handled = none by simp [hh]) _ l n1 items).toS) s.heap.objs.size n2 ns hisz hb (fun i v hv => ?_) (items.size - 0) 0 _ (by omega) (Nat.zero_le _)
        ⟨⟨_, Heap.get?_push_size _ rfl, rfl, rfl⟩, (hl1.push _)⟩ ⟨0, Nat.le_refl 0, setR_new_at (Heap.get?_push_of_some _ hS)⟩ fun s' c' hm hc' hS' => ?_
      · have hi : i < ns.length := by rw [← hisz]; exact (Array.getElem?_eq_some_iff.mp hv).1
        obtain ⟨t, e⟩ := IntsAre.int_at hit i v (by rw [Array.getElem?_toList]; exact hv)
        refine ⟨ns[i], t, List.getElem?_eq_getElem hi, ?_⟩
        rw [e, List.getD_eq_getElem?_getD, List.getElem?_eq_getElem hi] <;> rfl
      · obtain ⟨h', g2, d', tk', os'⟩ := s'
        have eg : g2 = s.gens := hm.gens
        have ed : d' = s.drawn := hm.drawn
        have eo : os' = s.os := hm.os
        subst eg; subst ed; subst eo
        refine wpAny_pure ?_
        show wpAny _ _ (ret Value.none) _ _ _
        rw [hisz] at hc'
        refine wpAny_pure ⟨rfl, h', tk', c', rfl, hS', hc', fun b o e => ?_⟩
        have b0 : b < s.heap.objs.size := Heap.lt_size e
        exact hm.heap b o (by rw [sz]; simp only [List.mem_cons, List.not_mem_nil, or_false, not_or]; exact ⟨Nat.ne_of_lt b0, Nat.ne_of_lt (Nat.lt_succ_of_lt b0)⟩) (Heap.get?_push_of_some _ (Heap.get?_push_of_some _ e))
    · match r2, hr2 with
      | .error e, hr2 => exact hr2
      | .ok .next, hr2 => exact hr2.elim
      | .ok .brk, hr2 => exact hr2.elim
      | .ok .cont, hr2 => exact hr2.elim
      | .ok (.ret r), hr2 =>
        obtain ⟨rfl, h', tk, c', rfl, hq⟩ := hr2
        repeat (any_goals (first | assumption | wp_step))
        exact h _ _ _ hq
end
/-- a set has no more members than there are numbers that they may be -/
theorem setR_card {w : World} {h : Heap} {a : Addr} {ns : List Int} {c : Nat} {m : Nat} (R : SetR w h a (fun j => decide (j ∈ ns)) c) (hm : ∀ j ∈ ns, 0 ≤ j ∧ j < m) : c ≤ m := by
  obtain ⟨o, es, ep, t, _, _, _, _, nd, mem, _, _, hn, _⟩ := R
  have h := nd.length_le_of_subset (l₂ := (List.range m).map fun (i : Nat) => (i : Int)) fun k hk => by
    have := of_decide_eq_true ((mem k).mpr hk)
    obtain ⟨h1, h2⟩ := hm k this
    exact List.mem_map.mpr ⟨k.toNat, List.mem_range.mpr (by omega), by omega⟩
  rw [List.length_map, List.length_map, List.length_range, Array.length_toList] at h
  omega
/-- set(xs), xs a list of ints -/
def rSetL (K : PySem.W.Frag) (w : World) : List V → Hp → VK → Prop := fun vs H Q => ∃ (a : Addr) (ns : List Int), vs = [.ref a] ∧ SqL K H a (ns.map V.int) ∧ ns.length + 1 < scanBound ∧
  ∀ p c, H p = none → c ≤ ns.length → (∀ m : Nat, (∀ j ∈ ns, 0 ≤ j ∧ j < m) → c ≤ m) → Q (.ref p) (upd H p (SetO w p (fun j => decide (j ∈ ns)) c))
theorem cr_setL {X : Cx} (hc : X.calm = true) : CallR X (.type "set") (rSetL X.K X.w) := by
  intro pins s σ H vs us Q I r h
  obtain ⟨a, ns, rfl, hs, hb, q⟩ := h
  obtain ⟨its, rv, hl, hz⟩ := I.list hs
  rw [Vals.ref1 r]
  refine call_set_lstI ns (I.ok.hd hc) hl.isList (by simpa using rv.ints) hb fun h' tk c ⟨m1, m2, m3⟩ => ?_
  exact ⟨.ref _, _, I.laid (t' := tk) m3 (Nat.le_refl _) (setO_new m1), rfl, q _ c (I.hok.fresh (Nat.le_refl _)) m2 fun m hm => setR_card m1 hm⟩
end L2.Rw

/-! text RcR4 -/
namespace L2.Rw
open PySem PySem.Spec PyProof.Rows
/-- d != {} -/
def rNeE : R2 := fun x y H Q => ∃ a b ks, x = .ref a ∧ y = .ref b ∧ H a = some (.dK ks) ∧ H b = some (.dK []) ∧ Q (.bl (!ks.isEmpty)) H
theorem op_ne_empty {X : Cx} (hu : X.A.units < cLine) : OpR X (compareOp .NotEq) rNeE := by
  intro pins s σ H x y v u Q I rx ry h
  obtain ⟨a, b, ks, rfl, rfl, ea, eb, q⟩ := h
  obtain rfl : v = Value.ref a := rx
  obtain rfl : u = Value.ref b := ry
  obtain ⟨_, ya, va, ra, da⟩ := (show ObjOk X.prog X.w H s.heap a (.dK ks) from I.hok a _ ea)
  obtain ⟨_, yb, vb, rb, db⟩ := (show ObjOk X.prog X.w H s.heap b (.dK []) from I.hok b _ eb)
  cases rb
  have hl := ra.length
  refine PySem.W.keq_ne (knd := mixKind X.prog X.w) (r := true) ya yb da db hu (fun e => ?_) (fin_bl I q ?_)
  · rw [List.length_eq_zero_iff.mp e]
    exact .nil
  · cases ks with
    | nil => rw [← hl]; rfl
    | cons k ks => rw [← hl]; rfl
end L2.Rw

/-! text Wk1 -/
namespace L2.Rw
open PySem PySem.Spec PyProof.Rows
/-! ### the text by places; the classes; lookups -/
def top (i : Nat) : Stmt := PySem.Challenge.pw_rolledcube_s01_answers.main.body.getD i (.Pass ⟨0, 0, 0, 0⟩)
/-- where the classes stand -/
structure Kls where
  D : Addr
  G : Addr
  L : Addr
  W : Addr
  R : Addr
  C : Addr
  H : Addr
  F : Addr
theorem lk_here {k : Str} {v : V} {r : List (Str × V)} : List.lookup k ((k, v) :: r) = some v := by
  have e : (k == k) = true := beq_self_eq_true k
  simp only [List.lookup, e]
theorem lk_past {k g : Str} {v : V} {r : List (Str × V)} (h : (k == g) = false) : List.lookup k ((g, v) :: r) = List.lookup k r := by
  simp only [List.lookup, h]
theorem put_here {f : Str} {v x : V} {r : List (Str × V)} : putF f v ((f, x) :: r) = (f, v) :: r := if_pos rfl
theorem put_past {f g : Str} {v x : V} {r : List (Str × V)} (h : ¬ g = f) : putF f v ((g, x) :: r) = (g, x) :: putF f v r := if_neg h
theorem if_true_of {c : Bool} {A B : Prop} (hc : c = true) (h : A) : if c = true then A else B := by
  rw [if_pos hc]
  exact h
theorem if_false_of {c : Bool} {A B : Prop} (hc : c = false) (h : B) : if c = true then A else B := by
  rw [hc, if_neg Bool.false_ne_true]
  exact h
/-- a new instance with its fields -/
def mk (H : Hp) (C x dx : Addr) (fs : List (Str × V)) : Hp := upd (upd H dx (.own x)) x (.ins C dx fs)
theorem mk_of {H : Hp} {C x dx : Addr} {fs fs' : List (Str × V)} : upd (mk H C x dx fs) x (.ins C dx fs') = mk H C x dx fs' := upd_upd
theorem mk_at {H : Hp} {C x dx : Addr} {fs : List (Str × V)} : mk H C x dx fs x = some (.ins C dx fs) := upd_same
theorem mk_same {H : Hp} {C x dx : Addr} {fs : List (Str × V)} (nx : H x = none) (nd : H dx = none) : Same H (mk H C x dx fs) := fun b o e => by
  unfold mk
  rw [upd_ne (ne_of_none e nx), upd_ne (ne_of_none e nd)]
  exact e
theorem upd_same_of {H : Hp} {p : Addr} {o : HO} (n : H p = none) : Same H (upd H p o) := fun b u e => by
  rw [upd_ne (ne_of_none e n)]
  exact e
/-! ### a die's record -/
abbrev Tri := Nat × Nat × Nat
def dF (t n e : V) : List (Str × V) := [("top", t), ("north", n), ("east", e)]
theorem dF_top (t n e : V) : (dF t n e).lookup ("top" : Str) = some t := lk_here
theorem dF_north (t n e : V) : (dF t n e).lookup ("north" : Str) = some n := (lk_past (by decide +kernel)).trans lk_here
theorem dF_east (t n e : V) : (dF t n e).lookup ("east" : Str) = some e := (lk_past (by decide +kernel)).trans ((lk_past (by decide +kernel)).trans lk_here)
theorem dF_numbers (t n e : V) : (dF t n e).lookup ("numbers" : Str) = none := (lk_past (by decide +kernel)).trans ((lk_past (by decide +kernel)).trans ((lk_past (by decide +kernel)).trans rfl))
theorem dF_put (t n e : V) : putF "east" e (putF "north" n (putF "top" t [])) = dF t n e := by
  show putF "east" e (putF "north" n [("top", t)]) = _
  rw [put_past (by decide +kernel)]
  show putF "east" e [("top", t), ("north", n)] = _
  rw [put_past (by decide +kernel), put_past (by decide +kernel)]
  rfl
def dV (x : Tri) : List (Str × V) := dF (.int x.1) (.int x.2.1) (.int x.2.2)
def DieAt (k : Kls) (H : Hp) (a : Addr) (x : Tri) : Prop := ∃ dx, H a = some (.ins k.D dx (dV x))
theorem DieAt.same {k : Kls} {H H' : Hp} {a : Addr} {x : Tri} (h : DieAt k H a x) (s : Same H H') : DieAt k H' a x := let ⟨dx, e⟩ := h; ⟨dx, s _ _ e⟩
structure TDie (K : PySem.W.Frag) (mg : Str → Option Value) (k : Kls) : Prop where
  cl : Cls K k.D
  n1 : NoAttr K k.D "top"
  n2 : NoAttr K k.D "north"
  n3 : NoAttr K k.D "east"
  g : mg "Die" = some (.ref k.D)
def spDieI (k : Kls) : Sp := fun vs H Q _ => ∃ (p dx : Addr) (t n e : V), vs = [.ref p, t, n, e] ∧ H p = some (.ins k.D dx []) ∧ Q .non (upd H p (.ins k.D dx (dF t n e)))
/-- Die(..) -/
theorem make_die {k : Kls} {H : Hp} {Q : VK} {E : XK} {x : Tri} {t n e : Int} (e1 : t = x.1) (e2 : n = x.2.1) (e3 : e = x.2.2) (h : ∀ p H', H p = none → Same H H' → DieAt k H' p x → Q (.ref p) H') :
    ∀ p dx, H p = none → H dx = none → dx ≠ p → spDieI k (V.ref p :: ([.int t, .int n, .int e] ++ [])) (upd (upd H dx (.own p)) p (.ins k.D dx [])) (fun _ H' => Q (.ref p) H') E := by
  intro p dx np nd ne
  refine ⟨p, dx, _, _, _, rfl, upd_same, ?_⟩
  subst e1 e2 e3
  rw [upd_upd]
  exact h p _ np (mk_same np nd) ⟨dx, upd_same⟩
/-- numbers() -/
def TriAt (H : Hp) (p : Addr) (x : Tri) : Prop := H p = some (.tup [.int x.1, .int x.2.1, .int x.2.2])
def spNums (k : Kls) : Sp := fun vs H Q _ => ∃ (a : Addr) (x : Tri), vs = [.ref a] ∧ DieAt k H a x ∧ ∀ p H', H p = none → Same H H' → TriAt H' p x → Q (.ref p) H'
section
variable {P : Program} {w : World} {K : PySem.W.Frag} {mg : Str → Option Value} {base : Heap} {k : Kls}
abbrev sDieI : Stmt := inClass (top 5) 0
theorem scDieI : FnScope ["self", "top", "north", "east"] ["self", "top", "north", "east"] (defScope sDieI) := ⟨rfl, rfl, rfl, by decide +kernel, rfl, by decide +kernel, by decide +kernel⟩
theorem ok_DieI {f : Addr} {fd : FuncData} (F : Fun K "__init__" "Die.__init__" sDieI f fd) (T : TDie K mg k) : FnOk P w K mg base CX0 1 f fd ["self", "top", "north", "east"] (spDieI k) := by
  refine F.ok scDieI (fun vs H Q E h => ?_) (fun cdv A outer s H vs Q E hr h => ⟨_, pss_cons (ps_fld (pv 0) (pv 1) rfl) (pss_cons (ps_fld (pv 0) (pv 2) rfl) (pss_one (ps_fld (pv 0) (pv 3) rfl))), ?_⟩)
  · obtain ⟨p, dx, t, n, e, rfl, _⟩ := h
    rfl
  · obtain ⟨p, dx, t, n, e, rfl, hp, q⟩ := h
    refine ⟨_, rfl, _, rfl, p, k.D, dx, [], rfl, hp, T.cl, T.n1, (by show 0 < 1000; decide), ?_⟩
    refine ⟨_, rfl, _, rfl, p, k.D, dx, _, rfl, upd_same, T.cl, T.n2, (by show 1 < 1000; decide), ?_⟩
    refine ⟨_, rfl, _, rfl, p, k.D, dx, _, rfl, upd_same, T.cl, T.n3, (by show 2 < 1000; decide), ?_⟩
    rw [upd_upd, upd_upd]
    rw [show putF "east" e (putF "north" n (putF "top" t [])) = dF t n e from dF_put t n e]
    exact q
abbrev sNums : Stmt := inClass (top 5) 1
theorem scNums : FnScope ["self"] ["self"] (defScope sNums) := ⟨rfl, rfl, rfl, by decide +kernel, rfl, by decide +kernel, by decide +kernel⟩
theorem ok_nums {f : Addr} {fd : FuncData} (F : Fun K "numbers" "Die.numbers" sNums f fd) (T : TDie K mg k) : FnOk P w K mg base CX0 1 f fd ["self"] (spNums k) := by
  refine F.ok scNums (fun vs H Q E h => ?_) (fun cdv A outer s H vs Q E hr h => ⟨_, pss_one (ps_ret (pe_tup (pa_cons (pe_fld (pv 0) rfl) (pa_cons (pe_fld (pv 0) rfl) (pa_cons (pe_fld (pv 0) rfl) pa_nil))))), ?_⟩)
  · obtain ⟨a, x, rfl, _⟩ := h
    rfl
  · obtain ⟨a, x, rfl, ⟨dx, ha⟩, q⟩ := h
    refine ⟨_, rfl, a, k.D, dx, _, _, rfl, ha, T.cl, T.n1, dF_top _ _ _, ?_⟩
    refine ⟨_, rfl, a, k.D, dx, _, _, rfl, ha, T.cl, T.n2, dF_north _ _ _, ?_⟩
    refine ⟨_, rfl, a, k.D, dx, _, _, rfl, ha, T.cl, T.n3, dF_east _ _ _, (by show 3 ≤ sizeLine; decide), fun p np => ?_⟩
    exact q p _ np (upd_same_of np) upd_same
end
end L2.Rw

/-! text Wk2 -/
namespace L2.Rw
open PySem PySem.Spec PyProof.Rows
/-! ### two lists, place by place -/
structure All2 {α β : Type} (R : α → β → Prop) (rs : List α) (l : List β) : Prop where
  len : rs.length = l.length
  get : ∀ (i : Nat) (r : α) (x : β), rs[i]? = some r → l[i]? = some x → R r x
theorem All2.nil {α β : Type} {R : α → β → Prop} : All2 R [] [] := ⟨rfl, fun i r x h => by simp at h⟩
theorem All2.at {α β : Type} {R : α → β → Prop} {rs : List α} {l : List β} (h : All2 R rs l) {i : Nat} {x : β} (e : l[i]? = some x) : ∃ r, rs[i]? = some r ∧ R r x := by
  have hi : i < rs.length := by rw [h.len]; exact (List.getElem?_eq_some_iff.mp e).1
  exact ⟨rs[i], List.getElem?_eq_getElem hi, h.get i _ _ (List.getElem?_eq_getElem hi) e⟩
theorem All2.at' {α β : Type} {R : α → β → Prop} {rs : List α} {l : List β} (h : All2 R rs l) {i : Nat} {r : α} (e : rs[i]? = some r) : ∃ x, l[i]? = some x ∧ R r x := by
  have hi : i < l.length := by rw [← h.len]; exact (List.getElem?_eq_some_iff.mp e).1
  exact ⟨l[i], List.getElem?_eq_getElem hi, h.get i _ _ e (List.getElem?_eq_getElem hi)⟩
theorem All2.mono {α β : Type} {R S : α → β → Prop} {rs : List α} {l : List β} (h : All2 R rs l) (m : ∀ r x, R r x → S r x) : All2 S rs l := ⟨h.len, fun i r x a b => m _ _ (h.get i r x a b)⟩
theorem All2.snoc {α β : Type} {R : α → β → Prop} {rs : List α} {l : List β} (h : All2 R rs l) {r : α} {x : β} (q : R r x) : All2 R (rs ++ [r]) (l ++ [x]) := by
  refine ⟨by rw [List.length_append, List.length_append, h.len]; rfl, fun i r' x' a b => ?_⟩
  by_cases hi : i < rs.length
  · rw [List.getElem?_append_left hi] at a
    rw [List.getElem?_append_left (by rw [← h.len]; exact hi)] at b
    exact h.get i _ _ a b
  · rw [List.getElem?_append_right (by omega)] at a
    rw [List.getElem?_append_right (by rw [← h.len]; omega)] at b
    have hz : i - rs.length = 0 := by
      have := (List.getElem?_eq_some_iff.mp a).1
      simp at this
      omega
    rw [hz] at a
    rw [← h.len, hz] at b
    cases a
    cases b
    exact q
theorem map_ref_at {rs : List Addr} {i : Nat} {r : Addr} (h : rs[i]? = some r) : (rs.map V.ref)[i]? = some (V.ref r) := by rw [List.getElem?_map, h]; rfl
/-- keys -/
def k3 (x : Tri) : NestedKey := .tup [.num x.1, .num x.2.1, .num x.2.2]
theorem k3_inj {x y : Tri} (h : k3 x = k3 y) : x = y := by
  unfold k3 at h
  have h1 := NestedKey.tup.inj h
  have a := List.cons.inj h1
  have b := List.cons.inj a.2
  have c := List.cons.inj b.2
  have a' := NestedKey.num.inj a.1
  have b' := NestedKey.num.inj b.1
  have c' := NestedKey.num.inj c.1
  obtain ⟨x1, x2, x3⟩ := x
  obtain ⟨y1, y2, y3⟩ := y
  dsimp only at a' b' c'
  rw [show x1 = y1 by omega, show x2 = y2 by omega, show x3 = y3 by omega]
theorem k3_mem {x : Tri} {l : List Tri} : k3 x ∈ l.map k3 ↔ x ∈ l := by
  rw [List.mem_map]
  exact ⟨fun ⟨y, hy, e⟩ => by rw [← k3_inj e]; exact hy, fun h => ⟨x, h, rfl⟩⟩
theorem k3_depth (x : Tri) : (k3 x).depth ≤ 8 := by
  have e : (k3 x).depth = 1 := rfl
  omega
theorem TriAt.key {H : Hp} {p : Addr} {x : Tri} (h : TriAt H p x) : VKey H (k3 x) (.ref p) := .tup h (.cons (.num _) (.cons (.num _) (.cons (.num _) .nil)))
theorem TriAt.same {H H' : Hp} {p : Addr} {x : Tri} (h : TriAt H p x) (s : Same H H') : TriAt H' p x := s _ _ h
/-! ### rolls of a die -/
structure TWays (K : PySem.W.Frag) (mg : Str → Option Value) : Prop where
  n : ∃ t, mg "NORTH" = some (.int 0 t)
  e : ∃ t, mg "EAST" = some (.int 1 t)
  s : ∃ t, mg "SOUTH" = some (.int 2 t)
  w : ∃ a, mg "WAYS" = some (.ref a) ∧ ∀ H, SqT K H a [.int 0, .int 1, .int 2, .int 3]
  len : mg "len" = none
theorem dec_nat {i j : Nat} : decide (V.int (i : Int) = V.int (j : Int)) = decide (i = j) := by
  by_cases h : i = j
  · subst h; simp
  · rw [decide_eq_false h, decide_eq_false]
    intro e
    exact h (by have := V.int.inj e; omega)
def spFirst (k : Kls) : Sp := fun vs H Q _ => vs = [] ∧ ∀ p H', H p = none → Same H H' → DieAt k H' p (1, 2, 3) → Q (.ref p) H'
def spRolled (k : Kls) : Sp := fun vs H Q _ => ∃ (a : Addr) (x : Tri) (w : Nat), vs = [.ref a, .int w] ∧ w < 4 ∧ x ∈ Rc.lyings ∧ DieAt k H a x ∧ ∀ p H', H p = none → Same H H' → DieAt k H' p (Rc.lyNext x w) → Q (.ref p) H'
theorem mk_die {k : Kls} {H : Hp} {Q : VK} {E : XK} {x : Tri} {t n e : Int} (e1 : t = x.1) (e2 : n = x.2.1) (e3 : e = x.2.2) (h : ∀ p H', H p = none → Same H H' → DieAt k H' p x → Q (.ref p) H') :
    ∀ p dx, H p = none → H dx = none → dx ≠ p → spDieI k (V.ref p :: ([.int t, .int n, .int e] ++ [])) (upd (upd H dx (.own p)) p (.ins k.D dx [])) (fun v H' => v = .non ∧ Q (.ref p) H') E := by
  intro p dx np nd ne
  refine ⟨p, dx, _, _, _, rfl, upd_same, rfl, ?_⟩
  subst e1 e2 e3
  rw [upd_upd]
  exact h p _ np (mk_same np nd) ⟨dx, upd_same⟩
section
variable {P : Program} {w : World} {K : PySem.W.Frag} {mg : Str → Option Value} {base : Heap} {k : Kls} {fI : Addr} {fdI : FuncData}
abbrev sFirst : Stmt := top 6
theorem scFirst : FnScope [] [] (defScope sFirst) := ⟨rfl, rfl, rfl, by decide +kernel, rfl, by decide +kernel, by decide +kernel⟩
theorem ok_first {f : Addr} {fd : FuncData} (F : Fun K "first_die" "first_die" sFirst f fd) (T : TDie K mg k) (M : Mk K k.D fI) (GI : FnOk P w K mg base CX0 1 fI fdI ["self", "top", "north", "east"] (spDieI k)) (bI : Binds K fdI ["self", "top", "north", "east"] []) :
    FnOk P w K mg base CX0 3 f fd [] (spFirst k) := by
  refine F.ok scFirst (fun vs H Q E h => ?_) (fun cdv A outer s H vs Q E hr h => ⟨_, pss_one (ps_ret (pe_make M GI hr rfl T.g bI .nil pass0 (pa_cons pe_int (pa_cons pe_int (pa_cons pe_int pa_nil))))), ?_⟩)
  · obtain ⟨rfl, _⟩ := h
    rfl
  · obtain ⟨rfl, q⟩ := h
    exact mk_die (x := (1, 2, 3)) rfl rfl rfl q
abbrev sRolled : Stmt := top 7
theorem scRolled : FnScope ["die", "way"] ["die", "way"] (defScope sRolled) := ⟨rfl, rfl, rfl, by decide +kernel, rfl, by decide +kernel, by decide +kernel⟩
theorem ok_rolled {f : Addr} {fd : FuncData} (F : Fun K "rolled" "rolled" sRolled f fd) (T : TDie K mg k) (TW : TWays K mg) (M : Mk K k.D fI) (GI : FnOk P w K mg base CX0 1 fI fdI ["self", "top", "north", "east"] (spDieI k)) (bI : Binds K fdI ["self", "top", "north", "east"] []) :
    FnOk P w K mg base CX0 3 f fd ["die", "way"] (spRolled k) := by
  obtain ⟨tn, gn⟩ := TW.n
  obtain ⟨te, ge⟩ := TW.e
  obtain ⟨ts, gs⟩ := TW.s
  refine F.ok scRolled (fun vs H Q E h => ?_) (fun cdv A outer s H vs Q E hr h => ⟨_,
    pss_cons (ps_if (pt_cmpR op_eq (pv 1) (pe_glob (v := .int 0) rfl gn ⟨_, rfl⟩) (nomark _)) (pss_one (ps_ret (pe_make M GI hr rfl T.g bI .nil pass0 (pa_cons (pe_op op_sub pe_int (pe_fld (pv 0) rfl)) (pa_cons (pe_fld (pv 0) rfl) (pa_cons (pe_fld (pv 0) rfl) pa_nil)))))) pss_nil)
    (pss_cons (ps_if (pt_cmpR op_eq (pv 1) (pe_glob (v := .int 2) rfl gs ⟨_, rfl⟩) (nomark _)) (pss_one (ps_ret (pe_make M GI hr rfl T.g bI .nil pass0 (pa_cons (pe_fld (pv 0) rfl) (pa_cons (pe_op op_sub pe_int (pe_fld (pv 0) rfl)) (pa_cons (pe_fld (pv 0) rfl) pa_nil)))))) pss_nil)
    (pss_cons (ps_if (pt_cmpR op_eq (pv 1) (pe_glob (v := .int 1) rfl ge ⟨_, rfl⟩) (nomark _)) (pss_one (ps_ret (pe_make M GI hr rfl T.g bI .nil pass0 (pa_cons (pe_op op_sub pe_int (pe_fld (pv 0) rfl)) (pa_cons (pe_fld (pv 0) rfl) (pa_cons (pe_fld (pv 0) rfl) pa_nil)))))) pss_nil)
    (pss_one (ps_ret (pe_make M GI hr rfl T.g bI .nil pass0 (pa_cons (pe_fld (pv 0) rfl) (pa_cons (pe_fld (pv 0) rfl) (pa_cons (pe_op op_sub pe_int (pe_fld (pv 0) rfl)) pa_nil)))))))), ?_⟩)
  · obtain ⟨a, x, w, rfl, _⟩ := h
    rfl
  · obtain ⟨a, x, w, rfl, hw, hx, ⟨dx, ha⟩, q⟩ := h
    have r := Rc.ly_range x hx
    refine ⟨_, rfl, rfl, _, rfl, ?_⟩
    by_cases c0 : w = 0
    · refine if_true_of (by subst c0; rfl) ?_
      refine ⟨_, rfl, a, k.D, dx, _, _, rfl, ha, T.cl, T.n2, dF_north _ _ _, _, _, rfl, rfl, _, rfl, a, k.D, dx, _, _, rfl, ha, T.cl, T.n1, dF_top _ _ _, _, rfl, a, k.D, dx, _, _, rfl, ha, T.cl, T.n3, dF_east _ _ _, ?_⟩
      refine mk_die (x := Rc.lyNext x w) ?_ ?_ ?_ q <;> subst c0 <;> simp only [Rc.lyNext, if_pos] <;> omega
    refine if_false_of (by rw [show (V.int 0) = V.int ((0 : Nat) : Int) from rfl, dec_nat]; exact decide_eq_false c0) ?_
    refine ⟨_, rfl, rfl, _, rfl, ?_⟩
    by_cases c2 : w = 2
    · refine if_true_of (by subst c2; rfl) ?_
      refine ⟨_, rfl, a, k.D, dx, _, _, rfl, ha, T.cl, T.n2, dF_north _ _ _, _, rfl, a, k.D, dx, _, _, rfl, ha, T.cl, T.n1, dF_top _ _ _, _, _, rfl, rfl, _, rfl, a, k.D, dx, _, _, rfl, ha, T.cl, T.n3, dF_east _ _ _, ?_⟩
      refine mk_die (x := Rc.lyNext x w) ?_ ?_ ?_ q <;> subst c2 <;> simp [Rc.lyNext] <;> omega
    refine if_false_of (by rw [show (V.int 2) = V.int ((2 : Nat) : Int) from rfl, dec_nat]; exact decide_eq_false c2) ?_
    refine ⟨_, rfl, rfl, _, rfl, ?_⟩
    by_cases c1 : w = 1
    · refine if_true_of (by subst c1; rfl) ?_
      refine ⟨_, rfl, a, k.D, dx, _, _, rfl, ha, T.cl, T.n3, dF_east _ _ _, _, _, rfl, rfl, _, rfl, a, k.D, dx, _, _, rfl, ha, T.cl, T.n2, dF_north _ _ _, _, rfl, a, k.D, dx, _, _, rfl, ha, T.cl, T.n1, dF_top _ _ _, ?_⟩
      refine mk_die (x := Rc.lyNext x w) ?_ ?_ ?_ q <;> subst c1 <;> simp [Rc.lyNext] <;> omega
    refine if_false_of (by rw [show (V.int 1) = V.int ((1 : Nat) : Int) from rfl, dec_nat]; exact decide_eq_false c1) ?_
    refine ⟨_, rfl, a, k.D, dx, _, _, rfl, ha, T.cl, T.n3, dF_east _ _ _, _, rfl, a, k.D, dx, _, _, rfl, ha, T.cl, T.n2, dF_north _ _ _, _, rfl, a, k.D, dx, _, _, rfl, ha, T.cl, T.n1, dF_top _ _ _, _, _, rfl, rfl, ?_⟩
    refine mk_die (x := Rc.lyNext x w) ?_ ?_ ?_ q <;> simp [Rc.lyNext, c0, c1, c2] <;> omega
end
end L2.Rw

/-! text Wk3 -/
namespace L2.Rw
open PySem PySem.Spec PyProof.Rows
theorem hu9 {A : Around} {j : Nat} (hr : Room j A) : A.units + 9 < cLine := Nat.lt_of_le_of_lt (Nat.add_le_add_left (by decide : 9 ≤ 64) _) hr.units
def spAllD (k : Kls) : Sp := fun vs H Q _ => vs = [] ∧ ∀ (p : Addr) (rs : List Addr) (H' : Hp), H p = none → Same H H' → H' p = some (.lst (rs.map V.ref)) → All2 (DieAt k H') rs Rc.lyings → Q (.ref p) H'
/-- what all_dice has, from the heap H0: the list at p, the dict at d -/
structure AllInv (P : Program) (w : World) (k : Kls) (H0 : Hp) (p d : Addr) (l : List Tri) (H : Hp) : Prop where
  np : H0 p = none
  nd : H0 d = none
  same : Same H0 H
  lst : ∃ rs, H p = some (.lst (rs.map V.ref)) ∧ All2 (DieAt k H) rs l
  dic : DNAt P w H d (l.map k3)
theorem AllInv.move {P : Program} {w : World} {k : Kls} {H0 H H' : Hp} {p d : Addr} {l : List Tri} (h : AllInv P w k H0 p d l H) (s : Same H H') : AllInv P w k H0 p d l H' := by
  obtain ⟨rs, e, a⟩ := h.lst
  obtain ⟨xs, e1, _⟩ := id h.dic
  exact ⟨h.np, h.nd, h.same.trans s, ⟨rs, s _ _ e, a.mono fun r x q => q.same s⟩, h.dic.mono ((s _ _ e1).trans e1.symm) (.of_same s)⟩
theorem DNAt.not_lst {P : Program} {w : World} {H : Hp} {d p : Addr} {ks : List NestedKey} {xs : List V} (h : DNAt P w H d ks) (e : H p = some (.lst xs)) : p ≠ d := by
  obtain ⟨ys, e1, _⟩ := h
  exact ne_of e e1 (DN_ne fun φ z => by cases z)
theorem DNAt.not_ins {P : Program} {w : World} {H : Hp} {d p C dx : Addr} {ks : List NestedKey} {fs : List (Str × V)} (h : DNAt P w H d ks) (e : H p = some (.ins C dx fs)) : p ≠ d := by
  obtain ⟨ys, e1, _⟩ := h
  exact ne_of e e1 (DN_ne fun φ z => by cases z)
theorem DNAt.ne_free {P : Program} {w : World} {H : Hp} {d p : Addr} {ks : List NestedKey} (h : DNAt P w H d ks) (e : H p = none) : d ≠ p := by
  obtain ⟨ys, e1, _⟩ := h
  exact ne_of_none e1 e
theorem same_but {H0 H H' : Hp} {d : Addr} (s : Same H0 H) (n : H0 d = none) (kp : ∀ c, c ≠ d → H' c = H c) : Same H0 H' := fun b o e => by
  rw [kp _ (ne_of_none e n)]
  exact s b o e
theorem ways_at {i : Nat} {y : V} (h : ([.int 0, .int 1, .int 2, .int 3] : List V)[i]? = some y) : i < 4 ∧ y = .int (i : Nat) := by
  match i, h with
  | 0, h => exact ⟨by decide, (Option.some.inj h).symm⟩
  | 1, h => exact ⟨by decide, (Option.some.inj h).symm⟩
  | 2, h => exact ⟨by decide, (Option.some.inj h).symm⟩
  | 3, h => exact ⟨by decide, (Option.some.inj h).symm⟩
  | n + 4, h => simp at h
/-- a key put into the dict -/
theorem AllInv.put {P : Program} {w : World} {k : Kls} {H0 H H' : Hp} {p d : Addr} {l : List Tri} {x : Tri} (h : AllInv P w k H0 p d l H) (g : DNAt P w H' d (l.map k3 ++ [k3 x])) (kp : ∀ c, c ≠ d → H' c = H c) :
    Same H0 H' ∧ (∃ rs, H' p = some (.lst (rs.map V.ref)) ∧ All2 (DieAt k H') rs l) ∧ DNAt P w H' d ((l ++ [x]).map k3) := by
  obtain ⟨rs, e, a⟩ := h.lst
  refine ⟨fun b o q => ?_, ⟨rs, by rw [kp _ (h.dic.not_lst e)]; exact e, a.mono fun r y ⟨dx, q⟩ => ⟨dx, by rw [kp _ (h.dic.not_ins q)]; exact q⟩⟩, by rw [List.map_append]; exact g⟩
  rw [kp _ (ne_of_none q h.nd)]
  exact h.same b o q
section
variable {P : Program} {w : World} {K : PySem.W.Frag} {mg : Str → Option Value} {base : Heap} {k : Kls} {fF fR fN : Addr} {fdF fdR fdN : FuncData}
abbrev sAllD : Stmt := top 8
theorem scAllD : FnScope ["found", "known", "at", "way", "die"] [] (defScope sAllD) := ⟨rfl, rfl, rfl, by decide +kernel, rfl, by decide +kernel, by decide +kernel⟩
theorem ok_allD {f : Addr} {fd : FuncData} (F : Fun K "all_dice" "all_dice" sAllD f fd) (T : TDie K mg k) (TW : TWays K mg)
    (GF : FnOk P w K mg base CX0 3 fF fdF [] (spFirst k)) (bF : Binds K fdF [] []) (mF : mg "first_die" = some (.ref fF)) (kF : PySem.W.keepIn K (.ref fF) = true)
    (GR : FnOk P w K mg base CX0 3 fR fdR ["die", "way"] (spRolled k)) (bR : Binds K fdR ["die", "way"] []) (mR : mg "rolled" = some (.ref fR)) (kR : PySem.W.keepIn K (.ref fR) = true)
    (GN : FnOk P w K mg base CX0 1 fN fdN ["self"] (spNums k)) (bN : Binds K fdN ["self"] []) (mN : Meth K k.D "numbers" fN) :
    FnOk P w K mg base CX0 4 f fd [] (spAllD k) := by
  obtain ⟨aW, gW, tW⟩ := TW.w
  refine F.ok scAllD (fun vs H Q E h => ?_) (fun cdv A outer s H vs Q E hr h => ?_)
  · obtain ⟨rfl, _⟩ := h
    rfl
  refine ⟨_,
    pss_cons (ps_set (i := 0) scAllD.nd rfl (Or.inl rfl) (pe_lst (pa_cons (pe_call0 GF hr rfl mF kF bF .nil pass0) pa_nil)))
    (pss_cons (ps_set (i := 1) scAllD.nd rfl (Or.inl rfl) (pe_ndisp (hu9 hr) (pe_meth0 (pe_ix ix_list (pv 0) pe_int (fun _ _ => rfl)) T.cl mN GN (hr.mono (by decide)) bN .nil pass0) pe_bl))
    (pss_cons (ps_set (i := 2) scAllD.nd rfl (Or.inl rfl) pe_int)
    (pss_cons (ps_while PassesOwn.never (pt_cmpR op_lt (pv 2) (pe_callB call_len_seq rfl TW.len PySem.boot_len (pa_cons (pv 0) pa_nil)) (nomark _))
      (pss_cons (ps_for PassesOwn.never rfl (pi_tup (pe_glob (v := .ref aW) rfl gW rfl)) (pg_name (i := 3) scAllD.nd rfl (Or.inl rfl))
        (pss_cons (ps_set (i := 4) scAllD.nd rfl (Or.inl rfl) (pe_call GR hr rfl mR kR bR .nil pass0 (pa_cons (pe_ix ix_list (pv 0) (pv 2) (fun _ _ => rfl)) (pa_cons (pv 3) pa_nil))))
        (pss_one (ps_if (pt_cmp (pc_nnotin (hu9 hr) (pe_meth0 (pv 4) T.cl mN GN (hr.mono (by decide)) bN .nil pass0) (pv 1)) rfl)
          (pss_cons (ps_nput (hu9 hr) (pv 1) (pe_meth0 (pv 4) T.cl mN GN (hr.mono (by decide)) bN .nil pass0) pe_bl)
          (pss_one (ps_expr (pe_bm PySem.F.plainAttrs_list PySem.F.slot_list_append PySem.F.type_list_append mt_append (pv 0) (pa_cons (pv 4) pa_nil)))))
          pss_nil))))
      (pss_one (ps_set (i := 2) scAllD.nd rfl (Or.inl rfl) (pe_op op_add (pv 2) pe_int)))))
    (pss_one (ps_ret (pv 0)))))), ?_⟩
  obtain ⟨rfl, q⟩ := h
  -- found = [first_die()]
  refine ⟨rfl, fun p0 H1 np0 s1 d0 => ⟨(by show 1 ≤ sizeLine; decide), fun p np => ?_⟩⟩
  have npH : H p = none := s1.free np
  have d2 : DieAt k (upd H1 p (.lst [.ref p0])) p0 (1, 2, 3) := d0.same (upd_same_of np)
  -- known = {found[0].numbers(): True}
  intro d H3 nd g3 k3'
  have s3 : Same (upd H1 p (.lst [.ref p0])) H3 := fun b o e => by rw [k3' _ (ne_of_none e nd)]; exact e
  have sH3 : Same H H3 := (s1.trans (upd_same_of np)).trans s3
  have ndH : H d = none := s1.free ((upd_same_of np).free nd)
  have l3 : H3 p = some (.lst [.ref p0]) := s3 _ _ upd_same
  obtain ⟨dx0, e0⟩ := id (d2.same s3)
  refine ⟨_, rfl, p, _, _, _, rfl, rfl, .of l3, rfl, p0, dx0, _, rfl, e0, dF_numbers _ _ _, p0, (1, 2, 3), rfl, ⟨dx0, e0⟩, fun r H4 nr s4 t4 => ?_⟩
  refine ⟨r, k3 (1, 2, 3), rfl, g3.mono (by obtain ⟨xs, e, _⟩ := id g3; exact (s4 _ _ e).trans e.symm) (.of_same s4), t4.key, k3_depth _, fun H5 g5 k5 => ?_⟩
  have I0 : AllInv P w k H p d (Rc.lyN 0) H5 := by
    have npd : p ≠ d := g3.not_lst l3
    refine ⟨npH, ndH, same_but (sH3.trans s4) ndH k5, ⟨[p0], (k5 p npd).trans (s4 _ _ l3), All2.snoc .nil ?_⟩, g5⟩
    have q0 := s4 _ _ e0
    exact ⟨dx0, (k5 p0 (g3.not_ins e0)).trans q0⟩
  -- at = 0; while at < len(found)
  refine ⟨fun m σ H' => ∃ n : Nat, m = 24 - n ∧ n ≤ 24 ∧ ∃ w3 w4, σ = [some (.ref p), some (.ref d), some (.int (n : Nat)), w3, w4] ∧ AllInv P w k H p d (Rc.lyN n) H', ⟨24, 0, rfl, by decide, none, none, rfl, I0⟩, ?_⟩
  rintro m σ H' ⟨n, rfl, hn, w3, w4, rfl, I⟩
  obtain ⟨rs, lp, ar⟩ := id I.lst
  refine ⟨_, rfl, _, rfl, p, _, rfl, .inl (.of lp), _, _, rfl, rfl, _, rfl, ?_⟩
  by_cases c : n < 24
  · obtain ⟨c1, c2, c3⟩ := Rc.lyN_len n c
    refine if_true_of (decide_eq_true (by rw [List.length_map, ar.len]; omega)) ?_
    obtain ⟨x, hx⟩ : ∃ x, (Rc.lyN n)[n]? = some x := ⟨_, List.getElem?_eq_getElem c1⟩
    have hxl : x ∈ Rc.lyings := Rc.lyN_range n (by omega) x (List.mem_iff_getElem?.mpr ⟨n, hx⟩)
    have step : Rc.lyN (n + 1) = Rc.lyRow (Rc.lyN n) x 4 := by
      show (match (Rc.lyN n)[n]? with | none => Rc.lyN n | some x => Rc.lyRow (Rc.lyN n) x 4) = _
      rw [hx]
    refine ⟨fun σ' H'' => ∃ w3 w4, σ' = [some (.ref p), some (.ref d), some (.int ((n + 1 : Nat) : Int)), w3, w4] ∧ AllInv P w k H p d (Rc.lyN (n + 1)) H'', fun σ' H'' ⟨u3, u4, e, J⟩ => ⟨24 - (n + 1), by omega, n + 1, rfl, by omega, u3, u4, e, J⟩, ?_⟩
    -- for way in WAYS
    refine ⟨aW, rfl, ⟨_, tW _⟩, for_tup (K := K) (a := aW) (xs := [.int 0, .int 1, .int 2, .int 3]) (fun i σ H'' => ∃ w3 w4, σ = [some (.ref p), some (.ref d), some (.int (n : Nat)), w3, w4] ∧ AllInv P w k H p d (Rc.lyRow (Rc.lyN n) x i) H'') ⟨w3, w4, rfl, I⟩ (fun i σ H'' _ _ => tW _) ?_ ?_⟩
    · rintro i y σ H6 hi ⟨u3, u4, rfl, J⟩
      obtain ⟨hi4, rfl⟩ := ways_at hi
      obtain ⟨rs6, lp6, ar6⟩ := id J.lst
      have len6 := (c3 i (by omega) x hx)
      obtain ⟨r, hr6, dr⟩ := ar6.at len6.2
      -- die = rolled(found[at], way)
      refine ⟨_, rfl, _, rfl, p, _, _, _, rfl, rfl, .of lp6, atI_nat (map_ref_at hr6), _, rfl, r, x, i, rfl, hi4, hxl, dr, fun q7 H7 n7 s7 d7 => ?_⟩
      have J7 := J.move s7
      obtain ⟨dx7, e7⟩ := id d7
      -- if die.numbers() not in known
      refine ⟨_, rfl, q7, dx7, _, rfl, e7, dF_numbers _ _ _, q7, _, rfl, ⟨dx7, e7⟩, fun r8 H8 n8 s8 t8 => ?_⟩
      have J8 := J7.move s8
      refine ⟨_, rfl, d, r8, k3 (Rc.lyNext x i), _, rfl, rfl, J8.dic, t8.key, k3_depth _, _, rfl, ?_⟩
      have stepI : Rc.lyRow (Rc.lyN n) x (i + 1) = if Rc.lyNext x i ∈ Rc.lyRow (Rc.lyN n) x i then Rc.lyRow (Rc.lyN n) x i else Rc.lyRow (Rc.lyN n) x i ++ [Rc.lyNext x i] := rfl
      by_cases hm : Rc.lyNext x i ∈ Rc.lyRow (Rc.lyN n) x i
      · refine if_false_of (by rw [decide_eq_true (k3_mem.mpr hm)]; rfl) ?_
        rw [if_pos hm] at stepI
        refine ⟨_, _, rfl, ?_⟩
        rw [stepI]
        exact J8
      · refine if_true_of (by rw [decide_eq_false fun z => hm (k3_mem.mp z)]; rfl) ?_
        rw [if_neg hm] at stepI
        have d8 := d7.same s8
        obtain ⟨dx8, e8⟩ := id d8
        -- known[die.numbers()] = True
        refine ⟨_, rfl, _, rfl, q7, dx8, _, rfl, e8, dF_numbers _ _ _, q7, _, rfl, ⟨dx8, e8⟩, fun r9 H9 n9 s9 t9 => ?_⟩
        have J9 := J8.move s9
        refine ⟨d, r9, k3 (Rc.lyNext x i), _, rfl, rfl, J9.dic, t9.key, k3_depth _, fun z => hm (k3_mem.mp z), ?_, fun H10 g10 k10 => ?_⟩
        · rw [List.length_map]
          exact Nat.lt_of_le_of_lt len6.1 (by decide)
        obtain ⟨s10, ⟨rs10, lp10, ar10⟩, dic10⟩ := J9.put g10 k10
        have d10 : DieAt k H10 q7 (Rc.lyNext x i) := by
          obtain ⟨dx9, e9⟩ := d8.same s9
          exact ⟨dx9, (k10 _ (J9.dic.not_ins e9)).trans e9⟩
        -- found.append(die)
        refine ⟨_, rfl, .inl ⟨rfl, _, SqL.of lp10⟩, _, rfl, p, _, _, rfl, rfl, lp10, ?_, ?_⟩
        · rw [List.length_map, ar10.len]
          exact Nat.lt_of_le_of_lt len6.1 (by decide)
        refine ⟨_, _, rfl, ?_⟩
        rw [stepI]
        have ne_p : ∀ {b : Addr} {C dx : Addr} {fs : List (Str × V)}, H10 b = some (.ins C dx fs) → b ≠ p := fun e => ne_of e lp10 (fun z => by cases z)
        refine ⟨J.np, J.nd, fun b o e => ?_, ⟨rs10 ++ [q7], ?_, ?_⟩, ?_⟩
        · rw [upd_ne (ne_of_none e J.np)]
          exact s10 b o e
        · rw [List.map_append]
          exact upd_same
        · have st : ∀ (b : Addr) (y : Tri), DieAt k H10 b y → DieAt k (upd H10 p (.lst (rs10.map V.ref ++ [.ref q7]))) b y := fun b y h => by
            obtain ⟨dx, e⟩ := h
            exact ⟨dx, by rw [upd_ne (ne_p e)]; exact e⟩
          exact (ar10.mono st).snoc (st _ _ d10)
        · refine dic10.mono (upd_ne (Ne.symm (dic10.not_lst lp10))) fun b ys e => ?_
          rw [upd_ne (ne_of e lp10 (fun z => by cases z))]
          exact e
    · rintro σ H6 ⟨u3, u4, rfl, J⟩
      refine ⟨_, rfl, _, _, rfl, rfl, ?_⟩
      refine ⟨u3, u4, rfl, ?_⟩
      rw [step]
      exact J
  · have e : n = 24 := by omega
    subst e
    rw [Rc.lyN_24] at I ar
    refine if_false_of (decide_eq_false (by rw [List.length_map, ar.len, Rc.lyings_len]; omega)) ?_
    exact ⟨_, rfl, q p rs H' npH I.same lp ar⟩
end
end L2.Rw

/-! text Wk4 -/
namespace L2.Rw
open PySem PySem.Spec PyProof.Rows
open Sy74 (isDie eastOf)
def spDieL (k : Kls) : Sp := fun vs H Q _ => ∃ t n : Nat, vs = [.int t, .int n] ∧ (isDie t n = false → ∀ H', Same H H' → Q .non H') ∧ (isDie t n = true → ∀ p H', Same H H' → DieAt k H' p (t, n, eastOf t n) → Q (.ref p) H')
section
variable {P : Program} {w : World} {K : PySem.W.Frag} {mg : Str → Option Value} {base : Heap} {k : Kls} {fA : Addr} {fdA : FuncData}
abbrev sDieL : Stmt := top 9
theorem scDieL : FnScope ["top", "north", "die"] ["top", "north"] (defScope sDieL) := ⟨rfl, rfl, rfl, by decide +kernel, rfl, by decide +kernel, by decide +kernel⟩
theorem ok_dieL {f : Addr} {fd : FuncData} (F : Fun K "die_lying" "die_lying" sDieL f fd) (T : TDie K mg k)
    (GA : FnOk P w K mg base CX0 4 fA fdA [] (spAllD k)) (bA : Binds K fdA [] []) (mA : mg "all_dice" = some (.ref fA)) (kA : PySem.W.keepIn K (.ref fA) = true) :
    FnOk P w K mg base CX0 5 f fd ["top", "north"] (spDieL k) := by
  refine F.ok scDieL (fun vs H Q E h => ?_) (fun cdv A outer s H vs Q E hr h => ⟨_,
    pss_cons (ps_for PassesOwn.never rfl (pi_list (pe_call0 GA hr rfl mA kA bA .nil pass0)) (pg_name (i := 2) scDieL.nd rfl (Or.inl rfl))
      (pss_one (ps_if (PW.pt (pw_and (pt_cmpR op_eq (pe_fld (pv 2) rfl) (pv 0) (nomark _)) (pw_and1 (pt_cmpR op_eq (pe_fld (pv 2) rfl) (pv 1) (nomark _))))) (pss_one (ps_ret (pv 2))) pss_nil)))
    (pss_one (ps_ret pe_non)), ?_⟩)
  · obtain ⟨t, n, rfl, _⟩ := h
    rfl
  · obtain ⟨t, n, rfl, qN, qS⟩ := h
    refine ⟨rfl, fun p rs H1 np s1 lp ar => ⟨p, rfl, ⟨_, .of lp⟩, for_list (K := K) (a := p) (xs := rs.map V.ref)
      (fun i σ H' => ∃ w2, σ = [some (.int t), some (.int n), w2] ∧ H' = H1 ∧ ∀ (j : Nat) (x : Tri), j < i → Rc.lyings[j]? = some x → ¬ (x.1 = t ∧ x.2.1 = n)) ⟨none, rfl, rfl, fun j x h => by omega⟩ (fun i σ H' _ ⟨_, _, e, _⟩ => by rw [e]; exact .of lp) ?_ ?_⟩⟩
    · rintro i y σ H' hi ⟨w2, rfl, rfl, no⟩
      obtain ⟨r, hr', rfl⟩ : ∃ r, rs[i]? = some r ∧ y = V.ref r := by
        rw [List.getElem?_map] at hi
        obtain ⟨r, a, b⟩ := Option.map_eq_some_iff.mp hi
        exact ⟨r, a, b.symm⟩
      obtain ⟨x, hx, dx, hd⟩ := ar.at' hr'
      have hxl : x ∈ Rc.lyings := List.mem_iff_getElem?.mpr ⟨i, hx⟩
      refine ⟨_, rfl, r, k.D, dx, _, _, rfl, hd, T.cl, T.n1, dF_top _ _ _, _, rfl, rfl, _, rfl, ?_⟩
      have next : ¬ (x.1 = t ∧ x.2.1 = n) → ∀ (j : Nat) (y : Tri), j < i + 1 → Rc.lyings[j]? = some y → ¬ (y.1 = t ∧ y.2.1 = n) := fun hn j y hj hy => by
        by_cases e : j = i
        · subst e
          rw [hx] at hy
          cases hy
          exact hn
        · exact no j y (by omega) hy
      by_cases c1 : x.1 = t
      · refine if_true_of (by rw [dec_nat]; exact decide_eq_true c1) ?_
        refine ⟨_, rfl, r, k.D, dx, _, _, rfl, hd, T.cl, T.n2, dF_north _ _ _, _, rfl, rfl, _, rfl, ?_⟩
        by_cases c2 : x.2.1 = n
        · refine if_true_of (by rw [dec_nat]; exact decide_eq_true c2) ?_
          obtain ⟨e1, e2⟩ := Rc.ly_east x hxl
          rw [c1, c2] at e1 e2
          refine ⟨_, rfl, qS e2 r H' s1 ⟨dx, ?_⟩⟩
          rw [hd, e1]
          obtain ⟨x1, x2, x3⟩ := x
          dsimp only at c1 c2
          subst c1 c2
          rfl
        · refine if_false_of (by rw [dec_nat]; exact decide_eq_false c2) ?_
          exact ⟨_, rfl, rfl, next fun z => c2 z.2⟩
      · refine if_false_of (by rw [dec_nat]; exact decide_eq_false c1) ?_
        refine if_false_of rfl ?_
        exact ⟨_, rfl, rfl, next fun z => c1 z.1⟩
    · rintro σ H' ⟨w2, rfl, rfl, no⟩
      rw [List.length_map, ar.len] at no
      refine qN ?_ H' s1
      cases hd : isDie t n with
      | false => rfl
      | true =>
        have m := Rc.ly_of hd
        obtain ⟨j, hj⟩ := List.mem_iff_getElem?.mp m
        exact absurd ⟨rfl, rfl⟩ (no j _ (List.getElem?_eq_some_iff.mp hj).1 hj)
end
end L2.Rw

/-! text Wk5 -/
namespace L2.Rw
open PySem PySem.Spec PyProof.Rows
open Sy74 (isDie eastOf)
/-! ### the ground -/
def gF (r c w : V) : List (Str × V) := [("rows", r), ("columns", c), ("walls", w)]
theorem gF_rows (t n e : V) : (gF t n e).lookup ("rows" : Str) = some t := lk_here
theorem gF_columns (t n e : V) : (gF t n e).lookup ("columns" : Str) = some n := (lk_past (by decide +kernel)).trans lk_here
theorem gF_walls (t n e : V) : (gF t n e).lookup ("walls" : Str) = some e := (lk_past (by decide +kernel)).trans ((lk_past (by decide +kernel)).trans lk_here)
theorem gF_none {m : Str} (h1 : (m == ("rows" : Str)) = false) (h2 : (m == ("columns" : Str)) = false) (h3 : (m == ("walls" : Str)) = false) (t n e : V) : (gF t n e).lookup m = none := (lk_past h1).trans ((lk_past h2).trans ((lk_past h3).trans rfl))
theorem gF_put (t n e : V) : putF "walls" e (putF "columns" n (putF "rows" t [])) = gF t n e := by
  show putF "walls" e (putF "columns" n [("rows", t)]) = _
  rw [put_past (by decide +kernel)]
  show putF "walls" e [("rows", t), ("columns", n)] = _
  rw [put_past (by decide +kernel), put_past (by decide +kernel)]
  rfl
/-- the dict of the walls tells the cells ws -/
def WallsOk (kvs : List (Key × V)) (ws : List Nat) : Prop := ∃ ns : List Nat, kvs.map (·.1) = ns.map (fun n : Nat => (Sum.inl (n : Int) : Key)) ∧ ns.Nodup ∧ ∀ x, x ∈ ns ↔ x ∈ ws
def GroundAt (k : Kls) (H : Hp) (g w : Addr) (s : Sy74.St) : Prop := ∃ dx kvs, H g = some (.ins k.G dx (gF (.int s.rows) (.int s.cols) (.ref w))) ∧ H w = some (.dK kvs) ∧ WallsOk kvs s.walls
theorem GroundAt.same {k : Kls} {H H' : Hp} {g w : Addr} {s : Sy74.St} (h : GroundAt k H g w s) (m : Same H H') : GroundAt k H' g w s := let ⟨dx, kvs, a, b, c⟩ := h; ⟨dx, kvs, m _ _ a, m _ _ b, c⟩
theorem WallsOk.nil : WallsOk [] [] := ⟨[], rfl, List.nodup_nil, fun x => Iff.rfl⟩
theorem WallsOk.len {kvs : List (Key × V)} {ws : List Nat} (h : WallsOk kvs ws) (b : ∀ x ∈ ws, x < 25) : kvs.length ≤ 25 := by
  obtain ⟨ns, e, nd, m⟩ := h
  have := nd.length_le_of_subset (l₂ := List.range 25) fun x hx => List.mem_range.mpr (b x ((m x).mp hx))
  rw [List.length_range] at this
  have e2 := congrArg List.length e
  rw [List.length_map, List.length_map] at e2
  omega
theorem key_inj {x y : Nat} (h : (Sum.inl (x : Int) : Key) = Sum.inl (y : Int)) : x = y := by have := Sum.inl.inj h; omega
theorem WallsOk.has {kvs : List (Key × V)} {ws : List Nat} (h : WallsOk kvs ws) (x : Nat) : (valV kvs (Sum.inl (x : Int))).isSome = ws.contains x := by
  obtain ⟨ns, e, nd, m⟩ := h
  rw [← valV_any, Bool.eq_iff_iff, Rc.contains_iff, ← m x, List.any_eq_true]
  constructor
  · rintro ⟨p, hp, q⟩
    have q := of_decide_eq_true q
    have : (Sum.inl (x : Int) : Key) ∈ kvs.map (·.1) := List.mem_map.mpr ⟨p, hp, q⟩
    rw [e] at this
    obtain ⟨n, hn, en⟩ := List.mem_map.mp this
    rw [← key_inj en]
    exact hn
  · intro hx
    have : (Sum.inl (x : Int) : Key) ∈ kvs.map (·.1) := by rw [e]; exact List.mem_map.mpr ⟨x, hx, rfl⟩
    obtain ⟨p, hp, ep⟩ := List.mem_map.mp this
    exact ⟨p, hp, decide_eq_true ep⟩
theorem WallsOk.drop {kvs : List (Key × V)} {ws ws' : List Nat} (h : WallsOk kvs ws) (x : Nat) (hw : ∀ y, y ∈ ws' ↔ y ∈ ws ∧ y ≠ x) : WallsOk (dropK kvs (Sum.inl (x : Int))) ws' := by
  obtain ⟨ns, e, nd, m⟩ := h
  refine ⟨ns.filter fun y => y != x, ?_, nd.sublist List.filter_sublist, fun y => ?_⟩
  · clear nd m hw
    induction kvs generalizing ns with
    | nil =>
      cases ns with
      | nil => rfl
      | cons n ns => cases e
    | cons p kvs ih =>
      cases ns with
      | nil => cases e
      | cons n ns =>
        rw [List.map_cons, List.map_cons] at e
        have e1 := (List.cons.inj e).1
        have e2 := ih ns (List.cons.inj e).2
        unfold dropK at e2 ⊢
        rw [List.filter_cons, List.filter_cons]
        by_cases hn : n = x
        · subst hn
          rw [if_neg (by simp [e1]), if_neg (by simp)]
          exact e2
        · have hk : ¬ p.1 = Sum.inl (x : Int) := fun z => hn (key_inj (e1.symm.trans z))
          rw [if_pos (by simp [hk]), if_pos (by simp [hn]), List.map_cons, List.map_cons, e1, e2]
  · rw [List.mem_filter, hw y, m y]
    simp
theorem WallsOk.put {kvs : List (Key × V)} {ws ws' : List Nat} (h : WallsOk kvs ws) (x : Nat) (hx : x ∉ ws) (v : V) (hw : ∀ y, y ∈ ws' ↔ y = x ∨ y ∈ ws) : WallsOk (putK kvs (Sum.inl (x : Int)) v) ws' := by
  have hn : valV kvs (Sum.inl (x : Int)) = none := by
    have := h.has x
    rw [Rc.contains_false.mpr hx] at this
    cases q : valV kvs (Sum.inl (x : Int)) with
    | none => rfl
    | some v => rw [q] at this; cases this
  obtain ⟨ns, e, nd, m⟩ := h
  refine ⟨ns ++ [x], ?_, ?_, fun y => ?_⟩
  · rw [putK_new v hn, List.map_append, e, List.map_append]
    rfl
  · rw [List.nodup_append]
    refine ⟨nd, by simp, fun a ha b hb => ?_⟩
    rw [List.mem_singleton] at hb
    subst hb
    intro z
    subst z
    exact hx ((m _).mp ha)
  · rw [List.mem_append, hw y, m y, List.mem_singleton]
    exact Or.comm
structure TGround (K : PySem.W.Frag) (mg : Str → Option Value) (k : Kls) : Prop where
  cl : Cls K k.G
  n1 : NoAttr K k.G "rows"
  n2 : NoAttr K k.G "columns"
  n3 : NoAttr K k.G "walls"
  g : mg "Ground" = some (.ref k.G)
  sorted : mg "sorted" = none
  list : mg "list" = none
def spGroundI (k : Kls) : Sp := fun vs H Q _ => ∃ (p dx : Addr) (r c : V), vs = [.ref p, r, c] ∧ H p = some (.ins k.G dx []) ∧
  ∀ w H', H w = none → H' p = some (.ins k.G dx (gF r c (.ref w))) → H' w = some (.dK []) → (∀ b o, H b = some o → b ≠ p → H' b = some o) → Q .non H'
/-- Ground(..) -/
theorem mk_ground {k : Kls} {H : Hp} {Q : VK} {E : XK} {r c : Nat} (h : ∀ p w H', H p = none → H w = none → Same H H' → GroundAt k H' p w { Sy74.init with rows := r, cols := c } → Q (.ref p) H') :
    ∀ p dx, H p = none → H dx = none → dx ≠ p → spGroundI k (V.ref p :: ([.int r, .int c] ++ [])) (upd (upd H dx (.own p)) p (.ins k.G dx [])) (fun v H' => v = .non ∧ Q (.ref p) H') E := by
  intro p dx np nd ne
  refine ⟨p, dx, _, _, rfl, upd_same, fun w H' nw e1 e2 kp => ⟨rfl, ?_⟩⟩
  have sm : Same H (upd (upd H dx (.own p)) p (.ins k.G dx [])) := mk_same np nd
  exact h p w H' np (sm.free nw) (fun b o e => kp b o (sm b o e) (ne_of_none e np)) ⟨dx, [], e1, e2, .nil⟩
def spMany (k : Kls) : Sp := fun vs H Q _ => ∃ (g w : Addr) (s : Sy74.St), vs = [.ref g] ∧ GroundAt k H g w s ∧ Rc.Bd s ∧ Q (.int ((s.rows * s.cols : Nat) : Int)) H
def spWallsT (k : Kls) : Sp := fun vs H Q _ => ∃ (g w : Addr) (s : Sy74.St), vs = [.ref g] ∧ GroundAt k H g w s ∧ s.walls.Pairwise (· < ·) ∧
  ∀ p H', H p = none → Same H H' → H' p = some (.lst ((s.walls.map fun n : Nat => (n : Int)).map V.int)) → Q (.ref p) H'
def spSetW (k : Kls) : Sp := fun vs H Q _ => ∃ (g w : Addr) (s : Sy74.St) (x b : Nat), vs = [.ref g, .int x, .bl (decide (b = 1))] ∧ GroundAt k H g w s ∧ (∀ y ∈ s.walls, y < 25) ∧
  ∀ H', GroundAt k H' g w { s with walls := Rc.walls' s x b } → (∀ c o, H c = some o → c ≠ w → H' c = some o) → Q .non H'
def oV (o : Option Nat) : V := match o with
  | none => .non
  | some y => .int y
def spBeside (k : Kls) : Sp := fun vs H Q _ => ∃ (g w : Addr) (s : Sy74.St) (x d : Nat), vs = [.ref g, .int x, .int d] ∧ GroundAt k H g w s ∧ Rc.Bd s ∧ x < s.rows * s.cols ∧ d < 4 ∧ Q (oV (Rc.nextCell s x d)) H
def spToRoll (k : Kls) : Sp := fun vs H Q _ => ∃ (g w : Addr) (s : Sy74.St) (x d : Nat), vs = [.ref g, .int x, .int d] ∧ GroundAt k H g w s ∧ Rc.Bd s ∧ x < s.rows * s.cols ∧ d < 4 ∧ Q (oV (Rc.rollCell s x d)) H
section
variable {P : Program} {w : World} {K : PySem.W.Frag} {mg : Str → Option Value} {base : Heap} {k : Kls}
abbrev sGroundI : Stmt := inClass (top 11) 0
theorem scGroundI : FnScope ["self", "rows", "columns"] ["self", "rows", "columns"] (defScope sGroundI) := ⟨rfl, rfl, rfl, by decide +kernel, rfl, by decide +kernel, by decide +kernel⟩
theorem ok_GroundI {f : Addr} {fd : FuncData} (F : Fun K "__init__" "Ground.__init__" sGroundI f fd) (T : TGround K mg k) : FnOk P w K mg base CX0 1 f fd ["self", "rows", "columns"] (spGroundI k) := by
  refine F.ok scGroundI (fun vs H Q E h => ?_) (fun cdv A outer s H vs Q E hr h => ⟨_, pss_cons (ps_fld (pv 0) (pv 1) rfl) (pss_cons (ps_fld (pv 0) (pv 2) rfl) (pss_one (ps_fld (pv 0) pe_dnewK rfl))), ?_⟩)
  · obtain ⟨p, dx, r, c, rfl, _⟩ := h
    rfl
  · obtain ⟨p, dx, r, c, rfl, hp, q⟩ := h
    refine ⟨_, rfl, _, rfl, p, k.G, dx, [], rfl, hp, T.cl, T.n1, (by show 0 < 1000; decide), ?_⟩
    refine ⟨_, rfl, _, rfl, p, k.G, dx, _, rfl, upd_same, T.cl, T.n2, (by show 1 < 1000; decide), ?_⟩
    intro wd nw
    have np : p ≠ wd := ne_of_none (o := .ins k.G dx (putF "columns" c (putF "rows" r []))) upd_same nw
    have nwH : H wd = none := by
      rw [upd_ne (Ne.symm np), upd_ne (Ne.symm np)] at nw
      exact nw
    refine ⟨_, rfl, p, k.G, dx, _, rfl, (upd_ne np).trans upd_same, T.cl, T.n3, (by show 2 < 1000; decide), ?_⟩
    refine q wd _ nwH ?_ ?_ fun b o e hb => ?_
    · rw [upd_same, gF_put]
    · rw [upd_ne (Ne.symm np), upd_same]
    · rw [upd_ne hb, upd_ne (ne_of_none e nwH), upd_ne hb, upd_ne hb]
      exact e
abbrev sMany : Stmt := inClass (top 11) 1
theorem scMany : FnScope ["self"] ["self"] (defScope sMany) := ⟨rfl, rfl, rfl, by decide +kernel, rfl, by decide +kernel, by decide +kernel⟩
theorem ok_many {f : Addr} {fd : FuncData} (F : Fun K "many" "Ground.many" sMany f fd) (T : TGround K mg k) : FnOk P w K mg base CX0 1 f fd ["self"] (spMany k) := by
  refine F.ok scMany (fun vs H Q E h => ?_) (fun cdv A outer s H vs Q E hr h => ⟨_, pss_one (ps_ret (pe_op op_mul (pe_fld (pv 0) rfl) (pe_fld (pv 0) rfl))), ?_⟩)
  · obtain ⟨g, w, s, rfl, _⟩ := h
    rfl
  · obtain ⟨g, w, s, rfl, ⟨dx, kvs, hg, hw, ok⟩, b, q⟩ := h
    refine ⟨_, rfl, g, k.G, dx, _, _, rfl, hg, T.cl, T.n1, gF_rows _ _ _, _, rfl, g, k.G, dx, _, _, rfl, hg, T.cl, T.n2, gF_columns _ _ _, _, _, rfl, rfl, .inl ?_, ?_⟩
    · have := b.r5
      omega
    · show Q (.int ((s.rows : Int) * (s.cols : Int))) H
      rw [← Int.natCast_mul]
      exact q
abbrev sWallsT : Stmt := inClass (top 11) 2
theorem scWallsT : FnScope ["self"] ["self"] (defScope sWallsT) := ⟨rfl, rfl, rfl, by decide +kernel, rfl, by decide +kernel, by decide +kernel⟩
theorem ok_wallsT {f : Addr} {fd : FuncData} (F : Fun K "walls_told" "Ground.walls_told" sWallsT f fd) (T : TGround K mg k) : FnOk P w K mg base CX0 1 f fd ["self"] (spWallsT k) := by
  refine F.ok scWallsT (fun vs H Q E h => ?_) (fun cdv A outer s H vs Q E hr h => ⟨_, pss_one (ps_ret (pe_callB cr_sortedI rfl T.sorted PyProof.Rows.boot_sorted (pa_cons (pe_callTy (call_list_dK rfl) rfl T.list PyProof.Rows.boot_list (pa_cons (pe_fld (pv 0) rfl) pa_nil)) pa_nil))), ?_⟩)
  · obtain ⟨g, w, s, rfl, _⟩ := h
    rfl
  · obtain ⟨g, w, s, rfl, ⟨dx, kvs, hg, hw, ns, en, nd, mem⟩, ws, q⟩ := h
    refine ⟨_, rfl, g, k.G, dx, _, _, rfl, hg, T.cl, T.n3, gF_walls _ _ _, w, kvs, rfl, hw, fun l nl => ?_⟩
    have ek : (kvs.map fun kv => kV kv.1) = (ns.map fun n : Nat => (n : Int)).map V.int := by
      have : (kvs.map fun kv => kV kv.1) = (kvs.map (·.1)).map kV := by rw [List.map_map]; rfl
      rw [this, en, List.map_map, List.map_map]
      rfl
    refine ⟨l, ns.map fun n : Nat => (n : Int), rfl, .of (by rw [← ek]; exact upd_same), fun ns' p pm pw np => ?_⟩
    have e : ns' = s.walls.map fun (n : Nat) => (n : Int) := by
      refine Rc.sorted_le_uniq pw ?_ ws fun z => ?_
      · rw [pm.nodup_iff]
        unfold List.Nodup
        rw [List.pairwise_map]
        unfold List.Nodup at nd
        exact nd.imp fun h e => h (by omega)
      · rw [pm.mem_iff, List.mem_map]
        exact ⟨fun ⟨n, a, b⟩ => ⟨n, (mem n).mp a, b.symm⟩, fun ⟨n, a, b⟩ => ⟨n, (mem n).mpr a, b.symm⟩⟩
    subst e
    exact q p _ ((upd_same_of nl).free np) ((upd_same_of nl).trans (upd_same_of np)) upd_same
end
end L2.Rw

/-! text Wk6 -/
namespace L2.Rw
open PySem PySem.Spec PyProof.Rows
open Sy74 (isDie eastOf)
section
variable {P : Program} {w : World} {K : PySem.W.Frag} {mg : Str → Option Value} {base : Heap} {k : Kls}
abbrev sSetW : Stmt := inClass (top 11) 3
theorem scSetW : FnScope ["self", "cell", "is_wall"] ["self", "cell", "is_wall"] (defScope sSetW) := ⟨rfl, rfl, rfl, by decide +kernel, rfl, by decide +kernel, by decide +kernel⟩
theorem ok_setW {f : Addr} {fd : FuncData} (F : Fun K "set_wall" "Ground.set_wall" sSetW f fd) (T : TGround K mg k) : FnOk P w K mg base CX0 1 f fd ["self", "cell", "is_wall"] (spSetW k) := by
  refine F.ok scSetW (fun vs H Q E h => ?_) (fun cdv A outer s H vs Q E hr h => ⟨_, pss_cons (ps_expr (pe_dpop2 (pe_fld (pv 0) rfl) (pv 1) pe_non ⟨rfl, rfl, rfl, rfl⟩))
    (pss_one (ps_if (pt_val (pv 2)) (pss_one (ps_dput (hu_of hr) (pe_fld (pv 0) rfl) (pv 1) pe_bl rfl)) pss_nil)), ?_⟩)
  · obtain ⟨g, w, s, x, b, rfl, _⟩ := h
    rfl
  · obtain ⟨g, w, s, x, b, rfl, ⟨dx, kvs, hg, hw, ok⟩, h25, q⟩ := h
    have gw : g ≠ w := ne_of hg hw (fun z => by cases z)
    have key : ∀ H1, H1 = upd H w (.dK (dropK kvs (Sum.inl (x : Int)))) → tIfS (tB (tVar 2)) (sDPut (tFld K (tVar 0) "walls") (tVar 1) (tC (.bl true))) tNext { nx := fun _ H' => Q .non H', rt := Q }
        (start ["self", "cell", "is_wall"] [.ref g, .int x, .bl (decide (b = 1))]) H1 := by
      rintro _ rfl
      have hg1 : upd H w (.dK (dropK kvs (Sum.inl (x : Int)))) g = some (.ins k.G dx (gF (.int s.rows) (.int s.cols) (.ref w))) := (upd_ne gw).trans hg
      refine ⟨_, rfl, _, rfl, ?_⟩
      by_cases hb : b = 1
      · refine if_true_of (decide_eq_true hb) ?_
        have ok1 := ok.drop x (ws' := s.walls.filter fun y => y != x) fun y => by rw [List.mem_filter]; simp
        refine ⟨_, rfl, g, k.G, dx, _, _, rfl, hg1, T.cl, T.n3, gF_walls _ _ _, _, rfl, w, _, rfl, DPut.k (k := Sum.inl (x : Int)) upd_same (Nat.lt_of_le_of_lt (dropK_le _ _) (Nat.lt_of_le_of_lt (ok.len h25) (by decide))), ?_⟩
        refine q _ ⟨dx, _, (upd_ne gw).trans hg1, upd_same, ok1.put x (fun z => by rw [List.mem_filter] at z; simp at z) _ fun y => ?_⟩ fun c o e hc => ?_
        · show y ∈ Rc.walls' s x b ↔ _
          rw [Rc.mem_walls', List.mem_filter]
          simp only [bne_iff_ne, ne_eq]
          constructor
          · rintro (⟨_, e⟩ | ⟨e, _⟩)
            · exact .inl e
            · by_cases z : y = x
              · exact .inl z
              · exact .inr ⟨e, z⟩
          · rintro (e | ⟨e, _⟩)
            · exact .inl ⟨hb, e⟩
            · exact .inr ⟨e, .inl hb⟩
        · rw [upd_ne hc, upd_ne hc]
          exact e
      · refine if_false_of (decide_eq_false hb) ?_
        refine q _ ⟨dx, _, hg1, upd_same, ok.drop x fun y => ?_⟩ fun c o e hc => ?_
        · show y ∈ Rc.walls' s x b ↔ _
          rw [Rc.mem_walls']
          constructor
          · rintro (⟨e, _⟩ | ⟨e, z⟩)
            · exact absurd e hb
            · exact ⟨e, z.resolve_left hb⟩
          · rintro ⟨e, z⟩
            exact .inr ⟨e, .inr z⟩
        · rw [upd_ne hc]
          exact e
    refine ⟨_, rfl, g, k.G, dx, _, _, rfl, hg, T.cl, T.n3, gF_walls _ _ _, w, rfl, .inl ⟨kvs, .inl hw⟩, _, rfl, kvs, Sum.inl (x : Int), hw, rfl, fun v hv => key _ rfl, fun hn => key _ ?_⟩
    funext c
    by_cases hc : c = w
    · subst hc
      rw [upd_same, hw]
      congr 2
      unfold dropK
      rw [List.filter_eq_self.mpr]
      intro p hp
      refine decide_eq_true fun z => ?_
      exact valV_not hn (List.mem_map.mpr ⟨p, hp, z⟩)
    · rw [upd_ne hc]
abbrev sBeside : Stmt := inClass (top 11) 4
theorem scBeside : FnScope ["self", "cell", "way", "row", "column"] ["self", "cell", "way"] (defScope sBeside) := ⟨rfl, rfl, rfl, by decide +kernel, rfl, by decide +kernel, by decide +kernel⟩
theorem ok_beside {f : Addr} {fd : FuncData} (F : Fun K "cell_beside" "Ground.cell_beside" sBeside f fd) (T : TGround K mg k) (TW : TWays K mg) : FnOk P w K mg base CX0 1 f fd ["self", "cell", "way"] (spBeside k) := by
  obtain ⟨tn, gn⟩ := TW.n
  obtain ⟨te, ge⟩ := TW.e
  obtain ⟨ts, gs⟩ := TW.s
  refine F.ok scBeside (fun vs H Q E h => ?_) (fun cdv A outer s H vs Q E hr h => ⟨_,
    pss_cons (ps_set (i := 3) scBeside.nd rfl (Or.inl rfl) (pe_op op_fdiv (pv 1) (pe_fld (pv 0) rfl)))
    (pss_cons (ps_set (i := 4) scBeside.nd rfl (Or.inl rfl) (pe_op op_mod (pv 1) (pe_fld (pv 0) rfl)))
    (pss_cons (ps_if (pt_cmpR op_eq (pv 2) (pe_glob (v := .int 0) rfl gn ⟨_, rfl⟩) (nomark _)) (pss_one (ps_set (i := 3) scBeside.nd rfl (Or.inl rfl) (pe_op op_sub (pv 3) pe_int)))
      (pss_one (ps_if (pt_cmpR op_eq (pv 2) (pe_glob (v := .int 2) rfl gs ⟨_, rfl⟩) (nomark _)) (pss_one (ps_set (i := 3) scBeside.nd rfl (Or.inl rfl) (pe_op op_add (pv 3) pe_int)))
      (pss_one (ps_if (pt_cmpR op_eq (pv 2) (pe_glob (v := .int 1) rfl ge ⟨_, rfl⟩) (nomark _)) (pss_one (ps_set (i := 4) scBeside.nd rfl (Or.inl rfl) (pe_op op_add (pv 4) pe_int)))
      (pss_one (ps_set (i := 4) scBeside.nd rfl (Or.inl rfl) (pe_op op_sub (pv 4) pe_int))))))))
    (pss_cons (ps_if (PW.pt (pw_and (pt_chain op_le op_lt pe_int (pv 3) (pe_fld (pv 0) rfl)) (pw_and1 (pt_chain op_le op_lt pe_int (pv 4) (pe_fld (pv 0) rfl)))))
      (pss_one (ps_ret (pe_op op_add (pe_op op_mul (pv 3) (pe_fld (pv 0) rfl)) (pv 4)))) pss_nil)
    (pss_one (ps_ret pe_non))))), ?_⟩)
  · obtain ⟨g, w, s, x, d, rfl, _⟩ := h
    rfl
  · obtain ⟨g, w, s, x, d, rfl, ⟨dx, kvs, hg, hw, ok⟩, b, hx, hd, q⟩ := h
    obtain ⟨hS, hN⟩ := Rc.beside_eq b hx hd
    rw [Int.natCast_ediv, Int.natCast_emod] at hS hN
    have b1 := b.r5
    have b2 := b.c1
    have b3 := b.c5
    refine ⟨_, rfl, _, rfl, g, k.G, dx, _, _, rfl, hg, T.cl, T.n2, gF_columns _ _ _, _, _, rfl, rfl, ⟨by omega, by omega⟩, ?_⟩
    refine ⟨_, rfl, _, rfl, g, k.G, dx, _, _, rfl, hg, T.cl, T.n2, gF_columns _ _ _, _, _, rfl, rfl, (show (0 : Int) < s.cols by omega), ?_⟩
    have fin : ∀ (row col : Int), row = Rc.nrow ((x : Int) / s.cols) d → col = Rc.ncol ((x : Int) % s.cols) d →
        tSeq (tIfS (tAnd (tTest (tChain (rI0 fun i j => .bl (decide (i ≤ j))) (rI0 fun i j => .bl (decide (i < j))) (tC (.int 0)) (tVar 3) (tFld K (tVar 0) "rows"))) (tTest (tChain (rI0 fun i j => .bl (decide (i ≤ j))) (rI0 fun i j => .bl (decide (i < j))) (tC (.int 0)) (tVar 4) (tFld K (tVar 0) "columns"))))
          (tRet (tOp (rI0 fun i j => .int (i + j)) (tOp (rI CMul fun i j => .int (i * j)) (tVar 3) (tFld K (tVar 0) "columns")) (tVar 4))) tNext) (tRet (tC .non)) { nx := fun _ H' => Q .non H', rt := Q }
          [some (.ref g), some (.int x), some (.int d), some (.int row), some (.int col)] H := by
      intro row col er ec
      rw [← er, ← ec] at hS hN
      have no : ¬ (0 ≤ row ∧ row < s.rows ∧ 0 ≤ col ∧ col < s.cols) → Q .non H := fun h => by rw [hN h] at q; exact q
      refine ⟨_, rfl, _, _, rfl, rfl, _, rfl, ?_⟩
      by_cases c1 : 0 ≤ row
      · refine if_true_of (decide_eq_true c1) ⟨_, rfl, g, k.G, dx, _, _, rfl, hg, T.cl, T.n1, gF_rows _ _ _, _, _, rfl, rfl, _, rfl, ?_⟩
        by_cases c2 : row < s.rows
        · refine if_true_of (decide_eq_true c2) ⟨_, rfl, _, _, rfl, rfl, _, rfl, ?_⟩
          by_cases c3 : 0 ≤ col
          · refine if_true_of (decide_eq_true c3) ⟨_, rfl, g, k.G, dx, _, _, rfl, hg, T.cl, T.n2, gF_columns _ _ _, _, _, rfl, rfl, _, rfl, ?_⟩
            by_cases c4 : col < s.cols
            · obtain ⟨y, e1, e2⟩ := hS ⟨c1, c2, c3, c4⟩
              refine if_true_of (decide_eq_true c4) ⟨_, rfl, _, rfl, g, k.G, dx, _, _, rfl, hg, T.cl, T.n2, gF_columns _ _ _, _, _, rfl, rfl, .inr ⟨by omega, by omega⟩, _, rfl, _, _, rfl, rfl, ?_⟩
              rw [e1] at q
              show Q (.int (row * s.cols + col)) H
              rw [← e2]
              exact q
            · exact if_false_of (decide_eq_false c4) (no fun z => c4 z.2.2.2)
          · exact if_false_of (decide_eq_false c3) ⟨_, rfl, if_false_of rfl (no fun z => c3 z.2.2.1)⟩
        · exact if_false_of (decide_eq_false c2) (if_false_of rfl (no fun z => c2 z.2.1))
      · exact if_false_of (decide_eq_false c1) ⟨_, rfl, if_false_of rfl (if_false_of rfl (no fun z => c1 z.1))⟩
    refine ⟨_, rfl, rfl, _, rfl, ?_⟩
    by_cases c0 : d = 0
    · refine if_true_of (by subst c0; rfl) ⟨_, rfl, _, _, rfl, rfl, ?_⟩
      exact fin _ _ (by subst c0; rfl) (by subst c0; rfl)
    refine if_false_of (by rw [show (V.int 0) = V.int ((0 : Nat) : Int) from rfl, dec_nat]; exact decide_eq_false c0) ⟨_, rfl, rfl, _, rfl, ?_⟩
    by_cases c2 : d = 2
    · refine if_true_of (by subst c2; rfl) ⟨_, rfl, _, _, rfl, rfl, ?_⟩
      exact fin _ _ (by subst c2; rfl) (by subst c2; rfl)
    refine if_false_of (by rw [show (V.int 2) = V.int ((2 : Nat) : Int) from rfl, dec_nat]; exact decide_eq_false c2) ⟨_, rfl, rfl, _, rfl, ?_⟩
    by_cases c1 : d = 1
    · refine if_true_of (by subst c1; rfl) ⟨_, rfl, _, _, rfl, rfl, ?_⟩
      exact fin _ _ (by subst c1; rfl) (by subst c1; rfl)
    refine if_false_of (by rw [show (V.int 1) = V.int ((1 : Nat) : Int) from rfl, dec_nat]; exact decide_eq_false c1) ⟨_, rfl, _, _, rfl, rfl, ?_⟩
    exact fin _ _ (by simp [Rc.nrow, c0, c2]) (by simp [Rc.ncol, c0, c1, c2])
end
end L2.Rw

/-! text Wk7 -/
namespace L2.Rw
open PySem PySem.Spec PyProof.Rows
open Sy74 (isDie eastOf)
/-! ### ways to lie; wishes -/
def lF (c d : V) : List (Str × V) := [("cell", c), ("die", d)]
theorem lF_cell (c d : V) : (lF c d).lookup ("cell" : Str) = some c := lk_here
theorem lF_die (c d : V) : (lF c d).lookup ("die" : Str) = some d := (lk_past (by decide +kernel)).trans lk_here
theorem lF_key (c d : V) : (lF c d).lookup ("key" : Str) = none := (lk_past (by decide +kernel)).trans ((lk_past (by decide +kernel)).trans rfl)
theorem lF_put (c d : V) : putF "die" d (putF "cell" c []) = lF c d := by
  show putF "die" d [("cell", c)] = _
  rw [put_past (by decide +kernel)]
  rfl
def wF (c t : V) : List (Str × V) := [("cell", c), ("top", t)]
theorem wF_cell (c d : V) : (wF c d).lookup ("cell" : Str) = some c := lk_here
theorem wF_top (c d : V) : (wF c d).lookup ("top" : Str) = some d := (lk_past (by decide +kernel)).trans lk_here
theorem wF_met (c d : V) : (wF c d).lookup ("is_met" : Str) = none := (lk_past (by decide +kernel)).trans ((lk_past (by decide +kernel)).trans rfl)
theorem wF_put (c d : V) : putF "top" d (putF "cell" c []) = wF c d := by
  show putF "top" d [("cell", c)] = _
  rw [put_past (by decide +kernel)]
  rfl
abbrev tri (d : Sy74.Die) : Tri := (d.top, d.north, d.east)
def LieAt (k : Kls) (H : Hp) (a : Addr) (d : Sy74.Die) : Prop := ∃ dx p, H a = some (.ins k.L dx (lF (.int d.cell) (.ref p))) ∧ DieAt k H p (tri d)
theorem LieAt.same {k : Kls} {H H' : Hp} {a : Addr} {d : Sy74.Die} (h : LieAt k H a d) (m : Same H H') : LieAt k H' a d := let ⟨dx, p, e, q⟩ := h; ⟨dx, p, m _ _ e, q.same m⟩
def WishAt (k : Kls) (H : Hp) (a : Addr) (g : Nat × Nat) : Prop := ∃ dx, H a = some (.ins k.W dx (wF (.int g.1) (.int g.2)))
theorem WishAt.same {k : Kls} {H H' : Hp} {a : Addr} {g : Nat × Nat} (h : WishAt k H a g) (m : Same H H') : WishAt k H' a g := let ⟨dx, e⟩ := h; ⟨dx, m _ _ e⟩
/-- by what a way to lie is known -/
def k4 (d : Sy74.Die) : NestedKey := .tup [.num d.cell, k3 (tri d)]
theorem k4_inj {x y : Sy74.Die} (h : k4 x = k4 y) : x = y := by
  unfold k4 at h
  have h1 := NestedKey.tup.inj h
  have a := List.cons.inj h1
  have b := List.cons.inj a.2
  have a' := NestedKey.num.inj a.1
  have b' := k3_inj b.1
  obtain ⟨x0, x1, x2, x3⟩ := x
  obtain ⟨y0, y1, y2, y3⟩ := y
  dsimp only [tri] at a' b'
  simp only [Prod.mk.injEq] at b'
  rw [show x0 = y0 by omega, b'.1, b'.2.1, b'.2.2]
theorem k4_mem {x : Sy74.Die} {l : List Sy74.Die} : k4 x ∈ l.map k4 ↔ x ∈ l := by
  rw [List.mem_map]
  exact ⟨fun ⟨y, hy, e⟩ => by rw [← k4_inj e]; exact hy, fun h => ⟨x, h, rfl⟩⟩
theorem k4_depth (x : Sy74.Die) : (k4 x).depth ≤ 8 := by
  have e : (k4 x).depth = 2 := rfl
  omega
structure TLie (K : PySem.W.Frag) (mg : Str → Option Value) (k : Kls) : Prop where
  cl : Cls K k.L
  n1 : NoAttr K k.L "cell"
  n2 : NoAttr K k.L "die"
  g : mg "Lie" = some (.ref k.L)
structure TWish (K : PySem.W.Frag) (mg : Str → Option Value) (k : Kls) : Prop where
  cl : Cls K k.W
  n1 : NoAttr K k.W "cell"
  n2 : NoAttr K k.W "top"
  g : mg "Wish" = some (.ref k.W)
def spLieI (k : Kls) : Sp := fun vs H Q _ => ∃ (p dx : Addr) (c d : V), vs = [.ref p, c, d] ∧ H p = some (.ins k.L dx []) ∧ Q .non (upd H p (.ins k.L dx (lF c d)))
def spWishI (k : Kls) : Sp := fun vs H Q _ => ∃ (p dx : Addr) (c t : V), vs = [.ref p, c, t] ∧ H p = some (.ins k.W dx []) ∧ Q .non (upd H p (.ins k.W dx (wF c t)))
theorem mk_lie {k : Kls} {H : Hp} {Q : VK} {E : XK} {d : Sy74.Die} {q : Addr} {c : Int} (ec : c = d.cell) (hq : DieAt k H q (tri d)) (h : ∀ p H', H p = none → Same H H' → LieAt k H' p d → Q (.ref p) H') :
    ∀ p dx, H p = none → H dx = none → dx ≠ p → spLieI k (V.ref p :: ([.int c, .ref q] ++ [])) (upd (upd H dx (.own p)) p (.ins k.L dx [])) (fun v H' => v = .non ∧ Q (.ref p) H') E := by
  intro p dx np nd ne
  subst ec
  refine ⟨p, dx, _, _, rfl, upd_same, rfl, ?_⟩
  rw [upd_upd]
  have s : Same H (upd (upd H dx (.own p)) p (.ins k.L dx (lF (.int d.cell) (.ref q)))) := mk_same np nd
  exact h p _ np s ⟨dx, q, upd_same, hq.same s⟩
theorem mk_wish {k : Kls} {H : Hp} {Q : VK} {E : XK} {g : Nat × Nat} {c t : Int} (ec : c = g.1) (et : t = g.2) (h : ∀ p H', H p = none → Same H H' → WishAt k H' p g → Q (.ref p) H') :
    ∀ p dx, H p = none → H dx = none → dx ≠ p → spWishI k (V.ref p :: ([.int c, .int t] ++ [])) (upd (upd H dx (.own p)) p (.ins k.W dx [])) (fun v H' => v = .non ∧ Q (.ref p) H') E := by
  intro p dx np nd ne
  subst ec et
  refine ⟨p, dx, _, _, rfl, upd_same, rfl, ?_⟩
  rw [upd_upd]
  exact h p _ np (mk_same np nd) ⟨dx, upd_same⟩
def spKey (k : Kls) : Sp := fun vs H Q _ => ∃ (a : Addr) (d : Sy74.Die), vs = [.ref a] ∧ LieAt k H a d ∧ ∀ p H', H p = none → Same H H' → VKey H' (k4 d) (.ref p) → Q (.ref p) H'
def spBehind (k : Kls) : Sp := fun vs H Q _ => ∃ (g w l : Addr) (s : Sy74.St) (d : Sy74.Die) (y : Nat), vs = [.ref g, .ref l, .int y] ∧ GroundAt k H g w s ∧ LieAt k H l d ∧ Rc.Bd s ∧ Rc.Vd s d ∧ y < 4 ∧
  (Sy74.rolled s d y = none → Q .non H) ∧ ∀ e, Sy74.rolled s d y = some e → ∀ p H', H p = none → Same H H' → LieAt k H' p e → Q (.ref p) H'
def spMet (k : Kls) : Sp := fun vs H Q _ => ∃ (a l : Addr) (s : Sy74.St) (d : Sy74.Die), vs = [.ref a, .ref l] ∧ WishAt k H a s.goal ∧ LieAt k H l d ∧ ∀ H', Same H H' → Q (.bl (Sy74.done s d)) H'
theorem oV_dec (o : Option Nat) : decide (oV o = .non) = o.isNone := by cases o <;> rfl
section
variable {P : Program} {w : World} {K : PySem.W.Frag} {mg : Str → Option Value} {base : Heap} {k : Kls} {fB fR fN fI fT : Addr} {fdB fdR fdN fdI fdT : FuncData}
abbrev sToRoll : Stmt := inClass (top 11) 5
theorem scToRoll : FnScope ["self", "cell", "way", "there"] ["self", "cell", "way"] (defScope sToRoll) := ⟨rfl, rfl, rfl, by decide +kernel, rfl, by decide +kernel, by decide +kernel⟩
theorem ok_toRoll {f : Addr} {fd : FuncData} (F : Fun K "cell_to_roll" "Ground.cell_to_roll" sToRoll f fd) (T : TGround K mg k)
    (GB : FnOk P w K mg base CX0 1 fB fdB ["self", "cell", "way"] (spBeside k)) (bB : Binds K fdB ["self", "cell", "way"] []) (mB : Meth K k.G "cell_beside" fB) : FnOk P w K mg base CX0 2 f fd ["self", "cell", "way"] (spToRoll k) := by
  refine F.ok scToRoll (fun vs H Q E h => ?_) (fun cdv A outer s H vs Q E hr h => ⟨_,
    pss_cons (ps_set (i := 3) scToRoll.nd rfl (Or.inl rfl) (pe_meth (pv 0) T.cl mB GB hr bB .nil pass0 (pa_cons (pv 1) (pa_cons (pv 2) pa_nil))))
    (pss_cons (ps_if (PW.pt (pw_or (pt_cmp (pc_isN (pv 3))) (pw_or1 (pt_cmp (pc_din (hu_of hr) (pv 3) (pe_fld (pv 0) rfl)) rfl)))) (pss_one (ps_ret pe_non)) pss_nil)
    (pss_one (ps_ret (pv 3)))), ?_⟩)
  · obtain ⟨g, w, s, x, d, rfl, _⟩ := h
    rfl
  · obtain ⟨g, w, s, x, d, rfl, hG, b, hx, hd, q⟩ := h
    obtain ⟨dx, kvs, hg, hw, ok⟩ := id hG
    refine ⟨_, rfl, g, dx, _, rfl, hg, gF_none (by decide +kernel) (by decide +kernel) (by decide +kernel) _ _ _, _, rfl, _, rfl, g, w, s, x, d, rfl, hG, b, hx, hd, ?_⟩
    refine ⟨_, rfl, _, rfl, ?_⟩
    rw [oV_dec]
    unfold Rc.rollCell at q
    cases hn : Rc.nextCell s x d with
    | none =>
      rw [hn] at q
      exact if_true_of rfl (if_true_of rfl q)
    | some y =>
      rw [hn] at q
      dsimp only [Option.bind_some] at q
      refine if_false_of rfl ⟨_, rfl, _, rfl, g, k.G, dx, _, _, rfl, hg, T.cl, T.n3, gF_walls _ _ _, w, _, rfl, DGet.k (k := Sum.inl (y : Int)) hw, _, rfl, ?_⟩
      rw [ok.has y]
      by_cases hc : s.walls.contains y = true
      · rw [if_pos hc] at q
        exact if_true_of hc q
      · rw [if_neg hc] at q
        exact if_false_of (by simpa using hc) ⟨_, rfl, q⟩
abbrev sLieI : Stmt := inClass (top 12) 0
theorem scLieI : FnScope ["self", "cell", "die"] ["self", "cell", "die"] (defScope sLieI) := ⟨rfl, rfl, rfl, by decide +kernel, rfl, by decide +kernel, by decide +kernel⟩
theorem ok_LieI {f : Addr} {fd : FuncData} (F : Fun K "__init__" "Lie.__init__" sLieI f fd) (T : TLie K mg k) : FnOk P w K mg base CX0 1 f fd ["self", "cell", "die"] (spLieI k) := by
  refine F.ok scLieI (fun vs H Q E h => ?_) (fun cdv A outer s H vs Q E hr h => ⟨_, pss_cons (ps_fld (pv 0) (pv 1) rfl) (pss_one (ps_fld (pv 0) (pv 2) rfl)), ?_⟩)
  · obtain ⟨p, dx, c, d, rfl, _⟩ := h
    rfl
  · obtain ⟨p, dx, c, d, rfl, hp, q⟩ := h
    refine ⟨_, rfl, _, rfl, p, k.L, dx, [], rfl, hp, T.cl, T.n1, (by show 0 < 1000; decide), ?_⟩
    refine ⟨_, rfl, _, rfl, p, k.L, dx, _, rfl, upd_same, T.cl, T.n2, (by show 1 < 1000; decide), ?_⟩
    rw [upd_upd, lF_put]
    exact q
abbrev sKey : Stmt := inClass (top 12) 1
theorem scKey : FnScope ["self"] ["self"] (defScope sKey) := ⟨rfl, rfl, rfl, by decide +kernel, rfl, by decide +kernel, by decide +kernel⟩
theorem ok_key {f : Addr} {fd : FuncData} (F : Fun K "key" "Lie.key" sKey f fd) (T : TLie K mg k) (TD : TDie K mg k)
    (GN : FnOk P w K mg base CX0 1 fN fdN ["self"] (spNums k)) (bN : Binds K fdN ["self"] []) (mN : Meth K k.D "numbers" fN) : FnOk P w K mg base CX0 2 f fd ["self"] (spKey k) := by
  refine F.ok scKey (fun vs H Q E h => ?_) (fun cdv A outer s H vs Q E hr h => ⟨_, pss_one (ps_ret (pe_tup (pa_cons (pe_fld (pv 0) rfl) (pa_cons (pe_meth0 (pe_fld (pv 0) rfl) TD.cl mN GN hr bN .nil pass0) pa_nil)))), ?_⟩)
  · obtain ⟨a, d, rfl, _⟩ := h
    rfl
  · obtain ⟨a, d, rfl, ⟨dx, p, ha, dd, hp⟩, q⟩ := h
    refine ⟨_, rfl, a, k.L, dx, _, _, rfl, ha, T.cl, T.n1, lF_cell _ _, _, rfl, a, k.L, dx, _, _, rfl, ha, T.cl, T.n2, lF_die _ _, p, dd, _, rfl, hp, dF_numbers _ _ _, p, tri d, rfl, ⟨dd, hp⟩, fun r H1 nr s1 t1 => ⟨(by show 2 ≤ sizeLine; decide), fun u nu => ?_⟩⟩
    have su : Same H1 (upd H1 u (.tup [.int d.cell, .ref r])) := upd_same_of nu
    exact q u _ (s1.free nu) (s1.trans su) (.tup upd_same (.cons (.num _) (.cons ((TriAt.same t1 su).key) .nil)))
abbrev sBehind : Stmt := top 13
theorem scBehind : FnScope ["ground", "lie", "way", "there"] ["ground", "lie", "way"] (defScope sBehind) := ⟨rfl, rfl, rfl, by decide +kernel, rfl, by decide +kernel, by decide +kernel⟩
theorem ok_behind {f : Addr} {fd : FuncData} (F : Fun K "lie_behind" "lie_behind" sBehind f fd) (T : TLie K mg k) (TG : TGround K mg k)
    (GT : FnOk P w K mg base CX0 2 fT fdT ["self", "cell", "way"] (spToRoll k)) (bT : Binds K fdT ["self", "cell", "way"] []) (mT : Meth K k.G "cell_to_roll" fT)
    (M : Mk K k.L fI) (GI : FnOk P w K mg base CX0 1 fI fdI ["self", "cell", "die"] (spLieI k)) (bI : Binds K fdI ["self", "cell", "die"] [])
    (GR : FnOk P w K mg base CX0 3 fR fdR ["die", "way"] (spRolled k)) (bR : Binds K fdR ["die", "way"] []) (mR : mg "rolled" = some (.ref fR)) (kR : PySem.W.keepIn K (.ref fR) = true) :
    FnOk P w K mg base CX0 4 f fd ["ground", "lie", "way"] (spBehind k) := by
  refine F.ok scBehind (fun vs H Q E h => ?_) (fun cdv A outer s H vs Q E hr h => ⟨_,
    pss_cons (ps_set (i := 3) scBehind.nd rfl (Or.inl rfl) (pe_meth (pv 0) TG.cl mT GT (hr.mono (by decide)) bT .nil pass0 (pa_cons (pe_fld (pv 1) rfl) (pa_cons (pv 2) pa_nil))))
    (pss_cons (ps_if (pt_cmp (pc_isN (pv 3))) (pss_one (ps_ret pe_non)) pss_nil)
    (pss_one (ps_ret (pe_make M GI (hr.mono (by decide)) rfl T.g bI .nil pass0 (pa_cons (pv 3) (pa_cons (pe_call GR hr rfl mR kR bR .nil pass0 (pa_cons (pe_fld (pv 1) rfl) (pa_cons (pv 2) pa_nil))) pa_nil)))))), ?_⟩)
  · obtain ⟨g, w, l, s, d, y, rfl, _⟩ := h
    rfl
  · obtain ⟨g, w, l, s, d, y, rfl, hG, ⟨dl, p, hl, hp⟩, b, v, hy, qN, qS⟩ := h
    obtain ⟨dx, kvs, hg, hw, ok⟩ := id hG
    refine ⟨_, rfl, g, dx, _, rfl, hg, gF_none (by decide +kernel) (by decide +kernel) (by decide +kernel) _ _ _, _, rfl, l, k.L, dl, _, _, rfl, hl, T.cl, T.n1, lF_cell _ _, _, rfl, g, w, s, d.cell, y, rfl, hG, b, v.cell, hy, ?_⟩
    refine ⟨_, rfl, _, rfl, ?_⟩
    rw [oV_dec]
    have re := Rc.rolled_cell s d y
    cases hn : Rc.rollCell s d.cell y with
    | none =>
      rw [hn] at re
      exact if_true_of rfl (qN re)
    | some c =>
      rw [hn] at re
      refine if_false_of rfl ⟨_, rfl, _, rfl, l, k.L, dl, _, _, rfl, hl, T.cl, T.n2, lF_die _ _, _, rfl, p, tri d, y, rfl, hy, v.ok, hp, fun r H1 nr s1 d1 => ?_⟩
      exact mk_lie (d := ⟨c, (Rc.lyNext (tri d) y).1, (Rc.lyNext (tri d) y).2.1, (Rc.lyNext (tri d) y).2.2⟩) rfl d1 fun u H2 nu s2 l2 => qS _ re u H2 (s1.free nu) (s1.trans s2) l2
abbrev sWishI : Stmt := inClass (top 14) 0
theorem scWishI : FnScope ["self", "cell", "top"] ["self", "cell", "top"] (defScope sWishI) := ⟨rfl, rfl, rfl, by decide +kernel, rfl, by decide +kernel, by decide +kernel⟩
theorem ok_WishI {f : Addr} {fd : FuncData} (F : Fun K "__init__" "Wish.__init__" sWishI f fd) (T : TWish K mg k) : FnOk P w K mg base CX0 1 f fd ["self", "cell", "top"] (spWishI k) := by
  refine F.ok scWishI (fun vs H Q E h => ?_) (fun cdv A outer s H vs Q E hr h => ⟨_, pss_cons (ps_fld (pv 0) (pv 1) rfl) (pss_one (ps_fld (pv 0) (pv 2) rfl)), ?_⟩)
  · obtain ⟨p, dx, c, d, rfl, _⟩ := h
    rfl
  · obtain ⟨p, dx, c, d, rfl, hp, q⟩ := h
    refine ⟨_, rfl, _, rfl, p, k.W, dx, [], rfl, hp, T.cl, T.n1, (by show 0 < 1000; decide), ?_⟩
    refine ⟨_, rfl, _, rfl, p, k.W, dx, _, rfl, upd_same, T.cl, T.n2, (by show 1 < 1000; decide), ?_⟩
    rw [upd_upd, wF_put]
    exact q
abbrev sMet : Stmt := inClass (top 14) 1
theorem scMet : FnScope ["self", "lie"] ["self", "lie"] (defScope sMet) := ⟨rfl, rfl, rfl, by decide +kernel, rfl, by decide +kernel, by decide +kernel⟩
theorem ok_met {f : Addr} {fd : FuncData} (F : Fun K "is_met" "Wish.is_met" sMet f fd) (T : TWish K mg k) (TL : TLie K mg k) (TD : TDie K mg k) : FnOk P w K mg base CX0 1 f fd ["self", "lie"] (spMet k) := by
  refine F.ok scMet (fun vs H Q E h => ?_) (fun cdv A outer s H vs Q E hr h => ⟨_, pss_one (ps_ret (pe_and (pe_cmpR op_eq (pe_fld (pv 1) rfl) (pe_fld (pv 0) rfl) (nomark _)) (pe_one (pe_cmpR op_in_seq (pe_fld (pv 0) rfl) (pe_tup (pa_cons pe_int (pa_cons (pe_fld (pe_fld (pv 1) rfl) rfl) pa_nil))) rfl)))), ?_⟩)
  · obtain ⟨a, l, s, d, rfl, _⟩ := h
    rfl
  · obtain ⟨a, l, s, d, rfl, ⟨da, ha⟩, ⟨dl, p, hl, dp, hp⟩, q⟩ := h
    refine ⟨_, rfl, l, k.L, dl, _, _, rfl, hl, TL.cl, TL.n1, lF_cell _ _, _, rfl, a, k.W, da, _, _, rfl, ha, T.cl, T.n1, wF_cell _ _, rfl, _, rfl, ?_⟩
    rw [dec_nat]
    by_cases c1 : d.cell = s.goal.1
    · refine if_true_of (decide_eq_true c1) ⟨_, rfl, a, k.W, da, _, _, rfl, ha, T.cl, T.n2, wF_top _ _, _, rfl, l, k.L, dl, _, _, rfl, hl, TL.cl, TL.n2, lF_die _ _, p, k.D, dp, _, _, rfl, hp, TD.cl, TD.n1, dF_top _ _ _, (by show 2 ≤ sizeLine; decide), fun t nt => ?_⟩
      refine ⟨t, _, rfl, .inr (.of upd_same), rfl, rfl, ?_⟩
      have e : Sy74.done s d = inV (.int s.goal.2) [.int 0, .int d.top] := by
        unfold Sy74.done inV
        rw [show (d.cell == s.goal.1) = true by simpa using c1, Bool.true_and]
        show _ = (eqV (.int 0) (.int s.goal.2) || (eqV (.int d.top) (.int s.goal.2) || false))
        rw [Bool.or_false]
        have f : ∀ (i j : Nat), eqV (.int i) (.int j) = (i == j) := fun i j => by
          show ((i : Int) == (j : Int)) = (i == j)
          rw [Bool.eq_iff_iff]
          simp
          omega
        rw [show (V.int 0) = V.int ((0 : Nat) : Int) from rfl, f, f, Bool.eq_iff_iff]
        simp
        omega
      have := q (upd H t (.tup [.int 0, .int d.top])) (upd_same_of nt)
      rw [e] at this
      exact this
    · refine if_false_of (decide_eq_false c1) ?_
      have e : Sy74.done s d = false := by
        unfold Sy74.done
        rw [show (d.cell == s.goal.1) = false by simpa using c1, Bool.false_and]
      have := q _ (Same.refl _)
      rw [e] at this
      exact this
end
end L2.Rw

/-! text Wk8 -/
namespace L2.Rw
open PySem PySem.Spec PyProof.Rows
/-! ### what can be come to -/
def rF (l o n : V) : List (Str × V) := [("lies", l), ("origins", o), ("known", n)]
theorem rF_lies (t n e : V) : (rF t n e).lookup ("lies" : Str) = some t := lk_here
theorem rF_origins (t n e : V) : (rF t n e).lookup ("origins" : Str) = some n := (lk_past (by decide +kernel)).trans lk_here
theorem rF_known (t n e : V) : (rF t n e).lookup ("known" : Str) = some e := (lk_past (by decide +kernel)).trans ((lk_past (by decide +kernel)).trans lk_here)
theorem rF_none {m : Str} (h1 : (m == ("lies" : Str)) = false) (h2 : (m == ("origins" : Str)) = false) (h3 : (m == ("known" : Str)) = false) (t n e : V) : (rF t n e).lookup m = none := (lk_past h1).trans ((lk_past h2).trans ((lk_past h3).trans rfl))
theorem rF_put (t n e : V) : putF "known" e (putF "origins" n (putF "lies" t [])) = rF t n e := by
  show putF "known" e (putF "origins" n [("lies", t)]) = _
  rw [put_past (by decide +kernel)]
  show putF "known" e [("lies", t), ("origins", n)] = _
  rw [put_past (by decide +kernel), put_past (by decide +kernel)]
  rfl
/-- an origin: None, or a pair of a number and a roll -/
def OrgAt (H : Hp) (v : V) : Option (Nat × Nat) → Prop
  | none => v = .non
  | some (a, y) => ∃ t : Addr, v = .ref t ∧ H t = some (.tup [.int a, .int y])
theorem OrgAt.tups {H H' : Hp} {v : V} {o : Option (Nat × Nat)} (h : OrgAt H v o) (m : Tups H H') : OrgAt H' v o := by
  cases o with
  | none => exact h
  | some x =>
    obtain ⟨a, y⟩ := x
    obtain ⟨t, e, q⟩ := h
    exact ⟨t, e, m _ _ q⟩
/-- a Reach at a -/
structure RAt (P : Program) (w : World) (k : Kls) (H : Hp) (a dx pl po pk : Addr) (q : List Rc.En) : Prop where
  ins : H a = some (.ins k.R dx (rF (.ref pl) (.ref po) (.ref pk)))
  lies : ∃ rs, H pl = some (.lst (rs.map V.ref)) ∧ All2 (LieAt k H) rs (q.map (·.1))
  orgs : ∃ os, H po = some (.lst os) ∧ All2 (OrgAt H) os (q.map (·.2))
  known : DNAt P w H pk (q.map fun x => k4 x.1)
  ne : pl ≠ po
theorem RAt.move {P : Program} {w : World} {k : Kls} {H H' : Hp} {a dx pl po pk : Addr} {q : List Rc.En} (h : RAt P w k H a dx pl po pk q) (s : Same H H') : RAt P w k H' a dx pl po pk q := by
  obtain ⟨rs, e, r⟩ := h.lies
  obtain ⟨os, e2, o⟩ := h.orgs
  obtain ⟨xs, e3, _⟩ := id h.known
  exact ⟨s _ _ h.ins, ⟨rs, s _ _ e, r.mono fun r x z => z.same s⟩, ⟨os, s _ _ e2, o.mono fun v x z => z.tups (.of_same s)⟩, h.known.mono ((s _ _ e3).trans e3.symm) (.of_same s), h.ne⟩
theorem LieAt.but {k : Kls} {H H' : Hp} {p : Addr} {r : Addr} {d : Sy74.Die} (h : LieAt k H r d) (kp : ∀ c, c ≠ p → H' c = H c) (np : ∀ C dx fs, H p ≠ some (.ins C dx fs)) : LieAt k H' r d := by
  obtain ⟨dx, q, e, dd, e2⟩ := h
  have n1 : ∀ {c C dx fs}, H c = some (.ins C dx fs) → c ≠ p := fun {c C dx fs} e z => np C dx fs (z ▸ e)
  exact ⟨dx, q, (kp _ (n1 e)).trans e, dd, (kp _ (n1 e2)).trans e2⟩
theorem Tups.but {H H' : Hp} {p : Addr} (kp : ∀ c, c ≠ p → H' c = H c) (np : ∀ xs, H p ≠ some (.tup xs)) : Tups H H' := fun b xs e => (kp b (fun z => np xs (z ▸ e))).trans e
theorem DNAt.but {P : Program} {w : World} {H H' : Hp} {a p : Addr} {ks : List NestedKey} (h : DNAt P w H a ks) (ne : a ≠ p) (kp : ∀ c, c ≠ p → H' c = H c) (np : ∀ xs, H p ≠ some (.tup xs)) : DNAt P w H' a ks := h.mono (kp a ne) (Tups.but kp np)
theorem get_of_upd {H : Hp} {p : Addr} {o : HO} : ∀ c, c ≠ p → upd H p o c = H c := fun c hc => upd_ne hc
/-- a way to lie, or None -/
def OL (k : Kls) (H : Hp) (v : V) : Option Sy74.Die → Prop
  | none => v = .non
  | some d => ∃ l, v = .ref l ∧ LieAt k H l d
structure TReach (K : PySem.W.Frag) (mg : Str → Option Value) (k : Kls) : Prop where
  cl : Cls K k.R
  n1 : NoAttr K k.R "lies"
  n2 : NoAttr K k.R "origins"
  n3 : NoAttr K k.R "known"
  g : mg "Reach" = some (.ref k.R)
def spCome (P : Program) (w : World) (k : Kls) : Sp := fun vs H Q _ => ∃ (a dx pl po pk : Addr) (q : List Rc.En) (v : V) (o : Option Sy74.Die) (i y : Nat), vs = [.ref a, v, .int i, .int y] ∧ RAt P w k H a dx pl po pk q ∧ OL k H v o ∧ q.length ≤ 900 ∧
  ∀ H', RAt P w k H' a dx pl po pk (Rc.push q i y o) → (∀ b u, H b = some u → b ≠ pl → b ≠ po → b ≠ pk → H' b = some u) → Q .non H'
section
variable {P : Program} {w : World} {K : PySem.W.Frag} {mg : Str → Option Value} {base : Heap} {k : Kls} {fK : Addr} {fdK : FuncData}
abbrev sCome : Stmt := inClass (top 16) 1
theorem scCome : FnScope ["self", "lie", "at", "way"] ["self", "lie", "at", "way"] (defScope sCome) := ⟨rfl, rfl, rfl, by decide +kernel, rfl, by decide +kernel, by decide +kernel⟩
theorem ok_come {f : Addr} {fd : FuncData} (F : Fun K "come_to" "Reach.come_to" sCome f fd) (T : TReach K mg k) (TL : TLie K mg k)
    (GK : FnOk P w K mg base CX0 2 fK fdK ["self"] (spKey k)) (bK : Binds K fdK ["self"] []) (mK : Meth K k.L "key" fK) : FnOk P w K mg base CX0 3 f fd ["self", "lie", "at", "way"] (spCome P w k) := by
  refine F.ok scCome (fun vs H Q E h => ?_) (fun cdv A outer s H vs Q E hr h => ⟨_,
    pss_one (ps_if (PW.pt (pw_and (pt_cmp (pc_notN (pv 1))) (pw_and1 (pt_cmp (pc_nnotin (hu9 hr) (pe_meth0 (pv 1) TL.cl mK GK hr bK .nil pass0) (pe_fld (pv 0) rfl)) rfl))))
      (pss_cons (ps_nput (hu9 hr) (pe_fld (pv 0) rfl) (pe_meth0 (pv 1) TL.cl mK GK hr bK .nil pass0) pe_bl)
      (pss_cons (ps_expr (pe_bm PySem.F.plainAttrs_list PySem.F.slot_list_append PySem.F.type_list_append mt_append (pe_fld (pv 0) rfl) (pa_cons (pv 1) pa_nil)))
      (pss_one (ps_expr (pe_bm PySem.F.plainAttrs_list PySem.F.slot_list_append PySem.F.type_list_append mt_append (pe_fld (pv 0) rfl) (pa_cons (pe_tup (pa_cons (pv 2) (pa_cons (pv 3) pa_nil))) pa_nil)))))) pss_nil), ?_⟩)
  · obtain ⟨a, dx, pl, po, pk, q, v, o, i, y, rfl, _⟩ := h
    rfl
  · obtain ⟨a, dx, pl, po, pk, q, v, o, i, y, rfl, R, hv, hl, qq⟩ := h
    refine ⟨_, rfl, _, rfl, ?_⟩
    cases o with
    | none =>
      obtain rfl : v = .non := hv
      exact if_false_of rfl (if_false_of rfl (qq H R fun b u e _ _ _ => e))
    | some d =>
      obtain ⟨l, rfl, hlie⟩ := hv
      obtain ⟨dl, p, el, hp⟩ := id hlie
      refine if_true_of rfl ⟨_, rfl, l, dl, _, rfl, el, lF_key _ _, l, d, rfl, hlie, fun r H1 nr s1 t1 => ?_⟩
      have R1 := R.move s1
      refine ⟨_, rfl, a, k.R, dx, _, _, rfl, R1.ins, T.cl, T.n3, rF_known _ _ _, pk, r, k4 d, _, rfl, rfl, R1.known, t1, k4_depth d, _, rfl, ?_⟩
      have ek : (q.map fun x => k4 x.1) = (q.map (·.1)).map k4 := by rw [List.map_map]; rfl
      have iff : (q.any fun x => decide (x.1 = d)) = true ↔ k4 d ∈ q.map fun x => k4 x.1 := by
        rw [ek, k4_mem, List.any_eq_true, List.mem_map]
        exact ⟨fun ⟨x, a, b⟩ => ⟨x, a, of_decide_eq_true b⟩, fun ⟨x, a, b⟩ => ⟨x, a, decide_eq_true b⟩⟩
      by_cases hm : k4 d ∈ q.map fun x => k4 x.1
      · refine if_false_of (by rw [decide_eq_true hm]; rfl) (qq H1 ?_ fun b u e _ _ _ => s1 _ _ e)
        have : Rc.push q i y (some d) = q := if_pos (iff.mpr hm)
        rw [this]
        exact R1
      · have pu : Rc.push q i y (some d) = q ++ [(d, some (i, y))] := if_neg fun z => hm (iff.mp z)
        refine if_true_of (by rw [decide_eq_false hm]; rfl) ?_
        have hlie1 := hlie.same s1
        obtain ⟨dl1, p1, el1, hp1⟩ := id hlie1
        -- self.known[lie.key()] = True
        refine ⟨_, rfl, a, k.R, dx, _, _, rfl, R1.ins, T.cl, T.n3, rF_known _ _ _, _, rfl, l, dl1, _, rfl, el1, lF_key _ _, l, d, rfl, hlie1, fun r2 H2 nr2 s2 t2 => ?_⟩
        have R2 := R1.move s2
        refine ⟨pk, r2, k4 d, _, rfl, rfl, R2.known, t2, k4_depth d, hm, ?_, fun H3 g3 k3' => ?_⟩
        · rw [List.length_map]
          exact Nat.lt_of_le_of_lt hl (by decide)
        obtain ⟨ys, ey, _⟩ := id R2.known
        have npk : ∀ C dx fs, H2 pk ≠ some (.ins C dx fs) := fun C dx fs z => by rw [ey] at z; cases z
        have npt : ∀ xs, H2 pk ≠ some (.tup xs) := fun xs z => by rw [ey] at z; cases z
        obtain ⟨rs, el2, ar⟩ := R2.lies
        obtain ⟨os, eo2, ao⟩ := R2.orgs
        have ins3 : H3 a = some (.ins k.R dx (rF (.ref pl) (.ref po) (.ref pk))) := (k3' a (R2.known.not_ins R2.ins)).trans R2.ins
        have lst3 : H3 pl = some (.lst (rs.map V.ref)) := (k3' pl (R2.known.not_lst el2)).trans el2
        have org3 : H3 po = some (.lst os) := (k3' po (R2.known.not_lst eo2)).trans eo2
        have hlie3 : LieAt k H3 l d := (hlie1.same s2).but k3' npk
        have lr : rs.length ≤ 900 := by rw [ar.len, List.length_map]; exact hl
        have lo : os.length ≤ 900 := by rw [ao.len, List.length_map]; exact hl
        -- self.lies.append(lie)
        refine ⟨_, rfl, a, k.R, dx, _, _, rfl, ins3, T.cl, T.n1, rF_lies _ _ _, .inl ⟨rfl, _, SqL.of lst3⟩, _, rfl, pl, _, _, rfl, rfl, lst3, ?_, ?_⟩
        · rw [List.length_map]
          exact Nat.lt_of_le_of_lt lr (by decide)
        have ne_pl : ∀ {c C dx fs}, H3 c = some (.ins C dx fs) → c ≠ pl := fun e => ne_of e lst3 (fun z => by cases z)
        have ins4 := (upd_ne (o := .lst (rs.map V.ref ++ [.ref l])) (ne_pl ins3)).trans ins3
        have org4 := (upd_ne (o := .lst (rs.map V.ref ++ [.ref l])) (Ne.symm R.ne)).trans org3
        have lst4 : upd H3 pl (.lst (rs.map V.ref ++ [.ref l])) pl = some (.lst (rs.map V.ref ++ [.ref l])) := upd_same
        generalize hH4 : upd H3 pl (.lst (rs.map V.ref ++ [.ref l])) = H4 at ins4 org4 lst4 ⊢
        have kp4 : ∀ c, c ≠ pl → H4 c = H3 c := fun c hc => by rw [← hH4]; exact upd_ne hc
        -- self.origins.append((at, way))
        refine ⟨_, rfl, a, k.R, dx, _, _, rfl, ins4, T.cl, T.n2, rF_origins _ _ _, .inl ⟨rfl, _, SqL.of org4⟩, _, rfl, _, rfl, (by show 2 ≤ sizeLine; decide), fun t nt => ?_⟩
        have st : Same H4 (upd H4 t (.tup [.int i, .int y])) := upd_same_of nt
        have org5 := st _ _ org4
        have lst5 := st _ _ lst4
        have ins5 := st _ _ ins4
        have tup5 : upd H4 t (.tup [.int i, .int y]) t = some (.tup [.int i, .int y]) := upd_same
        generalize hH5 : upd H4 t (.tup [.int i, .int y]) = H5 at st org5 lst5 ins5 tup5 ⊢
        refine ⟨po, _, _, rfl, rfl, org5, Nat.lt_of_le_of_lt lo (by decide), qq _ ?_ fun b u e h1 h2 h3 => ?_⟩
        · have kp6 : ∀ c, c ≠ po → upd H5 po (.lst (os ++ [.ref t])) c = H5 c := fun c hc => upd_ne hc
          have n5o : ∀ C dx fs, H5 po ≠ some (.ins C dx fs) := fun C dx fs z => by rw [org5] at z; cases z
          have t5o : ∀ xs, H5 po ≠ some (.tup xs) := fun xs z => by rw [org5] at z; cases z
          have n3l : ∀ C dx fs, H3 pl ≠ some (.ins C dx fs) := fun C dx fs z => by rw [lst3] at z; cases z
          have t3l : ∀ xs, H3 pl ≠ some (.tup xs) := fun xs z => by rw [lst3] at z; cases z
          have mv : ∀ (r : Addr) (e : Sy74.Die), LieAt k H3 r e → LieAt k (upd H5 po (.lst (os ++ [.ref t]))) r e := fun r e z => ((z.but kp4 n3l).same st).but kp6 n5o
          have tp : Tups H3 (upd H5 po (.lst (os ++ [.ref t]))) := fun b xs e => Tups.but kp6 t5o _ _ (st _ _ (Tups.but kp4 t3l _ _ e))
          rw [pu]
          refine ⟨(kp6 a (ne_of ins5 org5 (fun z => by cases z))).trans ins5, ⟨rs ++ [l], ?_, ?_⟩, ⟨os ++ [.ref t], upd_same, ?_⟩, ?_, R.ne⟩
          · rw [kp6 pl R.ne, lst5, List.map_append]
            rfl
          · rw [List.map_append]
            exact (ar.mono fun r e z => mv r e (z.but k3' npk)).snoc (mv l d hlie3)
          · rw [List.map_append]
            refine (ao.mono fun v e z => (z.tups (Tups.but k3' npt)).tups tp).snoc ⟨t, rfl, ?_⟩
            rw [kp6 t (ne_of tup5 org5 (fun z => by cases z))]
            exact tup5
          · rw [List.map_append]
            have g4 := (DNAt.but g3 (Ne.symm (g3.not_lst lst3)) kp4 t3l)
            obtain ⟨zs, ez, _⟩ := id g4
            have g5 := g4.mono ((st _ _ ez).trans ez.symm) (.of_same st)
            exact DNAt.but g5 (Ne.symm (g5.not_lst org5)) kp6 t5o
        · rw [upd_ne h2]
          refine st _ _ ?_
          rw [kp4 b h1, k3' b h3]
          exact s2 _ _ (s1 _ _ e)
end
end L2.Rw

/-! text Wk9 -/
namespace L2.Rw
open PySem PySem.Spec PyProof.Rows
/-! ### a Reach is made -/
/-- from the heap H with a new instance at a: the lists and the dict are new, all else stands -/
structure RNew (P : Program) (w : World) (k : Kls) (H : Hp) (a dx pl po pk : Addr) (q : List Rc.En) (H' : Hp) : Prop where
  r : RAt P w k H' a dx pl po pk q
  nl : H pl = none
  no : H po = none
  nk : H pk = none
  same : ∀ b u, H b = some u → b ≠ a → H' b = some u
theorem RNew.move {P : Program} {w : World} {k : Kls} {H H1 H' : Hp} {a dx pl po pk : Addr} {q : List Rc.En} (h : RNew P w k H a dx pl po pk q H1) (s : Same H1 H') : RNew P w k H a dx pl po pk q H' :=
  ⟨h.r.move s, h.nl, h.no, h.nk, fun b u e n => s _ _ (h.same b u e n)⟩
theorem GroundAt.keep {k : Kls} {H H' : Hp} {g w a dx : Addr} {s : Sy74.St} (h : GroundAt k H g w s) (ha : H a = some (.ins k.R dx [])) (kp : ∀ b u, H b = some u → b ≠ a → H' b = some u) : GroundAt k H' g w s := by
  obtain ⟨dg, kvs, e1, e2, ok⟩ := h
  exact ⟨dg, kvs, kp _ _ e1 (ne_of e1 ha (fun z => by have h3 := (HO.ins.inj z).2.2; unfold gF at h3; cases h3)), kp _ _ e2 (ne_of e2 ha (fun z => by cases z)), ok⟩
theorem LieAt.keep {k : Kls} {H H' : Hp} {l a dx : Addr} {d : Sy74.Die} (h : LieAt k H l d) (ha : H a = some (.ins k.R dx [])) (kp : ∀ b u, H b = some u → b ≠ a → H' b = some u) : LieAt k H' l d := by
  obtain ⟨dl, p, e1, dd, e2⟩ := h
  exact ⟨dl, p, kp _ _ e1 (ne_of e1 ha (fun z => by have h3 := (HO.ins.inj z).2.2; unfold lF at h3; cases h3)), dd, kp _ _ e2 (ne_of e2 ha (fun z => by have h3 := (HO.ins.inj z).2.2; unfold dV dF at h3; cases h3))⟩
def spReachI (P : Program) (w : World) (k : Kls) : Sp := fun vs H Q _ => ∃ (a dx g wd l : Addr) (s : Sy74.St), vs = [.ref a, .ref g, .ref l] ∧ H a = some (.ins k.R dx []) ∧ GroundAt k H g wd s ∧ LieAt k H l s.die ∧ Rc.Bd s ∧ Rc.Vd s s.die ∧
  ∀ H' pl po pk q, RNew P w k H a dx pl po pk q H' → Rc.Full s s.die q → Q .non H'
section
variable {P : Program} {w : World} {K : PySem.W.Frag} {mg : Str → Option Value} {base : Heap} {k : Kls} {fK fC fB : Addr} {fdK fdC fdB : FuncData}
abbrev sReachI : Stmt := inClass (top 16) 0
theorem scReachI : FnScope ["self", "ground", "lie", "at", "way"] ["self", "ground", "lie"] (defScope sReachI) := ⟨rfl, rfl, rfl, by decide +kernel, rfl, by decide +kernel, by decide +kernel⟩
theorem ok_ReachI {f : Addr} {fd : FuncData} (F : Fun K "__init__" "Reach.__init__" sReachI f fd) (T : TReach K mg k) (TL : TLie K mg k) (TW : TWays K mg)
    (GK : FnOk P w K mg base CX0 2 fK fdK ["self"] (spKey k)) (bK : Binds K fdK ["self"] []) (mK : Meth K k.L "key" fK)
    (GC : FnOk P w K mg base CX0 3 fC fdC ["self", "lie", "at", "way"] (spCome P w k)) (bC : Binds K fdC ["self", "lie", "at", "way"] []) (mC : Meth K k.R "come_to" fC)
    (GB : FnOk P w K mg base CX0 4 fB fdB ["ground", "lie", "way"] (spBehind k)) (bB : Binds K fdB ["ground", "lie", "way"] []) (mB : mg "lie_behind" = some (.ref fB)) (kB : PySem.W.keepIn K (.ref fB) = true) :
    FnOk P w K mg base CX0 5 f fd ["self", "ground", "lie"] (spReachI P w k) := by
  obtain ⟨aW, gW, tW⟩ := TW.w
  refine F.ok scReachI (fun vs H Q E h => ?_) (fun cdv A outer s H vs Q E hr h => ⟨_,
    pss_cons (ps_fld (pv 0) (pe_lst (pa_cons (pv 2) pa_nil)) rfl)
    (pss_cons (ps_fld (pv 0) (pe_lst (pa_cons pe_non pa_nil)) rfl)
    (pss_cons (ps_fld (pv 0) (pe_ndisp (hu9 hr) (pe_meth0 (pv 2) TL.cl mK GK (hr.mono (by decide)) bK .nil pass0) pe_bl) rfl)
    (pss_cons (ps_set (i := 3) scReachI.nd rfl (Or.inl rfl) pe_int)
    (pss_one (ps_while PassesOwn.never (pt_cmpR op_lt (pv 3) (pe_callB call_len_seq rfl TW.len PySem.boot_len (pa_cons (pe_fld (pv 0) rfl) pa_nil)) (nomark _))
      (pss_cons (ps_for PassesOwn.never rfl (pi_tup (pe_glob (v := .ref aW) rfl gW rfl)) (pg_name (i := 4) scReachI.nd rfl (Or.inl rfl))
        (pss_one (ps_expr (pe_meth (pv 0) T.cl mC GC (hr.mono (by decide)) bC .nil pass0 (pa_cons (pe_call GB hr rfl mB kB bB .nil pass0 (pa_cons (pv 1) (pa_cons (pe_ix ix_list (pe_fld (pv 0) rfl) (pv 3) (fun _ _ => rfl)) (pa_cons (pv 4) pa_nil)))) (pa_cons (pv 3) (pa_cons (pv 4) pa_nil)))))))
      (pss_one (ps_set (i := 3) scReachI.nd rfl (Or.inl rfl) (pe_op op_add (pv 3) pe_int))))))))), ?_⟩)
  · obtain ⟨a, dx, g, wd, l, s, rfl, _⟩ := h
    rfl
  · obtain ⟨a, dx, g, wd, l, s, rfl, ha, hG, hL, b, v, q⟩ := h
    -- self.lies = [lie]
    refine ⟨_, rfl, (by show 1 ≤ sizeLine; decide), fun pl nl => ⟨_, rfl, a, k.R, dx, [], rfl, (upd_same_of nl) _ _ ha, T.cl, T.n1, (by show 0 < 1000; decide), ?_⟩⟩
    -- self.origins = [None]
    refine ⟨(by show 1 ≤ sizeLine; decide), fun po no => ?_⟩
    have apl : a ≠ pl := ne_of_none ha nl
    have no1 : a ≠ po := ne_of_none (o := .ins k.R dx (putF "lies" (.ref pl) [])) upd_same no
    have plpo : pl ≠ po := ne_of_none (o := .lst [.ref l]) (by rw [upd_ne (Ne.symm apl), upd_same]) no
    have noH : H po = none := by rw [upd_ne (Ne.symm no1), upd_ne (Ne.symm plpo)] at no; exact no
    refine ⟨_, rfl, a, k.R, dx, _, rfl, (upd_same_of no) _ _ upd_same, T.cl, T.n2, (by show 1 < 1000; decide), ?_⟩
    have e3 : ∀ (H3 : Hp), H3 = upd (upd (upd (upd H pl (.lst [.ref l])) a (.ins k.R dx (putF "lies" (.ref pl) []))) po (.lst [.non])) a (.ins k.R dx (putF "origins" (.ref po) (putF "lies" (.ref pl) []))) →
        H3 a = some (.ins k.R dx (putF "origins" (.ref po) (putF "lies" (.ref pl) []))) ∧ H3 pl = some (.lst [.ref l]) ∧ H3 po = some (.lst [.non]) ∧ (∀ c o, H c = some o → c ≠ a → H3 c = some o) ∧ (∀ c, H3 c = none → H c = none) := by
      rintro _ rfl
      have st : ∀ c o, H c = some o → c ≠ a → upd (upd (upd (upd H pl (.lst [.ref l])) a (.ins k.R dx (putF "lies" (.ref pl) []))) po (.lst [.non])) a (.ins k.R dx (putF "origins" (.ref po) (putF "lies" (.ref pl) []))) c = some o := fun c o e hc => by
        rw [upd_ne hc, upd_ne (ne_of_none e noH), upd_ne hc, upd_ne (ne_of_none e nl)]
        exact e
      refine ⟨upd_same, ?_, ?_, st, fun c e => ?_⟩
      · rw [upd_ne (Ne.symm apl), upd_ne plpo, upd_ne (Ne.symm apl), upd_same]
      · rw [upd_ne (Ne.symm no1), upd_same]
      · cases hc : H c with
        | none => rfl
        | some o =>
          by_cases ca : c = a
          · subst ca; rw [upd_same] at e; cases e
          · rw [st c o hc ca] at e; cases e
    generalize upd (upd (upd (upd H pl (.lst [.ref l])) a (.ins k.R dx (putF "lies" (.ref pl) []))) po (.lst [.non])) a (.ins k.R dx (putF "origins" (.ref po) (putF "lies" (.ref pl) []))) = H3 at e3 ⊢
    obtain ⟨a3, l3, o3, st3, fr3⟩ := e3 H3 rfl
    -- self.known = {lie.key(): True}
    intro pk H4 nk g4 k4'
    have nkH : H pk = none := fr3 _ nk
    have s4 : Same H3 H4 := fun c o e => by rw [k4' _ (ne_of_none e nk)]; exact e
    have hL4 : LieAt k H4 l s.die := (hL.keep ha st3).same s4
    obtain ⟨dl, p, el, hp⟩ := id hL4
    refine ⟨_, rfl, l, dl, _, rfl, el, lF_key _ _, l, s.die, rfl, hL4, fun r H5 nr s5 t5 => ?_⟩
    obtain ⟨ys, ey, _⟩ := id g4
    have g5 := g4.mono ((s5 _ _ ey).trans ey.symm) (.of_same s5)
    refine ⟨r, Rw.k4 s.die, rfl, g5, t5, k4_depth _, fun H6 g6 k6 => ?_⟩
    have ap : a ≠ pk := fun z => by rw [z, nk] at a3; cases a3
    have lp : pl ≠ pk := fun z => by rw [z, nk] at l3; cases l3
    have op : po ≠ pk := fun z => by rw [z, nk] at o3; cases o3
    have a6 := (k6 a ap).trans (s5 _ _ (s4 _ _ a3))
    refine ⟨_, rfl, a, k.R, dx, _, rfl, a6, T.cl, T.n3, (by show 2 < 1000; decide), ?_⟩
    rw [rF_put]
    have I0 : RNew P w k H a dx pl po pk (Rc.bfsN s s.die 0) (upd H6 a (.ins k.R dx (rF (.ref pl) (.ref po) (.ref pk)))) := by
      have lk : ∀ c, c ≠ a → upd H6 a (.ins k.R dx (rF (.ref pl) (.ref po) (.ref pk))) c = H6 c := fun c hc => upd_ne hc
      have pl6 : H6 pl = some (.lst [.ref l]) := (k6 _ lp).trans (s5 _ _ (s4 _ _ l3))
      have po6 : H6 po = some (.lst [.non]) := (k6 _ op).trans (s5 _ _ (s4 _ _ o3))
      have st6 : ∀ c o, H c = some o → c ≠ a → H6 c = some o := fun c o e hc => (k6 _ (ne_of_none e nkH)).trans (s5 _ _ (s4 _ _ (st3 c o e hc)))
      have hL6 := hL.keep ha fun c o e hc => (lk c hc).trans (st6 c o e hc)
      refine ⟨⟨upd_same, ⟨[l], (lk _ (Ne.symm apl)).trans pl6, All2.snoc .nil hL6⟩, ⟨[.non], (lk _ (Ne.symm no1)).trans po6, All2.snoc .nil rfl⟩, ?_, plpo⟩, nl, noH, nkH, fun c o e hc => (lk c hc).trans (st6 c o e hc)⟩
      exact DNAt.but g6 (Ne.symm ap) lk fun xs z => by rw [a6] at z; cases z
    generalize upd H6 a (.ins k.R dx (rF (.ref pl) (.ref po) (.ref pk))) = H7 at I0 ⊢
    -- at = 0; while at < len(self.lies)
    refine ⟨fun m σ H' => ∃ n : Nat, m = 901 - n ∧ n ≤ (Rc.bfsN s s.die n).length ∧ ∃ w4, σ = [some (.ref a), some (.ref g), some (.ref l), some (.int (n : Nat)), w4] ∧ RNew P w k H a dx pl po pk (Rc.bfsN s s.die n) H', ⟨901, 0, rfl, Nat.zero_le _, none, rfl, I0⟩, ?_⟩
    rintro m σ H' ⟨n, rfl, hn, w4, rfl, I⟩
    have B := Rc.bfsN_spec b v n hn
    have len := B.len b v
    obtain ⟨rs, lp', ar⟩ := id I.r.lies
    refine ⟨_, rfl, _, rfl, a, k.R, dx, _, _, rfl, I.r.ins, T.cl, T.n1, rF_lies _ _ _, pl, _, rfl, .inl (.of lp'), _, _, rfl, rfl, _, rfl, ?_⟩
    by_cases c : n < (Rc.bfsN s s.die n).length
    · refine if_true_of (decide_eq_true (by rw [List.length_map, ar.len, List.length_map]; omega)) ?_
      obtain ⟨x, hx⟩ : ∃ x, (Rc.bfsN s s.die n)[n]? = some x := ⟨_, List.getElem?_eq_getElem c⟩
      have step : Rc.bfsN s s.die (n + 1) = Rc.row s (Rc.bfsN s s.die n) n x.1 4 := by
        show (match (Rc.bfsN s s.die n)[n]? with | none => Rc.bfsN s s.die n | some x => Rc.row s (Rc.bfsN s s.die n) n x.1 4) = _
        rw [hx]
      have rows := fun i hi => Rc.Bfs.row B b v hx i hi
      refine ⟨fun σ' H'' => ∃ w4, σ' = [some (.ref a), some (.ref g), some (.ref l), some (.int ((n + 1 : Nat) : Int)), w4] ∧ RNew P w k H a dx pl po pk (Rc.bfsN s s.die (n + 1)) H'', fun σ' H'' ⟨u4, e, J⟩ => ⟨901 - (n + 1), by omega, n + 1, rfl, ?_, u4, e, J⟩, ?_⟩
      · rw [step]
        exact (List.getElem?_eq_some_iff.mp (rows 4 (Nat.le_refl _)).2).1
      -- for way in WAYS
      refine ⟨aW, rfl, ⟨_, tW _⟩, for_tup (K := K) (a := aW) (xs := [.int 0, .int 1, .int 2, .int 3]) (fun i σ H'' => ∃ w4, σ = [some (.ref a), some (.ref g), some (.ref l), some (.int (n : Nat)), w4] ∧ RNew P w k H a dx pl po pk (Rc.row s (Rc.bfsN s s.die n) n x.1 i) H'') ⟨w4, rfl, I⟩ (fun i σ H'' _ _ => tW _) ?_ ?_⟩
      · rintro i y σ H8 hi ⟨u4, rfl, J⟩
        obtain ⟨hi4, rfl⟩ := ways_at hi
        obtain ⟨B8, hx8⟩ := rows i (by omega)
        obtain ⟨rs8, lp8, ar8⟩ := id J.r.lies
        have hx9 : ((Rc.row s (Rc.bfsN s s.die n) n x.1 i).map (·.1))[n]? = some x.1 := by rw [List.getElem?_map, hx8]; rfl
        obtain ⟨r, hr8, lr⟩ := ar8.at hx9
        have v8 := B8.vd b v hx8
        refine ⟨_, rfl, a, dx, _, rfl, J.r.ins, rF_none (by decide +kernel) (by decide +kernel) (by decide +kernel) _ _ _, _, rfl, _, rfl, a, k.R, dx, _, _, rfl, J.r.ins, T.cl, T.n1, rF_lies _ _ _, _, rfl, pl, _, _, _, rfl, rfl, .of lp8, atI_nat (map_ref_at hr8), _, rfl,
          g, wd, r, s, x.1, i, rfl, hG.keep ha J.same, lr, b, v8, hi4, fun e => ?_, fun e he u H9 nu s9 le => ?_⟩
        · refine ⟨_, rfl, _, rfl, a, dx, pl, po, pk, _, _, none, n, i, rfl, J.r, rfl, B8.len b v, fun H9 R9 k9 => ⟨_, rfl, ?_⟩⟩
          refine ⟨?_, J.nl, J.no, J.nk, fun c o q1 hc => k9 c o (J.same c o q1 hc) (ne_of_none q1 J.nl) (ne_of_none q1 J.no) (ne_of_none q1 J.nk)⟩
          show RAt P w k H9 a dx pl po pk (Rc.push (Rc.row s (Rc.bfsN s s.die n) n x.1 i) n i (Sy74.rolled s x.1 i))
          rw [e]
          exact R9
        · refine ⟨_, rfl, _, rfl, a, dx, pl, po, pk, _, _, some e, n, i, rfl, J.r.move s9, ⟨u, rfl, le⟩, B8.len b v, fun H10 R10 k10 => ⟨_, rfl, ?_⟩⟩
          refine ⟨?_, J.nl, J.no, J.nk, fun c o q1 hc => k10 c o (s9 _ _ (J.same c o q1 hc)) (ne_of_none q1 J.nl) (ne_of_none q1 J.no) (ne_of_none q1 J.nk)⟩
          show RAt P w k H10 a dx pl po pk (Rc.push (Rc.row s (Rc.bfsN s s.die n) n x.1 i) n i (Sy74.rolled s x.1 i))
          rw [he]
          exact R10
      · rintro σ H8 ⟨u4, rfl, J⟩
        refine ⟨_, rfl, _, _, rfl, rfl, u4, rfl, ?_⟩
        rw [step]
        exact J
    · refine if_false_of (decide_eq_false (by rw [List.length_map, ar.len, List.length_map]; omega)) ?_
      refine q H' pl po pk _ I ⟨?_⟩
      have : n = (Rc.bfsN s s.die n).length := by omega
      rw [← this]
      exact B
end
end L2.Rw

/-! text Wk10 -/
namespace L2.Rw
open PySem PySem.Spec PyProof.Rows
/-! ### rolls_to, plan_to, tops_on -/
theorem pt_len {q : List Rc.En} (hb : ∀ (i : Nat) (d : Sy74.Die) (a v : Nat), q[i]? = some (d, some (a, v)) → a < i) {i : Nat} {p : List Nat} (h : Rc.Pt q i p) : p.length ≤ i := by
  induction h with
  | root h => exact Nat.zero_le _
  | step h _ ih =>
    have := hb _ _ _ _ h
    rw [List.length_append, List.length_singleton]
    omega
abbrev vints (l : List Nat) : List V := (l.map fun n : Nat => (n : Int)).map V.int
theorem vints_len (l : List Nat) : (vints l).length = l.length := by unfold vints; rw [List.length_map, List.length_map]
def spRolls (P : Program) (w : World) (k : Kls) : Sp := fun vs H Q _ => ∃ (a dx pl po pk : Addr) (q : List Rc.En) (i : Nat) (p : List Nat), vs = [.ref a, .int i] ∧ RAt P w k H a dx pl po pk q ∧ Rc.Pt q i p ∧ i ≤ 900 ∧
  (∀ (i : Nat) (d : Sy74.Die) (a v : Nat), q[i]? = some (d, some (a, v)) → a < i) ∧ ∀ r H', H r = none → Same H H' → H' r = some (.lst (vints p)) → Q (.ref r) H'
def spPlanTo (P : Program) (w : World) (k : Kls) : Sp := fun vs H Q _ => ∃ (a dx pl po pk wi : Addr) (q : List Rc.En) (s : Sy74.St), vs = [.ref a, .ref wi] ∧ RAt P w k H a dx pl po pk q ∧ WishAt k H wi s.goal ∧ Rc.Full s s.die q ∧ Rc.Bd s ∧ Rc.Vd s s.die ∧
  (Sy74.distance (Sy74.ends s) s.die = none → ∀ H', Same H H' → Q .non H') ∧
  ∀ j, Sy74.distance (Sy74.ends s) s.die = some j → (Sy74.plan s (Sy74.ends s) j s.die).length = j → ∀ r H', Same H H' → H' r = some (.lst (vints (Sy74.plan s (Sy74.ends s) j s.die))) → Q (.ref r) H'
/-- for i, x in enumerate(xs) -/
theorem for_ite {K : PySem.W.Frag} {a : Addr} {xs : List V} {g : TG} {tb : TS} {D : Ends} {σ : St} {H : Hp} (Pv : Nat → St → Hp → Prop) (h0 : Pv 0 σ H) (hl : ∀ i σ H, i ≤ xs.length → Pv i σ H → SqL K H a xs)
    (hs : ∀ i x T σ H, xs[i]? = some x → Pv i σ H → H T = none → g (.ref T) σ (upd H T (.tup [.int (i : Nat), x])) fun σ2 H2 => tb { D with nx := Pv (i + 1), ct := Pv (i + 1), bk := D.nx } σ2 H2) (hd : ∀ σ H, Pv xs.length σ H → D.nx σ H) :
    ∃ W : Nat → Nat → St → Hp → Prop, (∃ m, W 0 m σ H) ∧ ∀ i m σ H, W i m σ H →
      ((Ite K a).stop i H ∧ D.nx σ H) ∨ ((Ite K a).go i H ∧ ∃ N : St → Hp → Prop, (∀ σ' H', N σ' H' → ∃ m', m' < m ∧ W (i + 1) m' σ' H') ∧ ∀ x H', (Ite K a).yld i H x H' → g x σ H' fun σ2 H2 => tb { D with nx := N, ct := N, bk := D.nx } σ2 H2) := by
  refine ⟨fun i m σ H => m = xs.length - i ∧ i ≤ xs.length ∧ Pv i σ H, ⟨xs.length, by simp, Nat.zero_le _, h0⟩, ?_⟩
  rintro i m σ H ⟨rfl, hi, p⟩
  have q := hl i σ H hi p
  by_cases hlt : i < xs.length
  · refine .inr ⟨⟨xs, xs[i], q, by simp [hlt]⟩, Pv (i + 1), fun σ' H' p' => ⟨xs.length - (i + 1), by omega, rfl, hlt, p'⟩, fun v H' ⟨T, x, ev, nT, eH, hx⟩ => ?_⟩
    subst ev eH
    exact hs i x T σ _ (hx xs q) p nT
  · have e : i = xs.length := by omega
    subst e
    exact .inl ⟨⟨xs, q, Nat.le_refl _⟩, hd σ H p⟩
structure TNames (mg : Str → Option Value) : Prop where
  list : mg "list" = none
  reversed : mg "reversed" = none
  enumerate : mg "enumerate" = none
  sorted : mg "sorted" = none
  set : mg "set" = none
  len : mg "len" = none
  min : mg "min" = none
  any : mg "any" = none
section
variable {P : Program} {w : World} {K : PySem.W.Frag} {mg : Str → Option Value} {base : Heap} {k : Kls} {fR fM : Addr} {fdR fdM : FuncData}
abbrev sRolls : Stmt := inClass (top 16) 2
theorem scRolls : FnScope ["self", "number", "found", "way"] ["self", "number"] (defScope sRolls) := ⟨rfl, rfl, rfl, by decide +kernel, rfl, by decide +kernel, by decide +kernel⟩
theorem ok_rolls {f : Addr} {fd : FuncData} (F : Fun K "rolls_to" "Reach.rolls_to" sRolls f fd) (T : TReach K mg k) (TN : TNames mg) : FnOk P w K mg base CX0 1 f fd ["self", "number"] (spRolls P w k) := by
  refine F.ok scRolls (fun vs H Q E h => ?_) (fun cdv A outer s H vs Q E hr h => ⟨_,
    pss_cons (ps_set (i := 2) scRolls.nd rfl (Or.inl rfl) (pe_lst pa_nil))
    (pss_cons (ps_while PassesOwn.never (pt_cmp (pc_notN (pe_ix ix_list (pe_fld (pv 0) rfl) (pv 1) (fun _ _ => rfl))))
      (pss_cons (ps_asg (pe_ix ix_list (pe_fld (pv 0) rfl) (pv 1) (fun _ _ => rfl)) (pg_tup rfl (pgs_cons (pg_name (i := 1) scRolls.nd rfl (Or.inl rfl)) (pgs_cons (pg_name (i := 3) scRolls.nd rfl (Or.inl rfl)) pgs_nil))))
      (pss_one (ps_expr (pe_bm PySem.F.plainAttrs_list PySem.F.slot_list_append PySem.F.type_list_append mt_append (pv 2) (pa_cons (pv 3) pa_nil))))))
    (pss_one (ps_ret (pe_lstRev rfl rfl TN.list rfl TN.reversed (pv 2))))), ?_⟩)
  · obtain ⟨a, dx, pl, po, pk, q, i, p, rfl, _⟩ := h
    rfl
  · obtain ⟨a, dx, pl, po, pk, q, i, p, rfl, R, hp, h900, hb, qq⟩ := h
    refine ⟨(by show 0 ≤ sizeLine; decide), fun pf nf => ?_⟩
    refine ⟨fun m σ H' => ∃ (j : Nat) (w3 : Option V) (pj fs : List Nat), m = j ∧ σ = [some (.ref a), some (.int j), some (.ref pf), w3] ∧ Rc.Pt q j pj ∧ j ≤ 900 ∧ pj ++ fs.reverse = p ∧ Same H H' ∧ H' pf = some (.lst (vints fs)), ⟨i, i, none, p, [], rfl, rfl, hp, h900, by simp, upd_same_of nf, upd_same⟩, ?_⟩
    rintro m σ H' ⟨j, w3, pj, fs, rfl, rfl, hj, j900, ep, sm, hf⟩
    have R' := R.move sm
    obtain ⟨os, eo, ao⟩ := id R'.orgs
    obtain ⟨⟨d, o⟩, hx⟩ := hj.get
    have hx2 : (q.map (·.2))[m]? = some o := by rw [List.getElem?_map, hx]; rfl
    obtain ⟨ov, ho, og⟩ := ao.at hx2
    refine ⟨_, rfl, a, k.R, dx, _, _, rfl, R'.ins, T.cl, T.n2, rF_origins _ _ _, _, rfl, po, _, _, _, rfl, rfl, .of eo, atI_nat ho, _, rfl, ?_⟩
    have plen : p.length ≤ 900 := Nat.le_trans (pt_len hb hp) h900
    cases o with
    | none =>
      obtain rfl : ov = .non := og
      refine if_false_of rfl ⟨_, rfl, pf, _, rfl, .of hf, fun r nr => qq r _ (sm.free nr) (sm.trans (upd_same_of nr)) ?_⟩
      have e1 : pj = [] := hj.uniq (.root hx)
      rw [e1, List.nil_append] at ep
      rw [upd_same, ← ep]
      unfold vints
      rw [List.map_reverse, List.map_reverse]
    | some x =>
      obtain ⟨b, y⟩ := x
      obtain ⟨t, rfl, ht⟩ := og
      refine if_true_of rfl ?_
      obtain ⟨pb, hpb⟩ : ∃ pb, Rc.Pt q b pb ∧ pj = pb ++ [y] := by
        cases hj with
        | root h => rw [hx] at h; cases h
        | step h hp =>
          rw [hx] at h
          cases h
          exact ⟨_, hp, rfl⟩
      obtain ⟨hpb, epj⟩ := hpb
      have blt := hb _ _ _ _ hx
      refine ⟨fun σ' H'' => ∃ (w3 : Option V), σ' = [some (.ref a), some (.int b), some (.ref pf), w3] ∧ Same H H'' ∧ H'' pf = some (.lst (vints (fs ++ [y]))), fun σ' H'' ⟨u3, e1, e2, e3⟩ => ⟨b, blt, b, u3, pb, fs ++ [y], rfl, e1, hpb, by omega, ?_, e2, e3⟩, ?_⟩
      · rw [← ep, epj]
        simp
      refine ⟨_, rfl, a, k.R, dx, _, _, rfl, R'.ins, T.cl, T.n2, rF_origins _ _ _, _, rfl, po, _, _, _, rfl, rfl, .of eo, atI_nat ho, t, _, rfl, .of ht, rfl, _, _, rfl, _, _, rfl, rfl, ?_⟩
      refine ⟨_, rfl, .inl ⟨rfl, _, SqL.of hf⟩, _, rfl, pf, _, _, rfl, rfl, hf, ?_, _, rfl, fun c u e => ?_, ?_⟩
      · rw [vints_len]
        have := congrArg List.length ep
        rw [List.length_append, List.length_reverse] at this
        exact Nat.lt_of_le_of_lt (by omega : fs.length ≤ 900) (by decide)
      · rw [upd_ne (ne_of_none e nf)]
        exact sm c u e
      · rw [upd_same]
        unfold vints
        rw [List.map_append, List.map_append]
        rfl
abbrev sPlanTo : Stmt := inClass (top 16) 3
theorem scPlanTo : FnScope ["self", "wish", "number", "lie"] ["self", "wish"] (defScope sPlanTo) := ⟨rfl, rfl, rfl, by decide +kernel, rfl, by decide +kernel, by decide +kernel⟩
theorem ok_planTo {f : Addr} {fd : FuncData} (F : Fun K "plan_to" "Reach.plan_to" sPlanTo f fd) (T : TReach K mg k) (TN : TNames mg) (TWi : TWish K mg k)
    (GM : FnOk P w K mg base CX0 1 fM fdM ["self", "lie"] (spMet k)) (bM : Binds K fdM ["self", "lie"] []) (mM : Meth K k.W "is_met" fM)
    (GR : FnOk P w K mg base CX0 1 fR fdR ["self", "number"] (spRolls P w k)) (bR : Binds K fdR ["self", "number"] []) (mR : Meth K k.R "rolls_to" fR) : FnOk P w K mg base CX0 2 f fd ["self", "wish"] (spPlanTo P w k) := by
  refine F.ok scPlanTo (fun vs H Q E h => ?_) (fun cdv A outer s H vs Q E hr h => ⟨_,
    pss_cons (ps_for PassesOwn.never rfl (pi_enum rfl TN.enumerate (pa_cons (pe_fld (pv 0) rfl) pa_nil)) (pg_tup rfl (pgs_cons (pg_name (i := 2) scPlanTo.nd rfl (Or.inl rfl)) (pgs_cons (pg_name (i := 3) scPlanTo.nd rfl (Or.inl rfl)) pgs_nil)))
      (pss_one (ps_if (pt_val (pe_meth (pv 1) TWi.cl mM GM hr bM .nil pass0 (pa_cons (pv 3) pa_nil))) (pss_one (ps_ret (pe_meth (pv 0) T.cl mR GR hr bR .nil pass0 (pa_cons (pv 2) pa_nil)))) pss_nil)))
    (pss_one (ps_ret pe_non)), ?_⟩)
  · obtain ⟨a, dx, pl, po, pk, wi, q, s, rfl, _⟩ := h
    rfl
  · obtain ⟨a, dx, pl, po, pk, wi, q, s, rfl, R, hW, FF, b, v, qN, qS⟩ := h
    obtain ⟨rs, el, ar⟩ := id R.lies
    have len := FF.bfs.len b v
    refine ⟨_, rfl, a, k.R, dx, _, _, rfl, R.ins, T.cl, T.n1, rF_lies _ _ _, pl, _, rfl, .of el, for_ite (K := K) (a := pl) (xs := rs.map V.ref)
      (fun i σ H' => ∃ w2 w3, σ = [some (.ref a), some (.ref wi), w2, w3] ∧ Same H H' ∧ ∀ (j : Nat) (y : Rc.En), j < i → q[j]? = some y → Sy74.done s y.1 = false) ⟨none, none, rfl, Same.refl _, fun j y h => by omega⟩ (fun i σ H' _ ⟨_, _, _, sm, _⟩ => .of (sm _ _ el)) ?_ ?_⟩
    · rintro i y t σ H' hi ⟨w2, w3, rfl, sm, no⟩ nt
      obtain ⟨r, hr', rfl⟩ : ∃ r, rs[i]? = some r ∧ y = V.ref r := by
        rw [List.getElem?_map] at hi
        obtain ⟨r, x1, x2⟩ := Option.map_eq_some_iff.mp hi
        exact ⟨r, x1, x2.symm⟩
      obtain ⟨d, hd, lr⟩ := ar.at' hr'
      rw [List.getElem?_map] at hd
      obtain ⟨x, hx, ex⟩ := Option.map_eq_some_iff.mp hd
      have ex : x.1 = d := ex
      subst ex
      have s1 : Same H (upd H' t (.tup [.int (i : Nat), .ref r])) := sm.trans (upd_same_of nt)
      have ht : upd H' t (.tup [.int (i : Nat), .ref r]) t = some (.tup [.int (i : Nat), .ref r]) := upd_same
      generalize upd H' t (.tup [.int (i : Nat), .ref r]) = H1 at s1 ht ⊢
      obtain ⟨dw, ew⟩ := hW.same s1
      refine ⟨t, _, rfl, .of ht, rfl, _, _, rfl, _, _, rfl, rfl, ?_⟩
      refine ⟨_, rfl, wi, dw, _, rfl, ew, wF_met _ _, _, rfl, wi, r, s, x.1, rfl, ⟨dw, ew⟩, lr.same s1, fun H2 s2 => ⟨_, rfl, ?_⟩⟩
      by_cases hdone : Sy74.done s x.1 = true
      · refine if_true_of hdone ?_
        obtain ⟨p, hp, _⟩ := FF.bfs.path i x hx
        obtain ⟨e1, e2⟩ := FF.plan b v hx hdone no hp
        refine ⟨_, rfl, a, dx, _, rfl, s2 _ _ (s1 _ _ R.ins), rF_none (by decide +kernel) (by decide +kernel) (by decide +kernel) _ _ _, _, rfl, a, dx, pl, po, pk, q, i, p, rfl, (R.move s1).move s2, hp, ?_, FF.bfs.back, fun r3 H3 n3 s3 l3 => ?_⟩
        · have := (List.getElem?_eq_some_iff.mp hx).1
          omega
        · refine qS p.length e1 (by rw [e2]) r3 H3 ((s1.trans s2).trans s3) ?_
          rw [e2]
          exact l3
      · have hdone : Sy74.done s x.1 = false := by simpa using hdone
        refine if_false_of hdone ⟨_, _, rfl, s1.trans s2, fun j y hj hy => ?_⟩
        by_cases e : j = i
        · subst e
          rw [hx] at hy
          cases hy
          exact hdone
        · exact no j y (by omega) hy
    · rintro σ H' ⟨w2, w3, rfl, sm, no⟩
      rw [List.length_map, ar.len, List.length_map] at no
      exact qN (FF.noplan b v fun j y hy => no j y (List.getElem?_eq_some_iff.mp hy).1 hy) H' sm
end
end L2.Rw

/-! text Wk11 -/
namespace L2.Rw
open PySem PySem.Spec PyProof.Rows
def spTopsOn (P : Program) (w : World) (k : Kls) : Sp := fun vs H Q _ => ∃ (a dx pl po pk : Addr) (q : List Rc.En) (s : Sy74.St) (c : Nat), vs = [.ref a, .int c] ∧ RAt P w k H a dx pl po pk q ∧ Rc.Full s s.die q ∧ Rc.Bd s ∧ Rc.Vd s s.die ∧
  ∀ r H', Same H H' → H' r = some (.lst (vints (Sy74.tops s c))) → Q (.ref r) H'
section
variable {P : Program} {w : World} {K : PySem.W.Frag} {mg : Str → Option Value} {base : Heap} {k : Kls}
abbrev sTopsOn : Stmt := inClass (top 16) 4
theorem scTopsOn : FnScope ["self", "cell", "lie"] ["self", "cell"] (defScope sTopsOn) := ⟨rfl, rfl, rfl, by decide +kernel, rfl, by decide +kernel, by decide +kernel⟩
theorem ok_topsOn {f : Addr} {fd : FuncData} (F : Fun K "tops_on" "Reach.tops_on" sTopsOn f fd) (T : TReach K mg k) (TN : TNames mg) (TL : TLie K mg k) (TD : TDie K mg k) : FnOk P w K mg base CX0 1 f fd ["self", "cell"] (spTopsOn P w k) := by
  refine F.ok scTopsOn (fun vs H Q E h => ?_) (fun cdv A outer s H vs Q E hr h => ⟨_,
    pss_one (ps_ret (pe_callB (cr_sortedSet rfl) rfl TN.sorted PyProof.Rows.boot_sorted (pa_cons (pe_callTy (cr_setL rfl) rfl TN.set PyProof.Rows.boot_set (pa_cons
      (pe_lc (own := [("lie", 2)]) (g := gName 2) (tt := tTest (tOp rEq (tFld K (tVar 2) "cell") (tVar 1))) (te := tFld K (tFld K (tVar 2) "die") "top") rfl scTopsOn.nd (pi_list (pe_fld (pv 0) rfl)) (blkOk_by (N := ["self", "cell", "lie"]) (sc := defScope sTopsOn) (by decide +kernel))
        (fun _ _ _ _ _ => pg_name (i := 2) scTopsOn.nd rfl (Or.inl rfl)) (fun _ _ _ _ _ => by exact pts_one (pt_cmpR op_eq (pe_fld (pv 2) rfl) (pv 1) (nomark _))) (fun _ _ _ _ _ => by exact pe_fld (pe_fld (pv 2) rfl) rfl))
      pa_nil)) pa_nil))), ?_⟩)
  · obtain ⟨a, dx, pl, po, pk, q, s, c, rfl, _⟩ := h
    rfl
  · obtain ⟨a, dx, pl, po, pk, q, s, c, rfl, R, FF, b, v, qq⟩ := h
    obtain ⟨rs, el, ar⟩ := id R.lies
    have len := FF.bfs.len b v
    refine ⟨_, rfl, a, k.R, dx, _, _, rfl, R.ins, T.cl, T.n1, rF_lies _ _ _, pl, rfl, ⟨_, .of el⟩, fun D nD => lc_list (K := K) (a := pl) (xs := rs.map V.ref)
      (fun i H' => Same H H' ∧ ∃ ns : List Int, H' D = some (.lst (ns.map V.int)) ∧ ns.length ≤ i ∧ ∀ t : Int, t ∈ ns ↔ ∃ (j : Nat) (x : Rc.En), j < i ∧ q[j]? = some x ∧ x.1.cell = c ∧ t = (x.1.top : Nat)) ⟨upd_same_of nD, [], upd_same, Nat.le_refl _, fun t => ?_⟩ (fun i H' _ ⟨sm, _⟩ => .of (sm _ _ el)) ?_ ?_⟩
    · constructor
      · intro h; cases h
      · rintro ⟨j, x, h, _⟩; omega
    · rintro i y H' hi ⟨sm, ns, hD, hl, mem⟩
      obtain ⟨r, hr', rfl⟩ : ∃ r, rs[i]? = some r ∧ y = V.ref r := by
        rw [List.getElem?_map] at hi
        obtain ⟨r, x1, x2⟩ := Option.map_eq_some_iff.mp hi
        exact ⟨r, x1, x2.symm⟩
      obtain ⟨d, hd, lr⟩ := ar.at' hr'
      rw [List.getElem?_map] at hd
      obtain ⟨x, hx, ex⟩ := Option.map_eq_some_iff.mp hd
      have ex : x.1 = d := ex
      subst ex
      obtain ⟨dl, p, e1, dd, e2⟩ := lr.same sm
      have hi9 : i < 900 := Nat.lt_of_lt_of_le (List.getElem?_eq_some_iff.mp hx).1 len
      refine ⟨rfl, _, rfl, r, k.L, dl, _, _, rfl, e1, TL.cl, TL.n1, lF_cell _ _, _, rfl, rfl, _, rfl, ?_⟩
      rw [dec_nat]
      by_cases hc : x.1.cell = c
      · refine if_true_of (decide_eq_true hc) ⟨_, rfl, r, k.L, dl, _, _, rfl, e1, TL.cl, TL.n2, lF_die _ _, p, k.D, dd, _, _, rfl, e2, TD.cl, TD.n1, dF_top _ _ _, _, hD, ?_, fun b u e => ?_, ns ++ [(x.1.top : Int)], ?_, ?_, fun t => ?_⟩
        · rw [List.length_map]
          exact Nat.lt_of_le_of_lt (by omega : ns.length ≤ 900) (by decide)
        · rw [upd_ne (ne_of_none e nD)]
          exact sm b u e
        · rw [upd_same, List.map_append]
          rfl
        · rw [List.length_append, List.length_singleton]
          omega
        · rw [List.mem_append, mem t, List.mem_singleton]
          constructor
          · rintro (⟨j, z, h1, h2⟩ | h)
            · exact ⟨j, z, by omega, h2⟩
            · exact ⟨i, x, by omega, hx, hc, h⟩
          · rintro ⟨j, z, h1, h2, h3, h4⟩
            by_cases e : j = i
            · subst e
              rw [hx] at h2
              cases h2
              exact .inr h4
            · exact .inl ⟨j, z, by omega, h2, h3, h4⟩
      · refine if_false_of (decide_eq_false hc) ⟨sm, ns, hD, by omega, fun t => ?_⟩
        rw [mem t]
        constructor
        · rintro ⟨j, z, h1, h2⟩
          exact ⟨j, z, by omega, h2⟩
        · rintro ⟨j, z, h1, h2, h3, h4⟩
          by_cases e : j = i
          · subst e
            rw [hx] at h2
            cases h2
            exact absurd h3 hc
          · exact ⟨j, z, by omega, h2, h3, h4⟩
    · rintro H' ⟨sm, ns, hD, hl, mem⟩
      rw [List.length_map, ar.len, List.length_map] at hl mem
      refine ⟨D, ns, rfl, .of hD, Nat.lt_of_le_of_lt (by omega : ns.length + 1 ≤ 901) (by decide), fun p c' np hc' hm => ?_⟩
      refine ⟨p, _, c', rfl, upd_same, ?_, fun ms r pw mm _ nr => ?_⟩
      · have h7 := hm 7 fun j hj => by
          obtain ⟨i, x, _, hx, _, e⟩ := (mem j).mp hj
          have := (FF.bfs.vd b v hx).ok.range.1
          omega
        omega
      · refine qq r _ ((sm.trans (upd_same_of np)).trans (upd_same_of nr)) ?_
        rw [upd_same]
        have hnn : ∀ z ∈ ms, 0 ≤ z := fun z hz => by
          obtain ⟨i, x, _, _, _, e⟩ := (mem z).mp (of_decide_eq_true ((mm z).mp hz))
          omega
        have e : Sy74.tops s c = ms.map Int.toNat := by
          refine (Rc.Full.tops b v FF (x := c) ?_ fun t => ?_).symm
          · rw [List.pairwise_map]
            refine pw.imp_of_mem fun {a b} ha hb h => ?_
            have := hnn a ha
            have := hnn b hb
            omega
          · rw [List.mem_map]
            constructor
            · rintro ⟨z, hz, e⟩
              obtain ⟨i, x, _, h2, h3, h4⟩ := (mem z).mp (of_decide_eq_true ((mm z).mp hz))
              exact ⟨x.1, List.mem_map.mpr ⟨x, List.mem_iff_getElem?.mpr ⟨i, h2⟩, rfl⟩, h3, by omega⟩
            · rintro ⟨d, hd, h3, h4⟩
              obtain ⟨x, hx, ex⟩ := List.mem_map.mp hd
              obtain ⟨i, hi⟩ := List.mem_iff_getElem?.mp hx
              subst ex
              exact ⟨(t : Int), (mm _).mpr (decide_eq_true ((mem _).mpr ⟨i, x, (List.getElem?_eq_some_iff.mp hi).1, hi, h3, by omega⟩)), by omega⟩
        have e2 : ((ms.map Int.toNat).map fun n : Nat => (n : Int)) = ms := by
          rw [List.map_map]
          conv => rhs; rw [← List.map_id ms]
          refine List.map_congr_left fun z hz => ?_
          have := hnn z hz
          show ((z.toNat : Nat) : Int) = z
          omega
        rw [e]
        unfold vints
        rw [e2]
end
end L2.Rw

/-! text Wk12 -/
namespace L2.Rw
open PySem PySem.Spec PyProof.Rows
/-! ### the search by costs -/
def cF (g w n : V) : List (Str × V) := [("ground", g), ("waiting", w), ("settled", n)]
theorem cF_ground (t n e : V) : (cF t n e).lookup ("ground" : Str) = some t := lk_here
theorem cF_waiting (t n e : V) : (cF t n e).lookup ("waiting" : Str) = some n := (lk_past (by decide +kernel)).trans lk_here
theorem cF_settled (t n e : V) : (cF t n e).lookup ("settled" : Str) = some e := (lk_past (by decide +kernel)).trans ((lk_past (by decide +kernel)).trans lk_here)
theorem cF_none {m : Str} (h1 : (m == ("ground" : Str)) = false) (h2 : (m == ("waiting" : Str)) = false) (h3 : (m == ("settled" : Str)) = false) (t n e : V) : (cF t n e).lookup m = none := (lk_past h1).trans ((lk_past h2).trans ((lk_past h3).trans rfl))
theorem cF_put (t n e : V) : putF "settled" e (putF "waiting" n (putF "ground" t [])) = cF t n e := by
  show putF "settled" e (putF "waiting" n [("ground", t)]) = _
  rw [put_past (by decide +kernel)]
  show putF "settled" e [("ground", t), ("waiting", n)] = _
  rw [put_past (by decide +kernel), put_past (by decide +kernel)]
  rfl
/-- what the dict of those that wait holds; loc: where the lists stand -/
def wkv (loc : Nat → Addr) (W : Rc.Wt) : List (Key × V) := W.map fun x => ((Sum.inl (x.1 : Int) : Key), V.ref (loc x.1))
theorem wkv_val (loc : Nat → Addr) (c : Nat) : ∀ W : Rc.Wt, valV (wkv loc W) (Sum.inl (c : Int)) = if (W.any fun x => decide (x.1 = c)) = true then some (.ref (loc c)) else none
  | [] => rfl
  | x :: W => by
    have ih := wkv_val loc c W
    have e : wkv loc (x :: W) = ((Sum.inl (x.1 : Int) : Key), V.ref (loc x.1)) :: wkv loc W := rfl
    rw [e]
    by_cases h : x.1 = c
    · subst h
      rw [valV_pos rfl, if_pos (by simp)]
    · have hk : ¬ ((Sum.inl (x.1 : Int) : Key) = Sum.inl (c : Int)) := fun z => h (key_inj z)
      rw [valV_neg hk, ih, List.any_cons, decide_eq_false h, Bool.false_or]
theorem wkv_drop (loc : Nat → Addr) (c : Nat) : ∀ W : Rc.Wt, dropK (wkv loc W) (Sum.inl (c : Int)) = wkv loc (Rc.dropW W c)
  | [] => rfl
  | x :: W => by
    have ih := wkv_drop loc c W
    unfold dropK Rc.dropW wkv at ih ⊢
    rw [List.map_cons, List.filter_cons, List.filter_cons]
    by_cases h : x.1 = c
    · rw [if_neg (by simp [h]), if_neg (by simp [h])]
      exact ih
    · have hk : ¬ ((Sum.inl (x.1 : Int) : Key) = Sum.inl (c : Int)) := fun z => h (key_inj z)
      rw [if_pos (by simp [hk]), if_pos (by simp [h]), List.map_cons, ih]
theorem wkv_congr {loc loc' : Nat → Addr} {W : Rc.Wt} (h : ∀ x ∈ W, loc x.1 = loc' x.1) : wkv loc W = wkv loc' W := List.map_congr_left fun x hx => by rw [h x hx]
/-- instances stand -/
def Insts (H H' : Hp) : Prop := ∀ b C dx fs, H b = some (.ins C dx fs) → H' b = some (.ins C dx fs)
theorem Insts.of_same {H H' : Hp} (h : Same H H') : Insts H H' := fun b C dx fs e => h _ _ e
theorem Insts.trans {H H1 H2 : Hp} (a : Insts H H1) (b : Insts H1 H2) : Insts H H2 := fun c C dx fs e => b c C dx fs (a c C dx fs e)
theorem Insts.but {H H' : Hp} {p : Addr} (kp : ∀ c, c ≠ p → H' c = H c) (np : ∀ C dx fs, H p ≠ some (.ins C dx fs)) : Insts H H' := fun b C dx fs e => (kp b fun z => np C dx fs (z ▸ e)).trans e
theorem LieAt.insts {k : Kls} {H H' : Hp} {l : Addr} {d : Sy74.Die} (h : LieAt k H l d) (i : Insts H H') : LieAt k H' l d := by
  obtain ⟨dl, p, e1, dd, e2⟩ := h
  exact ⟨dl, p, i _ _ _ _ e1, dd, i _ _ _ _ e2⟩
/-- a Costs at a; B: what stands beside -/
structure CAt (P : Program) (w : World) (k : Kls) (B H : Hp) (a dx g pw ps : Addr) (loc : Nat → Addr) (W : Rc.Wt) (S : List Sy74.Die) : Prop where
  ins : H a = some (.ins k.C dx (cF (.ref g) (.ref pw) (.ref ps)))
  wt : H pw = some (.dK (wkv loc W))
  lists : ∀ x ∈ W, ∃ rs, H (loc x.1) = some (.lst (rs.map V.ref)) ∧ All2 (LieAt k H) rs x.2
  inj : ∀ x ∈ W, ∀ y ∈ W, loc x.1 = loc y.1 → x.1 = y.1
  st : DNAt P w H ps (S.map k4)
  same : Same B H
  bw : B pw = none
  bs : B ps = none
  bl : ∀ x ∈ W, B (loc x.1) = none
theorem CAt.move {P : Program} {w : World} {k : Kls} {B H H' : Hp} {a dx g pw ps : Addr} {loc : Nat → Addr} {W : Rc.Wt} {S : List Sy74.Die} (h : CAt P w k B H a dx g pw ps loc W S) (s : Same H H') : CAt P w k B H' a dx g pw ps loc W S := by
  obtain ⟨xs, e3, _⟩ := id h.st
  refine ⟨s _ _ h.ins, s _ _ h.wt, fun x hx => ?_, h.inj, h.st.mono ((s _ _ e3).trans e3.symm) (.of_same s), h.same.trans s, h.bw, h.bs, h.bl⟩
  obtain ⟨rs, e, r⟩ := h.lists x hx
  exact ⟨rs, s _ _ e, r.mono fun r x z => z.same s⟩
/-- one is appended to the list of a cost that is there -/
theorem CAt.app {P : Program} {w : World} {k : Kls} {B H : Hp} {a dx g pw ps : Addr} {loc : Nat → Addr} {W : Rc.Wt} {S : List Sy74.Die} (h : CAt P w k B H a dx g pw ps loc W S) {c : Nat} {l0 : List Sy74.Die} (hc : (c, l0) ∈ W) {l : Addr} {d : Sy74.Die} (hl : LieAt k H l d) {rs : List Addr} (hr : H (loc c) = some (.lst (rs.map V.ref))) :
    CAt P w k B (upd H (loc c) (.lst (rs.map V.ref ++ [.ref l]))) a dx g pw ps loc (Rc.putW W c d) S ∧ Insts H (upd H (loc c) (.lst (rs.map V.ref ++ [.ref l]))) := by
  have kp : ∀ b, b ≠ loc c → upd H (loc c) (.lst (rs.map V.ref ++ [.ref l])) b = H b := fun b hb => upd_ne hb
  have n1 : ∀ C dx fs, H (loc c) ≠ some (.ins C dx fs) := fun C dx fs z => by rw [hr] at z; cases z
  have n2 : ∀ xs, H (loc c) ≠ some (.tup xs) := fun xs z => by rw [hr] at z; cases z
  have keys : wkv loc (Rc.putW W c d) = wkv loc W := by
    unfold wkv Rc.putW
    rw [List.map_map]
    refine List.map_congr_left fun x _ => ?_
    show ((Sum.inl ((if x.1 = c then (x.1, x.2 ++ [d]) else x).1 : Int) : Key), V.ref (loc (if x.1 = c then (x.1, x.2 ++ [d]) else x).1)) = _
    split <;> rfl
  have mem : ∀ x ∈ Rc.putW W c d, ∃ y ∈ W, y.1 = x.1 ∧ ((x.1 = c ∧ x.2 = y.2 ++ [d]) ∨ (x.1 ≠ c ∧ x.2 = y.2)) := fun x hx => by
    obtain ⟨y, hy, e⟩ := List.mem_map.mp hx
    refine ⟨y, hy, ?_⟩
    by_cases hyc : y.1 = c
    · rw [if_pos hyc] at e
      subst e
      exact ⟨rfl, .inl ⟨hyc, rfl⟩⟩
    · rw [if_neg hyc] at e
      subst e
      exact ⟨rfl, .inr ⟨hyc, rfl⟩⟩
  have mv : ∀ (r : Addr) (e : Sy74.Die), LieAt k H r e → LieAt k (upd H (loc c) (.lst (rs.map V.ref ++ [.ref l]))) r e := fun r e z => z.but kp n1
  refine ⟨⟨(kp a fun z => n1 _ _ _ (z ▸ h.ins)).trans h.ins, ?_, fun x hx => ?_, fun x hx y hy e => ?_, ?_, fun b u e => ?_, h.bw, h.bs, fun x hx => ?_⟩, .but kp n1⟩
  · rw [keys, kp pw (ne_of h.wt hr (fun z => by cases z))]
    exact h.wt
  · obtain ⟨y, hy, e, q⟩ := mem x hx
    obtain ⟨rs', e', r'⟩ := h.lists y hy
    rw [e] at e'
    rcases q with ⟨q1, q2⟩ | ⟨q1, q2⟩
    · rw [q1] at e' ⊢
      rw [hr] at e'
      have er : rs.map V.ref = rs'.map V.ref := HO.lst.inj (Option.some.inj e')
      refine ⟨rs' ++ [l], ?_, ?_⟩
      · rw [upd_same, er, List.map_append]
        rfl
      · rw [q2]
        exact (r'.mono mv).snoc (mv _ _ hl)
    · have ne : loc x.1 ≠ loc c := fun z => q1 (by
        have := h.inj y hy (c, l0) hc (by rw [e]; exact z)
        dsimp only at this
        omega)
      refine ⟨rs', (kp _ ne).trans e', ?_⟩
      rw [q2]
      exact r'.mono mv
  · obtain ⟨x', hx', ex, _⟩ := mem x hx
    obtain ⟨y', hy', ey, _⟩ := mem y hy
    rw [← ex, ← ey] at e ⊢
    exact h.inj x' hx' y' hy' e
  · exact DNAt.but h.st (Ne.symm (h.st.not_lst hr)) kp n2
  · rw [kp b fun z => by
      have := h.bl (c, l0) hc
      dsimp only at this
      rw [← z, e] at this
      cases this]
    exact h.same b u e
  · obtain ⟨y, hy, e, _⟩ := mem x hx
    rw [← e]
    exact h.bl y hy
structure TCosts (K : PySem.W.Frag) (mg : Str → Option Value) (k : Kls) : Prop where
  cl : Cls K k.C
  n1 : NoAttr K k.C "ground"
  n2 : NoAttr K k.C "waiting"
  n3 : NoAttr K k.C "settled"
  g : mg "Costs" = some (.ref k.C)
def spCostsI (P : Program) (w : World) (k : Kls) : Sp := fun vs H Q _ => ∃ (a dx g l : Addr) (d : Sy74.Die), vs = [.ref a, .ref g, .ref l] ∧ H a = some (.ins k.C dx []) ∧ LieAt k H l d ∧
  ∀ H' pw ps loc, H pw = none → H ps = none → H (loc 0) = none → (∀ b u, H b = some u → b ≠ a → H' b = some u) → (∀ B, Same B H → B a = none → CAt P w k B H' a dx g pw ps loc [(0, [d])] []) → Q .non H'
def spWait (P : Program) (w : World) (k : Kls) : Sp := fun vs H Q _ => ∃ (B : Hp) (a dx g pw ps l : Addr) (loc : Nat → Addr) (W : Rc.Wt) (S : List Sy74.Die) (d : Sy74.Die) (c : Nat), vs = [.ref a, .ref l, .int c] ∧ CAt P w k B H a dx g pw ps loc W S ∧ LieAt k H l d ∧
  W.length ≤ 5000 ∧ (∀ x ∈ W, x.2.length ≤ 5000) ∧ ∀ H' loc', CAt P w k B H' a dx g pw ps loc' (if d ∈ S then W else Rc.addW W c d) S → Insts H H' → Q .non H'
theorem LieAt.keepC {k : Kls} {H H' : Hp} {l a dx : Addr} {d : Sy74.Die} (h : LieAt k H l d) (ha : H a = some (.ins k.C dx [])) (kp : ∀ b u, H b = some u → b ≠ a → H' b = some u) : LieAt k H' l d := by
  obtain ⟨dl, p, e1, dd, e2⟩ := h
  exact ⟨dl, p, kp _ _ e1 (ne_of e1 ha (fun z => by have h3 := (HO.ins.inj z).2.2; unfold lF at h3; cases h3)), dd, kp _ _ e2 (ne_of e2 ha (fun z => by have h3 := (HO.ins.inj z).2.2; unfold dV dF at h3; cases h3))⟩
section
variable {P : Program} {w : World} {K : PySem.W.Frag} {mg : Str → Option Value} {base : Heap} {k : Kls} {fK : Addr} {fdK : FuncData}
abbrev sCostsI : Stmt := inClass (top 17) 0
theorem scCostsI : FnScope ["self", "ground", "lie"] ["self", "ground", "lie"] (defScope sCostsI) := ⟨rfl, rfl, rfl, by decide +kernel, rfl, by decide +kernel, by decide +kernel⟩
theorem ok_CostsI {f : Addr} {fd : FuncData} (F : Fun K "__init__" "Costs.__init__" sCostsI f fd) (T : TCosts K mg k) : FnOk P w K mg base CX0 1 f fd ["self", "ground", "lie"] (spCostsI P w k) := by
  refine F.ok scCostsI (fun vs H Q E h => ?_) (fun cdv A outer s H vs Q E hr h => ⟨_,
    pss_cons (ps_fld (pv 0) (pv 1) rfl)
    (pss_cons (ps_fld (pv 0) (pe_disp (pps_cons pe_int (pe_lst (pa_cons (pv 2) pa_nil)) pps_nil) rfl rfl (fun z => by cases z) (by decide)) rfl)
    (pss_one (ps_fld (pv 0) pe_nnew rfl))), ?_⟩)
  · obtain ⟨a, dx, g, l, d, rfl, _⟩ := h
    rfl
  · obtain ⟨a, dx, g, l, d, rfl, ha, hL, q⟩ := h
    refine ⟨_, rfl, _, rfl, a, k.C, dx, [], rfl, ha, T.cl, T.n1, (by show 0 < 1000; decide), ?_⟩
    -- {0: [lie]}
    intro pw nw
    refine ⟨_, rfl, (by show 1 ≤ sizeLine; decide), fun p np => ?_⟩
    have aw : a ≠ pw := ne_of_none (o := .ins k.C dx (putF "ground" (.ref g) [])) upd_same nw
    have nwH : H pw = none := by rw [upd_ne (Ne.symm aw)] at nw; exact nw
    have wp : pw ≠ p := ne_of_none (o := .dK []) upd_same np
    have ap : a ≠ p := fun z => by rw [← z, upd_ne aw, upd_same] at np; cases np
    have npH : H p = none := by rw [upd_ne (Ne.symm wp), upd_ne (Ne.symm ap)] at np; exact np
    refine ⟨(upd_ne wp).trans upd_same, [(Sum.inl 0, .ref p)], rfl, (by show 1 ≤ 15; decide), ?_⟩
    have e3 : ∀ H3, H3 = upd (upd (upd (upd H a (.ins k.C dx (putF "ground" (.ref g) []))) pw (.dK [])) p (.lst [.ref l])) pw (.dK (mergeK [] [(Sum.inl 0, .ref p)])) →
        H3 a = some (.ins k.C dx (putF "ground" (.ref g) [])) ∧ H3 pw = some (.dK [(Sum.inl 0, .ref p)]) ∧ H3 p = some (.lst [.ref l]) ∧ (∀ c o, H c = some o → c ≠ a → H3 c = some o) ∧ (∀ c, H3 c = none → H c = none) := by
      rintro _ rfl
      have st : ∀ c o, H c = some o → c ≠ a → upd (upd (upd (upd H a (.ins k.C dx (putF "ground" (.ref g) []))) pw (.dK [])) p (.lst [.ref l])) pw (.dK (mergeK [] [(Sum.inl 0, .ref p)])) c = some o := fun c o e hc => by
        rw [upd_ne (ne_of_none e nwH), upd_ne (ne_of_none e npH), upd_ne (ne_of_none e nwH), upd_ne hc]
        exact e
      have e1 : upd (upd (upd (upd H a (.ins k.C dx (putF "ground" (.ref g) []))) pw (.dK [])) p (.lst [.ref l])) pw (.dK (mergeK [] [(Sum.inl 0, .ref p)])) a = some (.ins k.C dx (putF "ground" (.ref g) [])) := by
        rw [upd_ne aw, upd_ne ap, upd_ne aw, upd_same]
      refine ⟨e1, by rw [upd_same]; rfl, ?_, st, fun c e => ?_⟩
      · rw [upd_ne (Ne.symm wp), upd_same]
      · cases hc : H c with
        | none => rfl
        | some o =>
          by_cases ca : c = a
          · subst ca; rw [e1] at e; cases e
          · rw [st c o hc ca] at e; cases e
    generalize upd (upd (upd (upd H a (.ins k.C dx (putF "ground" (.ref g) []))) pw (.dK [])) p (.lst [.ref l])) pw (.dK (mergeK [] [(Sum.inl 0, .ref p)])) = H3 at e3 ⊢
    obtain ⟨a3, w3, p3, st3, fr3⟩ := e3 H3 rfl
    refine ⟨_, rfl, a, k.C, dx, _, rfl, a3, T.cl, T.n2, (by show 1 < 1000; decide), ?_⟩
    -- {}
    intro ps H4 ns g4 k4'
    have as : a ≠ ps := fun z => by rw [← z, upd_same] at ns; cases ns
    have wsn : pw ≠ ps := fun z => by rw [← z, upd_ne (Ne.symm aw), w3] at ns; cases ns
    have psn : p ≠ ps := fun z => by rw [← z, upd_ne (Ne.symm ap), p3] at ns; cases ns
    have nsH : H ps = none := by rw [upd_ne (Ne.symm as)] at ns; exact fr3 _ ns
    have a4 : H4 a = some (.ins k.C dx (putF "waiting" (.ref pw) (putF "ground" (.ref g) []))) := (k4' a as).trans upd_same
    refine ⟨_, rfl, a, k.C, dx, _, rfl, a4, T.cl, T.n3, (by show 2 < 1000; decide), ?_⟩
    rw [cF_put]
    have lk : ∀ c, c ≠ a → upd H4 a (.ins k.C dx (cF (.ref g) (.ref pw) (.ref ps))) c = H4 c := fun c hc => upd_ne hc
    have kp : ∀ b u, H b = some u → b ≠ a → upd H4 a (.ins k.C dx (cF (.ref g) (.ref pw) (.ref ps))) b = some u := fun b u e hb => by
      rw [lk b hb, k4' b (ne_of_none e nsH), upd_ne hb]
      exact st3 b u e hb
    refine q _ pw ps (fun _ => p) nwH nsH npH kp fun B sB nB => ⟨upd_same, ?_, fun x hx => ?_, fun x hx y hy _ => ?_, ?_, fun b u e => ?_, sB.free nwH, sB.free nsH, fun x _ => sB.free npH⟩
    · rw [lk pw (Ne.symm aw), k4' pw wsn, upd_ne (Ne.symm aw)]
      exact w3
    · rw [List.mem_singleton] at hx
      subst hx
      refine ⟨[l], ?_, All2.snoc .nil (hL.keepC ha kp)⟩
      rw [lk p (Ne.symm ap), k4' p psn, upd_ne (Ne.symm ap)]
      exact p3
    · rw [List.mem_singleton] at hx hy
      rw [hx, hy]
    · exact DNAt.but g4 (Ne.symm as) lk fun xs z => by rw [a4] at z; cases z
    · exact kp b u (sB b u e) fun z => by rw [z, nB] at e; cases e
abbrev sWait : Stmt := inClass (top 17) 1
theorem scWait : FnScope ["self", "lie", "cost"] ["self", "lie", "cost"] (defScope sWait) := ⟨rfl, rfl, rfl, by decide +kernel, rfl, by decide +kernel, by decide +kernel⟩
theorem ok_wait {f : Addr} {fd : FuncData} (F : Fun K "wait" "Costs.wait" sWait f fd) (T : TCosts K mg k) (TL : TLie K mg k)
    (GK : FnOk P w K mg base CX0 2 fK fdK ["self"] (spKey k)) (bK : Binds K fdK ["self"] []) (mK : Meth K k.L "key" fK) : FnOk P w K mg base CX0 3 f fd ["self", "lie", "cost"] (spWait P w k) := by
  refine F.ok scWait (fun vs H Q E h => ?_) (fun cdv A outer s H vs Q E hr h => ⟨_,
    pss_one (ps_if (PW.pt (pw_and (pt_cmp (pc_notN (pv 1))) (pw_and1 (pt_cmp (pc_nnotin (hu9 hr) (pe_meth0 (pv 1) TL.cl mK GK hr bK .nil pass0) (pe_fld (pv 0) rfl)) rfl))))
      (pss_one (ps_expr (pe_bm PySem.F.plainAttrs_list PySem.F.slot_list_append PySem.F.type_list_append mt_append (pe_dsetd (pe_fld (pv 0) rfl) (pv 2) (pe_lst pa_nil) ⟨rfl, rfl, rfl, rfl⟩) (pa_cons (pv 1) pa_nil)))) pss_nil), ?_⟩)
  · obtain ⟨B, a, dx, g, pw, ps, l, loc, W, S, d, c, rfl, _⟩ := h
    rfl
  · obtain ⟨B, a, dx, g, pw, ps, l, loc, W, S, d, c, rfl, C, hL, hW, hl, q⟩ := h
    obtain ⟨dl, p, el, hp⟩ := id hL
    refine ⟨_, rfl, _, rfl, if_true_of rfl ⟨_, rfl, l, dl, _, rfl, el, lF_key _ _, l, d, rfl, hL, fun r H1 nr s1 t1 => ?_⟩⟩
    have C1 := C.move s1
    have hL1 := hL.same s1
    refine ⟨_, rfl, a, k.C, dx, _, _, rfl, C1.ins, T.cl, T.n3, cF_settled _ _ _, ps, r, k4 d, _, rfl, rfl, C1.st, t1, k4_depth d, _, rfl, ?_⟩
    by_cases hm : d ∈ S
    · refine if_false_of (by rw [decide_eq_true (k4_mem.mpr hm)]; rfl) (q H1 loc ?_ (.of_same s1))
      rw [if_pos hm]
      exact C1
    · rw [if_neg hm] at q
      refine if_true_of (by rw [decide_eq_false fun z => hm (k4_mem.mp z)]; rfl) ?_
      -- self.waiting.setdefault(cost, []).append(lie)
      refine ⟨_, rfl, a, k.C, dx, _, _, rfl, C1.ins, T.cl, T.n2, cF_waiting _ _ _, pw, rfl, .inl ⟨_, .inl C1.wt⟩, _, rfl, (by show 0 ≤ sizeLine; decide), fun p0 n0 => ?_⟩
      have s2 : Same H1 (upd H1 p0 (.lst [])) := upd_same_of n0
      have C2 := C1.move s2
      have hL2 := hL1.same s2
      have p2 : upd H1 p0 (.lst []) p0 = some (.lst ([] : List V)) := upd_same
      have np2 : H1 p0 = none := n0
      have Cn : ∀ x ∈ W, loc x.1 ≠ p0 := fun x hx z => by
        obtain ⟨rs, e, _⟩ := C1.lists x hx
        rw [z, n0] at e
        cases e
      have Bn : B p0 = none := C1.same.free n0
      generalize upd H1 p0 (.lst []) = H2 at s2 C2 hL2 p2 ⊢
      refine ⟨wkv loc W, Sum.inl (c : Int), C2.wt, rfl, ?_, fun v hv => ?_, fun hv => ?_⟩
      · unfold wkv
        rw [List.length_map]
        exact Nat.lt_of_le_of_lt hW (by decide)
      · rw [wkv_val] at hv
        split at hv
        · rename_i hany
          have hv := (Option.some.inj hv).symm
          subst hv
          obtain ⟨x, hx, ex⟩ := List.any_eq_true.mp hany
          have ex := of_decide_eq_true ex
          subst ex
          obtain ⟨rs, e, r'⟩ := C2.lists x hx
          refine ⟨.inl ⟨rfl, _, SqL.of e⟩, _, rfl, loc x.1, _, _, rfl, rfl, e, ?_, ?_⟩
          · rw [List.length_map, r'.len]
            exact Nat.lt_of_le_of_lt (hl x hx) (by decide)
          · obtain ⟨A1, A2⟩ := C2.app (c := x.1) (l0 := x.2) hx hL2 e
            refine q _ loc ?_ ((Insts.of_same (s1.trans s2)).trans A2)
            unfold Rc.addW Rc.openW
            rw [if_pos hany]
            exact A1
        · cases hv
      · have hany : ¬ (W.any fun x => decide (x.1 = c)) = true := fun z => by
          rw [wkv_val, if_pos z] at hv
          cases hv
        have nc : ∀ x ∈ W, x.1 ≠ c := fun x hx e => hany (List.any_eq_true.mpr ⟨x, hx, decide_eq_true e⟩)
        have wp : pw ≠ p0 := fun z => by rw [← z, C1.wt] at np2; cases np2
        have kp : ∀ b, b ≠ pw → upd H2 pw (.dK (putK (wkv loc W) (Sum.inl (c : Int)) (.ref p0))) b = H2 b := fun b hb => upd_ne hb
        have n1 : ∀ C dx fs, H2 pw ≠ some (.ins C dx fs) := fun C dx fs z => by rw [C2.wt] at z; cases z
        have n2 : ∀ xs, H2 pw ≠ some (.tup xs) := fun xs z => by rw [C2.wt] at z; cases z
        have C3 : CAt P w k B (upd H2 pw (.dK (putK (wkv loc W) (Sum.inl (c : Int)) (.ref p0)))) a dx g pw ps (fun y => if y = c then p0 else loc y) (Rc.openW W c) S := by
          have oW : Rc.openW W c = W ++ [(c, [])] := if_neg hany
          have old : ∀ x ∈ W, (if x.1 = c then p0 else loc x.1) = loc x.1 := fun x hx => if_neg (nc x hx)
          rw [oW]
          refine ⟨(kp a fun z => n1 _ _ _ (z ▸ C2.ins)).trans C2.ins, ?_, fun x hx => ?_, fun x hx y hy e => ?_, DNAt.but C2.st (fun z => by
              obtain ⟨zs, ez, _⟩ := C2.st
              rw [z, C2.wt] at ez
              have ez := Option.some.inj ez
              cases ez) kp n2, fun b u e => (kp b fun z => by rw [z, C2.bw] at e; cases e).trans (C2.same b u e), C2.bw, C2.bs, fun x hx => ?_⟩
          · rw [upd_same, putK_new _ hv]
            unfold wkv
            rw [List.map_append]
            refine congrArg (fun z => some (HO.dK z)) ?_
            refine congr (congrArg HAppend.hAppend (List.map_congr_left fun x hx => congrArg (fun z => ((Sum.inl (x.1 : Int) : Key), V.ref z)) (old x hx).symm)) ?_
            simp
          · rcases List.mem_append.mp hx with hx | hx
            · obtain ⟨rs, e, r'⟩ := C2.lists x hx
              refine ⟨rs, ?_, r'.mono fun r e z => z.but kp n1⟩
              rw [old x hx, kp _ (ne_of e C2.wt (fun z => by cases z))]
              exact e
            · rw [List.mem_singleton] at hx
              subst hx
              refine ⟨[], ?_, .nil⟩
              rw [show (if c = c then p0 else loc c) = p0 from if_pos rfl, kp p0 (Ne.symm wp)]
              exact p2
          · rcases List.mem_append.mp hx with hx | hx
            · rcases List.mem_append.mp hy with hy | hy
              · rw [old x hx, old y hy] at e
                exact C2.inj x hx y hy e
              · rw [List.mem_singleton] at hy
                subst hy
                rw [old x hx, show (if c = c then p0 else loc c) = p0 from if_pos rfl] at e
                exact absurd e (Cn x hx)
            · rw [List.mem_singleton] at hx
              subst hx
              rcases List.mem_append.mp hy with hy | hy
              · rw [old y hy, show (if c = c then p0 else loc c) = p0 from if_pos rfl] at e
                exact absurd e.symm (Cn y hy)
              · rw [List.mem_singleton] at hy
                rw [hy]
          · rcases List.mem_append.mp hx with hx | hx
            · rw [old x hx]
              exact C2.bl x hx
            · rw [List.mem_singleton] at hx
              subst hx
              rw [show (if c = c then p0 else loc c) = p0 from if_pos rfl]
              exact Bn
        have p3 := (kp p0 (Ne.symm wp)).trans p2
        have hL3 := hL2.but kp n1
        have i3 : Insts H2 (upd H2 pw (.dK (putK (wkv loc W) (Sum.inl (c : Int)) (.ref p0)))) := .but kp n1
        generalize upd H2 pw (.dK (putK (wkv loc W) (Sum.inl (c : Int)) (.ref p0))) = H3 at C3 p3 hL3 i3 ⊢
        refine ⟨.inl ⟨rfl, _, SqL.of p3⟩, _, rfl, p0, _, _, rfl, rfl, p3, (by show 0 < sizeLine; decide), ?_⟩
        obtain ⟨l0, h0⟩ := Rc.openW_has (W := W) (c := c)
        have e0 : (if c = c then p0 else loc c) = p0 := if_pos rfl
        obtain ⟨A1, A2⟩ := C3.app (c := c) (l0 := l0) h0 hL3 (rs := []) (by rw [e0]; exact p3)
        rw [e0] at A1 A2
        exact q _ _ A1 (((Insts.of_same (s1.trans s2)).trans i3).trans A2)
end
end L2.Rw

/-! text Wk13 -/
namespace L2.Rw
open PySem PySem.Spec PyProof.Rows
theorem wt_sizes : ∀ {W : Rc.Wt}, (∀ x ∈ W, x.2 ≠ []) → W.length ≤ Rc.total W ∧ ∀ x ∈ W, x.2.length ≤ Rc.total W
  | [], _ => ⟨Nat.zero_le _, fun x h => nomatch h⟩
  | x :: W, h => by
    have ih := wt_sizes (W := W) fun y hy => h y (List.mem_cons_of_mem _ hy)
    have t : Rc.total (x :: W) = x.2.length + Rc.total W := by unfold Rc.total; rw [List.map_cons, List.sum_cons]
    have p : 0 < x.2.length := List.length_pos_iff.mpr (h x List.mem_cons_self)
    rw [t, List.length_cons]
    refine ⟨by omega, fun y hy => ?_⟩
    rcases List.mem_cons.mp hy with e | hy
    · subst e; omega
    · have := ih.2 y hy; omega
/-- one more is settled -/
theorem CAt.put {P : Program} {w : World} {k : Kls} {B H H' : Hp} {a dx g pw ps : Addr} {loc : Nat → Addr} {W : Rc.Wt} {S : List Sy74.Die} (h : CAt P w k B H a dx g pw ps loc W S) {d : Sy74.Die}
    (kp : ∀ c, c ≠ ps → H' c = H c) (g3 : DNAt P w H' ps ((S ++ [d]).map k4)) : CAt P w k B H' a dx g pw ps loc W (S ++ [d]) ∧ Insts H H' := by
  obtain ⟨ys, ey, _⟩ := id h.st
  have n1 : ∀ C dx fs, H ps ≠ some (.ins C dx fs) := fun C dx fs z => by rw [ey] at z; cases z
  refine ⟨⟨(kp a (h.st.not_ins h.ins)).trans h.ins, (kp pw fun z => by rw [← z, h.wt] at ey; have ey := Option.some.inj ey; cases ey).trans h.wt, fun x hx => ?_, h.inj, g3, fun b u e => (kp b fun z => by rw [z, h.bs] at e; cases e).trans (h.same b u e), h.bw, h.bs, h.bl⟩, .but kp n1⟩
  obtain ⟨rs, e, r⟩ := h.lists x hx
  exact ⟨rs, (kp _ (h.st.not_lst e)).trans e, r.mono fun r x z => z.but kp n1⟩
def spSettle (P : Program) (w : World) (k : Kls) : Sp := fun vs H Q _ => ∃ (B : Hp) (a dx g wd pw ps l : Addr) (loc : Nat → Addr) (W : Rc.Wt) (S : List Sy74.Die) (s : Sy74.St) (d : Sy74.Die) (c : Nat), vs = [.ref a, .ref l, .int c] ∧ CAt P w k B H a dx g pw ps loc W S ∧ GroundAt k B g wd s ∧ LieAt k H l d ∧
  Rc.Bd s ∧ Rc.Vd s d ∧ Rc.Wok W c ∧ Rc.total W ≤ 4990 ∧ S.length ≤ 4990 ∧
  ∀ H' loc', (d ∈ S → CAt P w k B H' a dx g pw ps loc' W S) → (d ∉ S → CAt P w k B H' a dx g pw ps loc' (Rc.settleW s W (S ++ [d]) c d 4) (S ++ [d])) → Insts H H' → Q .non H'
section
variable {P : Program} {w : World} {K : PySem.W.Frag} {mg : Str → Option Value} {base : Heap} {k : Kls} {fK fC fB : Addr} {fdK fdC fdB : FuncData}
abbrev sSettle : Stmt := inClass (top 17) 2
theorem scSettle : FnScope ["self", "lie", "cost", "way", "there"] ["self", "lie", "cost"] (defScope sSettle) := ⟨rfl, rfl, rfl, by decide +kernel, rfl, by decide +kernel, by decide +kernel⟩
theorem ok_settle {f : Addr} {fd : FuncData} (F : Fun K "settle" "Costs.settle" sSettle f fd) (T : TCosts K mg k) (TL : TLie K mg k) (TD : TDie K mg k) (TW : TWays K mg)
    (GK : FnOk P w K mg base CX0 2 fK fdK ["self"] (spKey k)) (bK : Binds K fdK ["self"] []) (mK : Meth K k.L "key" fK)
    (GC : FnOk P w K mg base CX0 3 fC fdC ["self", "lie", "cost"] (spWait P w k)) (bC : Binds K fdC ["self", "lie", "cost"] []) (mC : Meth K k.C "wait" fC)
    (GB : FnOk P w K mg base CX0 4 fB fdB ["ground", "lie", "way"] (spBehind k)) (bB : Binds K fdB ["ground", "lie", "way"] []) (mB : mg "lie_behind" = some (.ref fB)) (kB : PySem.W.keepIn K (.ref fB) = true) :
    FnOk P w K mg base CX0 5 f fd ["self", "lie", "cost"] (spSettle P w k) := by
  obtain ⟨aW, gW, tW⟩ := TW.w
  refine F.ok scSettle (fun vs H Q E h => ?_) (fun cdv A outer s H vs Q E hr h => ⟨_,
    pss_one (ps_if (pt_cmp (pc_nnotin (hu9 hr) (pe_meth0 (pv 1) TL.cl mK GK (hr.mono (by decide)) bK .nil pass0) (pe_fld (pv 0) rfl)))
      (pss_cons (ps_nput (hu9 hr) (pe_fld (pv 0) rfl) (pe_meth0 (pv 1) TL.cl mK GK (hr.mono (by decide)) bK .nil pass0) (pv 2))
      (pss_one (ps_for PassesOwn.never rfl (pi_tup (pe_glob (v := .ref aW) rfl gW rfl)) (pg_name (i := 3) scSettle.nd rfl (Or.inl rfl))
        (pss_cons (ps_set (i := 4) scSettle.nd rfl (Or.inl rfl) (pe_call GB hr rfl mB kB bB .nil pass0 (pa_cons (pe_fld (pv 0) rfl) (pa_cons (pv 1) (pa_cons (pv 3) pa_nil)))))
        (pss_one (ps_if (pt_cmp (pc_notN (pv 4))) (pss_one (ps_expr (pe_meth (pv 0) T.cl mC GC (hr.mono (by decide)) bC .nil pass0 (pa_cons (pv 4) (pa_cons (pe_op op_add (pv 2) (pe_fld (pe_fld (pv 4) rfl) rfl)) pa_nil))))) pss_nil)))))) pss_nil), ?_⟩)
  · obtain ⟨B, a, dx, g, wd, pw, ps, l, loc, W, S, s, d, c, rfl, _⟩ := h
    rfl
  · obtain ⟨B, a, dx, g, wd, pw, ps, l, loc, W, S, s, d, c, rfl, C, hG, hL, b, vd, wok, ht, hS, q⟩ := h
    obtain ⟨dl, p, el, hp⟩ := id hL
    refine ⟨_, rfl, l, dl, _, rfl, el, lF_key _ _, l, d, rfl, hL, fun r H1 nr s1 t1 => ?_⟩
    have C1 := C.move s1
    have hL1 := hL.same s1
    refine ⟨_, rfl, a, k.C, dx, _, _, rfl, C1.ins, T.cl, T.n3, cF_settled _ _ _, ps, r, k4 d, _, rfl, rfl, C1.st, t1, k4_depth d, _, rfl, ?_⟩
    by_cases hm : d ∈ S
    · exact if_false_of (by rw [decide_eq_true (k4_mem.mpr hm)]; rfl) (q H1 loc (fun _ => C1) (fun z => absurd hm z) (.of_same s1))
    · have hm4 : k4 d ∉ S.map k4 := fun z => hm (k4_mem.mp z)
      refine if_true_of (by rw [decide_eq_false hm4]; rfl) ?_
      obtain ⟨dl1, p1, el1, hp1⟩ := id hL1
      refine ⟨_, rfl, _, rfl, a, k.C, dx, _, _, rfl, C1.ins, T.cl, T.n3, cF_settled _ _ _, _, rfl, l, dl1, _, rfl, el1, lF_key _ _, l, d, rfl, hL1, fun r2 H2 nr2 s2 t2 => ?_⟩
      have C2 := C1.move s2
      have hL2 := hL1.same s2
      refine ⟨ps, r2, k4 d, _, rfl, rfl, C2.st, t2, k4_depth d, hm4, ?_, fun H3 g3 kp3 => ?_⟩
      · rw [List.length_map]
        exact Nat.lt_of_le_of_lt hS (by decide)
      obtain ⟨C3, i3⟩ := C2.put kp3 (d := d) (by rw [List.map_append]; exact g3)
      have hL3 := hL2.insts i3
      have i03 : Insts H H3 := (Insts.of_same (s1.trans s2)).trans i3
      have spec := fun i => Rc.settle_spec b (S := S ++ [d]) vd wok i
      -- for way in WAYS
      refine ⟨aW, rfl, ⟨_, tW _⟩, for_tup (K := K) (a := aW) (xs := [.int 0, .int 1, .int 2, .int 3]) (fun i σ H'' => ∃ w3 w4 loc', σ = [some (.ref a), some (.ref l), some (.int c), w3, w4] ∧ CAt P w k B H'' a dx g pw ps loc' (Rc.settleW s W (S ++ [d]) c d i) (S ++ [d]) ∧ Insts H H'') ⟨none, none, loc, rfl, C3, i03⟩ (fun i σ H'' _ _ => tW _) ?_ ?_⟩
      · rintro i y σ H8 hi ⟨u3, u4, loc8, rfl, C8, i8⟩
        obtain ⟨hi4, rfl⟩ := ways_at hi
        have hL8 := hL.insts i8
        refine ⟨_, rfl, a, k.C, dx, _, _, rfl, C8.ins, T.cl, T.n1, cF_ground _ _ _, _, rfl, _, rfl, g, wd, l, s, d, i, rfl, hG.same C8.same, hL8, b, vd, hi4, fun e => ?_, fun e he u H9 nu s9 le => ?_⟩
        · refine ⟨_, rfl, _, rfl, if_false_of rfl ⟨_, _, loc8, rfl, ?_, i8⟩⟩
          show CAt P w k B H8 a dx g pw ps loc8 (match Sy74.rolled s d i with | none => Rc.settleW s W (S ++ [d]) c d i | some f => if f ∈ S ++ [d] then Rc.settleW s W (S ++ [d]) c d i else Rc.addW (Rc.settleW s W (S ++ [d]) c d i) (c + f.top) f) (S ++ [d])
          rw [e]
          exact C8
        · have C9 := C8.move s9
          obtain ⟨dl9, p9, el9, dd9, ep9⟩ := id le
          have sz := wt_sizes (spec i).ok.ne
          have st := (spec i).tot
          refine ⟨_, rfl, _, rfl, if_true_of rfl ⟨_, rfl, a, dx, _, rfl, C9.ins, cF_none (by decide +kernel) (by decide +kernel) (by decide +kernel) _ _ _, _, rfl, _, rfl, _, rfl, u, k.L, dl9, _, _, rfl, el9, TL.cl, TL.n2, lF_die _ _, p9, k.D, dd9, _, _, rfl, ep9, TD.cl, TD.n1, dF_top _ _ _, _, _, rfl, rfl, ?_⟩⟩
          refine ⟨B, a, dx, g, pw, ps, u, loc8, _, _, e, c + e.top, rfl, C9, le, by omega, fun x hx => by have := sz.2 x hx; omega, fun H10 loc10 C10 i10 => ⟨_, _, loc10, rfl, ?_, (i8.trans (.of_same s9)).trans i10⟩⟩
          show CAt P w k B H10 a dx g pw ps loc10 (match Sy74.rolled s d i with | none => Rc.settleW s W (S ++ [d]) c d i | some f => if f ∈ S ++ [d] then Rc.settleW s W (S ++ [d]) c d i else Rc.addW (Rc.settleW s W (S ++ [d]) c d i) (c + f.top) f) (S ++ [d])
          rw [he]
          exact C10
      · rintro σ H8 ⟨u3, u4, loc8, rfl, C8, i8⟩
        exact q H8 loc8 (fun z => absurd z hm) (fun _ => C8) i8
end
end L2.Rw

/-! text Wk14 -/
namespace L2.Rw
open PySem PySem.Spec PyProof.Rows
theorem CAt.weak {P : Program} {w : World} {k : Kls} {B B' H : Hp} {a dx g pw ps : Addr} {loc : Nat → Addr} {W : Rc.Wt} {S : List Sy74.Die} (h : CAt P w k B' H a dx g pw ps loc W S) (s : Same B B') : CAt P w k B H a dx g pw ps loc W S :=
  ⟨h.ins, h.wt, h.lists, h.inj, h.st, s.trans h.same, s.free h.bw, s.free h.bs, fun x hx => s.free (h.bl x hx)⟩
/-- the list of a cost is taken out -/
theorem CAt.pop {P : Program} {w : World} {k : Kls} {B H : Hp} {a dx g pw ps : Addr} {loc : Nat → Addr} {W : Rc.Wt} {S : List Sy74.Die} (h : CAt P w k B H a dx g pw ps loc W S) {c : Nat} {l : List Sy74.Die} (hl : (c, l) ∈ W) :
    ∃ rs, upd H pw (.dK (wkv loc (Rc.dropW W c))) (loc c) = some (.lst (rs.map V.ref)) ∧ All2 (LieAt k (upd H pw (.dK (wkv loc (Rc.dropW W c))))) rs l ∧ B (loc c) = none ∧
      CAt P w k (upd B (loc c) (.lst (rs.map V.ref))) (upd H pw (.dK (wkv loc (Rc.dropW W c)))) a dx g pw ps loc (Rc.dropW W c) S := by
  have kp : ∀ b, b ≠ pw → upd H pw (.dK (wkv loc (Rc.dropW W c))) b = H b := fun b hb => upd_ne hb
  have n1 : ∀ C dx fs, H pw ≠ some (.ins C dx fs) := fun C dx fs z => by rw [h.wt] at z; cases z
  have n2 : ∀ xs, H pw ≠ some (.tup xs) := fun xs z => by rw [h.wt] at z; cases z
  have nl : ∀ {b xs}, H b = some (.lst xs) → b ≠ pw := fun e => ne_of e h.wt (fun z => by cases z)
  obtain ⟨rs, e, r⟩ := h.lists _ hl
  have sub : ∀ {x}, x ∈ Rc.dropW W c → x ∈ W ∧ x.1 ≠ c := fun {x} hx => by
    unfold Rc.dropW at hx
    rw [List.mem_filter] at hx
    simpa using hx
  have np : B (loc c) = none := h.bl _ hl
  have st : ps ≠ pw := fun z => by
    obtain ⟨zs, ez, _⟩ := h.st
    rw [z, h.wt] at ez
    have ez := Option.some.inj ez
    cases ez
  have wl : pw ≠ loc c := Ne.symm (nl e)
  have sl : ps ≠ loc c := Ne.symm (h.st.not_lst e)
  have bn : ∀ {b}, B b = none → b ≠ loc c → upd B (loc c) (.lst (rs.map V.ref)) b = none := fun e hb => by rw [upd_ne hb]; exact e
  refine ⟨rs, (kp _ (nl e)).trans e, r.mono fun r x z => z.but kp n1, np, (kp a fun z => n1 _ _ _ (z ▸ h.ins)).trans h.ins, upd_same, fun x hx => ?_, fun x hx y hy q => h.inj x (sub hx).1 y (sub hy).1 q, DNAt.but h.st st kp n2, fun b u q => ?_, bn h.bw wl, bn h.bs sl, fun x hx => bn (h.bl x (sub hx).1) fun z => (sub hx).2 (h.inj x (sub hx).1 _ hl z)⟩
  · obtain ⟨rs', e', r'⟩ := h.lists x (sub hx).1
    exact ⟨rs', (kp _ (nl e')).trans e', r'.mono fun r x z => z.but kp n1⟩
  · by_cases z : b = loc c
    · subst z
      rw [upd_same] at q
      rw [← q]
      exact (kp _ (nl e)).trans e
    · rw [upd_ne z] at q
      rw [kp b fun z => by rw [z, h.bw] at q; cases q]
      exact h.same b u q
def spLeast (k : Kls) : Sp := fun vs H Q _ => ∃ (g wd l wi : Addr) (s : Sy74.St), vs = [.ref g, .ref l, .ref wi] ∧ GroundAt k H g wd s ∧ LieAt k H l s.die ∧ WishAt k H wi s.goal ∧ Rc.Bd s ∧ Rc.Vd s s.die ∧
  ∀ H', Same H H' → Q (oV (Sy74.least s)) H'
theorem LieAt.made {k : Kls} {H : Hp} {l a dx : Addr} {d : Sy74.Die} (h : LieAt k H l d) (na : H a = none) (nd : H dx = none) {C : Addr} {fs : List (Str × V)} : LieAt k (upd (upd H dx (.own a)) a (.ins C dx fs)) l d := h.same (mk_same na nd)
section
variable {P : Program} {w : World} {K : PySem.W.Frag} {mg : Str → Option Value} {base : Heap} {k : Kls} {fI fM fS : Addr} {fdI fdM fdS : FuncData}
abbrev sLeastC : Stmt := top 18
theorem scLeastC : FnScope ["ground", "lie", "wish", "costs", "cost", "lies", "one"] ["ground", "lie", "wish"] (defScope sLeastC) := ⟨rfl, rfl, rfl, by decide +kernel, rfl, by decide +kernel, by decide +kernel⟩
theorem ok_leastC {f : Addr} {fd : FuncData} (F : Fun K "least_cost" "least_cost" sLeastC f fd) (T : TCosts K mg k) (TN : TNames mg) (TWi : TWish K mg k)
    (M : Mk K k.C fI) (GI : FnOk P w K mg base CX0 1 fI fdI ["self", "ground", "lie"] (spCostsI P w k)) (bI : Binds K fdI ["self", "ground", "lie"] [])
    (GM : FnOk P w K mg base CX0 1 fM fdM ["self", "lie"] (spMet k)) (bM : Binds K fdM ["self", "lie"] []) (mM : Meth K k.W "is_met" fM)
    (GS : FnOk P w K mg base CX0 5 fS fdS ["self", "lie", "cost"] (spSettle P w k)) (bS : Binds K fdS ["self", "lie", "cost"] []) (mS : Meth K k.C "settle" fS) :
    FnOk P w K mg base CX0 6 f fd ["ground", "lie", "wish"] (spLeast k) := by
  refine F.ok scLeastC (fun vs H Q E h => ?_) (fun cdv A outer s H vs Q E hr h => ⟨_,
    pss_cons (ps_set (i := 3) scLeastC.nd rfl (Or.inl rfl) (pe_make M GI (hr.mono (by decide)) rfl T.g bI .nil pass0 (pa_cons (pv 0) (pa_cons (pv 1) pa_nil))))
    (pss_cons (ps_while PassesOwn.never (pt_cmpR (op_ne_empty hr.units0) (pe_fld (pv 3) rfl) pe_dnewK (nomark _))
      (pss_cons (ps_set (i := 4) scLeastC.nd rfl (Or.inl rfl) (pe_callB (cr_min rfl) rfl TN.min PyProof.Rows.boot_min (pa_cons (pe_callTy (call_list_dK rfl) rfl TN.list PyProof.Rows.boot_list (pa_cons (pe_fld (pv 3) rfl) pa_nil)) pa_nil)))
      (pss_cons (ps_set (i := 5) scLeastC.nd rfl (Or.inl rfl) (pe_dpop1 (pe_fld (pv 3) rfl) (pv 4) ⟨rfl, rfl, rfl, rfl⟩))
      (pss_cons (ps_if (pt_val (pe_callB (cr_any rfl) rfl TN.any PyProof.Rows.boot_any (pa_cons
          (pe_lc (own := [("one", 6)]) (g := gName 6) (tt := tYes) (te := tMeth k.W "is_met" (spMet k) [] E0 (tVar 2) (tCons (tVar 6) tNil)) rfl scLeastC.nd (pi_list (pv 5)) (blkOk_by (N := ["ground", "lie", "wish", "costs", "cost", "lies", "one"]) (sc := defScope sLeastC) (by decide +kernel))
            (fun _ _ _ _ _ => pg_name (i := 6) scLeastC.nd rfl (Or.inl rfl)) (fun _ _ _ _ _ => by exact pts_nil) (fun _ _ _ _ _ => by exact pe_meth (pv 2) TWi.cl mM GM (hr.mono (by decide)) bM .nil pass0 (pa_cons (pv 6) pa_nil)))
          pa_nil))) (pss_one (ps_ret (pv 4))) pss_nil)
      (pss_one (ps_for PassesOwn.never rfl (pi_list (pv 5)) (pg_name (i := 6) scLeastC.nd rfl (Or.inl rfl)) (pss_one (ps_expr (pe_meth (pv 3) T.cl mS GS hr bS .nil pass0 (pa_cons (pv 6) (pa_cons (pv 4) pa_nil)))))))))))
    (pss_one (ps_ret pe_non))), ?_⟩)
  · obtain ⟨g, wd, l, wi, s, rfl, _⟩ := h
    rfl
  · obtain ⟨g, wd, l, wi, s, rfl, hG, hL, hW, b, v, q⟩ := h
    refine ⟨_, rfl, _, rfl, fun a dx na nd ne => ⟨a, dx, g, l, s.die, rfl, upd_same, hL.made na nd, fun H1 pw ps loc n1 n2 n3 st1 C0 => ⟨rfl, ?_⟩⟩⟩
    have C1 : CAt P w k H H1 a dx g pw ps loc [(0, [s.die])] [] := C0 H (mk_same na nd) na
    refine ⟨fun m σ H' => ∃ (W : Rc.Wt) (S : List Sy74.Die) (loc' : Nat → Addr) (w4 w5 w6 : Option V), m = Rc.mu W S ∧ σ = [some (.ref g), some (.ref l), some (.ref wi), some (.ref a), w4, w5, w6] ∧ CAt P w k H H' a dx g pw ps loc' W S ∧ Rc.Head s s.die W S ∧ Rc.mu W S ≤ 4501 ∧ S.length ≤ 900,
      ⟨_, _, _, loc, none, none, none, rfl, rfl, C1, Rc.head_start s s.die, Nat.le_refl 4501, Nat.zero_le _⟩, ?_⟩
    rintro m σ H' ⟨W, S, loc', w4, w5, w6, rfl, rfl, C, hd, mb, sl⟩
    refine ⟨_, rfl, a, k.C, dx, _, _, rfl, C.ins, T.cl, T.n2, cF_waiting _ _ _, fun e ne => ?_⟩
    have C2 := C.move (upd_same_of (o := .dK []) ne)
    have e2 : upd H' e (.dK []) e = some (.dK []) := upd_same
    generalize upd H' e (.dK []) = H2 at C2 e2 ⊢
    refine ⟨pw, e, wkv loc' W, rfl, rfl, C2.wt, e2, _, rfl, ?_⟩
    by_cases hW0 : W = []
    · subst hW0
      refine if_false_of rfl ?_
      have := q _ C2.same
      rw [hd.none b v] at this
      exact this
    · have hne : (!(wkv loc' W).isEmpty) = true := by
        cases W with
        | nil => exact absurd rfl hW0
        | cons x W => rfl
      refine if_true_of hne ⟨fun σ' H'' => ∃ (W' : Rc.Wt) (S' : List Sy74.Die) (loc' : Nat → Addr) (w4 w5 w6 : Option V), σ' = [some (.ref g), some (.ref l), some (.ref wi), some (.ref a), w4, w5, w6] ∧ CAt P w k H H'' a dx g pw ps loc' W' S' ∧ Rc.Head s s.die W' S' ∧ Rc.mu W' S' + 1 ≤ Rc.mu W S ∧ S'.length ≤ 900, ?_, ?_⟩
      · rintro σ' H'' ⟨W', S', l', u4, u5, u6, e, C', h', mu', sl'⟩
        exact ⟨Rc.mu W' S', by omega, W', S', l', u4, u5, u6, rfl, e, C', h', by omega, sl'⟩
      -- cost = min(list(costs.waiting))
      refine ⟨_, rfl, a, k.C, dx, _, _, rfl, C2.ins, T.cl, T.n2, cF_waiting _ _ _, pw, _, rfl, C2.wt, fun ql nql => ?_⟩
      have C3 := C2.move (upd_same_of (o := .lst ((wkv loc' W).map fun kv => kV kv.1)) nql)
      have ek : ((wkv loc' W).map fun kv => kV kv.1) = (W.map fun x => (x.1 : Int)).map V.int := by
        unfold wkv
        rw [List.map_map, List.map_map]
        rfl
      have l3 : upd H2 ql (.lst ((wkv loc' W).map fun kv => kV kv.1)) ql = some (.lst ((W.map fun x => (x.1 : Int)).map V.int)) := by rw [← ek]; exact upd_same
      generalize upd H2 ql (.lst ((wkv loc' W).map fun kv => kV kv.1)) = H3 at C3 l3 ⊢
      refine ⟨ql, W.map fun x => (x.1 : Int), rfl, .of l3, ?_, fun m hm hmin => ?_⟩
      · rw [List.length_map]
        exact List.length_pos_iff.mpr hW0
      obtain ⟨⟨c, l0⟩, hx, em⟩ := List.mem_map.mp hm
      obtain rfl : ((c : Nat) : Int) = m := em
      have hmin : ∀ x ∈ W, c ≤ x.1 := fun x hx => by
        have := hmin _ (List.mem_map.mpr ⟨x, hx, rfl⟩)
        omega
      -- lies = costs.waiting.pop(cost)
      have hval : valV (wkv loc' W) (Sum.inl (c : Int)) = some (.ref (loc' c)) := by
        rw [wkv_val, if_pos (List.any_eq_true.mpr ⟨(c, l0), hx, decide_eq_true rfl⟩)]
      refine ⟨_, rfl, a, k.C, dx, _, _, rfl, C3.ins, T.cl, T.n2, cF_waiting _ _ _, pw, rfl, .inl ⟨_, .inl C3.wt⟩, _, rfl, wkv loc' W, Sum.inl (c : Int), .ref (loc' c), C3.wt, rfl, hval, ?_⟩
      rw [wkv_drop]
      obtain ⟨rs, el, ar, np, C4⟩ := C3.pop hx
      generalize upd H3 pw (.dK (wkv loc' (Rc.dropW W c))) = H4 at el ar C4 ⊢
      have sB : Same H (upd H (loc' c) (.lst (rs.map V.ref))) := upd_same_of np
      -- any(..)
      refine ⟨_, rfl, loc' c, rfl, ⟨_, .of el⟩, fun D nD => lc_list (K := K) (a := loc' c) (xs := rs.map V.ref)
        (fun i H5 => Same H4 H5 ∧ H5 D = some (.lst (((l0.take i).map (Sy74.done s)).map V.bl))) ⟨upd_same_of nD, upd_same⟩ (fun i H5 _ ⟨sm, _⟩ => .of (sm _ _ el)) ?_ ?_⟩
      · rintro i y H5 hi ⟨sm, hD⟩
        obtain ⟨r, hr', rfl⟩ : ∃ r, rs[i]? = some r ∧ y = V.ref r := by
          rw [List.getElem?_map] at hi
          obtain ⟨r, x1, x2⟩ := Option.map_eq_some_iff.mp hi
          exact ⟨r, x1, x2.symm⟩
        obtain ⟨d, hd', lr⟩ := ar.at' hr'
        obtain ⟨dw, ew⟩ := ((hW.same sB).same C4.same).same sm
        have s45 := sm
        refine ⟨rfl, ?_⟩
        unfold tYes
        dsimp only
        rw [if_pos rfl]
        refine ⟨_, rfl, wi, dw, _, rfl, ew, wF_met _ _, _, rfl, wi, r, s, d, rfl, ⟨dw, ew⟩, lr.same sm, fun H6 s6 => ⟨_, s6 _ _ hD, ?_, fun u o eu => ?_, ?_⟩⟩
        · rw [List.length_map, List.length_map, List.length_take]
          have := (wt_sizes hd.ne).2 _ hx
          unfold Rc.mu at mb
          dsimp only at this
          exact Nat.lt_of_le_of_lt (by omega : _ ≤ 4501) (by decide)
        · rw [upd_ne (ne_of_none eu nD)]
          exact s6 _ _ (sm _ _ eu)
        · rw [upd_same, List.take_add_one, hd', List.map_append, List.map_append]
          rfl
      · rintro H5 ⟨sm, hD⟩
        rw [List.length_map, ar.len, List.take_length] at hD
        have C5 := C4.move sm
        refine ⟨D, _, rfl, .of hD, ⟨_, rfl, ?_⟩⟩
        by_cases hany : ((l0.map (Sy74.done s)).any id) = true
        · refine if_true_of hany ⟨_, rfl, ?_⟩
          obtain ⟨t, ht, tt⟩ := List.any_eq_true.mp hany
          obtain ⟨d, hd', ed⟩ := List.mem_map.mp ht
          have := q H5 (C5.weak sB).same
          rw [Rc.Head.found b hd v hx hmin hd' (ed.trans tt)] at this
          exact this
        · have hn : ∀ d ∈ l0, Sy74.done s d = false := fun d hd' => by
            cases hh : Sy74.done s d with
            | false => rfl
            | true => exact absurd (List.any_eq_true.mpr ⟨true, List.mem_map.mpr ⟨d, hd', hh⟩, rfl⟩) hany
          refine if_false_of (by simpa using hany) ?_
          obtain ⟨M0, mu0⟩ := Rc.Head.mid b v hd hx hmin hn
          have l5 := sm _ _ el
          have ar5 := ar.mono fun r x z => LieAt.same z sm
          -- for one in lies
          refine ⟨_, rfl, loc' c, rfl, ⟨_, .of l5⟩, for_list (K := K) (a := loc' c) (xs := rs.map V.ref) (fun i σ H'' => ∃ (W' : Rc.Wt) (S' : List Sy74.Die) (l' : Nat → Addr) (w6 : Option V), σ = [some (.ref g), some (.ref l), some (.ref wi), some (.ref a), some (.int c), some (.ref (loc' c)), w6] ∧
            CAt P w k (upd H (loc' c) (.lst (rs.map V.ref))) H'' a dx g pw ps l' W' S' ∧ Rc.Mid s s.die W' S' c (l0.drop i) ∧ Rc.mu W' S' + 1 ≤ Rc.mu W S ∧ Insts H5 H'') ⟨_, S, loc', w6, rfl, C5, M0, mu0, .of_same (Same.refl _)⟩ (fun i σ H'' _ ⟨_, _, _, _, _, C', _⟩ => .of (C'.same _ _ upd_same)) ?_ ?_⟩
          · rintro i y σ H6 hi ⟨W', S', l', u6, rfl, C6, M, mu6, i6⟩
            obtain ⟨r, hr', rfl⟩ : ∃ r, rs[i]? = some r ∧ y = V.ref r := by
              rw [List.getElem?_map] at hi
              obtain ⟨r, x1, x2⟩ := Option.map_eq_some_iff.mp hi
              exact ⟨r, x1, x2.symm⟩
            obtain ⟨d, hd', lr⟩ := ar5.at' hr'
            obtain ⟨hlt, ed⟩ := List.getElem?_eq_some_iff.mp hd'
            have dr : l0.drop i = d :: l0.drop (i + 1) := by rw [List.drop_eq_getElem_cons hlt, ed]
            rw [dr] at M
            have rd := M.rs d List.mem_cons_self
            have sl6 := M.len b v
            have tot : Rc.total W' ≤ 4990 := by unfold Rc.mu at mu6; unfold Rc.mu at mb; omega
            refine ⟨_, rfl, a, dx, _, rfl, C6.ins, cF_none (by decide +kernel) (by decide +kernel) (by decide +kernel) _ _ _, _, rfl, _, rfl, _, a, dx, g, wd, pw, ps, r, l', W', S', s, d, c, rfl, C6, hG.same sB, lr.insts i6, b, rd.1.vd b v, M.ok, tot, by omega, fun H7 l7 c1 c2 i7 => ?_⟩
            by_cases hm : d ∈ S'
            · exact ⟨W', S', l7, _, rfl, c1 hm, M.old hm, mu6, i6.trans i7⟩
            · obtain ⟨M', mu', _⟩ := Rc.Mid.new b v M hm
              exact ⟨_, _, l7, _, rfl, c2 hm, M', Nat.le_trans (Nat.add_le_add_right mu' 1) mu6, i6.trans i7⟩
          · rintro σ H6 ⟨W', S', l', u6, rfl, C6, M, mu6, i6⟩
            rw [List.length_map, ar.len, List.drop_length] at M
            exact ⟨W', S', l', _, _, _, rfl, C6.weak sB, M.head, mu6, M.len b v⟩
end
end L2.Rw

/-! text Wk15 -/
namespace L2.Rw
open PySem PySem.Spec PyProof.Rows
/-! ### refusals; the holder -/
/-- what the text tells of Refusal -/
structure TExc (K : PySem.W.Frag) (mg : Str → Option Value) (k : Kls) (fI : Addr) : Prop where
  o : OexC K k.F
  x : XfC K k.F
  nN : PySem.W.findIn K (.ref k.F) "number" = some none
  iC : PySem.W.findIn K (.ref k.F) "__init__" = some (some (.ref fI))
  tI : PySem.W.typeIn K (.ref fI) = some (.type "function")
  g : mg "Refusal" = some (.ref k.F)
  mV : mg "ValueError" = none
  vV : PySem.W.findCls K (.type "ValueError") (.type "type") "__init__" = some (.val (.builtin "ValueError.__init__"))
  te : PySem.W.exmOne K (.ref k.F) (.ref k.F) = some true
/-- a refusal with the number n leaves -/
def Refuses (k : Kls) (H : Hp) (n : Int) (E : XK) : Prop := ∀ d H', Same H H' → H' d = some (.xd [(("number" : Str), .int n)]) → E (.ref k.F) (some d) H'
theorem Refuses.same {k : Kls} {H H' : Hp} {n : Int} {E : XK} (h : Refuses k H n E) (s : Same H H') : Refuses k H' n E := fun d H2 s2 e => h d H2 (s.trans s2) e
def spRefI (k : Kls) : Sp := fun vs H Q _ => ∃ (a : Addr) (n : Int), vs = [.ref a, .int n] ∧ H a = some (exo a k.F none) ∧ ∀ d, H d = none → d ≠ a → Q .non (upd (upd H d (exd d [(("number" : Str), .int n)])) a (exo a k.F (some d)))
def spMust (k : Kls) : Sp := fun vs H Q E => ∃ (t : Bool) (n : Int), vs = [.bl t, .int n] ∧ (t = true → Q .non H) ∧ (t = false → Refuses k H n E)
def hF (g l wi r c : V) : List (Str × V) := [("ground", g), ("lie", l), ("wish", wi), ("rolls", r), ("cost", c)]
section
variable (g l wi r c v : V)
theorem hF_ground : (hF g l wi r c).lookup ("ground" : Str) = some g := lk_here
theorem hF_lie : (hF g l wi r c).lookup ("lie" : Str) = some l := (lk_past (by decide +kernel)).trans lk_here
theorem hF_wish : (hF g l wi r c).lookup ("wish" : Str) = some wi := (lk_past (by decide +kernel)).trans ((lk_past (by decide +kernel)).trans lk_here)
theorem hF_rolls : (hF g l wi r c).lookup ("rolls" : Str) = some r := (lk_past (by decide +kernel)).trans ((lk_past (by decide +kernel)).trans ((lk_past (by decide +kernel)).trans lk_here))
theorem hF_cost : (hF g l wi r c).lookup ("cost" : Str) = some c := (lk_past (by decide +kernel)).trans ((lk_past (by decide +kernel)).trans ((lk_past (by decide +kernel)).trans ((lk_past (by decide +kernel)).trans lk_here)))
theorem hF_begin : (hF g l wi r c).lookup ("begin" : Str) = none := (lk_past (by decide +kernel)).trans ((lk_past (by decide +kernel)).trans ((lk_past (by decide +kernel)).trans ((lk_past (by decide +kernel)).trans ((lk_past (by decide +kernel)).trans rfl))))
theorem hF_reach : (hF g l wi r c).lookup ("reach" : Str) = none := (lk_past (by decide +kernel)).trans ((lk_past (by decide +kernel)).trans ((lk_past (by decide +kernel)).trans ((lk_past (by decide +kernel)).trans ((lk_past (by decide +kernel)).trans rfl))))
theorem hF_putL : putF "lie" v (hF g l wi r c) = hF g v wi r c := by
  unfold hF
  rw [put_past (by decide +kernel), put_here]
theorem hF_putW : putF "wish" v (hF g l wi r c) = hF g l v r c := by
  unfold hF
  rw [put_past (by decide +kernel), put_past (by decide +kernel), put_here]
theorem hF_putR : putF "rolls" v (hF g l wi r c) = hF g l wi v c := by
  unfold hF
  rw [put_past (by decide +kernel), put_past (by decide +kernel), put_past (by decide +kernel), put_here]
theorem hF_putC : putF "cost" v (hF g l wi r c) = hF g l wi r v := by
  unfold hF
  rw [put_past (by decide +kernel), put_past (by decide +kernel), put_past (by decide +kernel), put_past (by decide +kernel), put_here]
theorem hF_putG : putF "ground" v (hF g l wi r c) = hF v l wi r c := by
  unfold hF
  rw [put_here]
end
theorem hF_all {fs : List (Str × V)} (h : fs = [] ∨ ∃ g l wi r c, fs = hF g l wi r c) (g l wi r c : V) : putF "cost" c (putF "rolls" r (putF "wish" wi (putF "lie" l (putF "ground" g fs)))) = hF g l wi r c := by
  rcases h with rfl | ⟨g', l', wi', r', c', rfl⟩
  · show putF "cost" c (putF "rolls" r (putF "wish" wi (putF "lie" l [("ground", g)]))) = _
    rw [put_past (by decide +kernel)]
    show putF "cost" c (putF "rolls" r (putF "wish" wi [("ground", g), ("lie", l)])) = _
    rw [put_past (by decide +kernel), put_past (by decide +kernel)]
    show putF "cost" c (putF "rolls" r [("ground", g), ("lie", l), ("wish", wi)]) = _
    rw [put_past (by decide +kernel), put_past (by decide +kernel), put_past (by decide +kernel)]
    show putF "cost" c [("ground", g), ("lie", l), ("wish", wi), ("rolls", r)] = _
    rw [put_past (by decide +kernel), put_past (by decide +kernel), put_past (by decide +kernel), put_past (by decide +kernel)]
    rfl
  · rw [hF_putG, hF_putL, hF_putW, hF_putR, hF_putC]
/-- the first field is the ground, if any -/
def HeadG (fs : List (Str × V)) : Prop := fs = [] ∨ ∃ v r, fs = (("ground" : Str), v) :: r
theorem HeadG.hF {g l wi r c : V} : HeadG (hF g l wi r c) := .inr ⟨_, _, rfl⟩
theorem HeadG.putG {fs : List (Str × V)} (h : HeadG fs) (v : V) : ∃ x r, putF "ground" v fs = (("ground" : Str), x) :: r := by
  rcases h with rfl | ⟨x, r, rfl⟩
  · exact ⟨v, [], rfl⟩
  · exact ⟨v, r, put_here⟩
theorem HeadG.put {fs : List (Str × V)} {f : Str} {v : V} (h : ∃ x r, fs = (("ground" : Str), x) :: r) (hf : ¬ ("ground" : Str) = f) : ∃ x r, putF f v fs = (("ground" : Str), x) :: r := by
  obtain ⟨x, r, rfl⟩ := h
  exact ⟨x, _, put_past hf⟩
theorem putF_len (f : Str) (v : V) : ∀ fs : List (Str × V), (putF f v fs).length ≤ fs.length + 1
  | [] => Nat.le_refl _
  | (g, x) :: r => by
    have ih := putF_len f v r
    unfold putF
    split <;> simp only [List.length_cons] <;> omega
theorem headG_ne {fs : List (Str × V)} (h : HeadG fs) {x : Str} {v : V} {r : List (Str × V)} (hx : ¬ x = ("ground" : Str)) : fs ≠ (x, v) :: r := by
  rintro rfl
  rcases h with h | ⟨v', r', h⟩
  · cases h
  · exact hx (congrArg (fun z : List (Str × V) => (z.head?.map Prod.fst).getD "ground") h)
section
variable {k : Kls} {H H' : Hp} {a dx : Addr} {fs : List (Str × V)}
theorem keep_ins {C dx' : Addr} {x : Str} {v : V} {r : List (Str × V)} {b : Addr} (ha : H a = some (.ins k.H dx fs)) (hf : HeadG fs) (hx : ¬ x = ("ground" : Str)) (e : H b = some (.ins C dx' ((x, v) :: r))) : b ≠ a :=
  ne_of e ha (fun z => headG_ne hf hx (HO.ins.inj z).2.2.symm)
theorem DieAt.keepH {p : Addr} {x : Tri} (h : DieAt k H p x) (ha : H a = some (.ins k.H dx fs)) (hf : HeadG fs) (kp : ∀ b u, H b = some u → b ≠ a → H' b = some u) : DieAt k H' p x := by
  obtain ⟨dd, e⟩ := h
  exact ⟨dd, kp _ _ e (keep_ins ha hf (by decide +kernel) e)⟩
theorem LieAt.keepH {l : Addr} {d : Sy74.Die} (h : LieAt k H l d) (ha : H a = some (.ins k.H dx fs)) (hf : HeadG fs) (kp : ∀ b u, H b = some u → b ≠ a → H' b = some u) : LieAt k H' l d := by
  obtain ⟨dl, p, e, dp⟩ := h
  exact ⟨dl, p, kp _ _ e (keep_ins ha hf (by decide +kernel) e), DieAt.keepH dp ha hf kp⟩
theorem WishAt.keepH {l : Addr} {d : Nat × Nat} (h : WishAt k H l d) (ha : H a = some (.ins k.H dx fs)) (hf : HeadG fs) (kp : ∀ b u, H b = some u → b ≠ a → H' b = some u) : WishAt k H' l d := by
  obtain ⟨dl, e⟩ := h
  exact ⟨dl, kp _ _ e (keep_ins ha hf (by decide +kernel) e)⟩
theorem GroundAt.keepH {g w : Addr} {s : Sy74.St} (h : GroundAt k H g w s) (ha : H a = some (.ins k.H dx fs)) (hf : HeadG fs) (kp : ∀ b u, H b = some u → b ≠ a → H' b = some u) : GroundAt k H' g w s := by
  obtain ⟨dg, kvs, e, ew, o⟩ := h
  exact ⟨dg, kvs, kp _ _ e (keep_ins ha hf (by decide +kernel) e), kp _ _ ew (ne_of ew ha (fun z => by cases z)), o⟩
end
/-- the holder at a; w: the dict of the walls -/
def HolderAt (k : Kls) (H : Hp) (a w : Addr) (s : Sy74.St) : Prop := ∃ dx g l wi, H a = some (.ins k.H dx (hF (.ref g) (.ref l) (.ref wi) (.int s.rolls) (.int s.sum))) ∧ GroundAt k H g w s ∧ LieAt k H l s.die ∧ WishAt k H wi s.goal
theorem HolderAt.same {k : Kls} {H H' : Hp} {a w : Addr} {s : Sy74.St} (h : HolderAt k H a w s) (m : Same H H') : HolderAt k H' a w s := by
  obtain ⟨dx, g, l, wi, e, G, L, W⟩ := h
  exact ⟨dx, g, l, wi, m _ _ e, G.same m, L.same m, W.same m⟩
/-- all but instances and dicts stands -/
def Keep (H H' : Hp) : Prop := ∀ b u, H b = some u → (∀ C dx fs, u ≠ .ins C dx fs) → (∀ kvs, u ≠ .dK kvs) → H' b = some u
theorem Keep.of_same {H H' : Hp} (s : Same H H') : Keep H H' := fun b u e _ _ => s b u e
theorem Keep.trans {H H1 H2 : Hp} (a : Keep H H1) (b : Keep H1 H2) : Keep H H2 := fun c u e n1 n2 => b c u (a c u e n1 n2) n1 n2
theorem Keep.but {H H' : Hp} {a : Addr} (kp : ∀ b u, H b = some u → b ≠ a → H' b = some u) (h : (∃ C dx fs, H a = some (.ins C dx fs)) ∨ ∃ kvs, H a = some (.dK kvs)) : Keep H H' := fun b u e n1 n2 => kp b u e fun z => by
  subst z
  rcases h with ⟨C, dx, fs, h⟩ | ⟨kvs, h⟩
  · exact n1 C dx fs (Option.some.inj (e.symm.trans h))
  · exact n2 kvs (Option.some.inj (e.symm.trans h))
theorem Keep.lst {H H' : Hp} (h : Keep H H') {b : Addr} {xs : List V} (e : H b = some (.lst xs)) : H' b = some (.lst xs) := h b _ e (fun _ _ _ z => by cases z) (fun _ z => by cases z)
structure THolder (K : PySem.W.Frag) (mg : Str → Option Value) (k : Kls) : Prop where
  cl : Cls K k.H
  n1 : NoAttr K k.H "ground"
  n2 : NoAttr K k.H "lie"
  n3 : NoAttr K k.H "wish"
  n4 : NoAttr K k.H "rolls"
  n5 : NoAttr K k.H "cost"
  g : mg "Holder" = some (.ref k.H)
def spBegin (k : Kls) : Sp := fun vs H Q _ => ∃ (a dx : Addr) (fs : List (Str × V)) (r c : Nat), vs = [.ref a, .int r, .int c] ∧ H a = some (.ins k.H dx fs) ∧ (fs = [] ∨ ∃ g l wi r c, fs = hF g l wi r c) ∧
  ∀ H' w, HolderAt k H' a w { Sy74.init with rows := r, cols := c } → (∀ b u, H b = some u → b ≠ a → H' b = some u) → Q .non H'
def spReachO (P : Program) (w : World) (k : Kls) : Sp := fun vs H Q _ => ∃ (a wd : Addr) (s : Sy74.St), vs = [.ref a] ∧ HolderAt k H a wd s ∧ Rc.Bd s ∧ Rc.Vd s s.die ∧
  ∀ r dx pl po pk q H', Same H H' → RAt P w k H' r dx pl po pk q → Rc.Full s s.die q → Q (.ref r) H'
def spCounted (K : PySem.W.Frag) : Sp := fun vs H Q _ => ∃ (p : Addr) (ys : List V), vs = [.ref p] ∧ (SqL K H p ys ∨ SqT K H p ys) ∧ ys.length ≤ 100000 ∧ ∀ q H', H q = none → Same H H' → H' q = some (.lst (.int ys.length :: ys)) → Q (.ref q) H'
def spCell (k : Kls) : Sp := fun vs H Q E => ∃ (a wd : Addr) (s : Sy74.St) (x : Nat), vs = [.ref a, .int x] ∧ HolderAt k H a wd s ∧ Rc.Bd s ∧ (x < s.rows * s.cols → Q .non H) ∧ (¬ x < s.rows * s.cols → Refuses k H (-2) E)
section
variable {P : Program} {w : World} {K : PySem.W.Frag} {mg : Str → Option Value} {base : Heap} {k : Kls} {fI fM fG fL fW fF fR fB : Addr} {fdI fdM fdG fdL fdW fdF fdR fdB : FuncData}
abbrev sRefI : Stmt := inClass (top 22) 0
theorem scRefI : FnScope ["self", "number"] ["self", "number"] (defScope sRefI) := ⟨rfl, rfl, rfl, by decide +kernel, rfl, by decide +kernel, by decide +kernel⟩
theorem ok_RefI {f : Addr} {fd : FuncData} (F : Fun K "__init__" "Refusal.__init__" sRefI f fd) (T : TExc K mg k fI) : FnOk P w K mg base CX0 1 f fd ["self", "number"] (spRefI k) := by
  refine F.ok scRefI (fun vs H Q E h => ?_) (fun cdv A outer s H vs Q E hr h => ⟨_,
    pss_cons (ps_expr (pe_veinit rfl T.mV T.vV (pa_cons (pv 0) (pa_cons pe_str pa_nil)))) (pss_one (ps_ost (pv 0) (pv 1))), ?_⟩)
  · obtain ⟨a, n, rfl, _⟩ := h
    rfl
  · obtain ⟨a, n, rfl, ha, q⟩ := h
    refine ⟨_, rfl, a, k.F, [_], rfl, (by show 1 ≤ 1000; decide), T.o, ha, ?_⟩
    exact ⟨_, rfl, _, rfl, a, k.F, rfl, T.o, T.nN, .inl ⟨ha, fun d nd ne => q d nd ne⟩⟩
abbrev sMust : Stmt := top 24
theorem scMust : FnScope ["truth", "number"] ["truth", "number"] (defScope sMust) := ⟨rfl, rfl, rfl, by decide +kernel, rfl, by decide +kernel, by decide +kernel⟩
theorem ok_must {f : Addr} {fd : FuncData} (F : Fun K "must" "must" sMust f fd) (T : TExc K mg k fI) (GI : FnOk P w K mg base CX0 1 fI fdI ["self", "number"] (spRefI k)) (bI : Binds K fdI ["self", "number"] []) :
    FnOk P w K mg base (L2.CX P w) 3 f fd ["truth", "number"] (spMust k) := by
  refine F.okX scMust (fun vs H Q E h => ?_) (fun cdv A outer s H vs Q E hr h => ⟨_,
    pss_one (ps_if (pt_not (pt_val (pv 0))) (pss_one (ps_raise rfl (takes_of rfl rfl rfl rfl) (pmk_oex T.o T.iC T.tI GI hr bI .nil pass0 rfl T.g (pa_cons (pv 1) pa_nil)))) pss_nil), ?_⟩)
  · obtain ⟨t, n, rfl, _⟩ := h
    rfl
  · obtain ⟨t, n, rfl, qT, qF⟩ := h
    refine ⟨_, rfl, _, rfl, ?_⟩
    cases t with
    | true => exact if_false_of rfl (qT rfl)
    | false =>
      refine if_true_of rfl ⟨_, rfl, (by show 1 ≤ 1000; decide), fun a na => ⟨a, n, rfl, upd_same, fun d nd ne => ⟨rfl, d, _, upd_same, (upd_ne ne).trans upd_same, ?_, ?_⟩⟩⟩
      · rw [upd_ne ne] at nd
        exact nd
      · rw [upd_ne ne] at nd
        refine qF rfl d _ (fun b u e => ?_) upd_same
        rw [upd_ne (ne_of_none e nd), del_ne (ne_of_none e na), upd_ne (ne_of_none e na), upd_ne (ne_of_none e nd), upd_ne (ne_of_none e na)]
        exact e
end
end L2.Rw

/-! text Wk16 -/
namespace L2.Rw
open PySem PySem.Spec PyProof.Rows
theorem Same.seqT {K : PySem.W.Frag} {H H' : Hp} {a : Addr} {xs : List V} (e : Same H H') (h : SqT K H a xs) : SqT K H' a xs := by
  rcases h with (h | ⟨o, h⟩) | h
  · exact .inl (.inl (e _ _ h))
  · exact .inl (.inr ⟨o, e _ _ h⟩)
  · exact .inr h
section
variable {P : Program} {w : World} {K : PySem.W.Frag} {mg : Str → Option Value} {base : Heap} {k : Kls} {fI fM fG fL fW fF fR fB : Addr} {fdI fdM fdG fdL fdW fdF fdR fdB : FuncData}
abbrev sBegin : Stmt := inClass (top 23) 1
theorem scBegin : FnScope ["self", "rows", "columns"] ["self", "rows", "columns"] (defScope sBegin) := ⟨rfl, rfl, rfl, by decide +kernel, rfl, by decide +kernel, by decide +kernel⟩
theorem ok_begin {f : Addr} {fd : FuncData} (F : Fun K "begin" "Holder.begin" sBegin f fd) (T : THolder K mg k) (TG : TGround K mg k) (TL : TLie K mg k) (TWi : TWish K mg k)
    (MG : Mk K k.G fG) (GG : FnOk P w K mg base CX0 1 fG fdG ["self", "rows", "columns"] (spGroundI k)) (bG : Binds K fdG ["self", "rows", "columns"] [])
    (ML : Mk K k.L fL) (GL : FnOk P w K mg base CX0 1 fL fdL ["self", "cell", "die"] (spLieI k)) (bL : Binds K fdL ["self", "cell", "die"] [])
    (MW : Mk K k.W fW) (GW : FnOk P w K mg base CX0 1 fW fdW ["self", "cell", "top"] (spWishI k)) (bW : Binds K fdW ["self", "cell", "top"] [])
    (GF : FnOk P w K mg base CX0 3 fF fdF [] (spFirst k)) (bF : Binds K fdF [] []) (mF : mg "first_die" = some (.ref fF)) (kF : PySem.W.keepIn K (.ref fF) = true) :
    FnOk P w K mg base CX0 4 f fd ["self", "rows", "columns"] (spBegin k) := by
  refine F.ok scBegin (fun vs H Q E h => ?_) (fun cdv A outer s H vs Q E hr h => ⟨_,
    pss_cons (ps_fld (pv 0) (pe_make MG GG (hr.mono (by decide)) rfl TG.g bG .nil pass0 (pa_cons (pv 1) (pa_cons (pv 2) pa_nil))) rfl)
    (pss_cons (ps_fld (pv 0) (pe_make ML GL (hr.mono (by decide)) rfl TL.g bL .nil pass0 (pa_cons pe_int (pa_cons (pe_call0 GF hr rfl mF kF bF .nil pass0) pa_nil))) rfl)
    (pss_cons (ps_fld (pv 0) (pe_make MW GW (hr.mono (by decide)) rfl TWi.g bW .nil pass0 (pa_cons pe_int (pa_cons pe_int pa_nil))) rfl)
    (pss_cons (ps_fld (pv 0) pe_int rfl)
    (pss_one (ps_fld (pv 0) pe_int rfl))))), ?_⟩)
  · obtain ⟨a, dx, fs, r, c, rfl, _⟩ := h
    rfl
  · obtain ⟨a, dx, fs, r, c, rfl, ha, hfs, q⟩ := h
    have hd : HeadG fs := by
      rcases hfs with rfl | ⟨_, _, _, _, _, rfl⟩
      · exact .inl rfl
      · exact .hF
    have l0 : fs.length ≤ 5 := by
      rcases hfs with rfl | ⟨_, _, _, _, _, rfl⟩
      · exact Nat.zero_le _
      · exact Nat.le_refl 5
    have up : ∀ (H : Hp) (o : HO) (b : Addr) (u : HO), H b = some u → b ≠ a → upd H a o b = some u := fun H o b u e hb => (upd_ne hb).trans e
    refine ⟨_, rfl, _, rfl, ?_⟩
    intro g gd ng ngd nge
    refine ⟨g, gd, _, _, rfl, upd_same, fun wd H1 nw0 e1 e2 kp1 => ⟨rfl, ?_⟩⟩
    have sm1 : Same H (upd (upd H gd (.own g)) g (.ins k.G gd [])) := mk_same ng ngd
    have s1 : Same H H1 := fun b o e => kp1 b o (sm1 b o e) (ne_of_none e ng)
    have G1 : GroundAt k H1 g wd { Sy74.init with rows := r, cols := c } := ⟨gd, [], e1, e2, .nil⟩
    have a1 := s1 _ _ ha
    refine ⟨_, rfl, a, k.H, dx, fs, rfl, a1, T.cl, T.n1, Nat.lt_of_le_of_lt l0 (by decide), ?_⟩
    have G2 := G1.keepH (H' := upd H1 a (.ins k.H dx (putF "ground" (.ref g) fs))) a1 hd (up _ _)
    have k2 : ∀ b u, H b = some u → b ≠ a → upd H1 a (.ins k.H dx (putF "ground" (.ref g) fs)) b = some u := fun b u e hb => up _ _ b u (s1 b u e) hb
    have a2 : upd H1 a (.ins k.H dx (putF "ground" (.ref g) fs)) a = some (.ins k.H dx (putF "ground" (.ref g) fs)) := upd_same
    have hd2 := HeadG.putG hd (.ref g)
    have all := fun l wi r c => hF_all hfs (.ref g) l wi r c
    have l2 := Nat.le_trans (putF_len "ground" (.ref g) fs) (Nat.add_le_add_right l0 1)
    generalize putF "ground" (.ref g) fs = fs2 at all G2 k2 a2 hd2 l2 ⊢
    generalize upd H1 a (.ins k.H dx fs2) = H2 at G2 k2 a2 ⊢
    -- self.lie = Lie(0, first_die())
    refine ⟨rfl, fun p H3 np s3 D3 => ?_⟩
    intro l ld nl nld nle
    refine ⟨l, ld, _, _, rfl, upd_same, rfl, ?_⟩
    rw [upd_upd]
    have s4 : Same H3 (upd (upd H3 ld (.own l)) l (.ins k.L ld (lF (.int 0) (.ref p)))) := mk_same nl nld
    have L4 : LieAt k (upd (upd H3 ld (.own l)) l (.ins k.L ld (lF (.int 0) (.ref p)))) l ⟨0, 1, 2, 3⟩ := ⟨ld, p, upd_same, D3.same s4⟩
    generalize upd (upd H3 ld (.own l)) l (.ins k.L ld (lF (.int 0) (.ref p))) = H4 at s4 L4 ⊢
    have s24 := s3.trans s4
    have a4 := s24 _ _ a2
    have G4 := G2.same s24
    refine ⟨_, rfl, a, k.H, dx, fs2, rfl, a4, T.cl, T.n2, Nat.lt_of_le_of_lt l2 (by decide), ?_⟩
    have G5 := G4.keepH (H' := upd H4 a (.ins k.H dx (putF "lie" (.ref l) fs2))) a4 (.inr hd2) (up _ _)
    have L5 := L4.keepH (H' := upd H4 a (.ins k.H dx (putF "lie" (.ref l) fs2))) a4 (.inr hd2) (up _ _)
    have k5 : ∀ b u, H b = some u → b ≠ a → upd H4 a (.ins k.H dx (putF "lie" (.ref l) fs2)) b = some u := fun b u e hb => up _ _ b u (s24 b u (k2 b u e hb)) hb
    have a5 : upd H4 a (.ins k.H dx (putF "lie" (.ref l) fs2)) a = some (.ins k.H dx (putF "lie" (.ref l) fs2)) := upd_same
    have hd5 := HeadG.put (f := "lie") (v := .ref l) hd2 (by decide +kernel)
    have all := fun wi r c => all (.ref l) wi r c
    have l5 := Nat.le_trans (putF_len "lie" (.ref l) fs2) (Nat.add_le_add_right l2 1)
    generalize putF "lie" (.ref l) fs2 = fs5 at all G5 L5 k5 a5 hd5 l5 ⊢
    generalize upd H4 a (.ins k.H dx fs5) = H5 at G5 L5 k5 a5 ⊢
    -- self.wish = Wish(0, 0)
    intro wi wid nwi nwid nwie
    refine ⟨wi, wid, _, _, rfl, upd_same, rfl, ?_⟩
    rw [upd_upd]
    have s6 : Same H5 (upd (upd H5 wid (.own wi)) wi (.ins k.W wid (wF (.int 0) (.int 0)))) := mk_same nwi nwid
    have W6 : WishAt k (upd (upd H5 wid (.own wi)) wi (.ins k.W wid (wF (.int 0) (.int 0)))) wi (0, 0) := ⟨wid, upd_same⟩
    generalize upd (upd H5 wid (.own wi)) wi (.ins k.W wid (wF (.int 0) (.int 0))) = H6 at s6 W6 ⊢
    have a6 := s6 _ _ a5
    have G6 := G5.same s6
    have L6 := L5.same s6
    refine ⟨_, rfl, a, k.H, dx, fs5, rfl, a6, T.cl, T.n3, Nat.lt_of_le_of_lt l5 (by decide), ?_⟩
    have G7 := G6.keepH (H' := upd H6 a (.ins k.H dx (putF "wish" (.ref wi) fs5))) a6 (.inr hd5) (up _ _)
    have L7 := L6.keepH (H' := upd H6 a (.ins k.H dx (putF "wish" (.ref wi) fs5))) a6 (.inr hd5) (up _ _)
    have W7 := W6.keepH (H' := upd H6 a (.ins k.H dx (putF "wish" (.ref wi) fs5))) a6 (.inr hd5) (up _ _)
    have k7 : ∀ b u, H b = some u → b ≠ a → upd H6 a (.ins k.H dx (putF "wish" (.ref wi) fs5)) b = some u := fun b u e hb => up _ _ b u (s6 b u (k5 b u e hb)) hb
    have a7 : upd H6 a (.ins k.H dx (putF "wish" (.ref wi) fs5)) a = some (.ins k.H dx (putF "wish" (.ref wi) fs5)) := upd_same
    have hd7 := HeadG.put (f := "wish") (v := .ref wi) hd5 (by decide +kernel)
    have all := fun r c => all (.ref wi) r c
    have l7 := Nat.le_trans (putF_len "wish" (.ref wi) fs5) (Nat.add_le_add_right l5 1)
    generalize putF "wish" (.ref wi) fs5 = fs7 at all G7 L7 W7 k7 a7 hd7 l7 ⊢
    generalize upd H6 a (.ins k.H dx fs7) = H7 at G7 L7 W7 k7 a7 ⊢
    -- self.rolls = 0
    refine ⟨_, rfl, a, k.H, dx, fs7, rfl, a7, T.cl, T.n4, Nat.lt_of_le_of_lt l7 (by decide), ?_⟩
    have l8 := Nat.le_trans (putF_len "rolls" (.int 0) fs7) (Nat.add_le_add_right l7 1)
    refine ⟨_, rfl, a, k.H, dx, putF "rolls" (.int 0) fs7, rfl, upd_same, T.cl, T.n5, Nat.lt_of_le_of_lt l8 (by decide), ?_⟩
    rw [upd_upd, all]
    exact q _ wd ⟨dx, g, l, wi, upd_same, G7.keepH a7 (.inr hd7) (up _ _), L7.keepH a7 (.inr hd7) (up _ _), W7.keepH a7 (.inr hd7) (up _ _)⟩ fun b u e hb => up _ _ b u (k7 b u e hb) hb
abbrev sHolderI : Stmt := inClass (top 23) 0
theorem scHolderI : FnScope ["self", "rows", "columns"] ["self", "rows", "columns"] (defScope sHolderI) := ⟨rfl, rfl, rfl, by decide +kernel, rfl, by decide +kernel, by decide +kernel⟩
theorem ok_HolderI {f : Addr} {fd : FuncData} (F : Fun K "__init__" "Holder.__init__" sHolderI f fd) (T : THolder K mg k)
    (GB : FnOk P w K mg base CX0 4 fB fdB ["self", "rows", "columns"] (spBegin k)) (bB : Binds K fdB ["self", "rows", "columns"] []) (mB : Meth K k.H "begin" fB) :
    FnOk P w K mg base CX0 5 f fd ["self", "rows", "columns"] (fun vs H Q E => (∃ a dx r c, vs = [.ref a, .int r, .int c] ∧ H a = some (.ins k.H dx [])) ∧ spBegin k vs H Q E) := by
  refine F.ok scHolderI (fun vs H Q E h => ?_) (fun cdv A outer s H vs Q E hr h => ⟨_, pss_one (ps_expr (pe_meth (pv 0) T.cl mB GB hr bB .nil pass0 (pa_cons (pv 1) (pa_cons (pv 2) pa_nil)))), ?_⟩)
  · obtain ⟨⟨a, dx, r, c, rfl, _⟩, _⟩ := h
    rfl
  · obtain ⟨⟨a, dx, r, c, rfl, ha⟩, hb⟩ := h
    refine ⟨_, rfl, a, dx, [], rfl, ha, rfl, _, rfl, _, rfl, ?_⟩
    exact hb
abbrev sReachO : Stmt := inClass (top 23) 2
theorem scReachO : FnScope ["self"] ["self"] (defScope sReachO) := ⟨rfl, rfl, rfl, by decide +kernel, rfl, by decide +kernel, by decide +kernel⟩
theorem ok_reachO {f : Addr} {fd : FuncData} (F : Fun K "reach" "Holder.reach" sReachO f fd) (T : THolder K mg k) (TR : TReach K mg k)
    (MR : Mk K k.R fR) (GR : FnOk P w K mg base CX0 5 fR fdR ["self", "ground", "lie"] (spReachI P w k)) (bR : Binds K fdR ["self", "ground", "lie"] []) :
    FnOk P w K mg base CX0 7 f fd ["self"] (spReachO P w k) := by
  refine F.ok scReachO (fun vs H Q E h => ?_) (fun cdv A outer s H vs Q E hr h => ⟨_, pss_one (ps_ret (pe_make MR GR (hr.mono (by decide)) rfl TR.g bR .nil pass0 (pa_cons (pe_fld (pv 0) rfl) (pa_cons (pe_fld (pv 0) rfl) pa_nil)))), ?_⟩)
  · obtain ⟨a, wd, s, rfl, _⟩ := h
    rfl
  · obtain ⟨a, wd, s, rfl, ⟨dx, g, l, wi, ha, G, L, W⟩, b, v, q⟩ := h
    refine ⟨_, rfl, a, k.H, dx, _, _, rfl, ha, T.cl, T.n1, hF_ground _ _ _ _ _, _, rfl, a, k.H, dx, _, _, rfl, ha, T.cl, T.n2, hF_lie _ _ _ _ _, fun r rd nr nd ne => ?_⟩
    have s1 : Same H (upd (upd H rd (.own r)) r (.ins k.R rd [])) := mk_same nr nd
    exact ⟨r, rd, g, wd, l, s, rfl, upd_same, G.same s1, L.same s1, b, v, fun H' pl po pk q' I FF => ⟨rfl, q r rd pl po pk q' H' (fun c o e => I.same c o (s1 c o e) (ne_of_none e nr)) I.r FF⟩⟩
abbrev sCounted : Stmt := top 25
theorem scCounted : FnScope ["numbers"] ["numbers"] (defScope sCounted) := ⟨rfl, rfl, rfl, by decide +kernel, rfl, by decide +kernel, by decide +kernel⟩
theorem ok_counted {f : Addr} {fd : FuncData} (F : Fun K "counted" "counted" sCounted f fd) (TN : TNames mg) : FnOk P w K mg base CX0 1 f fd ["numbers"] (spCounted K) := by
  refine F.ok scCounted (fun vs H Q E h => ?_) (fun cdv A outer s H vs Q E hr h => ⟨_, pss_one (ps_ret (pe_op op_cat (pe_lst (pa_cons (pe_callB call_len_seq rfl TN.len PySem.boot_len (pa_cons (pv 0) pa_nil)) pa_nil)) (pe_callTy call_list_of rfl TN.list PyProof.Rows.boot_list (pa_cons (pv 0) pa_nil)))), ?_⟩)
  · obtain ⟨p, ys, rfl, _⟩ := h
    rfl
  · obtain ⟨p, ys, rfl, hp, hl, q⟩ := h
    refine ⟨_, rfl, p, ys, rfl, hp, (by show 1 ≤ sizeLine; decide), fun u nu => ?_⟩
    have s1 : Same H (upd H u (.lst [.int ys.length])) := upd_same_of nu
    have u1 : upd H u (.lst [.int ys.length]) u = some (.lst [.int ys.length]) := upd_same
    generalize upd H u (.lst [.int ys.length]) = H1 at s1 u1 ⊢
    refine ⟨_, rfl, p, ys, rfl, ?_, fun v nv => ?_⟩
    · rcases hp with hp | hp
      · exact .inl (s1.seq hp)
      · exact .inr (Rw.Same.seqT s1 hp)
    have s2 : Same H1 (upd H1 v (.lst ys)) := upd_same_of nv
    refine ⟨u, v, [.int ys.length], ys, rfl, rfl, s2 _ _ u1, upd_same, ?_, fun x nx => ?_⟩
    · show 1 + ys.length ≤ sizeLine
      exact Nat.le_trans (by omega : 1 + ys.length ≤ 100001) (by decide)
    · exact q x _ ((s1.trans s2).free nx) ((s1.trans s2).trans (upd_same_of nx)) upd_same
abbrev sCell : Stmt := top 26
theorem scCell : FnScope ["holder", "cell"] ["holder", "cell"] (defScope sCell) := ⟨rfl, rfl, rfl, by decide +kernel, rfl, by decide +kernel, by decide +kernel⟩
theorem ok_cell {f : Addr} {fd : FuncData} (F : Fun K "must_be_cell" "must_be_cell" sCell f fd) (T : THolder K mg k) (TG : TGround K mg k)
    (GM : FnOk P w K mg base (L2.CX P w) 3 fM fdM ["truth", "number"] (spMust k)) (bM : Binds K fdM ["truth", "number"] []) (mM : mg "must" = some (.ref fM)) (kM : PySem.W.keepIn K (.ref fM) = true)
    (GG : FnOk P w K mg base CX0 1 fG fdG ["self"] (spMany k)) (bG : Binds K fdG ["self"] []) (mG : Meth K k.G "many" fG) :
    FnOk P w K mg base (L2.CX P w) 4 f fd ["holder", "cell"] (spCell k) := by
  refine F.okX scCell (fun vs H Q E h => ?_) (fun cdv A outer s H vs Q E hr h => ⟨_,
    pss_one (ps_expr (pe_call (E := E) GM hr rfl mM kM bM .nil (passes_call (takes_of rfl rfl rfl rfl) (fun _ _ _ _ h => h)) (pa_cons (pe_cmpR op_lt (pv 1) (pe_meth0 (pe_fld (pv 0) rfl) TG.cl mG GG (hr.mono (by decide)) bG .nil pass0) (nomark _)) (pa_cons (pe_un un_neg pe_int) pa_nil)))), ?_⟩)
  · obtain ⟨a, wd, s, x, rfl, _⟩ := h
    rfl
  · obtain ⟨a, wd, s, x, rfl, ⟨dx, g, l, wi, ha, G, L, W⟩, b, q, qF⟩ := h
    obtain ⟨dg, kvs, hg, hw, ok⟩ := id G
    refine ⟨_, rfl, _, rfl, a, k.H, dx, _, _, rfl, ha, T.cl, T.n1, hF_ground _ _ _ _ _, g, dg, _, rfl, hg, gF_none (by decide +kernel) (by decide +kernel) (by decide +kernel) _ _ _, g, wd, s, rfl, G, b, _, _, rfl, rfl, _, rfl, _, _, rfl, fun e => ?_, fun e => ?_⟩
    · exact q (by have := of_decide_eq_true e; omega)
    · exact qF (by have := of_decide_eq_false e; omega)
end
end L2.Rw

/-! text Wk17 -/
namespace L2.Rw
open PySem PySem.Spec PyProof.Rows
open Sy74 (isDie eastOf)
/-! ### the calls -/
/-- a def of the module; a method; an __init__ -/
def Gf (P : Program) (w : World) (K : PySem.W.Frag) (mg : Str → Option Value) (base : Heap) (CX : CXT) (n : Nat) (x : Str) (ps : List Str) (sp : Sp) : Prop :=
  ∃ f fd, FnOk P w K mg base CX n f fd ps sp ∧ Binds K fd ps [] ∧ mg x = some (.ref f) ∧ PySem.W.keepIn K (.ref f) = true
def Gm (P : Program) (w : World) (K : PySem.W.Frag) (mg : Str → Option Value) (base : Heap) (CX : CXT) (n : Nat) (C : Addr) (x : Str) (ps : List Str) (sp : Sp) : Prop :=
  ∃ f fd, FnOk P w K mg base CX n f fd ps sp ∧ Binds K fd ps [] ∧ Meth K C x f
def Gi (P : Program) (w : World) (K : PySem.W.Frag) (mg : Str → Option Value) (base : Heap) (CX : CXT) (n : Nat) (C : Addr) (ps : List Str) (sp : Sp) : Prop :=
  ∃ f fd, Mk K C f ∧ FnOk P w K mg base CX n f fd ps sp ∧ Binds K fd ps []
/-- how a call ends: with the numbers answered; or with a refusal where the state stays -/
def Ends (k : Kls) (H : Hp) (a : Addr) (s : Sy74.St) (c : Sy74.Call) (Q : VK) (E : XK) : Prop :=
  (∀ r H' w', (∀ xs, H r ≠ some (.lst xs)) → Keep H H' → HolderAt k H' a w' (Sy74.step s c).1 → H' r = some (.lst ((Rc.out s c).map V.int)) → Q (.ref r) H') ∧ ∀ n, Sy74.step s c = (s, Sy74.ok n) → Refuses k H n E
def spCall {α : Type} (k : Kls) (f : α → List V × Sy74.Call) (m : Nat) : Sp := fun vs H Q E => vs.length = m + 1 ∧ ∃ (a wd : Addr) (s : Sy74.St) (x : α), vs = .ref a :: (f x).1 ∧ HolderAt k H a wd s ∧ Rc.Good s ∧ Ends k H a s (f x).2 Q E
abbrev spBegins (k : Kls) : Sp := spCall k (fun x : Nat × Nat => ([.int x.1, .int x.2], .begins x.1 x.2)) 2
abbrev spWall (k : Kls) : Sp := spCall k (fun x : Nat × Nat => ([.int x.1, .int x.2], .wall x.1 x.2)) 2
abbrev spPut (k : Kls) : Sp := spCall k (fun x : Nat × Nat × Nat => ([.int x.1, .int x.2.1, .int x.2.2], .put x.1 x.2.1 x.2.2)) 3
abbrev spRoll (k : Kls) : Sp := spCall k (fun x : Nat => ([.int x], .roll x)) 1
abbrev spGoal (k : Kls) : Sp := spCall k (fun x : Nat × Nat => ([.int x.1, .int x.2], .goal x.1 x.2)) 2
theorem Ends.ret {k : Kls} {H H3 H' : Hp} {a w r : Addr} {s s' : Sy74.St} {c : Sy74.Call} {Q : VK} {E : XK} {v : Int} {l : List (List Int)} (h : Ends k H a s c Q E) (e : Sy74.step s c = (s', ⟨v, l⟩)) (nr : H3 r = none) (kp : Keep H H3) (sm : Same H3 H') (ho : HolderAt k H' a w s')
    (hr : H' r = some (.lst ((v :: l.flatMap fun (w : List Int) => (w.length : Int) :: w).map V.int))) : Q (.ref r) H' := by
  refine h.1 r H' w (fun xs z => by have := kp.lst z; rw [nr] at this; cases this) (kp.trans (.of_same sm)) (by rw [e]; exact ho) ?_
  unfold Rc.out
  rw [e]
  exact hr
theorem LieAt.keepD {k : Kls} {H H' : Hp} {l w : Addr} {d : Sy74.Die} {kvs : List (Key × V)} (h : LieAt k H l d) (hw : H w = some (.dK kvs)) (kp : ∀ b u, H b = some u → b ≠ w → H' b = some u) : LieAt k H' l d := by
  obtain ⟨dl, p, e, dd, e2⟩ := h
  exact ⟨dl, p, kp _ _ e (ne_of e hw (fun z => by cases z)), dd, kp _ _ e2 (ne_of e2 hw (fun z => by cases z))⟩
/-- a field of the holder is put anew -/
theorem HolderAt.put {k : Kls} {H : Hp} {a w dx g l wi : Addr} {s s' : Sy74.St} {r c : V} {r' c' : Int} {l' wi' : Addr} (ha : H a = some (.ins k.H dx (hF (.ref g) (.ref l) (.ref wi) r c))) (G : GroundAt k H g w s) (L : LieAt k H l' s'.die) (W : WishAt k H wi' s'.goal)
    (e1 : s'.rows = s.rows) (e2 : s'.cols = s.cols) (e3 : s'.walls = s.walls) (e4 : r' = s'.rolls) (e5 : c' = s'.sum) :
    HolderAt k (upd H a (.ins k.H dx (hF (.ref g) (.ref l') (.ref wi') (.int r') (.int c')))) a w s' ∧ Keep H (upd H a (.ins k.H dx (hF (.ref g) (.ref l') (.ref wi') (.int r') (.int c')))) := by
  have up : ∀ b u, H b = some u → b ≠ a → upd H a (.ins k.H dx (hF (.ref g) (.ref l') (.ref wi') (.int r') (.int c'))) b = some u := fun b u e hb => (upd_ne hb).trans e
  subst e4 e5
  have G2 : GroundAt k H g w s' := by
    unfold GroundAt at G ⊢
    rw [e1, e2, e3]
    exact G
  exact ⟨⟨dx, g, l', wi', upd_same, G2.keepH ha .hF up, L.keepH ha .hF up, W.keepH ha .hF up⟩, .but up (.inl ⟨_, _, _, ha⟩)⟩
structure TNums (mg : Str → Option Value) : Prop where
  side : ∃ t, mg "MOST_SIDE" = some (.int 5 t)
section
variable {P : Program} {w : World} {K : PySem.W.Frag} {mg : Str → Option Value} {base : Heap} {k : Kls}
abbrev sBegins : Stmt := top 27
theorem scBegins : FnScope ["holder", "rows", "columns"] ["holder", "rows", "columns"] (defScope sBegins) := ⟨rfl, rfl, rfl, by decide +kernel, rfl, by decide +kernel, by decide +kernel⟩
theorem ok_begins {f : Addr} {fd : FuncData} (F : Fun K "begins" "begins" sBegins f fd) (T : THolder K mg k) (TG : TGround K mg k) (TM : TNums mg)
    (GM : Gf P w K mg base (L2.CX P w) 3 "must" ["truth", "number"] (spMust k)) (GB : Gm P w K mg base CX0 4 k.H "begin" ["self", "rows", "columns"] (spBegin k)) (GG : Gm P w K mg base CX0 1 k.G "many" ["self"] (spMany k)) :
    FnOk P w K mg base (L2.CX P w) 5 f fd ["holder", "rows", "columns"] (spBegins k) := by
  obtain ⟨fM, fdM, GM, bM, mM, kM⟩ := GM
  obtain ⟨fB, fdB, GB, bB, mB⟩ := GB
  obtain ⟨fG, fdG, GG, bG, mG⟩ := GG
  obtain ⟨tS, gS⟩ := TM.side
  refine F.okX scBegins (fun vs H Q E h => h.1) (fun cdv A outer s H vs Q E hr h => ⟨_,
    pss_cons (ps_expr (pe_call (E := E) GM (hr.mono (by decide)) rfl mM kM bM .nil (passes_call (takes_of rfl rfl rfl rfl) (fun _ _ _ _ h => h)) (pa_cons
      (pe_and (pe_chain op_le op_le pe_int (pv 1) (pe_glob (v := .int 5) rfl gS ⟨_, rfl⟩)) (pe_one (pe_chain op_le op_le pe_int (pv 2) (pe_glob (v := .int 5) rfl gS ⟨_, rfl⟩)))) (pa_cons (pe_un un_neg pe_int) pa_nil))))
    (pss_cons (ps_expr (pe_meth (pv 0) T.cl mB GB hr bB .nil pass0 (pa_cons (pv 1) (pa_cons (pv 2) pa_nil))))
    (pss_one (ps_ret (pe_lst (pa_cons (pe_meth0 (pe_fld (pv 0) rfl) TG.cl mG GG (hr.mono (by decide)) bG .nil pass0) pa_nil))))), ?_⟩)
  obtain ⟨_, a, wd, s, ⟨r, c⟩, rfl, HA, gd, q⟩ := h
  have HA0 := HA
  obtain ⟨dx, g, l, wi, ha, G, L, W⟩ := HA
  have bad : (r < 1 ∨ 5 < r ∨ c < 1 ∨ 5 < c) → Refuses k H (-1) E := fun h => q.2 _ (if_pos h)
  refine ⟨_, rfl, _, _, rfl, rfl, _, rfl, ?_⟩
  by_cases h1 : 1 ≤ r
  · refine if_true_of (decide_eq_true (by omega)) ⟨_, _, rfl, rfl, _, rfl, ?_⟩
    by_cases h2 : r ≤ 5
    · refine if_true_of (decide_eq_true (by omega)) ⟨_, rfl, _, _, rfl, rfl, _, rfl, ?_⟩
      by_cases h3 : 1 ≤ c
      · refine if_true_of (decide_eq_true (by omega)) ⟨_, _, rfl, rfl, _, rfl, _, _, rfl, fun e => ?_, fun e => bad (by have := of_decide_eq_false e; omega)⟩
        have h4 := of_decide_eq_true e
        have st : Sy74.step s (.begins r c) = ({ Sy74.init with rows := r, cols := c }, Sy74.ok (r * c : Nat)) := if_neg (by omega)
        refine ⟨_, rfl, a, dx, _, rfl, ha, hF_begin _ _ _ _ _, _, rfl, _, rfl, a, dx, _, r, c, rfl, ha, .inr ⟨_, _, _, _, _, rfl⟩, fun H1 w1 HA1 k1 => ?_⟩
        obtain ⟨dx1, g1, l1, wi1, ha1, G1, L1, W1⟩ := id HA1
        obtain ⟨dg, kvs, hg, hw, ok⟩ := id G1
        refine ⟨_, rfl, a, k.H, dx1, _, _, rfl, ha1, T.cl, T.n1, hF_ground _ _ _ _ _, g1, dg, _, rfl, hg, gF_none (by decide +kernel) (by decide +kernel) (by decide +kernel) _ _ _, g1, w1, _, rfl, G1, ⟨h1, h2, h3, by show c ≤ 5; omega⟩, (by show 1 ≤ sizeLine; decide), fun p np => ?_⟩
        have s2 : Same H1 (upd H1 p (.lst [.int ((r * c : Nat) : Int)])) := upd_same_of np
        exact q.ret st np (Keep.but k1 (.inl ⟨_, _, _, ha⟩)) s2 (HA1.same s2) upd_same
      · exact if_false_of (decide_eq_false (by omega)) ⟨_, rfl, false, _, rfl, fun e => (nomatch e), fun _ => bad (by omega)⟩
    · exact if_false_of (decide_eq_false (by omega)) ⟨_, rfl, false, _, rfl, fun e => (nomatch e), fun _ => bad (by omega)⟩
  · exact if_false_of (decide_eq_false (by omega)) ⟨_, rfl, if_false_of rfl ⟨_, rfl, false, _, rfl, fun e => (nomatch e), fun _ => bad (by omega)⟩⟩
abbrev sWallO : Stmt := top 28
theorem scWallO : FnScope ["holder", "cell", "truth"] ["holder", "cell", "truth"] (defScope sWallO) := ⟨rfl, rfl, rfl, by decide +kernel, rfl, by decide +kernel, by decide +kernel⟩
theorem ok_wallO {f : Addr} {fd : FuncData} (F : Fun K "wall" "wall" sWallO f fd) (T : THolder K mg k) (TG : TGround K mg k) (TL : TLie K mg k) (TWi : TWish K mg k) (TN : TNames mg)
    (GM : Gf P w K mg base (L2.CX P w) 3 "must" ["truth", "number"] (spMust k)) (GC : Gf P w K mg base (L2.CX P w) 4 "must_be_cell" ["holder", "cell"] (spCell k))
    (GS : Gm P w K mg base CX0 1 k.G "set_wall" ["self", "cell", "is_wall"] (spSetW k)) (GW : Gm P w K mg base CX0 1 k.G "walls_told" ["self"] (spWallsT k)) :
    FnOk P w K mg base (L2.CX P w) 5 f fd ["holder", "cell", "truth"] (spWall k) := by
  obtain ⟨fM, fdM, GM, bM, mM, kM⟩ := GM
  obtain ⟨fC, fdC, GC, bC, mC, kC⟩ := GC
  obtain ⟨fS, fdS, GS, bS, mS⟩ := GS
  obtain ⟨fW, fdW, GW, bW, mW⟩ := GW
  refine F.okX scWallO (fun vs H Q E h => h.1) (fun cdv A outer s H vs Q E hr h => ⟨_,
    pss_cons (ps_expr (pe_call (E := E) GC hr rfl mC kC bC .nil (passes_call (takes_of rfl rfl rfl rfl) (fun _ _ _ _ h => h)) (pa_cons (pv 0) (pa_cons (pv 1) pa_nil))))
    (pss_cons (ps_expr (pe_call (E := E) GM (hr.mono (by decide)) rfl mM kM bM .nil (passes_call (takes_of rfl rfl rfl rfl) (fun _ _ _ _ h => h)) (pa_cons (pe_cmpR op_le (pv 2) pe_int (nomark _)) (pa_cons (pe_un un_neg pe_int) pa_nil))))
    (pss_cons (ps_expr (pe_call (E := E) GM (hr.mono (by decide)) rfl mM kM bM .nil (passes_call (takes_of rfl rfl rfl rfl) (fun _ _ _ _ h => h)) (pa_cons
      (pe_and (pe_cmpR op_ne (pv 1) (pe_fld (pe_fld (pv 0) rfl) rfl) (nomark _)) (pe_one (pe_cmpR op_ne (pv 1) (pe_fld (pe_fld (pv 0) rfl) rfl) (nomark _)))) (pa_cons (pe_un un_neg pe_int) pa_nil))))
    (pss_cons (ps_expr (pe_meth (pe_fld (pv 0) rfl) TG.cl mS GS (hr.mono (by decide)) bS .nil pass0 (pa_cons (pv 1) (pa_cons (pe_cmpR op_eq (pv 2) pe_int (nomark _)) pa_nil))))
    (pss_one (ps_ret (pe_lst (pa_cons (pe_callB call_len_seq rfl TN.len PySem.boot_len (pa_cons (pe_meth0 (pe_fld (pv 0) rfl) TG.cl mW GW (hr.mono (by decide)) bW .nil pass0) pa_nil)) pa_nil))))))), ?_⟩)
  obtain ⟨_, a, wd, s, ⟨x, t⟩, rfl, HA, gd, q⟩ := h
  have HA0 := HA
  obtain ⟨dx, g, l, wi, ha, G, ⟨dl, p, hl, hp⟩, ⟨dw, hwi⟩⟩ := HA
  have L : LieAt k H l s.die := ⟨dl, p, hl, hp⟩
  have W : WishAt k H wi s.goal := ⟨dw, hwi⟩
  obtain ⟨dg, kvs, hg, hw, ok⟩ := id G
  refine ⟨_, rfl, _, rfl, a, wd, s, x, rfl, HA0, gd.bd, fun h1 => ?_, fun h1 => q.2 _ (if_pos (by omega))⟩
  refine ⟨_, rfl, _, _, rfl, rfl, _, rfl, _, _, rfl, fun e => ?_, fun e => q.2 _ ?_⟩
  rotate_left
  · have h2 := of_decide_eq_false e
    show (if s.rows * s.cols ≤ x then _ else if 1 < t then _ else _) = _
    rw [if_neg (by omega), if_pos (by omega)]
  have h2 := of_decide_eq_true e
  have bad : (s.die.cell = x ∨ s.goal.1 = x) → Refuses k H (-4) E := fun h => q.2 _ (by
    show (if s.rows * s.cols ≤ x then _ else if 1 < t then _ else if s.die.cell = x ∨ s.goal.1 = x then _ else _) = _
    rw [if_neg (by omega), if_neg (by omega), if_pos h])
  refine ⟨_, rfl, _, rfl, a, k.H, dx, _, _, rfl, ha, T.cl, T.n2, hF_lie _ _ _ _ _, l, k.L, dl, _, _, rfl, hl, TL.cl, TL.n1, lF_cell _ _, rfl, _, rfl, ?_⟩
  rw [dec_nat]
  by_cases h3 : x = s.die.cell
  · exact if_false_of (by rw [decide_eq_true h3]; rfl) ⟨_, rfl, false, _, rfl, fun e => (nomatch e), fun _ => bad (.inl h3.symm)⟩
  refine if_true_of (by rw [decide_eq_false h3]; rfl) ⟨_, rfl, _, rfl, a, k.H, dx, _, _, rfl, ha, T.cl, T.n3, hF_wish _ _ _ _ _, wi, k.W, dw, _, _, rfl, hwi, TWi.cl, TWi.n1, wF_cell _ _, rfl, ?_⟩
  rw [dec_nat]
  refine ⟨_, rfl, _, _, rfl, fun e => ?_, fun e => bad (.inr ?_)⟩
  rotate_left
  · by_cases h4 : x = s.goal.1
    · exact h4.symm
    · rw [decide_eq_false h4] at e
      cases e
  have h4 : ¬ x = s.goal.1 := fun z => by
    rw [decide_eq_true z] at e
    cases e
  have st := Rc.step_wall (s := s) (x := x) (b := t) (by omega) (by omega) (by
    rintro (z | z)
    · exact h3 z.symm
    · exact h4 z.symm)
  have w25 : ∀ y ∈ s.walls, y < 25 := fun y hy => Nat.lt_of_lt_of_le (gd.wl y hy) (Rc.bd_25 gd.bd)
  refine ⟨_, rfl, a, k.H, dx, _, _, rfl, ha, T.cl, T.n1, hF_ground _ _ _ _ _, g, dg, _, rfl, hg, gF_none (by decide +kernel) (by decide +kernel) (by decide +kernel) _ _ _, _, rfl, _, rfl, rfl, ?_⟩
  refine ⟨g, wd, s, x, t, ?_, G, w25, fun H1 G1 k1 => ?_⟩
  · rw [show decide (V.int (t : Int) = V.int 1) = decide (t = 1) from dec_nat (j := 1)]
    rfl
  have a1 := k1 _ _ ha (ne_of ha hw (fun z => by cases z))
  have L1 := L.keepD hw k1
  have W1 : WishAt k H1 wi s.goal := ⟨dw, k1 _ _ hwi (ne_of hwi hw (fun z => by cases z))⟩
  have HA1 : HolderAt k H1 a wd { s with walls := Rc.walls' s x t } := ⟨dx, g, l, wi, a1, G1, L1, W1⟩
  obtain ⟨dg1, kvs1, hg1, hw1, ok1⟩ := id G1
  refine ⟨_, rfl, a, k.H, dx, _, _, rfl, a1, T.cl, T.n1, hF_ground _ _ _ _ _, g, dg1, _, rfl, hg1, gF_none (by decide +kernel) (by decide +kernel) (by decide +kernel) _ _ _, g, wd, _, rfl, G1, Rc.sorted_walls' gd.ws x t, fun r H2 nr s2 l2 => ?_⟩
  refine ⟨r, _, rfl, .inl (.of l2), (by show 1 ≤ sizeLine; decide), fun u nu => ?_⟩
  have s3 : Same H1 (upd H2 u (.lst [.int (((({ s with walls := Rc.walls' s x t } : Sy74.St).walls.map fun n : Nat => (n : Int)).map V.int).length : Nat)])) := s2.trans (upd_same_of nu)
  refine q.ret st nu ((Keep.but k1 (.inr ⟨_, hw⟩)).trans (.of_same s2)) (upd_same_of nu) (HA1.same s3) ?_
  rw [upd_same, List.length_map, List.length_map]
  rfl
end
end L2.Rw

/-! text Wk18 -/
namespace L2.Rw
open PySem PySem.Spec PyProof.Rows
open Sy74 (isDie eastOf)
theorem not_tF {b : Bool} (h : (!b) = false) : b = true := by cases b with | true => rfl | false => cases h
theorem not_tT {b : Bool} (h : (!b) = true) : b = false := by cases b with | false => rfl | true => cases h
section
variable {P : Program} {w : World} {K : PySem.W.Frag} {mg : Str → Option Value} {base : Heap} {k : Kls}
abbrev sPutO : Stmt := top 29
theorem scPutO : FnScope ["holder", "cell", "top", "north", "die"] ["holder", "cell", "top", "north"] (defScope sPutO) := ⟨rfl, rfl, rfl, by decide +kernel, rfl, by decide +kernel, by decide +kernel⟩
theorem ok_putO {f : Addr} {fd : FuncData} (F : Fun K "put" "put" sPutO f fd) (T : THolder K mg k) (TG : TGround K mg k) (TL : TLie K mg k) (TD : TDie K mg k)
    (GM : Gf P w K mg base (L2.CX P w) 3 "must" ["truth", "number"] (spMust k)) (GC : Gf P w K mg base (L2.CX P w) 4 "must_be_cell" ["holder", "cell"] (spCell k))
    (GD : Gf P w K mg base CX0 5 "die_lying" ["top", "north"] (spDieL k)) (GL : Gi P w K mg base CX0 1 k.L ["self", "cell", "die"] (spLieI k)) :
    FnOk P w K mg base (L2.CX P w) 6 f fd ["holder", "cell", "top", "north"] (spPut k) := by
  obtain ⟨fM, fdM, GM, bM, mM, kM⟩ := GM
  obtain ⟨fC, fdC, GC, bC, mC, kC⟩ := GC
  obtain ⟨fD, fdD, GD, bD, mD, kD⟩ := GD
  obtain ⟨fL, fdL, ML, GL, bL⟩ := GL
  refine F.okX scPutO (fun vs H Q E h => h.1) (fun cdv A outer s H vs Q E hr h => ⟨_,
    pss_cons (ps_expr (pe_call (E := E) GC (hr.mono (by decide)) rfl mC kC bC .nil (passes_call (takes_of rfl rfl rfl rfl) (fun _ _ _ _ h => h)) (pa_cons (pv 0) (pa_cons (pv 1) pa_nil))))
    (pss_cons (ps_set (i := 4) scPutO.nd rfl (Or.inl rfl) (pe_call GD hr rfl mD kD bD .nil pass0 (pa_cons (pv 2) (pa_cons (pv 3) pa_nil))))
    (pss_cons (ps_expr (pe_call (E := E) GM (hr.mono (by decide)) rfl mM kM bM .nil (passes_call (takes_of rfl rfl rfl rfl) (fun _ _ _ _ h => h)) (pa_cons (pe_cmp (pc_notN (pv 4))) (pa_cons (pe_un un_neg pe_int) pa_nil))))
    (pss_cons (ps_expr (pe_call (E := E) GM (hr.mono (by decide)) rfl mM kM bM .nil (passes_call (takes_of rfl rfl rfl rfl) (fun _ _ _ _ h => h)) (pa_cons (pe_cmp (pc_dnotin (hu_of hr) (pv 1) (pe_fld (pe_fld (pv 0) rfl) rfl)) rfl) (pa_cons (pe_un un_neg pe_int) pa_nil))))
    (pss_cons (ps_fld (pv 0) (pe_make ML GL (hr.mono (by decide)) rfl TL.g bL .nil pass0 (pa_cons (pv 1) (pa_cons (pv 4) pa_nil))) rfl)
    (pss_one (ps_ret (pe_lst (pa_cons (pe_fld (pv 4) rfl) pa_nil)))))))), ?_⟩)
  obtain ⟨_, a, wd, s, ⟨x, t, n⟩, rfl, HA, gd, q⟩ := h
  refine ⟨_, rfl, _, rfl, a, wd, s, x, rfl, HA, gd.bd, fun h1 => ?_, fun h1 => q.2 _ (if_pos (by omega))⟩
  refine ⟨_, rfl, _, rfl, t, n, rfl, fun hn H1 s1 => ?_, fun hd p H1 s1 D1 => ?_⟩
  · refine ⟨_, rfl, _, rfl, false, _, rfl, fun e => (nomatch e), fun _ => (q.2 _ ?_).same s1⟩
    show (if s.rows * s.cols ≤ x then _ else if isDie t n = false then _ else _) = _
    rw [if_neg (by omega), if_pos hn]
  · have HA1 := HA.same s1
    obtain ⟨dx, g, l, wi, ha, G, L, W⟩ := HA1
    obtain ⟨dg, kvs, hg, hw, ok⟩ := id G
    refine ⟨_, rfl, _, rfl, true, _, rfl, fun _ => ?_, fun e => (nomatch e)⟩
    refine ⟨_, rfl, _, rfl, a, k.H, dx, _, _, rfl, ha, T.cl, T.n1, hF_ground _ _ _ _ _, g, k.G, dg, _, _, rfl, hg, TG.cl, TG.n3, gF_walls _ _ _, wd, _, rfl, DGet.k (k := Sum.inl (x : Int)) hw, ?_⟩
    rw [ok.has x]
    have hd' : ¬ isDie t n = false := fun z => by rw [hd] at z; cases z
    refine ⟨_, rfl, _, _, rfl, fun e => ?_, fun e => (q.2 _ ?_).same s1⟩
    rotate_left
    · show (if s.rows * s.cols ≤ x then _ else if isDie t n = false then _ else if s.walls.contains x = true then _ else _) = _
      rw [if_neg (by omega), if_neg hd', if_pos (not_tF e)]
    have st : Sy74.step s (.put x t n) = ({ s with die := ⟨x, t, n, eastOf t n⟩ }, Sy74.ok (eastOf t n : Nat)) := by
      show (if s.rows * s.cols ≤ x then _ else if isDie t n = false then _ else if s.walls.contains x = true then _ else _) = _
      rw [if_neg (by omega), if_neg hd', if_neg (by rw [not_tT e]; decide)]
    refine ⟨_, rfl, _, rfl, ?_⟩
    intro u ud nu nud nue
    refine ⟨u, ud, _, _, rfl, upd_same, rfl, ?_⟩
    rw [upd_upd]
    have s2 : Same H1 (upd (upd H1 ud (.own u)) u (.ins k.L ud (lF (.int x) (.ref p)))) := mk_same nu nud
    have L2 : LieAt k (upd (upd H1 ud (.own u)) u (.ins k.L ud (lF (.int x) (.ref p)))) u ⟨x, t, n, eastOf t n⟩ := ⟨ud, p, upd_same, D1.same s2⟩
    generalize upd (upd H1 ud (.own u)) u (.ins k.L ud (lF (.int x) (.ref p))) = H2 at s2 L2 ⊢
    have a2 := s2 _ _ ha
    refine ⟨_, rfl, a, k.H, dx, _, rfl, a2, T.cl, T.n2, (by show 5 < 1000; decide), ?_⟩
    rw [hF_putL]
    obtain ⟨HA3, k3⟩ := HolderAt.put (s' := { s with die := ⟨x, t, n, eastOf t n⟩ }) a2 (G.same s2) L2 (W.same s2) rfl rfl rfl rfl rfl
    have D3 : DieAt k (upd H2 a (.ins k.H dx (hF (.ref g) (.ref u) (.ref wi) (.int s.rolls) (.int s.sum)))) p (t, n, eastOf t n) := (D1.same s2).keepH a2 .hF fun b u e hb => (upd_ne hb).trans e
    generalize upd H2 a (.ins k.H dx (hF (.ref g) (.ref u) (.ref wi) (.int s.rolls) (.int s.sum))) = H3 at HA3 k3 D3 ⊢
    obtain ⟨dd, ed⟩ := D3
    refine ⟨_, rfl, p, k.D, dd, _, _, rfl, ed, TD.cl, TD.n3, dF_east _ _ _, (by show 1 ≤ sizeLine; decide), fun r nr => ?_⟩
    have s4 : Same H3 (upd H3 r (.lst [.int ((eastOf t n : Nat) : Int)])) := upd_same_of nr
    exact q.ret st nr ((Keep.of_same (s1.trans s2)).trans k3) s4 (HA3.same s4) upd_same
abbrev sGoalO : Stmt := top 31
theorem scGoalO : FnScope ["holder", "cell", "top"] ["holder", "cell", "top"] (defScope sGoalO) := ⟨rfl, rfl, rfl, by decide +kernel, rfl, by decide +kernel, by decide +kernel⟩
theorem ok_goalO {f : Addr} {fd : FuncData} (F : Fun K "goal" "goal" sGoalO f fd) (T : THolder K mg k) (TG : TGround K mg k) (TWi : TWish K mg k)
    (GM : Gf P w K mg base (L2.CX P w) 3 "must" ["truth", "number"] (spMust k)) (GC : Gf P w K mg base (L2.CX P w) 4 "must_be_cell" ["holder", "cell"] (spCell k))
    (GL : Gi P w K mg base CX0 1 k.W ["self", "cell", "top"] (spWishI k)) :
    FnOk P w K mg base (L2.CX P w) 5 f fd ["holder", "cell", "top"] (spGoal k) := by
  obtain ⟨fM, fdM, GM, bM, mM, kM⟩ := GM
  obtain ⟨fC, fdC, GC, bC, mC, kC⟩ := GC
  obtain ⟨fL, fdL, ML, GL, bL⟩ := GL
  refine F.okX scGoalO (fun vs H Q E h => h.1) (fun cdv A outer s H vs Q E hr h => ⟨_,
    pss_cons (ps_expr (pe_call (E := E) GC hr rfl mC kC bC .nil (passes_call (takes_of rfl rfl rfl rfl) (fun _ _ _ _ h => h)) (pa_cons (pv 0) (pa_cons (pv 1) pa_nil))))
    (pss_cons (ps_expr (pe_call (E := E) GM (hr.mono (by decide)) rfl mM kM bM .nil (passes_call (takes_of rfl rfl rfl rfl) (fun _ _ _ _ h => h)) (pa_cons (pe_cmpR op_le (pv 2) pe_int (nomark _)) (pa_cons (pe_un un_neg pe_int) pa_nil))))
    (pss_cons (ps_expr (pe_call (E := E) GM (hr.mono (by decide)) rfl mM kM bM .nil (passes_call (takes_of rfl rfl rfl rfl) (fun _ _ _ _ h => h)) (pa_cons (pe_cmp (pc_dnotin (hu_of hr) (pv 1) (pe_fld (pe_fld (pv 0) rfl) rfl)) rfl) (pa_cons (pe_un un_neg pe_int) pa_nil))))
    (pss_cons (ps_fld (pv 0) (pe_make ML GL (hr.mono (by decide)) rfl TWi.g bL .nil pass0 (pa_cons (pv 1) (pa_cons (pv 2) pa_nil))) rfl)
    (pss_one (ps_ret (pe_lst (pa_cons pe_int pa_nil))))))), ?_⟩)
  obtain ⟨_, a, wd, s, ⟨x, t⟩, rfl, HA, gd, q⟩ := h
  refine ⟨_, rfl, _, rfl, a, wd, s, x, rfl, HA, gd.bd, fun h1 => ?_, fun h1 => q.2 _ (if_pos (by omega))⟩
  refine ⟨_, rfl, _, _, rfl, rfl, _, rfl, _, _, rfl, fun e => ?_, fun e => q.2 _ ?_⟩
  rotate_left
  · have h2 := of_decide_eq_false e
    show (if s.rows * s.cols ≤ x then _ else if 6 < t then _ else _) = _
    rw [if_neg (by omega), if_pos (by omega)]
  have h2 := of_decide_eq_true e
  obtain ⟨dx, g, l, wi, ha, G, L, W⟩ := HA
  obtain ⟨dg, kvs, hg, hw, ok⟩ := id G
  refine ⟨_, rfl, _, rfl, a, k.H, dx, _, _, rfl, ha, T.cl, T.n1, hF_ground _ _ _ _ _, g, k.G, dg, _, _, rfl, hg, TG.cl, TG.n3, gF_walls _ _ _, wd, _, rfl, DGet.k (k := Sum.inl (x : Int)) hw, ?_⟩
  rw [ok.has x]
  refine ⟨_, rfl, _, _, rfl, fun e => ?_, fun e => q.2 _ ?_⟩
  rotate_left
  · show (if s.rows * s.cols ≤ x then _ else if 6 < t then _ else if s.walls.contains x = true then _ else _) = _
    rw [if_neg (by omega), if_neg (by omega), if_pos (not_tF e)]
  have st : Sy74.step s (.goal x t) = ({ s with goal := (x, t) }, Sy74.ok 0) := by
    show (if s.rows * s.cols ≤ x then _ else if 6 < t then _ else if s.walls.contains x = true then _ else _) = _
    rw [if_neg (by omega), if_neg (by omega), if_neg (by rw [not_tT e]; decide)]
  refine ⟨_, rfl, _, rfl, ?_⟩
  intro u ud nu nud nue
  refine ⟨u, ud, _, _, rfl, upd_same, rfl, ?_⟩
  rw [upd_upd]
  have s2 : Same H (upd (upd H ud (.own u)) u (.ins k.W ud (wF (.int x) (.int t)))) := mk_same nu nud
  have W2 : WishAt k (upd (upd H ud (.own u)) u (.ins k.W ud (wF (.int x) (.int t)))) u (x, t) := ⟨ud, upd_same⟩
  generalize upd (upd H ud (.own u)) u (.ins k.W ud (wF (.int x) (.int t))) = H2 at s2 W2 ⊢
  have a2 := s2 _ _ ha
  refine ⟨_, rfl, a, k.H, dx, _, rfl, a2, T.cl, T.n3, (by show 5 < 1000; decide), ?_⟩
  rw [hF_putW]
  obtain ⟨HA3, k3⟩ := HolderAt.put (s' := { s with goal := (x, t) }) a2 (G.same s2) (L.same s2) W2 rfl rfl rfl rfl rfl
  generalize upd H2 a (.ins k.H dx (hF (.ref g) (.ref l) (.ref u) (.int s.rolls) (.int s.sum))) = H3 at HA3 k3 ⊢
  refine ⟨(by show 1 ≤ sizeLine; decide), fun r nr => ?_⟩
  have s4 : Same H3 (upd H3 r (.lst [.int 0])) := upd_same_of nr
  exact q.ret st nr ((Keep.of_same s2).trans k3) s4 (HA3.same s4) upd_same
abbrev sRollO : Stmt := top 30
theorem scRollO : FnScope ["holder", "way", "lie"] ["holder", "way"] (defScope sRollO) := ⟨rfl, rfl, rfl, by decide +kernel, rfl, by decide +kernel, by decide +kernel⟩
theorem ok_rollO {f : Addr} {fd : FuncData} (F : Fun K "roll" "roll" sRollO f fd) (T : THolder K mg k) (TG : TGround K mg k) (TL : TLie K mg k) (TD : TDie K mg k)
    (GM : Gf P w K mg base (L2.CX P w) 3 "must" ["truth", "number"] (spMust k)) (GB : Gf P w K mg base CX0 4 "lie_behind" ["ground", "lie", "way"] (spBehind k))
    (GC : Gf P w K mg base CX0 1 "counted" ["numbers"] (spCounted K)) :
    FnOk P w K mg base (L2.CX P w) 5 f fd ["holder", "way"] (spRoll k) := by
  obtain ⟨fM, fdM, GM, bM, mM, kM⟩ := GM
  obtain ⟨fB, fdB, GB, bB, mB, kB⟩ := GB
  obtain ⟨fC, fdC, GC, bC, mC, kC⟩ := GC
  refine F.okX scRollO (fun vs H Q E h => h.1) (fun cdv A outer s H vs Q E hr h => ⟨_,
    pss_cons (ps_expr (pe_call (E := E) GM (hr.mono (by decide)) rfl mM kM bM .nil (passes_call (takes_of rfl rfl rfl rfl) (fun _ _ _ _ h => h)) (pa_cons (pe_cmpR op_le (pv 1) pe_int (nomark _)) (pa_cons (pe_un un_neg pe_int) pa_nil))))
    (pss_cons (ps_set (i := 2) scRollO.nd rfl (Or.inl rfl) (pe_call GB hr rfl mB kB bB .nil pass0 (pa_cons (pe_fld (pv 0) rfl) (pa_cons (pe_fld (pv 0) rfl) (pa_cons (pv 1) pa_nil)))))
    (pss_cons (ps_expr (pe_call (E := E) GM (hr.mono (by decide)) rfl mM kM bM .nil (passes_call (takes_of rfl rfl rfl rfl) (fun _ _ _ _ h => h)) (pa_cons (pe_cmp (pc_notN (pv 2))) (pa_cons (pe_un un_neg pe_int) pa_nil))))
    (pss_cons (ps_fld (pv 0) (pv 2) rfl)
    (pss_cons (ps_fldaug (pv 0) pe_int in_add)
    (pss_cons (ps_fldaug (pv 0) (pe_fld (pe_fld (pv 2) rfl) rfl) in_add)
    (pss_one (ps_ret (pe_op op_cat (pe_lst (pa_cons (pe_fld (pe_fld (pv 2) rfl) rfl) pa_nil)) (pe_call GC (hr.mono (by decide)) rfl mC kC bC .nil pass0 (pa_cons (pe_lst (pa_cons (pe_fld (pv 2) rfl) pa_nil)) pa_nil)))))))))), ?_⟩)
  obtain ⟨_, a, wd, s, y, rfl, HA, gd, q⟩ := h
  obtain ⟨dx, g, l, wi, ha, G, L, W⟩ := HA
  refine ⟨_, rfl, _, _, rfl, rfl, _, rfl, _, _, rfl, fun e => ?_, fun e => q.2 _ ?_⟩
  rotate_left
  · have h2 := of_decide_eq_false e
    exact if_pos (by omega)
  have h2 := of_decide_eq_true e
  refine ⟨_, rfl, a, k.H, dx, _, _, rfl, ha, T.cl, T.n1, hF_ground _ _ _ _ _, _, rfl, a, k.H, dx, _, _, rfl, ha, T.cl, T.n2, hF_lie _ _ _ _ _, _, rfl, g, wd, l, s, s.die, y, rfl, G, L, gd.bd, gd.die, by omega, fun hn => ?_, fun d hd u H1 nu s1 L1 => ?_⟩
  · refine ⟨_, rfl, _, rfl, false, _, rfl, fun e => (nomatch e), fun _ => q.2 _ ?_⟩
    show (if 3 < y then _ else (match Sy74.rolled s s.die y with | none => _ | some d => _)) = _
    rw [if_neg (by omega), hn]
  · refine ⟨_, rfl, _, rfl, true, _, rfl, fun _ => ?_, fun e => (nomatch e)⟩
    have st : Sy74.step s (.roll y) = ({ s with die := d, rolls := s.rolls + 1, sum := s.sum + d.top }, ⟨(d.top : Nat), [[(d.cell : Int)]]⟩) := by
      show (if 3 < y then _ else (match Sy74.rolled s s.die y with | none => _ | some d => _)) = _
      rw [if_neg (by omega), hd]
    have a1 := s1 _ _ ha
    have G1 := G.same s1
    have W1 := W.same s1
    -- holder.lie = lie; holder.rolls += 1; holder.cost += lie.die.top
    refine ⟨_, rfl, _, rfl, a, k.H, dx, _, rfl, a1, T.cl, T.n2, (by show 5 < 1000; decide), ?_⟩
    rw [hF_putL]
    refine ⟨_, rfl, a, k.H, dx, _, _, rfl, upd_same, T.cl, T.n4, hF_rolls _ _ _ _ _, _, _, rfl, rfl, dx, _, upd_same, (by show 5 < 1000; decide), ?_⟩
    rw [hF_putR, upd_upd]
    have L2 : LieAt k (upd H1 a (.ins k.H dx (hF (.ref g) (.ref u) (.ref wi) (.int ((s.rolls : Int) + 1)) (.int s.sum)))) u d := L1.keepH a1 .hF fun b u e hb => (upd_ne hb).trans e
    obtain ⟨dl, p, el, dd, ed⟩ := id L2
    refine ⟨_, rfl, a, k.H, dx, _, _, rfl, upd_same, T.cl, T.n5, hF_cost _ _ _ _ _, _, rfl, u, k.L, dl, _, _, rfl, el, TL.cl, TL.n2, lF_die _ _, p, k.D, dd, _, _, rfl, ed, TD.cl, TD.n1, dF_top _ _ _, _, _, rfl, rfl, dx, _, upd_same, (by show 5 < 1000; decide), ?_⟩
    rw [hF_putC, upd_upd]
    obtain ⟨HA3, k3⟩ := HolderAt.put (s' := { s with die := d, rolls := s.rolls + 1, sum := s.sum + d.top }) (r' := (s.rolls : Int) + 1) (c' := (s.sum : Int) + (d.top : Nat)) a1 G1 L1 W1 rfl rfl rfl rfl rfl
    have L3 : LieAt k (upd H1 a (.ins k.H dx (hF (.ref g) (.ref u) (.ref wi) (.int ((s.rolls : Int) + 1)) (.int ((s.sum : Int) + (d.top : Nat)))))) u d := L1.keepH a1 .hF fun b u e hb => (upd_ne hb).trans e
    have e3 : ∀ H3, H3 = upd H1 a (.ins k.H dx (hF (.ref g) (.ref u) (.ref wi) (.int ((s.rolls : Int) + 1)) (.int ((s.sum : Int) + (d.top : Nat))))) →
        tRet (tOp rCat (tLst (tCons (tFld K (tFld K (tVar 2) "die") "top") tNil)) (tCall (spCounted K) [] E0 (tCons (tLst (tCons (tFld K (tVar 2) "cell") tNil)) tNil))) { nx := fun x H' => Q V.non H', rt := Q } [some (.ref a), some (.int y), some (.ref u)] H3 := by
      rintro H3 e
      rw [← e] at HA3 k3 L3
      obtain ⟨dl, p, el, dd, ed⟩ := L3
      refine ⟨_, rfl, u, k.L, dl, _, _, rfl, el, TL.cl, TL.n2, lF_die _ _, p, k.D, dd, _, _, rfl, ed, TD.cl, TD.n1, dF_top _ _ _, (by show 1 ≤ sizeLine; decide), fun z nz => ?_⟩
      have s4 : Same H3 (upd H3 z (.lst [.int (d.top : Nat)])) := upd_same_of nz
      have z4 : upd H3 z (.lst [.int (d.top : Nat)]) z = some (.lst [.int (d.top : Nat)]) := upd_same
      generalize upd H3 z (.lst [.int (d.top : Nat)]) = H4 at s4 z4 ⊢
      refine ⟨_, rfl, u, k.L, dl, _, _, rfl, s4 _ _ el, TL.cl, TL.n1, lF_cell _ _, (by show 1 ≤ sizeLine; decide), fun v nv => ?_⟩
      have s5 : Same H4 (upd H4 v (.lst [.int (d.cell : Nat)])) := upd_same_of nv
      refine ⟨v, [.int (d.cell : Nat)], rfl, .inl (.of upd_same), (by show 1 ≤ 100000; decide), fun r H6 nr s6 l6 => ?_⟩
      refine ⟨z, r, _, _, rfl, rfl, s6 _ _ (s5 _ _ z4), l6, (by show 3 ≤ sizeLine; decide), fun o no => ?_⟩
      have s7 := ((s4.trans s5).trans s6).trans (upd_same_of (o := .lst ([.int (d.top : Nat)] ++ [.int 1, .int (d.cell : Nat)])) no)
      exact q.ret st no (((Keep.of_same s1).trans k3).trans (.of_same ((s4.trans s5).trans s6))) (upd_same_of no) (HA3.same s7) upd_same
    exact e3 _ rfl
end
end L2.Rw

/-! text Wk19 -/
namespace L2.Rw
open PySem PySem.Spec PyProof.Rows
theorem flat1 (v : Int) (p : List Nat) : ((v :: [Sy74.ints p].flatMap (fun (w : List Int) => (w.length : Int) :: w)).map V.int) = V.int v :: V.int (p.length : Nat) :: vints p := by
  simp [Sy74.ints, vints]
theorem levels_len (s : Sy74.St) : ∀ (f : Nat) (l : List Sy74.Die) (seen : Nat), (Sy74.levels s f l seen).length ≤ f
  | 0, l, seen => Nat.le_refl _
  | f + 1, l, seen => by
    unfold Sy74.levels
    split
    · exact Nat.zero_le _
    · exact Nat.succ_le_succ (levels_len s f _ _)
theorem distance_le {s : Sy74.St} {d : Sy74.Die} {j : Nat} (h : Sy74.distance (Sy74.ends s) d = some j) : j ≤ 1000 := by
  unfold Sy74.distance at h
  obtain ⟨h1, _⟩ := List.findIdx?_eq_some_iff_getElem.mp h
  have : (Sy74.ends s).length ≤ 1000 := levels_len _ _ _ _
  omega
theorem insert_len (n : Nat) : ∀ l, (Sy74.insert n l).length ≤ l.length + 1
  | [] => Nat.le_refl _
  | m :: l => by
    have ih := insert_len n l
    unfold Sy74.insert
    split
    · exact Nat.le_refl _
    · split
      · exact Nat.le_succ _
      · rw [List.length_cons, List.length_cons]; omega
theorem foldl_len : ∀ (l : List Sy74.Die) (m : List Nat), (l.foldl (fun (m : List Nat) (d : Sy74.Die) => Sy74.insert d.top m) m).length ≤ m.length + l.length
  | [], m => Nat.le_refl _
  | d :: l, m => by
    have ih := foldl_len l (Sy74.insert d.top m)
    have := insert_len d.top m
    rw [List.foldl_cons, List.length_cons]
    omega
theorem tops_len {s : Sy74.St} (x : Nat) : (Sy74.tops s x).length ≤ (Sy74.reach s).length := by
  unfold Sy74.tops
  refine Nat.le_trans (foldl_len _ _) ?_
  rw [List.length_nil, Nat.zero_add]
  exact List.length_filter_le _ _
theorem walls_len {s : Sy74.St} (g : Rc.Good s) : s.walls.length ≤ 25 := by
  have nd : s.walls.Nodup := by
    unfold List.Nodup
    exact g.ws.imp fun h => Nat.ne_of_lt h
  have := nd.length_le_of_subset (l₂ := List.range 25) fun x hx => List.mem_range.mpr (Nat.lt_of_lt_of_le (g.wl x hx) (Rc.bd_25 g.bd))
  rw [List.length_range] at this
  exact this
def spPlanOf (k : Kls) : Sp := fun vs H Q E => ∃ (a wd : Addr) (s : Sy74.St), vs = [.ref a] ∧ HolderAt k H a wd s ∧ Rc.Bd s ∧ Rc.Vd s s.die ∧ (Sy74.distance (Sy74.ends s) s.die = none → Refuses k H (-6) E) ∧
  ∀ j, Sy74.distance (Sy74.ends s) s.die = some j → (Sy74.plan s (Sy74.ends s) j s.die).length = j → ∀ r H', Same H H' → j ≤ 1000 → H' r = some (.lst (vints (Sy74.plan s (Sy74.ends s) j s.die))) → Q (.ref r) H'
abbrev spPlanO (k : Kls) : Sp := spCall k (fun _ : Unit => ([], .plan)) 0
abbrev spLeastO (k : Kls) : Sp := spCall k (fun _ : Unit => ([], .least)) 0
abbrev spStateO (k : Kls) : Sp := spCall k (fun _ : Unit => ([], .state)) 0
abbrev spTopsO (k : Kls) : Sp := spCall k (fun x : Nat => ([.int x], .tops x)) 1
section
variable {P : Program} {w : World} {K : PySem.W.Frag} {mg : Str → Option Value} {base : Heap} {k : Kls}
abbrev sPlanOf : Stmt := top 32
theorem scPlanOf : FnScope ["holder", "rolls"] ["holder"] (defScope sPlanOf) := ⟨rfl, rfl, rfl, by decide +kernel, rfl, by decide +kernel, by decide +kernel⟩
theorem ok_planOf {f : Addr} {fd : FuncData} (F : Fun K "plan_of" "plan_of" sPlanOf f fd) (T : THolder K mg k) (TR : TReach K mg k)
    (GM : Gf P w K mg base (L2.CX P w) 3 "must" ["truth", "number"] (spMust k)) (GR : Gm P w K mg base CX0 7 k.H "reach" ["self"] (spReachO P w k)) (GP : Gm P w K mg base CX0 2 k.R "plan_to" ["self", "wish"] (spPlanTo P w k)) :
    FnOk P w K mg base (L2.CX P w) 8 f fd ["holder"] (spPlanOf k) := by
  obtain ⟨fM, fdM, GM, bM, mM, kM⟩ := GM
  obtain ⟨fR, fdR, GR, bR, mR⟩ := GR
  obtain ⟨fP, fdP, GP, bP, mP⟩ := GP
  refine F.okX scPlanOf (fun vs H Q E h => ?_) (fun cdv A outer s H vs Q E hr h => ⟨_,
    pss_cons (ps_set (i := 1) scPlanOf.nd rfl (Or.inl rfl) (pe_meth (pe_meth0 (pv 0) T.cl mR GR hr bR .nil pass0) TR.cl mP GP (hr.mono (by decide)) bP .nil pass0 (pa_cons (pe_fld (pv 0) rfl) pa_nil)))
    (pss_cons (ps_expr (pe_call (E := E) GM (hr.mono (by decide)) rfl mM kM bM .nil (passes_call (takes_of rfl rfl rfl rfl) (fun _ _ _ _ h => h)) (pa_cons (pe_cmp (pc_notN (pv 1))) (pa_cons (pe_un un_neg pe_int) pa_nil))))
    (pss_one (ps_ret (pv 1)))), ?_⟩)
  · obtain ⟨a, wd, s, rfl, _⟩ := h
    rfl
  · obtain ⟨a, wd, s, rfl, HA, b, v, qN, qS⟩ := h
    obtain ⟨dx, g, l, wi, ha, G, L, W⟩ := id HA
    refine ⟨_, rfl, a, dx, _, rfl, ha, hF_reach _ _ _ _ _, a, wd, s, rfl, HA, b, v, fun r rd pl po pk q H1 s1 R FF => ?_⟩
    refine ⟨r, rd, _, rfl, R.ins, rF_none (by decide +kernel) (by decide +kernel) (by decide +kernel) _ _ _, _, rfl, a, k.H, dx, _, _, rfl, s1 _ _ ha, T.cl, T.n3, hF_wish _ _ _ _ _, r, rd, pl, po, pk, wi, q, s, rfl, R, W.same s1, FF, b, v, fun hN H2 s2 => ?_, fun j hj lj p H2 s2 e2 => ?_⟩
    · exact ⟨_, rfl, _, rfl, false, _, rfl, fun e => (nomatch e), fun _ => (qN hN).same (s1.trans s2)⟩
    · refine ⟨_, rfl, _, rfl, true, _, rfl, fun _ => ⟨_, rfl, qS j hj lj p H2 (s1.trans s2) (distance_le hj) e2⟩, fun e => (nomatch e)⟩
abbrev sPlanO : Stmt := top 33
theorem scPlanO : FnScope ["holder", "rolls"] ["holder"] (defScope sPlanO) := ⟨rfl, rfl, rfl, by decide +kernel, rfl, by decide +kernel, by decide +kernel⟩
theorem ok_planO {f : Addr} {fd : FuncData} (F : Fun K "plan" "plan" sPlanO f fd) (TN : TNames mg)
    (GP : Gf P w K mg base (L2.CX P w) 8 "plan_of" ["holder"] (spPlanOf k)) (GC : Gf P w K mg base CX0 1 "counted" ["numbers"] (spCounted K)) :
    FnOk P w K mg base (L2.CX P w) 9 f fd ["holder"] (spPlanO k) := by
  obtain ⟨fP, fdP, GP, bP, mP, kP⟩ := GP
  obtain ⟨fC, fdC, GC, bC, mC, kC⟩ := GC
  refine F.okX scPlanO (fun vs H Q E h => h.1) (fun cdv A outer s H vs Q E hr h => ⟨_,
    pss_cons (ps_set (i := 1) scPlanO.nd rfl (Or.inl rfl) (pe_call (E := E) GP hr rfl mP kP bP .nil (passes_call (takes_of rfl rfl rfl rfl) (fun _ _ _ _ h => h)) (pa_cons (pv 0) pa_nil)))
    (pss_one (ps_ret (pe_op op_cat (pe_lst (pa_cons (pe_callB call_len_seq rfl TN.len PySem.boot_len (pa_cons (pv 1) pa_nil)) pa_nil)) (pe_call GC (hr.mono (by decide)) rfl mC kC bC .nil pass0 (pa_cons (pv 1) pa_nil))))), ?_⟩)
  obtain ⟨_, a, wd, s, _, rfl, HA, gd, q⟩ := h
  refine ⟨_, rfl, a, wd, s, rfl, HA, gd.bd, gd.die, fun hN => q.2 _ ?_, fun j hj lj p H1 s1 j9 l1 => ?_⟩
  · show (s, match Sy74.distance (Sy74.ends s) s.die with | none => _ | some k => _) = _
    rw [hN]
  · have st : Sy74.step s .plan = (s, ⟨(j : Nat), [Sy74.ints (Sy74.plan s (Sy74.ends s) j s.die)]⟩) := by
      show (s, match Sy74.distance (Sy74.ends s) s.die with | none => _ | some k => _) = _
      rw [hj]
    refine ⟨_, rfl, p, _, rfl, .inl (.of l1), (by show 1 ≤ sizeLine; decide), fun u nu => ?_⟩
    rw [vints_len, lj]
    have s2 : Same H1 (upd H1 u (.lst [.int (j : Nat)])) := upd_same_of nu
    have u2 : upd H1 u (.lst [.int (j : Nat)]) u = some (.lst [.int (j : Nat)]) := upd_same
    generalize upd H1 u (.lst [.int (j : Nat)]) = H2 at s2 u2 ⊢
    refine ⟨_, rfl, p, _, rfl, .inl (.of (s2 _ _ l1)), (by rw [vints_len, lj]; omega), fun x H3 nx s3 l3 => ?_⟩
    refine ⟨u, x, _, _, rfl, rfl, s3 _ _ u2, l3, ?_, fun r nr => ?_⟩
    · rw [List.length_cons, List.length_cons, vints_len, lj]
      exact Nat.le_trans (by simp only [List.length_nil]; omega) (by decide : 100001 ≤ sizeLine)
    have s4 := ((s1.trans s2).trans s3).trans (upd_same_of (o := .lst ([.int (j : Nat)] ++ (.int ((vints (Sy74.plan s (Sy74.ends s) j s.die)).length : Nat) :: vints (Sy74.plan s (Sy74.ends s) j s.die)))) nr)
    refine q.ret st nr (.of_same ((s1.trans s2).trans s3)) (upd_same_of nr) (HA.same s4) ?_
    rw [upd_same, flat1, vints_len]
    rfl
abbrev sLeastO : Stmt := top 34
theorem scLeastO : FnScope ["holder", "cost"] ["holder"] (defScope sLeastO) := ⟨rfl, rfl, rfl, by decide +kernel, rfl, by decide +kernel, by decide +kernel⟩
theorem ok_leastO {f : Addr} {fd : FuncData} (F : Fun K "least" "least" sLeastO f fd) (T : THolder K mg k)
    (GM : Gf P w K mg base (L2.CX P w) 3 "must" ["truth", "number"] (spMust k)) (GL : Gf P w K mg base CX0 6 "least_cost" ["ground", "lie", "wish"] (spLeast k)) :
    FnOk P w K mg base (L2.CX P w) 7 f fd ["holder"] (spLeastO k) := by
  obtain ⟨fM, fdM, GM, bM, mM, kM⟩ := GM
  obtain ⟨fL, fdL, GL, bL, mL, kL⟩ := GL
  refine F.okX scLeastO (fun vs H Q E h => h.1) (fun cdv A outer s H vs Q E hr h => ⟨_,
    pss_cons (ps_set (i := 1) scLeastO.nd rfl (Or.inl rfl) (pe_call GL hr rfl mL kL bL .nil pass0 (pa_cons (pe_fld (pv 0) rfl) (pa_cons (pe_fld (pv 0) rfl) (pa_cons (pe_fld (pv 0) rfl) pa_nil)))))
    (pss_cons (ps_expr (pe_call (E := E) GM (hr.mono (by decide)) rfl mM kM bM .nil (passes_call (takes_of rfl rfl rfl rfl) (fun _ _ _ _ h => h)) (pa_cons (pe_cmp (pc_notN (pv 1))) (pa_cons (pe_un un_neg pe_int) pa_nil))))
    (pss_one (ps_ret (pe_lst (pa_cons (pv 1) pa_nil))))), ?_⟩)
  obtain ⟨_, a, wd, s, _, rfl, HA, gd, q⟩ := h
  obtain ⟨dx, g, l, wi, ha, G, L, W⟩ := id HA
  refine ⟨_, rfl, a, k.H, dx, _, _, rfl, ha, T.cl, T.n1, hF_ground _ _ _ _ _, _, rfl, a, k.H, dx, _, _, rfl, ha, T.cl, T.n2, hF_lie _ _ _ _ _, _, rfl, a, k.H, dx, _, _, rfl, ha, T.cl, T.n3, hF_wish _ _ _ _ _, g, wd, l, wi, s, rfl, G, L, W, gd.bd, gd.die, fun H1 s1 => ?_⟩
  cases hc : Sy74.least s with
  | none =>
    refine ⟨_, rfl, _, rfl, false, _, rfl, fun e => (nomatch e), fun _ => (q.2 _ ?_).same s1⟩
    show (s, match Sy74.least s with | none => _ | some k => _) = _
    rw [hc]
  | some c =>
    have st : Sy74.step s .least = (s, Sy74.ok (c : Nat)) := by
      show (s, match Sy74.least s with | none => _ | some k => _) = _
      rw [hc]
    refine ⟨_, rfl, _, rfl, true, _, rfl, fun _ => ⟨_, rfl, (by show 1 ≤ sizeLine; decide), fun r nr => ?_⟩, fun e => (nomatch e)⟩
    have s2 : Same H (upd H1 r (.lst [.int (c : Nat)])) := s1.trans (upd_same_of nr)
    exact q.ret st nr (.of_same s1) (upd_same_of nr) (HA.same s2) upd_same
abbrev sTopsO : Stmt := top 35
theorem scTopsO : FnScope ["holder", "cell", "found"] ["holder", "cell"] (defScope sTopsO) := ⟨rfl, rfl, rfl, by decide +kernel, rfl, by decide +kernel, by decide +kernel⟩
theorem ok_topsO {f : Addr} {fd : FuncData} (F : Fun K "tops" "tops" sTopsO f fd) (T : THolder K mg k) (TR : TReach K mg k) (TN : TNames mg)
    (GM : Gf P w K mg base (L2.CX P w) 4 "must_be_cell" ["holder", "cell"] (spCell k)) (GR : Gm P w K mg base CX0 7 k.H "reach" ["self"] (spReachO P w k)) (GP : Gm P w K mg base CX0 1 k.R "tops_on" ["self", "cell"] (spTopsOn P w k))
    (GC : Gf P w K mg base CX0 1 "counted" ["numbers"] (spCounted K)) :
    FnOk P w K mg base (L2.CX P w) 8 f fd ["holder", "cell"] (spTopsO k) := by
  obtain ⟨fM, fdM, GM, bM, mM, kM⟩ := GM
  obtain ⟨fR, fdR, GR, bR, mR⟩ := GR
  obtain ⟨fP, fdP, GP, bP, mP⟩ := GP
  obtain ⟨fC, fdC, GC, bC, mC, kC⟩ := GC
  refine F.okX scTopsO (fun vs H Q E h => h.1) (fun cdv A outer s H vs Q E hr h => ⟨_,
    pss_cons (ps_expr (pe_call (E := E) GM (hr.mono (by decide)) rfl mM kM bM .nil (passes_call (takes_of rfl rfl rfl rfl) (fun _ _ _ _ h => h)) (pa_cons (pv 0) (pa_cons (pv 1) pa_nil))))
    (pss_cons (ps_set (i := 2) scTopsO.nd rfl (Or.inl rfl) (pe_meth (pe_meth0 (pv 0) T.cl mR GR hr bR .nil pass0) TR.cl mP GP (hr.mono (by decide)) bP .nil pass0 (pa_cons (pv 1) pa_nil)))
    (pss_one (ps_ret (pe_op op_cat (pe_lst (pa_cons (pe_callB call_len_seq rfl TN.len PySem.boot_len (pa_cons (pv 2) pa_nil)) pa_nil)) (pe_call GC (hr.mono (by decide)) rfl mC kC bC .nil pass0 (pa_cons (pv 2) pa_nil)))))), ?_⟩)
  obtain ⟨_, a, wd, s, x, rfl, HA, gd, q⟩ := h
  obtain ⟨dx, g, l, wi, ha, G, L, W⟩ := id HA
  refine ⟨_, rfl, _, rfl, a, wd, s, x, rfl, HA, gd.bd, fun h1 => ?_, fun h1 => q.2 _ ?_⟩
  rotate_left
  · show (s, if s.rows * s.cols ≤ x then _ else _) = _
    rw [if_pos (by omega)]
  have st : Sy74.step s (.tops x) = (s, ⟨((Sy74.tops s x).length : Nat), [Sy74.ints (Sy74.tops s x)]⟩) := by
    show (s, if s.rows * s.cols ≤ x then _ else _) = _
    rw [if_neg (by omega)]
  refine ⟨_, rfl, a, dx, _, rfl, ha, hF_reach _ _ _ _ _, a, wd, s, rfl, HA, gd.bd, gd.die, fun r rd pl po pk q' H1 s1 R FF => ?_⟩
  have tl : (Sy74.tops s x).length ≤ 900 := by
    refine Nat.le_trans (tops_len x) ?_
    rw [← Rc.Full.length gd.bd gd.die FF]
    exact FF.bfs.len gd.bd gd.die
  refine ⟨r, rd, _, rfl, R.ins, rF_none (by decide +kernel) (by decide +kernel) (by decide +kernel) _ _ _, _, rfl, r, rd, pl, po, pk, q', s, x, rfl, R, FF, gd.bd, gd.die, fun p H2 s2 l2 => ?_⟩
  refine ⟨_, rfl, p, _, rfl, .inl (.of l2), (by show 1 ≤ sizeLine; decide), fun u nu => ?_⟩
  rw [vints_len]
  have s3 : Same H2 (upd H2 u (.lst [.int ((Sy74.tops s x).length : Nat)])) := upd_same_of nu
  have u3 : upd H2 u (.lst [.int ((Sy74.tops s x).length : Nat)]) u = some (.lst [.int ((Sy74.tops s x).length : Nat)]) := upd_same
  generalize upd H2 u (.lst [.int ((Sy74.tops s x).length : Nat)]) = H3 at s3 u3 ⊢
  refine ⟨_, rfl, p, _, rfl, .inl (.of (s3 _ _ l2)), (by rw [vints_len]; omega), fun y H4 ny s4 l4 => ?_⟩
  refine ⟨u, y, _, _, rfl, rfl, s4 _ _ u3, l4, ?_, fun o no => ?_⟩
  · rw [List.length_cons, List.length_cons, vints_len]
    exact Nat.le_trans (by simp only [List.length_nil]; omega) (by decide : 100001 ≤ sizeLine)
  have s5 := (((s1.trans s2).trans s3).trans s4).trans (upd_same_of (o := .lst ([.int ((Sy74.tops s x).length : Nat)] ++ (.int ((vints (Sy74.tops s x)).length : Nat) :: vints (Sy74.tops s x)))) no)
  refine q.ret st no (.of_same (((s1.trans s2).trans s3).trans s4)) (upd_same_of no) (HA.same s5) ?_
  rw [upd_same, flat1, vints_len]
  rfl
abbrev sStateO : Stmt := top 36
theorem scStateO : FnScope ["holder", "ground", "told_first"] ["holder"] (defScope sStateO) := ⟨rfl, rfl, rfl, by decide +kernel, rfl, by decide +kernel, by decide +kernel⟩
theorem ok_stateO {f : Addr} {fd : FuncData} (F : Fun K "state" "state" sStateO f fd) (T : THolder K mg k) (TG : TGround K mg k) (TWi : TWish K mg k) (TN : TNames mg)
    (GW : Gm P w K mg base CX0 1 k.G "walls_told" ["self"] (spWallsT k)) (GC : Gf P w K mg base CX0 1 "counted" ["numbers"] (spCounted K)) :
    FnOk P w K mg base (L2.CX P w) 2 f fd ["holder"] (spStateO k) := by
  obtain ⟨fW, fdW, GW, bW, mW⟩ := GW
  obtain ⟨fC, fdC, GC, bC, mC, kC⟩ := GC
  refine F.okX scStateO (fun vs H Q E h => h.1) (fun cdv A outer s H vs Q E hr h => ⟨_,
    pss_cons (ps_set (i := 1) scStateO.nd rfl (Or.inl rfl) (pe_fld (pv 0) rfl))
    (pss_cons (ps_set (i := 2) scStateO.nd rfl (Or.inl rfl) (pe_lst (pa_cons (pe_fld (pv 0) rfl) (pa_cons (pe_fld (pv 1) rfl) (pa_cons (pe_fld (pv 1) rfl) (pa_cons (pe_fld (pe_fld (pv 0) rfl) rfl) (pa_cons (pe_fld (pe_fld (pv 0) rfl) rfl) pa_nil)))))))
    (pss_one (ps_ret (pe_op op_cat (pe_op op_cat (pe_lst (pa_cons (pe_fld (pv 0) rfl) pa_nil)) (pe_call GC hr rfl mC kC bC .nil pass0 (pa_cons (pv 2) pa_nil)))
      (pe_call GC hr rfl mC kC bC .nil pass0 (pa_cons (pe_meth0 (pv 1) TG.cl mW GW hr bW .nil pass0) pa_nil)))))), ?_⟩)
  obtain ⟨_, a, wd, s, _, rfl, HA, gd, q⟩ := h
  obtain ⟨dx, g, l, wi, ha, G, L, ⟨dw, hwi⟩⟩ := id HA
  obtain ⟨dg, kvs, hg, hw, ok⟩ := id G
  have wl := walls_len gd
  refine ⟨_, rfl, a, k.H, dx, _, _, rfl, ha, T.cl, T.n1, hF_ground _ _ _ _ _, ?_⟩
  refine ⟨_, rfl, a, k.H, dx, _, _, rfl, ha, T.cl, T.n5, hF_cost _ _ _ _ _, _, rfl, g, k.G, dg, _, _, rfl, hg, TG.cl, TG.n1, gF_rows _ _ _, _, rfl, g, k.G, dg, _, _, rfl, hg, TG.cl, TG.n2, gF_columns _ _ _,
    _, rfl, a, k.H, dx, _, _, rfl, ha, T.cl, T.n3, hF_wish _ _ _ _ _, wi, k.W, dw, _, _, rfl, hwi, TWi.cl, TWi.n1, wF_cell _ _, _, rfl, a, k.H, dx, _, _, rfl, ha, T.cl, T.n3, hF_wish _ _ _ _ _, wi, k.W, dw, _, _, rfl, hwi, TWi.cl, TWi.n2, wF_top _ _, (by show 5 ≤ sizeLine; decide), fun t nt => ?_⟩
  have s1 : Same H (upd H t (.lst [.int s.sum, .int s.rows, .int s.cols, .int s.goal.1, .int s.goal.2])) := upd_same_of nt
  have t1 : upd H t (.lst [.int s.sum, .int s.rows, .int s.cols, .int s.goal.1, .int s.goal.2]) t = some (.lst [.int s.sum, .int s.rows, .int s.cols, .int s.goal.1, .int s.goal.2]) := upd_same
  generalize upd H t (.lst [.int s.sum, .int s.rows, .int s.cols, .int s.goal.1, .int s.goal.2]) = H1 at s1 t1 ⊢
  refine ⟨_, rfl, a, k.H, dx, _, _, rfl, s1 _ _ ha, T.cl, T.n4, hF_rolls _ _ _ _ _, (by show 1 ≤ sizeLine; decide), fun u nu => ?_⟩
  have s2 : Same H1 (upd H1 u (.lst [.int s.rolls])) := upd_same_of nu
  have u2 : upd H1 u (.lst [.int s.rolls]) u = some (.lst [.int s.rolls]) := upd_same
  generalize upd H1 u (.lst [.int s.rolls]) = H2 at s2 u2 ⊢
  refine ⟨_, rfl, t, _, rfl, .inl (.of (s2 _ _ t1)), (by show 5 ≤ 100000; decide), fun x H3 nx s3 l3 => ?_⟩
  refine ⟨u, x, _, _, rfl, rfl, s3 _ _ u2, l3, (by show 7 ≤ sizeLine; decide), fun y ny => ?_⟩
  have s4 : Same H3 (upd H3 y (.lst ([.int s.rolls] ++ (.int 5 :: [.int s.sum, .int s.rows, .int s.cols, .int s.goal.1, .int s.goal.2])))) := upd_same_of ny
  have y4 : upd H3 y (.lst ([.int s.rolls] ++ (.int 5 :: [.int s.sum, .int s.rows, .int s.cols, .int s.goal.1, .int s.goal.2]))) y = some (.lst ([.int s.rolls] ++ (.int 5 :: [.int s.sum, .int s.rows, .int s.cols, .int s.goal.1, .int s.goal.2]))) := upd_same
  generalize upd H3 y (.lst ([.int s.rolls] ++ (.int 5 :: [.int s.sum, .int s.rows, .int s.cols, .int s.goal.1, .int s.goal.2]))) = H4 at s4 y4 ⊢
  have s04 := ((s1.trans s2).trans s3).trans s4
  refine ⟨_, rfl, g, dg, _, rfl, s04 _ _ hg, gF_none (by decide +kernel) (by decide +kernel) (by decide +kernel) _ _ _, g, wd, s, rfl, G.same s04, gd.ws, fun v H5 nv s5 l5 => ?_⟩
  refine ⟨v, _, rfl, .inl (.of l5), (by rw [List.length_map, List.length_map]; omega), fun z H6 nz s6 l6 => ?_⟩
  refine ⟨y, z, _, _, rfl, rfl, s6 _ _ (s5 _ _ y4), l6, ?_, fun o no => ?_⟩
  · rw [List.length_cons, List.length_map, List.length_map]
    show 7 + (s.walls.length + 1) ≤ sizeLine
    exact Nat.le_trans (by omega : 7 + (s.walls.length + 1) ≤ 33) (by decide)
  have s7 := ((s04.trans s5).trans s6).trans (upd_same_of (o := .lst (([.int s.rolls] ++ (.int 5 :: [.int s.sum, .int s.rows, .int s.cols, .int s.goal.1, .int s.goal.2])) ++ (.int (((s.walls.map fun n : Nat => (n : Int)).map V.int).length : Nat) :: (s.walls.map fun n : Nat => (n : Int)).map V.int))) no)
  refine q.ret (v := (s.rolls : Nat)) (l := [Sy74.ints [s.sum, s.rows, s.cols, s.goal.1, s.goal.2], Sy74.ints s.walls]) rfl no (.of_same ((s04.trans s5).trans s6)) (upd_same_of no) (HA.same s7) ?_
  rw [upd_same, List.length_map, List.length_map]
  simp [Sy74.ints]
end
end L2.Rw

/-! text Wk20 -/
namespace L2.Rw
open PySem PySem.Spec PyProof.Rows
theorem eqT (i : Int) {A B : Prop} (h : A) : if decide (V.int i = V.int i) = true then A else B := if_true_of (decide_eq_true rfl) h
theorem eqF {i j : Int} (n : i ≠ j) {A B : Prop} (h : B) : if decide (V.int i = V.int j) = true then A else B := if_false_of (decide_eq_false fun z => n (V.int.inj z)) h
def spAlone (k : Kls) : Sp := fun vs H Q E => vs.length = 2 ∧ ∃ (a wd : Addr) (s : Sy74.St) (p : Int) (c : Sy74.Call), vs = [.ref a, .int p] ∧ Rc.Told p [] c ∧ (p ≠ 0 ∧ p ≠ 1 ∧ p ≠ 2 ∧ p ≠ 3 ∧ p ≠ 4 ∧ p ≠ 8) ∧ HolderAt k H a wd s ∧ Rc.Good s ∧ Ends k H a s c Q E
def spTold (K : PySem.W.Frag) (k : Kls) : Sp := fun vs H Q E => ∃ (a wd pn : Addr) (s : Sy74.St) (p : Int) (r : List Int) (c : Sy74.Call), vs = [.ref a, .int p, .ref pn] ∧ SqL K H pn (r.map V.int) ∧ Rc.Told p r c ∧ HolderAt k H a wd s ∧ Rc.Good s ∧ Ends k H a s c Q E
def spAnswer (K : PySem.W.Frag) (k : Kls) : Sp := fun vs H Q _ => ∃ (a wd pn : Addr) (s : Sy74.St) (p : Int) (r : List Int) (c : Sy74.Call), vs = [.ref a, .int p, .ref pn] ∧ SqL K H pn (r.map V.int) ∧ Rc.Told p r c ∧ HolderAt k H a wd s ∧ Rc.Good s ∧
  ∀ r H' w', (∀ xs, H r ≠ some (.lst xs)) → Keep H H' → HolderAt k H' a w' (Sy74.step s c).1 → H' r = some (.lst ((Rc.out s c).map V.int)) → Q (.ref r) H'
section
variable {P : Program} {w : World} {K : PySem.W.Frag} {mg : Str → Option Value} {base : Heap} {k : Kls}
abbrev sAlone : Stmt := top 37
theorem scAlone : FnScope ["holder", "which"] ["holder", "which"] (defScope sAlone) := ⟨rfl, rfl, rfl, by decide +kernel, rfl, by decide +kernel, by decide +kernel⟩
theorem ok_alone {f : Addr} {fd : FuncData} (F : Fun K "told_alone" "told_alone" sAlone f fd) (T : THolder K mg k) (TR : TReach K mg k) (TL : TLie K mg k) (TD : TDie K mg k) (TN : TNames mg)
    (GO : Gf P w K mg base (L2.CX P w) 8 "plan_of" ["holder"] (spPlanOf k)) (GP : Gf P w K mg base (L2.CX P w) 9 "plan" ["holder"] (spPlanO k)) (GL : Gf P w K mg base (L2.CX P w) 7 "least" ["holder"] (spLeastO k))
    (GR : Gm P w K mg base CX0 7 k.H "reach" ["self"] (spReachO P w k)) (GC : Gf P w K mg base CX0 1 "counted" ["numbers"] (spCounted K)) (GN : Gm P w K mg base CX0 1 k.D "numbers" ["self"] (spNums k))
    (GS : Gf P w K mg base (L2.CX P w) 2 "state" ["holder"] (spStateO k)) :
    FnOk P w K mg base (L2.CX P w) 10 f fd ["holder", "which"] (spAlone k) := by
  obtain ⟨fO, fdO, GO, bO, mO, kO⟩ := GO
  obtain ⟨fP, fdP, GP, bP, mP, kP⟩ := GP
  obtain ⟨fL, fdL, GL, bL, mL, kL⟩ := GL
  obtain ⟨fR, fdR, GR, bR, mR⟩ := GR
  obtain ⟨fC, fdC, GC, bC, mC, kC⟩ := GC
  obtain ⟨fN, fdN, GN, bN, mN⟩ := GN
  obtain ⟨fS, fdS, GS, bS, mS, kS⟩ := GS
  refine F.okX scAlone (fun vs H Q E h => h.1) (fun cdv A outer s H vs Q E hr h => ⟨_,
    pss_cons (ps_if (pt_cmpR op_eq (pv 1) pe_int (nomark _)) (pss_one (ps_ret (pe_lst (pa_cons (pe_callB call_len_seq rfl TN.len PySem.boot_len (pa_cons (pe_call (E := E) GO (hr.mono (by decide)) rfl mO kO bO .nil (passes_call (takes_of rfl rfl rfl rfl) (fun _ _ _ _ h => h)) (pa_cons (pv 0) pa_nil)) pa_nil)) pa_nil)))) pss_nil)
    (pss_cons (ps_if (pt_cmpR op_eq (pv 1) pe_int (nomark _)) (pss_one (ps_ret (pe_call (E := E) GP hr rfl mP kP bP .nil (passes_call (takes_of rfl rfl rfl rfl) (fun _ _ _ _ h => h)) (pa_cons (pv 0) pa_nil)))) pss_nil)
    (pss_cons (ps_if (pt_cmpR op_eq (pv 1) pe_int (nomark _)) (pss_one (ps_ret (pe_call (E := E) GL (hr.mono (by decide)) rfl mL kL bL .nil (passes_call (takes_of rfl rfl rfl rfl) (fun _ _ _ _ h => h)) (pa_cons (pv 0) pa_nil)))) pss_nil)
    (pss_cons (ps_if (pt_cmpR op_eq (pv 1) pe_int (nomark _)) (pss_one (ps_ret (pe_lst (pa_cons (pe_callB call_len_seq rfl TN.len PySem.boot_len (pa_cons (pe_fld (pe_meth0 (pv 0) T.cl mR GR (hr.mono (by decide)) bR .nil pass0) rfl) pa_nil)) pa_nil)))) pss_nil)
    (pss_cons (ps_if (pt_cmpR op_eq (pv 1) pe_int (nomark _)) (pss_one (ps_ret (pe_op op_cat (pe_lst (pa_cons (pe_fld (pe_fld (pv 0) rfl) rfl) pa_nil)) (pe_call GC (hr.mono (by decide)) rfl mC kC bC .nil pass0 (pa_cons (pe_meth0 (pe_fld (pe_fld (pv 0) rfl) rfl) TD.cl mN GN (hr.mono (by decide)) bN .nil pass0) pa_nil))))) pss_nil)
    (pss_one (ps_ret (pe_call (E := E) GS (hr.mono (by decide)) rfl mS kS bS .nil (passes_call (takes_of rfl rfl rfl rfl) (fun _ _ _ _ h => h)) (pa_cons (pv 0) pa_nil)))))))), ?_⟩)
  obtain ⟨_, a, wd, s, p, c, rfl, ht, hp, HA, gd, q⟩ := h
  obtain ⟨dx, g, l, wi, ha, G, L, W⟩ := id HA
  cases ht with
  | fewest =>
    refine ⟨_, rfl, rfl, _, rfl, eqT _ ⟨_, rfl, a, wd, s, rfl, HA, gd.bd, gd.die, fun hN => q.2 _ ?_, fun j hj lj p H1 s1 j9 l1 => ⟨p, _, rfl, .inl (.of l1), (by show 1 ≤ sizeLine; decide), fun r nr => ?_⟩⟩⟩
    · show (s, match Sy74.distance (Sy74.ends s) s.die with | none => _ | some k => _) = _
      rw [hN]
    · rw [vints_len, lj] at *
      have st : Sy74.step s .fewest = (s, Sy74.ok (j : Nat)) := by
        show (s, match Sy74.distance (Sy74.ends s) s.die with | none => _ | some k => _) = _
        rw [hj]
      have s2 : Same H (upd H1 r (.lst [.int (j : Nat)])) := s1.trans (upd_same_of nr)
      exact q.ret st nr (.of_same s1) (upd_same_of nr) (HA.same s2) upd_same
  | plan => exact ⟨_, rfl, rfl, _, rfl, eqF (by decide) ⟨_, rfl, rfl, _, rfl, eqT _ ⟨_, rfl, rfl, a, wd, s, (), rfl, HA, gd, q⟩⟩⟩
  | least => exact ⟨_, rfl, rfl, _, rfl, eqF (by decide) ⟨_, rfl, rfl, _, rfl, eqF (by decide) ⟨_, rfl, rfl, _, rfl, eqT _ ⟨_, rfl, rfl, a, wd, s, (), rfl, HA, gd, q⟩⟩⟩⟩
  | reach =>
    refine ⟨_, rfl, rfl, _, rfl, eqF (by decide) ⟨_, rfl, rfl, _, rfl, eqF (by decide) ⟨_, rfl, rfl, _, rfl, eqF (by decide) ⟨_, rfl, rfl, _, rfl, eqT _ ?_⟩⟩⟩⟩
    refine ⟨_, rfl, a, dx, _, rfl, ha, hF_reach _ _ _ _ _, a, wd, s, rfl, HA, gd.bd, gd.die, fun r rd pl po pk q' H1 s1 R FF => ?_⟩
    obtain ⟨rs, el, ar⟩ := R.lies
    refine ⟨r, k.R, rd, _, _, rfl, R.ins, TR.cl, TR.n1, rF_lies _ _ _, pl, _, rfl, .inl (.of el), (by show 1 ≤ sizeLine; decide), fun u nu => ?_⟩
    have s2 := s1.trans (upd_same_of (o := .lst [.int ((rs.map V.ref).length : Nat)]) nu)
    refine q.ret (v := ((Sy74.reach s).length : Nat)) (l := []) rfl nu (.of_same s1) (upd_same_of nu) (HA.same s2) ?_
    rw [upd_same, List.length_map, ar.len, List.length_map, Rc.Full.length gd.bd gd.die FF]
    rfl
  | lies =>
    refine ⟨_, rfl, rfl, _, rfl, eqF (by decide) ⟨_, rfl, rfl, _, rfl, eqF (by decide) ⟨_, rfl, rfl, _, rfl, eqF (by decide) ⟨_, rfl, rfl, _, rfl, eqF (by decide) ⟨_, rfl, rfl, _, rfl, eqT _ ?_⟩⟩⟩⟩⟩
    obtain ⟨dl, p, e1, dd, e2⟩ := L
    refine ⟨_, rfl, a, k.H, dx, _, _, rfl, ha, T.cl, T.n2, hF_lie _ _ _ _ _, l, k.L, dl, _, _, rfl, e1, TL.cl, TL.n1, lF_cell _ _, (by show 1 ≤ sizeLine; decide), fun u nu => ?_⟩
    have s1 : Same H (upd H u (.lst [.int s.die.cell])) := upd_same_of nu
    have u1 : upd H u (.lst [.int s.die.cell]) u = some (.lst [.int s.die.cell]) := upd_same
    generalize upd H u (.lst [.int s.die.cell]) = H1 at s1 u1 ⊢
    refine ⟨_, rfl, a, k.H, dx, _, _, rfl, s1 _ _ ha, T.cl, T.n2, hF_lie _ _ _ _ _, l, k.L, dl, _, _, rfl, s1 _ _ e1, TL.cl, TL.n2, lF_die _ _, p, dd, _, rfl, s1 _ _ e2, dF_numbers _ _ _, p, tri s.die, rfl, ⟨dd, s1 _ _ e2⟩, fun v H2 nv s2 t2 => ?_⟩
    refine ⟨v, _, rfl, .inr (.of t2), (by show 3 ≤ 100000; decide), fun x H3 nx s3 l3 => ?_⟩
    refine ⟨u, x, _, _, rfl, rfl, s3 _ _ (s2 _ _ u1), l3, (by show 5 ≤ sizeLine; decide), fun o no => ?_⟩
    have s4 := ((s1.trans s2).trans s3).trans (upd_same_of (o := .lst ([.int s.die.cell] ++ (.int 3 :: [.int (tri s.die).1, .int (tri s.die).2.1, .int (tri s.die).2.2]))) no)
    exact q.ret (v := (s.die.cell : Nat)) (l := [Sy74.ints [s.die.top, s.die.north, s.die.east]]) rfl no (.of_same ((s1.trans s2).trans s3)) (upd_same_of no) (HA.same s4) upd_same
  | state =>
    exact ⟨_, rfl, rfl, _, rfl, eqF (by decide) ⟨_, rfl, rfl, _, rfl, eqF (by decide) ⟨_, rfl, rfl, _, rfl, eqF (by decide) ⟨_, rfl, rfl, _, rfl, eqF (by decide) ⟨_, rfl, rfl, _, rfl, eqF (by decide) ⟨_, rfl, rfl, a, wd, s, (), rfl, HA, gd, q⟩⟩⟩⟩⟩⟩
abbrev sTold : Stmt := top 38
theorem scTold : FnScope ["holder", "which", "numbers"] ["holder", "which", "numbers"] (defScope sTold) := ⟨rfl, rfl, rfl, by decide +kernel, rfl, by decide +kernel, by decide +kernel⟩
theorem ok_told {f : Addr} {fd : FuncData} (F : Fun K "told" "told" sTold f fd)
    (G0 : Gf P w K mg base (L2.CX P w) 5 "begins" ["holder", "rows", "columns"] (spBegins k)) (G1 : Gf P w K mg base (L2.CX P w) 5 "wall" ["holder", "cell", "truth"] (spWall k))
    (G2 : Gf P w K mg base (L2.CX P w) 6 "put" ["holder", "cell", "top", "north"] (spPut k)) (G3 : Gf P w K mg base (L2.CX P w) 5 "roll" ["holder", "way"] (spRoll k))
    (G4 : Gf P w K mg base (L2.CX P w) 5 "goal" ["holder", "cell", "top"] (spGoal k)) (G8 : Gf P w K mg base (L2.CX P w) 8 "tops" ["holder", "cell"] (spTopsO k))
    (GA : Gf P w K mg base (L2.CX P w) 10 "told_alone" ["holder", "which"] (spAlone k)) :
    FnOk P w K mg base (L2.CX P w) 11 f fd ["holder", "which", "numbers"] (spTold K k) := by
  obtain ⟨f0, fd0, G0, b0, m0, k0⟩ := G0
  obtain ⟨f1, fd1, G1, b1, m1, k1⟩ := G1
  obtain ⟨f2, fd2, G2, b2, m2, k2⟩ := G2
  obtain ⟨f3, fd3, G3, b3, m3, k3⟩ := G3
  obtain ⟨f4, fd4, G4, b4, m4, k4⟩ := G4
  obtain ⟨f8, fd8, G8, b8, m8, k8⟩ := G8
  obtain ⟨fA, fdA, GA, bA, mA, kA⟩ := GA
  refine F.okX scTold (fun vs H Q E h => ?_) (fun cdv A outer s H vs Q E hr h => ⟨_,
    pss_cons (ps_if (pt_cmpR op_eq (pv 1) pe_int (nomark _)) (pss_one (ps_ret (pe_call (E := E) G0 (hr.mono (by decide)) rfl m0 k0 b0 .nil (passes_call (takes_of rfl rfl rfl rfl) (fun _ _ _ _ h => h)) (pa_cons (pv 0) (pa_cons (pe_ix ix_list (pv 2) pe_int (fun _ _ => rfl)) (pa_cons (pe_ix ix_list (pv 2) pe_int (fun _ _ => rfl)) pa_nil)))))) pss_nil)
    (pss_cons (ps_if (pt_cmpR op_eq (pv 1) pe_int (nomark _)) (pss_one (ps_ret (pe_call (E := E) G1 (hr.mono (by decide)) rfl m1 k1 b1 .nil (passes_call (takes_of rfl rfl rfl rfl) (fun _ _ _ _ h => h)) (pa_cons (pv 0) (pa_cons (pe_ix ix_list (pv 2) pe_int (fun _ _ => rfl)) (pa_cons (pe_ix ix_list (pv 2) pe_int (fun _ _ => rfl)) pa_nil)))))) pss_nil)
    (pss_cons (ps_if (pt_cmpR op_eq (pv 1) pe_int (nomark _)) (pss_one (ps_ret (pe_call (E := E) G2 (hr.mono (by decide)) rfl m2 k2 b2 .nil (passes_call (takes_of rfl rfl rfl rfl) (fun _ _ _ _ h => h)) (pa_cons (pv 0) (pa_cons (pe_ix ix_list (pv 2) pe_int (fun _ _ => rfl)) (pa_cons (pe_ix ix_list (pv 2) pe_int (fun _ _ => rfl)) (pa_cons (pe_ix ix_list (pv 2) pe_int (fun _ _ => rfl)) pa_nil))))))) pss_nil)
    (pss_cons (ps_if (pt_cmpR op_eq (pv 1) pe_int (nomark _)) (pss_one (ps_ret (pe_call (E := E) G3 (hr.mono (by decide)) rfl m3 k3 b3 .nil (passes_call (takes_of rfl rfl rfl rfl) (fun _ _ _ _ h => h)) (pa_cons (pv 0) (pa_cons (pe_ix ix_list (pv 2) pe_int (fun _ _ => rfl)) pa_nil))))) pss_nil)
    (pss_cons (ps_if (pt_cmpR op_eq (pv 1) pe_int (nomark _)) (pss_one (ps_ret (pe_call (E := E) G4 (hr.mono (by decide)) rfl m4 k4 b4 .nil (passes_call (takes_of rfl rfl rfl rfl) (fun _ _ _ _ h => h)) (pa_cons (pv 0) (pa_cons (pe_ix ix_list (pv 2) pe_int (fun _ _ => rfl)) (pa_cons (pe_ix ix_list (pv 2) pe_int (fun _ _ => rfl)) pa_nil)))))) pss_nil)
    (pss_cons (ps_if (pt_cmpR op_eq (pv 1) pe_int (nomark _)) (pss_one (ps_ret (pe_call (E := E) G8 (hr.mono (by decide)) rfl m8 k8 b8 .nil (passes_call (takes_of rfl rfl rfl rfl) (fun _ _ _ _ h => h)) (pa_cons (pv 0) (pa_cons (pe_ix ix_list (pv 2) pe_int (fun _ _ => rfl)) pa_nil))))) pss_nil)
    (pss_one (ps_ret (pe_call (E := E) GA hr rfl mA kA bA .nil (passes_call (takes_of rfl rfl rfl rfl) (fun _ _ _ _ h => h)) (pa_cons (pv 0) (pa_cons (pv 1) pa_nil)))))))))), ?_⟩)
  · obtain ⟨a, wd, pn, s, p, r, c, rfl, _⟩ := h
    rfl
  obtain ⟨a, wd, pn, s, p, r, c, rfl, hs, ht, HA, gd, q⟩ := h
  cases ht with
  | begins x y => exact ⟨_, rfl, rfl, _, rfl, eqT _ ⟨_, rfl, _, rfl, pn, _, _, _, rfl, rfl, hs, atI_nat (j := 0) rfl, _, rfl, pn, _, _, _, rfl, rfl, hs, atI_nat (j := 1) rfl, rfl, a, wd, s, (x, y), rfl, HA, gd, q⟩⟩
  | wall x y => exact ⟨_, rfl, rfl, _, rfl, eqF (by decide) ⟨_, rfl, rfl, _, rfl, eqT _ ⟨_, rfl, _, rfl, pn, _, _, _, rfl, rfl, hs, atI_nat (j := 0) rfl, _, rfl, pn, _, _, _, rfl, rfl, hs, atI_nat (j := 1) rfl, rfl, a, wd, s, (x, y), rfl, HA, gd, q⟩⟩⟩
  | put x y z => exact ⟨_, rfl, rfl, _, rfl, eqF (by decide) ⟨_, rfl, rfl, _, rfl, eqF (by decide) ⟨_, rfl, rfl, _, rfl, eqT _ ⟨_, rfl, _, rfl, pn, _, _, _, rfl, rfl, hs, atI_nat (j := 0) rfl, _, rfl, pn, _, _, _, rfl, rfl, hs, atI_nat (j := 1) rfl, _, rfl, pn, _, _, _, rfl, rfl, hs, atI_nat (j := 2) rfl, rfl, a, wd, s, (x, y, z), rfl, HA, gd, q⟩⟩⟩⟩
  | roll x => exact ⟨_, rfl, rfl, _, rfl, eqF (by decide) ⟨_, rfl, rfl, _, rfl, eqF (by decide) ⟨_, rfl, rfl, _, rfl, eqF (by decide) ⟨_, rfl, rfl, _, rfl, eqT _ ⟨_, rfl, _, rfl, pn, _, _, _, rfl, rfl, hs, atI_nat (j := 0) rfl, rfl, a, wd, s, x, rfl, HA, gd, q⟩⟩⟩⟩⟩
  | goal x y => exact ⟨_, rfl, rfl, _, rfl, eqF (by decide) ⟨_, rfl, rfl, _, rfl, eqF (by decide) ⟨_, rfl, rfl, _, rfl, eqF (by decide) ⟨_, rfl, rfl, _, rfl, eqF (by decide) ⟨_, rfl, rfl, _, rfl, eqT _ ⟨_, rfl, _, rfl, pn, _, _, _, rfl, rfl, hs, atI_nat (j := 0) rfl, _, rfl, pn, _, _, _, rfl, rfl, hs, atI_nat (j := 1) rfl, rfl, a, wd, s, (x, y), rfl, HA, gd, q⟩⟩⟩⟩⟩⟩
  | tops x => exact ⟨_, rfl, rfl, _, rfl, eqF (by decide) ⟨_, rfl, rfl, _, rfl, eqF (by decide) ⟨_, rfl, rfl, _, rfl, eqF (by decide) ⟨_, rfl, rfl, _, rfl, eqF (by decide) ⟨_, rfl, rfl, _, rfl, eqF (by decide) ⟨_, rfl, rfl, _, rfl, eqT _ ⟨_, rfl, _, rfl, pn, _, _, _, rfl, rfl, hs, atI_nat (j := 0) rfl, rfl, a, wd, s, x, rfl, HA, gd, q⟩⟩⟩⟩⟩⟩⟩
  | fewest => exact ⟨_, rfl, rfl, _, rfl, eqF (by decide) ⟨_, rfl, rfl, _, rfl, eqF (by decide) ⟨_, rfl, rfl, _, rfl, eqF (by decide) ⟨_, rfl, rfl, _, rfl, eqF (by decide) ⟨_, rfl, rfl, _, rfl, eqF (by decide) ⟨_, rfl, rfl, _, rfl, eqF (by decide) ⟨_, rfl, _, rfl, rfl, a, wd, s, 5, .fewest, rfl, .fewest, by decide, HA, gd, q⟩⟩⟩⟩⟩⟩⟩
  | plan => exact ⟨_, rfl, rfl, _, rfl, eqF (by decide) ⟨_, rfl, rfl, _, rfl, eqF (by decide) ⟨_, rfl, rfl, _, rfl, eqF (by decide) ⟨_, rfl, rfl, _, rfl, eqF (by decide) ⟨_, rfl, rfl, _, rfl, eqF (by decide) ⟨_, rfl, rfl, _, rfl, eqF (by decide) ⟨_, rfl, _, rfl, rfl, a, wd, s, 6, .plan, rfl, .plan, by decide, HA, gd, q⟩⟩⟩⟩⟩⟩⟩
  | least => exact ⟨_, rfl, rfl, _, rfl, eqF (by decide) ⟨_, rfl, rfl, _, rfl, eqF (by decide) ⟨_, rfl, rfl, _, rfl, eqF (by decide) ⟨_, rfl, rfl, _, rfl, eqF (by decide) ⟨_, rfl, rfl, _, rfl, eqF (by decide) ⟨_, rfl, rfl, _, rfl, eqF (by decide) ⟨_, rfl, _, rfl, rfl, a, wd, s, 7, .least, rfl, .least, by decide, HA, gd, q⟩⟩⟩⟩⟩⟩⟩
  | reach => exact ⟨_, rfl, rfl, _, rfl, eqF (by decide) ⟨_, rfl, rfl, _, rfl, eqF (by decide) ⟨_, rfl, rfl, _, rfl, eqF (by decide) ⟨_, rfl, rfl, _, rfl, eqF (by decide) ⟨_, rfl, rfl, _, rfl, eqF (by decide) ⟨_, rfl, rfl, _, rfl, eqF (by decide) ⟨_, rfl, _, rfl, rfl, a, wd, s, 9, .reach, rfl, .reach, by decide, HA, gd, q⟩⟩⟩⟩⟩⟩⟩
  | lies => exact ⟨_, rfl, rfl, _, rfl, eqF (by decide) ⟨_, rfl, rfl, _, rfl, eqF (by decide) ⟨_, rfl, rfl, _, rfl, eqF (by decide) ⟨_, rfl, rfl, _, rfl, eqF (by decide) ⟨_, rfl, rfl, _, rfl, eqF (by decide) ⟨_, rfl, rfl, _, rfl, eqF (by decide) ⟨_, rfl, _, rfl, rfl, a, wd, s, 10, .lies, rfl, .lies, by decide, HA, gd, q⟩⟩⟩⟩⟩⟩⟩
  | state => exact ⟨_, rfl, rfl, _, rfl, eqF (by decide) ⟨_, rfl, rfl, _, rfl, eqF (by decide) ⟨_, rfl, rfl, _, rfl, eqF (by decide) ⟨_, rfl, rfl, _, rfl, eqF (by decide) ⟨_, rfl, rfl, _, rfl, eqF (by decide) ⟨_, rfl, rfl, _, rfl, eqF (by decide) ⟨_, rfl, _, rfl, rfl, a, wd, s, 11, .state, rfl, .state, by decide, HA, gd, q⟩⟩⟩⟩⟩⟩⟩
abbrev sAnswer : Stmt := top 39
theorem scAnswer : FnScope ["holder", "which", "numbers", "e"] ["holder", "which", "numbers"] (defScope sAnswer) := ⟨rfl, rfl, rfl, by decide +kernel, rfl, by decide +kernel, by decide +kernel⟩
theorem ok_answer {fI : Addr} {f : Addr} {fd : FuncData} (F : Fun K "answer" "answer" sAnswer f fd) (T : TExc K mg k fI)
    (GT : Gf P w K mg base (L2.CX P w) 11 "told" ["holder", "which", "numbers"] (spTold K k)) :
    FnOk P w K mg base CX0 12 f fd ["holder", "which", "numbers"] (spAnswer K k) := by
  obtain ⟨fT, fdT, GT, bT, mT, kT⟩ := GT
  refine F.ok scAnswer (fun vs H Q E h => ?_) (fun cdv A outer s H vs Q E hr h => ⟨_,
    pss_one (ps_try_as (i := 3) (tb := fun W => tRet (tCallS (spTold K k) (WE W) (tCons (tVar 0) (tCons (tVar 1) (tCons (tVar 2) tNil))))) (ts := fun a cls d => tRet (tLst (tCons (tXf a cls d k.F "number" (tVar 3)) tNil))) (Wout := fun _ _ _ _ => False) rfl rfl scAnswer.nd rfl rfl ⟨rfl, by decide, Or.inl T.g⟩ takes0
      (fun W pn xe tk _ => pss_one (ps_ret (by exact (pe_callS GT hr rfl mT kT bT (fun σ => passAt tk σ) (by exact (pa_cons (pv 0) (pa_cons (pv 1) (pa_cons (pv 2) pa_nil))))))))
      (fun a oe cls d pn hz hf => pss_one (ps_ret (by exact (pe_lst (pa_cons (pe_xf T.x T.nN hz hf (pv 3)) pa_nil)))))), ?_⟩)
  · obtain ⟨a, wd, pn, s, p, r, c, rfl, _⟩ := h
    rfl
  · obtain ⟨a, wd, pn, s, p, r, c, rfl, hs, ht, HA, gd, q⟩ := h
    refine ⟨_, rfl, _, rfl, _, rfl, a, wd, pn, s, p, r, c, rfl, hs, ht, HA, gd, q, fun n hn d H1 s1 hd => ?_⟩
    refine ⟨true, T.te, fun _ a0 na => ?_, fun z => Bool.noConfusion z⟩
    refine ⟨_, rfl, rfl, rfl, d, _, _, rfl, hd, lk_here, (by show 1 ≤ sizeLine; decide), fun u nu => ?_⟩
    have s2 : Same H (upd H1 u (.lst [.int n])) := s1.trans (upd_same_of nu)
    refine q u _ wd (fun xs e => by have := s1 _ _ e; rw [nu] at this; cases this) (.of_same s2) ?_ ?_
    · rw [hn]
      exact HA.same s2
    · unfold Rc.out
      rw [hn]
      exact upd_same
end
end L2.Rw

/-! text Wk21 -/
namespace Rc
open Sy74
/-- one call at the place n of the list -/
structure Turn (l : List Int) (n f : Nat) (cs : List (List (List Int))) (p m : Nat) (r : List Int) (c : Call) (f' : Nat) (cs' : List (List (List Int))) : Prop where
  at' : l[n]? = some (p : Int)
  num : numbers[p]? = some m
  fits : n + 1 + m ≤ l.length
  part : (l.drop (n + 1)).take m = r
  told : Told p r c
  calls : PyFlat.calls PySy74.shape f' (l.drop (n + 1 + m)) = some cs'
  ok : ∀ c ∈ cs', ∃ x, Sy74Neutral.callOf ((PySy74.whole c).headD []) = some x
  rest : ∀ s, rest s cs = ((out s c).length : Int) :: out s c ++ Rc.rest (step s c).1 cs'
theorem turn_of {l : List Int} {n f : Nat} {cs : List (List (List Int))} (hn : n < l.length) (h : PyFlat.calls PySy74.shape f (l.drop n) = some cs) (ok : ∀ c ∈ cs, ∃ x, Sy74Neutral.callOf ((PySy74.whole c).headD []) = some x) :
    ∃ p m r c f' cs', Turn l n f cs p m r c f' cs' := by
  rw [List.drop_eq_getElem_cons hn] at h
  cases f with
  | zero => cases h
  | succ f =>
    obtain ⟨m, cs', hs, hm, hc, rfl⟩ := calls_cons h
    obtain ⟨_, p0, p12, hnum⟩ := shape_cases hs
    obtain ⟨x, hx⟩ := ok _ List.mem_cons_self
    rw [whole_one] at hx
    have hx : Sy74Neutral.callOf (l[n] :: (l.drop (n + 1)).take m) = some x := hx
    have ht := told_of ⟨p0, p12⟩ hx
    have ep : ((l[n].toNat : Nat) : Int) = l[n] := by omega
    rw [List.length_drop] at hm
    refine ⟨l[n].toNat, m, _, x, f, cs', ?_, hnum, by omega, rfl, by rw [ep]; exact ht, ?_, fun c hc => ok c (List.mem_cons_of_mem _ hc), fun s => ?_⟩
    · rw [ep]
      exact List.getElem?_eq_getElem hn
    · rw [← hc, List.drop_drop]
    · rw [rest_cons, step_told hx]
end Rc
namespace L2.Rw
open PySem PySem.Spec PyProof.Rows
theorem cut_nat (xs : List V) {a b : Nat} (h1 : a ≤ b) (h2 : b ≤ xs.length) : cutV xs (some (a : Int)) (some (b : Int)) = (xs.drop a).take (b - a) := by
  unfold cutV
  rw [HT.sIx_nat, HT.sIx_nat, Nat.min_eq_left h2, Nat.min_eq_left (Nat.le_trans h1 h2)]
theorem Keep.seq {K : PySem.W.Frag} {H H' : Hp} {a : Addr} {xs : List V} (k : Keep H H') (h : SqL K H a xs) : SqL K H' a xs := by
  rcases h with (h | ⟨o, h⟩) | h
  · exact .inl (.inl (k.lst h))
  · exact .inl (.inr ⟨o, k _ _ h (fun _ _ _ z => by cases z) (fun _ z => by cases z)⟩)
  · exact .inr h
theorem HolderAt.butL {k : Kls} {H : Hp} {a w fa : Addr} {s : Sy74.St} {xs : List V} {o : HO} (h : HolderAt k H a w s) (hf : H fa = some (.lst xs)) : HolderAt k (upd H fa o) a w s := by
  have kp : ∀ {b C dx fs}, H b = some (.ins C dx fs) → upd H fa o b = some (.ins C dx fs) := fun e => (upd_ne (ne_of e hf (fun z => by cases z))).trans e
  obtain ⟨dx, g, l, wi, e, ⟨dg, kvs, eg, ew, ok⟩, ⟨dl, p, el, dd, ep⟩, ⟨dw, ewi⟩⟩ := h
  exact ⟨dx, g, l, wi, kp e, ⟨dg, kvs, kp eg, (upd_ne (ne_of ew hf (fun z => by cases z))).trans ew, ok⟩, ⟨dl, p, kp el, dd, kp ep⟩, ⟨dw, kp ewi⟩⟩
def spAns (K : PySem.W.Frag) : Sp := fun vs H Q _ => ∃ (ca : Addr) (l : List Int), vs = [.ref ca] ∧ SqL K H ca (l.map V.int) ∧ (∃ raw, Rc.Due l raw) ∧ ∀ (H' : Hp) (p : Addr), H' p = some (.lst ((PySy74.answers l).map V.int)) → Q (.ref p) H'
structure TTab (K : PySem.W.Frag) (mg : Str → Option Value) : Prop where
  t : ∃ a, mg "NUMBERS" = some (.ref a) ∧ ∀ H, SqT K H a (Rc.numbers.map fun n : Nat => V.int n)
abbrev spHolderI (k : Kls) : Sp := fun vs H Q E => (∃ a dx r c, vs = [.ref a, .int r, .int c] ∧ H a = some (.ins k.H dx [])) ∧ spBegin k vs H Q E
section
variable {P : Program} {w : World} {K : PySem.W.Frag} {mg : Str → Option Value} {base : Heap} {k : Kls}
abbrev sAns : Stmt := top 40
theorem scAns : FnScope ["calls", "holder", "found", "at", "end", "numbers"] ["calls"] (defScope sAns) := ⟨rfl, rfl, rfl, by decide +kernel, rfl, by decide +kernel, by decide +kernel⟩
theorem ok_ans {f : Addr} {fd : FuncData} (F : Fun K "answers" "answers" sAns f fd) (T : THolder K mg k) (TN : TNames mg) (TT : TTab K mg)
    (GI : Gi P w K mg base CX0 5 k.H ["self", "rows", "columns"] (spHolderI k)) (GA : Gf P w K mg base CX0 12 "answer" ["holder", "which", "numbers"] (spAnswer K k)) :
    FnOk P w K mg base CX0 13 f fd ["calls"] (spAns K) := by
  obtain ⟨fI, fdI, MI, GI, bI⟩ := GI
  obtain ⟨fA, fdA, GA, bA, mA, kA⟩ := GA
  obtain ⟨aN, gN, tN⟩ := TT.t
  refine F.ok scAns (fun vs H Q E h => ?_) (fun cdv A outer s H vs Q E hr h => ⟨_,
    pss_cons (ps_set (i := 1) scAns.nd rfl (Or.inl rfl) (pe_make MI GI (hr.mono (by decide)) rfl T.g bI .nil pass0 (pa_cons pe_int (pa_cons pe_int pa_nil))))
    (pss_cons (ps_set (i := 2) scAns.nd rfl (Or.inl rfl) (pe_lst pa_nil))
    (pss_cons (ps_set (i := 3) scAns.nd rfl (Or.inl rfl) pe_int)
    (pss_cons (ps_while PassesOwn.never (pt_cmpR op_lt (pv 3) (pe_callB call_len_seq rfl TN.len PySem.boot_len (pa_cons (pv 0) pa_nil)) (nomark _))
      (pss_cons (ps_set (i := 4) scAns.nd rfl (Or.inl rfl) (pe_op op_add (pe_op op_add (pv 3) pe_int) (pe_ix ix_tup (pe_glob (v := .ref aN) rfl gN rfl) (pe_ix ix_list (pv 0) (pv 3) (fun _ _ => rfl)) (fun _ _ => rfl))))
      (pss_cons (ps_set (i := 5) scAns.nd rfl (Or.inl rfl) (pe_call GA hr rfl mA kA bA .nil pass0 (pa_cons (pv 1) (pa_cons (pe_ix ix_list (pv 0) (pv 3) (fun _ _ => rfl)) (pa_cons (pe_slice sl_list (pv 0) (po_some (pe_op op_add (pv 3) pe_int)) (po_some (pv 4))) pa_nil)))))
      (pss_cons (ps_expr (pe_bm PySem.F.plainAttrs_list PySem.F.slot_list_append PySem.F.type_list_append mt_append (pv 2) (pa_cons (pe_callB call_len_seq rfl TN.len PySem.boot_len (pa_cons (pv 5) pa_nil)) pa_nil)))
      (pss_cons (ps_expr (pe_bm PySem.F.plainAttrs_list PySem.F.slot_list_extend PySem.F.type_list_extend mt_extend (pv 2) (pa_cons (pv 5) pa_nil)))
      (pss_one (ps_set (i := 3) scAns.nd rfl (Or.inl rfl) (pv 4))))))))
    (pss_one (ps_ret (pv 2)))))), ?_⟩)
  · obtain ⟨ca, l, rfl, _⟩ := h
    rfl
  · obtain ⟨ca, l, rfl, hs, ⟨raw, D⟩, q⟩ := h
    refine fun a dx na nd ne => ⟨⟨a, dx, 1, 1, rfl, upd_same⟩, a, dx, [], 1, 1, rfl, upd_same, .inl rfl, fun H1 wd HA1 k1 => ⟨rfl, ?_⟩⟩
    have s1 : Same H H1 := fun b o e => k1 b o (mk_same (C := k.H) (fs := []) na nd b o e) (ne_of_none e na)
    refine ⟨(by show 0 ≤ sizeLine; decide), fun fa nf => ?_⟩
    have hca : ca ≠ fa ∨ ∀ H'', SqL K H'' ca (l.map V.int) := by
      rcases hs with (h | ⟨o, h⟩) | h
      · exact .inl (ne_of_none (s1 _ _ h) nf)
      · exact .inl (ne_of_none (s1 _ _ h) nf)
      · exact .inr fun _ => .inr h
    have seqU : ∀ (H' : Hp) (o : HO), SqL K H' ca (l.map V.int) → SqL K (upd H' fa o) ca (l.map V.int) := fun H' o h => by
      rcases hca with z | z
      · rcases h with (h | ⟨u, h⟩) | h
        · exact .inl (.inl ((upd_ne z).trans h))
        · exact .inl (.inr ⟨u, (upd_ne z).trans h⟩)
        · exact .inr h
      · exact z _
    have s2 : Same H (upd H1 fa (.lst [])) := s1.trans (upd_same_of nf)
    have HA2 : HolderAt k (upd H1 fa (.lst [])) a wd Sy74.init := HA1.same (upd_same_of nf)
    have f2 : upd H1 fa (.lst []) fa = some (.lst (([] : List Int).map V.int)) := upd_same
    generalize upd H1 fa (.lst []) = H2 at s2 HA2 f2 ⊢
    have short := D.short
    refine ⟨fun m σ H' => ∃ (n : Nat) (w4 w5 : Option V) (s : Sy74.St) (wd : Addr) (fs : List Int) (f : Nat) (cs : List (List (List Int))), m = l.length - n ∧ σ = [some (.ref ca), some (.ref a), some (.ref fa), some (.int (n : Nat)), w4, w5] ∧ n ≤ l.length ∧
        HolderAt k H' a wd s ∧ Rc.Good s ∧ H' fa = some (.lst (fs.map V.int)) ∧ SqL K H' ca (l.map V.int) ∧ PyFlat.calls PySy74.shape f (l.drop n) = some cs ∧ (∀ c ∈ cs, ∃ x, Sy74Neutral.callOf ((PySy74.whole c).headD []) = some x) ∧ fs ++ Rc.rest s cs = PySy74.answers l,
      ⟨_, 0, none, none, Sy74.init, wd, [], l.length, raw, rfl, rfl, Nat.zero_le _, HA2, Rc.good_init, f2, s2.seq hs, D.calls, D.ok, D.ans.symm⟩, ?_⟩
    rintro m σ H' ⟨n, w4, w5, s, wd, fs, f, cs, rfl, rfl, hn, HA, gd, hf, hc, hcs, ok, ea⟩
    refine ⟨_, rfl, _, rfl, ca, _, rfl, .inl hc, _, _, rfl, rfl, _, rfl, ?_⟩
    by_cases lt : n < l.length
    · refine if_true_of (decide_eq_true (by rw [List.length_map]; omega)) ?_
      obtain ⟨p, mm, r, c, f', cs', U⟩ := Rc.turn_of lt hcs ok
      have at9 : (l.map V.int)[n]? = some (V.int (p : Nat)) := by rw [List.getElem?_map, U.at']; rfl
      have num9 : (Rc.numbers.map fun n : Nat => V.int n)[p]? = some (V.int (mm : Nat)) := by rw [List.getElem?_map, U.num]; rfl
      rw [U.rest s] at ea
      have lens : fs.length + ((Rc.out s c).length + 1) ≤ 10000000 := by
        have := congrArg List.length ea
        rw [List.length_append, List.length_append, List.length_cons] at this
        omega
      refine ⟨fun σ' H'' => ∃ (w4 w5 : Option V) (s : Sy74.St) (wd : Addr) (fs : List Int) (cs : List (List (List Int))), σ' = [some (.ref ca), some (.ref a), some (.ref fa), some (.int ((n + 1 + mm : Nat) : Int)), w4, w5] ∧
        HolderAt k H'' a wd s ∧ Rc.Good s ∧ H'' fa = some (.lst (fs.map V.int)) ∧ SqL K H'' ca (l.map V.int) ∧ PyFlat.calls PySy74.shape f' (l.drop (n + 1 + mm)) = some cs ∧ (∀ c ∈ cs, ∃ x, Sy74Neutral.callOf ((PySy74.whole c).headD []) = some x) ∧ fs ++ Rc.rest s cs = PySy74.answers l, ?_, ?_⟩
      · rintro σ' H'' ⟨u4, u5, s', wd', fs', cs', e, z⟩
        have := U.fits
        exact ⟨l.length - (n + 1 + mm), by omega, n + 1 + mm, u4, u5, s', wd', fs', f', cs', rfl, e, U.fits, z⟩
      -- end = at + 1 + NUMBERS[calls[at]]
      refine ⟨_, rfl, _, _, rfl, rfl, _, rfl, _, rfl, ca, _, _, _, rfl, rfl, hc, atI_nat at9, aN, _, _, _, rfl, rfl, tN _, atI_nat num9, _, _, rfl, rfl, ?_⟩
      -- numbers = answer(holder, calls[at], calls[at + 1:end])
      refine ⟨_, rfl, _, rfl, _, rfl, ca, _, _, _, rfl, rfl, hc, atI_nat at9, _, rfl, _, rfl, _, _, rfl, rfl, _, rfl, _, rfl, _, rfl, ca, _, rfl, hc, fun pn np => ?_⟩
      have cut : cutV (l.map V.int) (some (((n + 1 : Nat) : Int))) (some (((n + 1 + mm : Nat) : Int))) = r.map V.int := by
        rw [cut_nat _ (by omega) (by rw [List.length_map]; exact U.fits), show n + 1 + mm - (n + 1) = mm by omega, ← List.map_drop, ← List.map_take, U.part]
      have s3 : Same H' (upd H' pn (.lst (cutV (l.map V.int) (some (((n + 1 : Nat) : Int))) (some (((n + 1 + mm : Nat) : Int)))))) := upd_same_of np
      have p3 : upd H' pn (.lst (cutV (l.map V.int) (some (((n + 1 : Nat) : Int))) (some (((n + 1 + mm : Nat) : Int))))) pn = some (.lst (r.map V.int)) := by rw [← cut]; exact upd_same
      refine ⟨a, wd, pn, s, (p : Nat), r, c, rfl, .of p3, U.told, HA.same s3, gd, fun x H4 w' nx k4 HA4 l4 => ?_⟩
      have hf3 := s3 _ _ hf
      have hf4 := k4.lst hf3
      have hc4 := k4.seq (s3.seq hc)
      have xf : x ≠ fa := fun z => nx _ (z ▸ hf3)
      -- found.append(len(numbers))
      refine ⟨_, rfl, .inl ⟨rfl, _, SqL.of hf4⟩, _, rfl, x, _, rfl, .inl (.of l4), fa, _, _, rfl, rfl, hf4, ?_, ?_⟩
      · rw [List.length_map]
        exact Nat.lt_of_le_of_lt (by omega : fs.length ≤ 10000000) (by decide)
      have l5 : upd H4 fa (.lst (fs.map V.int ++ [.int ((((Rc.out s c).map V.int).length : Nat) : Int)])) x = some (.lst ((Rc.out s c).map V.int)) := (upd_ne xf).trans l4
      -- found.extend(numbers)
      refine ⟨_, rfl, .inl ⟨rfl, _, SqL.of upd_same⟩, _, rfl, fa, x, _, _, rfl, rfl, upd_same, l5, ?_, ?_⟩
      · rw [List.length_append, List.length_map, List.length_map, List.length_singleton]
        exact Nat.le_trans (by omega : fs.length + 1 + (Rc.out s c).length ≤ 10000001) (by decide)
      have st := U.rest s
      have HA5 : ∀ o1 o2, HolderAt k (upd (upd H4 fa o1) fa o2) a w' (Sy74.step s c).1 := fun o1 o2 => by
        rw [upd_upd]
        exact HA4.butL hf4
      refine ⟨_, rfl, _, _, (Sy74.step s c).1, w', fs ++ ((Rc.out s c).length : Int) :: Rc.out s c, cs', rfl, HA5 _ _, Rc.good_step gd c, ?_, seqU _ _ (seqU _ _ hc4), U.calls, U.ok, ?_⟩
      · rw [upd_same, List.length_map, List.map_append, List.map_cons, List.append_assoc]
        rfl
      · rw [← ea, List.append_assoc]
    · refine if_false_of (decide_eq_false (by rw [List.length_map]; omega)) ?_
      have e : n = l.length := by omega
      subst e
      rw [List.drop_length] at hcs
      have := Rc.calls_nil hcs
      subst this
      rw [Rc.rest_nil, List.append_nil] at ea
      refine ⟨_, rfl, q H' fa ?_⟩
      rw [← ea]
      exact hf
end
end L2.Rw

/-! text Wk22 -/
namespace L2.Rw
open PySem PySem.Spec PyProof.Rows
/-! ### the end: what the top has written, every address a letter -/
/-- an error of the class at S is one that its own name takes -/
theorem exm_self {K : PySem.W.Frag} {S : Addr} (h1 : PySem.W.subIn K (.ref S) (.type "BaseException") = some true) (h2 : PySem.W.isClsIn K S = true) (h3 : PySem.W.typeIn K (.ref S) = some (.type "type")) (h4 : PySem.W.subIn K (.ref S) (.ref S) = some true) :
    PySem.W.exmOne K (.ref S) (.ref S) = some true := by
  have h2' : (PySem.W.clsIn K S).isSome = true := h2
  show (if (PySem.W.subIn K (.ref S) (.type "BaseException") == some true) = true then (if ((PySem.W.clsIn K S).isSome && PySem.W.typeIn K (.ref S) == some (.type "type")) = true then PySem.W.subIn K (.ref S) (.ref S) else none) else none) = some true
  rw [h1, h2', h3, h4]
  rfl
theorem all_mk {P : Program} {w : World} {K : PySem.W.Frag} {h : Heap} {mg : Str → Option Value} {fa : Addr} (X : K.In h) (G : h.Ns mainGlobals mg) (hfa : mg "answers" = some (.ref fa))
    {CD CG CL CW CR CC CH CF aW aN : Addr} {fd0 fd1 ft6 ft7 ft8 ft9 fg0 fg1 fg2 fg3 fg4 fg5 fl0 fl1 ft13 fw0 fw1 fr0 fr1 fr2 fr3 fr4 fc0 fc1 fc2 ft18 fx0 fh0 fh1 fh2 ft24 ft25 ft26 ft27 ft28 ft29 ft30 ft31 ft32 ft33 ft34 ft35 ft36 ft37 ft38 ft39 ft40 : Addr}
    {odd0 and0 : Option Addr} {sld0 : Array (Option Value)} {ocd0 kVd0 dcd0 pmd0 cdd0 ctd0 : Value}
    {odd1 and1 : Option Addr} {sld1 : Array (Option Value)} {ocd1 kVd1 dcd1 pmd1 cdd1 ctd1 : Value}
    {odt6 ant6 : Option Addr} {slt6 : Array (Option Value)} {oct6 kVt6 dct6 pmt6 cdt6 ctt6 : Value}
    {odt7 ant7 : Option Addr} {slt7 : Array (Option Value)} {oct7 kVt7 dct7 pmt7 cdt7 ctt7 : Value}
    {odt8 ant8 : Option Addr} {slt8 : Array (Option Value)} {oct8 kVt8 dct8 pmt8 cdt8 ctt8 : Value}
    {odt9 ant9 : Option Addr} {slt9 : Array (Option Value)} {oct9 kVt9 dct9 pmt9 cdt9 ctt9 : Value}
    {odg0 ang0 : Option Addr} {slg0 : Array (Option Value)} {ocg0 kVg0 dcg0 pmg0 cdg0 ctg0 : Value}
    {odg1 ang1 : Option Addr} {slg1 : Array (Option Value)} {ocg1 kVg1 dcg1 pmg1 cdg1 ctg1 : Value}
    {odg2 ang2 : Option Addr} {slg2 : Array (Option Value)} {ocg2 kVg2 dcg2 pmg2 cdg2 ctg2 : Value}
    {odg3 ang3 : Option Addr} {slg3 : Array (Option Value)} {ocg3 kVg3 dcg3 pmg3 cdg3 ctg3 : Value}
    {odg4 ang4 : Option Addr} {slg4 : Array (Option Value)} {ocg4 kVg4 dcg4 pmg4 cdg4 ctg4 : Value}
    {odg5 ang5 : Option Addr} {slg5 : Array (Option Value)} {ocg5 kVg5 dcg5 pmg5 cdg5 ctg5 : Value}
    {odl0 anl0 : Option Addr} {sll0 : Array (Option Value)} {ocl0 kVl0 dcl0 pml0 cdl0 ctl0 : Value}
    {odl1 anl1 : Option Addr} {sll1 : Array (Option Value)} {ocl1 kVl1 dcl1 pml1 cdl1 ctl1 : Value}
    {odt13 ant13 : Option Addr} {slt13 : Array (Option Value)} {oct13 kVt13 dct13 pmt13 cdt13 ctt13 : Value}
    {odw0 anw0 : Option Addr} {slw0 : Array (Option Value)} {ocw0 kVw0 dcw0 pmw0 cdw0 ctw0 : Value}
    {odw1 anw1 : Option Addr} {slw1 : Array (Option Value)} {ocw1 kVw1 dcw1 pmw1 cdw1 ctw1 : Value}
    {odr0 anr0 : Option Addr} {slr0 : Array (Option Value)} {ocr0 kVr0 dcr0 pmr0 cdr0 ctr0 : Value}
    {odr1 anr1 : Option Addr} {slr1 : Array (Option Value)} {ocr1 kVr1 dcr1 pmr1 cdr1 ctr1 : Value}
    {odr2 anr2 : Option Addr} {slr2 : Array (Option Value)} {ocr2 kVr2 dcr2 pmr2 cdr2 ctr2 : Value}
    {odr3 anr3 : Option Addr} {slr3 : Array (Option Value)} {ocr3 kVr3 dcr3 pmr3 cdr3 ctr3 : Value}
    {odr4 anr4 : Option Addr} {slr4 : Array (Option Value)} {ocr4 kVr4 dcr4 pmr4 cdr4 ctr4 : Value}
    {odc0 anc0 : Option Addr} {slc0 : Array (Option Value)} {occ0 kVc0 dcc0 pmc0 cdc0 ctc0 : Value}
    {odc1 anc1 : Option Addr} {slc1 : Array (Option Value)} {occ1 kVc1 dcc1 pmc1 cdc1 ctc1 : Value}
    {odc2 anc2 : Option Addr} {slc2 : Array (Option Value)} {occ2 kVc2 dcc2 pmc2 cdc2 ctc2 : Value}
    {odt18 ant18 : Option Addr} {slt18 : Array (Option Value)} {oct18 kVt18 dct18 pmt18 cdt18 ctt18 : Value}
    {odx0 anx0 : Option Addr} {slx0 : Array (Option Value)} {ocx0 kVx0 dcx0 pmx0 cdx0 ctx0 : Value}
    {odh0 anh0 : Option Addr} {slh0 : Array (Option Value)} {och0 kVh0 dch0 pmh0 cdh0 cth0 : Value}
    {odh1 anh1 : Option Addr} {slh1 : Array (Option Value)} {och1 kVh1 dch1 pmh1 cdh1 cth1 : Value}
    {odh2 anh2 : Option Addr} {slh2 : Array (Option Value)} {och2 kVh2 dch2 pmh2 cdh2 cth2 : Value}
    {odt24 ant24 : Option Addr} {slt24 : Array (Option Value)} {oct24 kVt24 dct24 pmt24 cdt24 ctt24 : Value}
    {odt25 ant25 : Option Addr} {slt25 : Array (Option Value)} {oct25 kVt25 dct25 pmt25 cdt25 ctt25 : Value}
    {odt26 ant26 : Option Addr} {slt26 : Array (Option Value)} {oct26 kVt26 dct26 pmt26 cdt26 ctt26 : Value}
    {odt27 ant27 : Option Addr} {slt27 : Array (Option Value)} {oct27 kVt27 dct27 pmt27 cdt27 ctt27 : Value}
    {odt28 ant28 : Option Addr} {slt28 : Array (Option Value)} {oct28 kVt28 dct28 pmt28 cdt28 ctt28 : Value}
    {odt29 ant29 : Option Addr} {slt29 : Array (Option Value)} {oct29 kVt29 dct29 pmt29 cdt29 ctt29 : Value}
    {odt30 ant30 : Option Addr} {slt30 : Array (Option Value)} {oct30 kVt30 dct30 pmt30 cdt30 ctt30 : Value}
    {odt31 ant31 : Option Addr} {slt31 : Array (Option Value)} {oct31 kVt31 dct31 pmt31 cdt31 ctt31 : Value}
    {odt32 ant32 : Option Addr} {slt32 : Array (Option Value)} {oct32 kVt32 dct32 pmt32 cdt32 ctt32 : Value}
    {odt33 ant33 : Option Addr} {slt33 : Array (Option Value)} {oct33 kVt33 dct33 pmt33 cdt33 ctt33 : Value}
    {odt34 ant34 : Option Addr} {slt34 : Array (Option Value)} {oct34 kVt34 dct34 pmt34 cdt34 ctt34 : Value}
    {odt35 ant35 : Option Addr} {slt35 : Array (Option Value)} {oct35 kVt35 dct35 pmt35 cdt35 ctt35 : Value}
    {odt36 ant36 : Option Addr} {slt36 : Array (Option Value)} {oct36 kVt36 dct36 pmt36 cdt36 ctt36 : Value}
    {odt37 ant37 : Option Addr} {slt37 : Array (Option Value)} {oct37 kVt37 dct37 pmt37 cdt37 ctt37 : Value}
    {odt38 ant38 : Option Addr} {slt38 : Array (Option Value)} {oct38 kVt38 dct38 pmt38 cdt38 ctt38 : Value}
    {odt39 ant39 : Option Addr} {slt39 : Array (Option Value)} {oct39 kVt39 dct39 pmt39 cdt39 ctt39 : Value}
    {odt40 ant40 : Option Addr} {slt40 : Array (Option Value)} {oct40 kVt40 dct40 pmt40 cdt40 ctt40 : Value}
    {odW odN : Option Addr} {tN tE tS tM tw0 tw1 tw2 tw3 tn0 tn1 tn2 tn3 tn4 tn5 tn6 tn7 tn8 tn9 tn10 tn11 : Tok} {nW nN : Nat} {slW slN : Array (Option Value)}
    {nm q : Str} {N : Addr} {bs : List Value} {sn : List Str} {sub : List Value} {ab : Bool} {col : Option Bool} {dd : Option Addr} {m0 m1 m2 m3 m5 : Option Value}
    (aCD : PySem.W.nsIn K mainGlobals "Die" = some (some (.ref CD)))
    (aCG : PySem.W.nsIn K mainGlobals "Ground" = some (some (.ref CG)))
    (aCL : PySem.W.nsIn K mainGlobals "Lie" = some (some (.ref CL)))
    (aCW : PySem.W.nsIn K mainGlobals "Wish" = some (some (.ref CW)))
    (aCR : PySem.W.nsIn K mainGlobals "Reach" = some (some (.ref CR)))
    (aCC : PySem.W.nsIn K mainGlobals "Costs" = some (some (.ref CC)))
    (aCH : PySem.W.nsIn K mainGlobals "Holder" = some (some (.ref CH)))
    (aCF : PySem.W.nsIn K mainGlobals "Refusal" = some (some (.ref CF)))
    (ad0 : PySem.W.findIn K (.ref CD) "__init__" = some (some (.ref fd0)))
    (id0 : PySem.W.isFn K (.ref fd0) = true)
    (ld0 : K.lookup fd0 = some ⟨ocd0, odd0, .func (PySem.W.fnOf "__init__" "Die.__init__" (defArgs sDieI) (defBody sDieI) (defScope sDieI) .none kVd0 dcd0 pmd0 and0 cdd0 ctd0), sld0⟩)
    (cd0 : PySem.W.codeIn K cdd0 "Die.__init__" = true)
    (kd0 : PySem.W.keepIn K (.ref fd0) = true)
    (ad1 : PySem.W.findIn K (.ref CD) "numbers" = some (some (.ref fd1)))
    (id1 : PySem.W.isFn K (.ref fd1) = true)
    (ld1 : K.lookup fd1 = some ⟨ocd1, odd1, .func (PySem.W.fnOf "numbers" "Die.numbers" (defArgs sNums) (defBody sNums) (defScope sNums) .none kVd1 dcd1 pmd1 and1 cdd1 ctd1), sld1⟩)
    (cd1 : PySem.W.codeIn K cdd1 "Die.numbers" = true)
    (kd1 : PySem.W.keepIn K (.ref fd1) = true)
    (at6 : PySem.W.nsIn K mainGlobals "first_die" = some (some (.ref ft6)))
    (lt6 : K.lookup ft6 = some ⟨oct6, odt6, .func (PySem.W.fnOf "first_die" "first_die" (defArgs sFirst) (defBody sFirst) (defScope sFirst) .none kVt6 dct6 pmt6 ant6 cdt6 ctt6), slt6⟩)
    (ct6 : PySem.W.codeIn K cdt6 "first_die" = true)
    (kt6 : PySem.W.keepIn K (.ref ft6) = true)
    (at7 : PySem.W.nsIn K mainGlobals "rolled" = some (some (.ref ft7)))
    (lt7 : K.lookup ft7 = some ⟨oct7, odt7, .func (PySem.W.fnOf "rolled" "rolled" (defArgs sRolled) (defBody sRolled) (defScope sRolled) .none kVt7 dct7 pmt7 ant7 cdt7 ctt7), slt7⟩)
    (ct7 : PySem.W.codeIn K cdt7 "rolled" = true)
    (kt7 : PySem.W.keepIn K (.ref ft7) = true)
    (at8 : PySem.W.nsIn K mainGlobals "all_dice" = some (some (.ref ft8)))
    (lt8 : K.lookup ft8 = some ⟨oct8, odt8, .func (PySem.W.fnOf "all_dice" "all_dice" (defArgs sAllD) (defBody sAllD) (defScope sAllD) .none kVt8 dct8 pmt8 ant8 cdt8 ctt8), slt8⟩)
    (ct8 : PySem.W.codeIn K cdt8 "all_dice" = true)
    (kt8 : PySem.W.keepIn K (.ref ft8) = true)
    (at9 : PySem.W.nsIn K mainGlobals "die_lying" = some (some (.ref ft9)))
    (lt9 : K.lookup ft9 = some ⟨oct9, odt9, .func (PySem.W.fnOf "die_lying" "die_lying" (defArgs sDieL) (defBody sDieL) (defScope sDieL) .none kVt9 dct9 pmt9 ant9 cdt9 ctt9), slt9⟩)
    (ct9 : PySem.W.codeIn K cdt9 "die_lying" = true)
    (kt9 : PySem.W.keepIn K (.ref ft9) = true)
    (ag0 : PySem.W.findIn K (.ref CG) "__init__" = some (some (.ref fg0)))
    (ig0 : PySem.W.isFn K (.ref fg0) = true)
    (lg0 : K.lookup fg0 = some ⟨ocg0, odg0, .func (PySem.W.fnOf "__init__" "Ground.__init__" (defArgs sGroundI) (defBody sGroundI) (defScope sGroundI) .none kVg0 dcg0 pmg0 ang0 cdg0 ctg0), slg0⟩)
    (cg0 : PySem.W.codeIn K cdg0 "Ground.__init__" = true)
    (kg0 : PySem.W.keepIn K (.ref fg0) = true)
    (ag1 : PySem.W.findIn K (.ref CG) "many" = some (some (.ref fg1)))
    (ig1 : PySem.W.isFn K (.ref fg1) = true)
    (lg1 : K.lookup fg1 = some ⟨ocg1, odg1, .func (PySem.W.fnOf "many" "Ground.many" (defArgs sMany) (defBody sMany) (defScope sMany) .none kVg1 dcg1 pmg1 ang1 cdg1 ctg1), slg1⟩)
    (cg1 : PySem.W.codeIn K cdg1 "Ground.many" = true)
    (kg1 : PySem.W.keepIn K (.ref fg1) = true)
    (ag2 : PySem.W.findIn K (.ref CG) "walls_told" = some (some (.ref fg2)))
    (ig2 : PySem.W.isFn K (.ref fg2) = true)
    (lg2 : K.lookup fg2 = some ⟨ocg2, odg2, .func (PySem.W.fnOf "walls_told" "Ground.walls_told" (defArgs sWallsT) (defBody sWallsT) (defScope sWallsT) .none kVg2 dcg2 pmg2 ang2 cdg2 ctg2), slg2⟩)
    (cg2 : PySem.W.codeIn K cdg2 "Ground.walls_told" = true)
    (kg2 : PySem.W.keepIn K (.ref fg2) = true)
    (ag3 : PySem.W.findIn K (.ref CG) "set_wall" = some (some (.ref fg3)))
    (ig3 : PySem.W.isFn K (.ref fg3) = true)
    (lg3 : K.lookup fg3 = some ⟨ocg3, odg3, .func (PySem.W.fnOf "set_wall" "Ground.set_wall" (defArgs sSetW) (defBody sSetW) (defScope sSetW) .none kVg3 dcg3 pmg3 ang3 cdg3 ctg3), slg3⟩)
    (cg3 : PySem.W.codeIn K cdg3 "Ground.set_wall" = true)
    (kg3 : PySem.W.keepIn K (.ref fg3) = true)
    (ag4 : PySem.W.findIn K (.ref CG) "cell_beside" = some (some (.ref fg4)))
    (ig4 : PySem.W.isFn K (.ref fg4) = true)
    (lg4 : K.lookup fg4 = some ⟨ocg4, odg4, .func (PySem.W.fnOf "cell_beside" "Ground.cell_beside" (defArgs sBeside) (defBody sBeside) (defScope sBeside) .none kVg4 dcg4 pmg4 ang4 cdg4 ctg4), slg4⟩)
    (cg4 : PySem.W.codeIn K cdg4 "Ground.cell_beside" = true)
    (kg4 : PySem.W.keepIn K (.ref fg4) = true)
    (ag5 : PySem.W.findIn K (.ref CG) "cell_to_roll" = some (some (.ref fg5)))
    (ig5 : PySem.W.isFn K (.ref fg5) = true)
    (lg5 : K.lookup fg5 = some ⟨ocg5, odg5, .func (PySem.W.fnOf "cell_to_roll" "Ground.cell_to_roll" (defArgs sToRoll) (defBody sToRoll) (defScope sToRoll) .none kVg5 dcg5 pmg5 ang5 cdg5 ctg5), slg5⟩)
    (cg5 : PySem.W.codeIn K cdg5 "Ground.cell_to_roll" = true)
    (kg5 : PySem.W.keepIn K (.ref fg5) = true)
    (al0 : PySem.W.findIn K (.ref CL) "__init__" = some (some (.ref fl0)))
    (il0 : PySem.W.isFn K (.ref fl0) = true)
    (ll0 : K.lookup fl0 = some ⟨ocl0, odl0, .func (PySem.W.fnOf "__init__" "Lie.__init__" (defArgs sLieI) (defBody sLieI) (defScope sLieI) .none kVl0 dcl0 pml0 anl0 cdl0 ctl0), sll0⟩)
    (cl0 : PySem.W.codeIn K cdl0 "Lie.__init__" = true)
    (kl0 : PySem.W.keepIn K (.ref fl0) = true)
    (al1 : PySem.W.findIn K (.ref CL) "key" = some (some (.ref fl1)))
    (il1 : PySem.W.isFn K (.ref fl1) = true)
    (ll1 : K.lookup fl1 = some ⟨ocl1, odl1, .func (PySem.W.fnOf "key" "Lie.key" (defArgs sKey) (defBody sKey) (defScope sKey) .none kVl1 dcl1 pml1 anl1 cdl1 ctl1), sll1⟩)
    (cl1 : PySem.W.codeIn K cdl1 "Lie.key" = true)
    (kl1 : PySem.W.keepIn K (.ref fl1) = true)
    (at13 : PySem.W.nsIn K mainGlobals "lie_behind" = some (some (.ref ft13)))
    (lt13 : K.lookup ft13 = some ⟨oct13, odt13, .func (PySem.W.fnOf "lie_behind" "lie_behind" (defArgs sBehind) (defBody sBehind) (defScope sBehind) .none kVt13 dct13 pmt13 ant13 cdt13 ctt13), slt13⟩)
    (ct13 : PySem.W.codeIn K cdt13 "lie_behind" = true)
    (kt13 : PySem.W.keepIn K (.ref ft13) = true)
    (aw0 : PySem.W.findIn K (.ref CW) "__init__" = some (some (.ref fw0)))
    (iw0 : PySem.W.isFn K (.ref fw0) = true)
    (lw0 : K.lookup fw0 = some ⟨ocw0, odw0, .func (PySem.W.fnOf "__init__" "Wish.__init__" (defArgs sWishI) (defBody sWishI) (defScope sWishI) .none kVw0 dcw0 pmw0 anw0 cdw0 ctw0), slw0⟩)
    (cw0 : PySem.W.codeIn K cdw0 "Wish.__init__" = true)
    (kw0 : PySem.W.keepIn K (.ref fw0) = true)
    (aw1 : PySem.W.findIn K (.ref CW) "is_met" = some (some (.ref fw1)))
    (iw1 : PySem.W.isFn K (.ref fw1) = true)
    (lw1 : K.lookup fw1 = some ⟨ocw1, odw1, .func (PySem.W.fnOf "is_met" "Wish.is_met" (defArgs sMet) (defBody sMet) (defScope sMet) .none kVw1 dcw1 pmw1 anw1 cdw1 ctw1), slw1⟩)
    (cw1 : PySem.W.codeIn K cdw1 "Wish.is_met" = true)
    (kw1 : PySem.W.keepIn K (.ref fw1) = true)
    (ar0 : PySem.W.findIn K (.ref CR) "__init__" = some (some (.ref fr0)))
    (ir0 : PySem.W.isFn K (.ref fr0) = true)
    (lr0 : K.lookup fr0 = some ⟨ocr0, odr0, .func (PySem.W.fnOf "__init__" "Reach.__init__" (defArgs sReachI) (defBody sReachI) (defScope sReachI) .none kVr0 dcr0 pmr0 anr0 cdr0 ctr0), slr0⟩)
    (cr0 : PySem.W.codeIn K cdr0 "Reach.__init__" = true)
    (kr0 : PySem.W.keepIn K (.ref fr0) = true)
    (ar1 : PySem.W.findIn K (.ref CR) "come_to" = some (some (.ref fr1)))
    (ir1 : PySem.W.isFn K (.ref fr1) = true)
    (lr1 : K.lookup fr1 = some ⟨ocr1, odr1, .func (PySem.W.fnOf "come_to" "Reach.come_to" (defArgs sCome) (defBody sCome) (defScope sCome) .none kVr1 dcr1 pmr1 anr1 cdr1 ctr1), slr1⟩)
    (cr1 : PySem.W.codeIn K cdr1 "Reach.come_to" = true)
    (kr1 : PySem.W.keepIn K (.ref fr1) = true)
    (ar2 : PySem.W.findIn K (.ref CR) "rolls_to" = some (some (.ref fr2)))
    (ir2 : PySem.W.isFn K (.ref fr2) = true)
    (lr2 : K.lookup fr2 = some ⟨ocr2, odr2, .func (PySem.W.fnOf "rolls_to" "Reach.rolls_to" (defArgs sRolls) (defBody sRolls) (defScope sRolls) .none kVr2 dcr2 pmr2 anr2 cdr2 ctr2), slr2⟩)
    (cr2 : PySem.W.codeIn K cdr2 "Reach.rolls_to" = true)
    (kr2 : PySem.W.keepIn K (.ref fr2) = true)
    (ar3 : PySem.W.findIn K (.ref CR) "plan_to" = some (some (.ref fr3)))
    (ir3 : PySem.W.isFn K (.ref fr3) = true)
    (lr3 : K.lookup fr3 = some ⟨ocr3, odr3, .func (PySem.W.fnOf "plan_to" "Reach.plan_to" (defArgs sPlanTo) (defBody sPlanTo) (defScope sPlanTo) .none kVr3 dcr3 pmr3 anr3 cdr3 ctr3), slr3⟩)
    (cr3 : PySem.W.codeIn K cdr3 "Reach.plan_to" = true)
    (kr3 : PySem.W.keepIn K (.ref fr3) = true)
    (ar4 : PySem.W.findIn K (.ref CR) "tops_on" = some (some (.ref fr4)))
    (ir4 : PySem.W.isFn K (.ref fr4) = true)
    (lr4 : K.lookup fr4 = some ⟨ocr4, odr4, .func (PySem.W.fnOf "tops_on" "Reach.tops_on" (defArgs sTopsOn) (defBody sTopsOn) (defScope sTopsOn) .none kVr4 dcr4 pmr4 anr4 cdr4 ctr4), slr4⟩)
    (cr4 : PySem.W.codeIn K cdr4 "Reach.tops_on" = true)
    (kr4 : PySem.W.keepIn K (.ref fr4) = true)
    (ac0 : PySem.W.findIn K (.ref CC) "__init__" = some (some (.ref fc0)))
    (ic0 : PySem.W.isFn K (.ref fc0) = true)
    (lc0 : K.lookup fc0 = some ⟨occ0, odc0, .func (PySem.W.fnOf "__init__" "Costs.__init__" (defArgs sCostsI) (defBody sCostsI) (defScope sCostsI) .none kVc0 dcc0 pmc0 anc0 cdc0 ctc0), slc0⟩)
    (cc0 : PySem.W.codeIn K cdc0 "Costs.__init__" = true)
    (kc0 : PySem.W.keepIn K (.ref fc0) = true)
    (ac1 : PySem.W.findIn K (.ref CC) "wait" = some (some (.ref fc1)))
    (ic1 : PySem.W.isFn K (.ref fc1) = true)
    (lc1 : K.lookup fc1 = some ⟨occ1, odc1, .func (PySem.W.fnOf "wait" "Costs.wait" (defArgs sWait) (defBody sWait) (defScope sWait) .none kVc1 dcc1 pmc1 anc1 cdc1 ctc1), slc1⟩)
    (cc1 : PySem.W.codeIn K cdc1 "Costs.wait" = true)
    (kc1 : PySem.W.keepIn K (.ref fc1) = true)
    (ac2 : PySem.W.findIn K (.ref CC) "settle" = some (some (.ref fc2)))
    (ic2 : PySem.W.isFn K (.ref fc2) = true)
    (lc2 : K.lookup fc2 = some ⟨occ2, odc2, .func (PySem.W.fnOf "settle" "Costs.settle" (defArgs sSettle) (defBody sSettle) (defScope sSettle) .none kVc2 dcc2 pmc2 anc2 cdc2 ctc2), slc2⟩)
    (cc2 : PySem.W.codeIn K cdc2 "Costs.settle" = true)
    (kc2 : PySem.W.keepIn K (.ref fc2) = true)
    (at18 : PySem.W.nsIn K mainGlobals "least_cost" = some (some (.ref ft18)))
    (lt18 : K.lookup ft18 = some ⟨oct18, odt18, .func (PySem.W.fnOf "least_cost" "least_cost" (defArgs sLeastC) (defBody sLeastC) (defScope sLeastC) .none kVt18 dct18 pmt18 ant18 cdt18 ctt18), slt18⟩)
    (ct18 : PySem.W.codeIn K cdt18 "least_cost" = true)
    (kt18 : PySem.W.keepIn K (.ref ft18) = true)
    (ax0 : PySem.W.findIn K (.ref CF) "__init__" = some (some (.ref fx0)))
    (lx0 : K.lookup fx0 = some ⟨ocx0, odx0, .func (PySem.W.fnOf "__init__" "Refusal.__init__" (defArgs sRefI) (defBody sRefI) (defScope sRefI) .none kVx0 dcx0 pmx0 anx0 cdx0 ctx0), slx0⟩)
    (cx0 : PySem.W.codeIn K cdx0 "Refusal.__init__" = true)
    (kx0 : PySem.W.keepIn K (.ref fx0) = true)
    (ah0 : PySem.W.findIn K (.ref CH) "__init__" = some (some (.ref fh0)))
    (ih0 : PySem.W.isFn K (.ref fh0) = true)
    (lh0 : K.lookup fh0 = some ⟨och0, odh0, .func (PySem.W.fnOf "__init__" "Holder.__init__" (defArgs sHolderI) (defBody sHolderI) (defScope sHolderI) .none kVh0 dch0 pmh0 anh0 cdh0 cth0), slh0⟩)
    (ch0 : PySem.W.codeIn K cdh0 "Holder.__init__" = true)
    (kh0 : PySem.W.keepIn K (.ref fh0) = true)
    (ah1 : PySem.W.findIn K (.ref CH) "begin" = some (some (.ref fh1)))
    (ih1 : PySem.W.isFn K (.ref fh1) = true)
    (lh1 : K.lookup fh1 = some ⟨och1, odh1, .func (PySem.W.fnOf "begin" "Holder.begin" (defArgs sBegin) (defBody sBegin) (defScope sBegin) .none kVh1 dch1 pmh1 anh1 cdh1 cth1), slh1⟩)
    (ch1 : PySem.W.codeIn K cdh1 "Holder.begin" = true)
    (kh1 : PySem.W.keepIn K (.ref fh1) = true)
    (ah2 : PySem.W.findIn K (.ref CH) "reach" = some (some (.ref fh2)))
    (ih2 : PySem.W.isFn K (.ref fh2) = true)
    (lh2 : K.lookup fh2 = some ⟨och2, odh2, .func (PySem.W.fnOf "reach" "Holder.reach" (defArgs sReachO) (defBody sReachO) (defScope sReachO) .none kVh2 dch2 pmh2 anh2 cdh2 cth2), slh2⟩)
    (ch2 : PySem.W.codeIn K cdh2 "Holder.reach" = true)
    (kh2 : PySem.W.keepIn K (.ref fh2) = true)
    (at24 : PySem.W.nsIn K mainGlobals "must" = some (some (.ref ft24)))
    (lt24 : K.lookup ft24 = some ⟨oct24, odt24, .func (PySem.W.fnOf "must" "must" (defArgs sMust) (defBody sMust) (defScope sMust) .none kVt24 dct24 pmt24 ant24 cdt24 ctt24), slt24⟩)
    (ct24 : PySem.W.codeIn K cdt24 "must" = true)
    (kt24 : PySem.W.keepIn K (.ref ft24) = true)
    (at25 : PySem.W.nsIn K mainGlobals "counted" = some (some (.ref ft25)))
    (lt25 : K.lookup ft25 = some ⟨oct25, odt25, .func (PySem.W.fnOf "counted" "counted" (defArgs sCounted) (defBody sCounted) (defScope sCounted) .none kVt25 dct25 pmt25 ant25 cdt25 ctt25), slt25⟩)
    (ct25 : PySem.W.codeIn K cdt25 "counted" = true)
    (kt25 : PySem.W.keepIn K (.ref ft25) = true)
    (at26 : PySem.W.nsIn K mainGlobals "must_be_cell" = some (some (.ref ft26)))
    (lt26 : K.lookup ft26 = some ⟨oct26, odt26, .func (PySem.W.fnOf "must_be_cell" "must_be_cell" (defArgs sCell) (defBody sCell) (defScope sCell) .none kVt26 dct26 pmt26 ant26 cdt26 ctt26), slt26⟩)
    (ct26 : PySem.W.codeIn K cdt26 "must_be_cell" = true)
    (kt26 : PySem.W.keepIn K (.ref ft26) = true)
    (at27 : PySem.W.nsIn K mainGlobals "begins" = some (some (.ref ft27)))
    (lt27 : K.lookup ft27 = some ⟨oct27, odt27, .func (PySem.W.fnOf "begins" "begins" (defArgs sBegins) (defBody sBegins) (defScope sBegins) .none kVt27 dct27 pmt27 ant27 cdt27 ctt27), slt27⟩)
    (ct27 : PySem.W.codeIn K cdt27 "begins" = true)
    (kt27 : PySem.W.keepIn K (.ref ft27) = true)
    (at28 : PySem.W.nsIn K mainGlobals "wall" = some (some (.ref ft28)))
    (lt28 : K.lookup ft28 = some ⟨oct28, odt28, .func (PySem.W.fnOf "wall" "wall" (defArgs sWallO) (defBody sWallO) (defScope sWallO) .none kVt28 dct28 pmt28 ant28 cdt28 ctt28), slt28⟩)
    (ct28 : PySem.W.codeIn K cdt28 "wall" = true)
    (kt28 : PySem.W.keepIn K (.ref ft28) = true)
    (at29 : PySem.W.nsIn K mainGlobals "put" = some (some (.ref ft29)))
    (lt29 : K.lookup ft29 = some ⟨oct29, odt29, .func (PySem.W.fnOf "put" "put" (defArgs sPutO) (defBody sPutO) (defScope sPutO) .none kVt29 dct29 pmt29 ant29 cdt29 ctt29), slt29⟩)
    (ct29 : PySem.W.codeIn K cdt29 "put" = true)
    (kt29 : PySem.W.keepIn K (.ref ft29) = true)
    (at30 : PySem.W.nsIn K mainGlobals "roll" = some (some (.ref ft30)))
    (lt30 : K.lookup ft30 = some ⟨oct30, odt30, .func (PySem.W.fnOf "roll" "roll" (defArgs sRollO) (defBody sRollO) (defScope sRollO) .none kVt30 dct30 pmt30 ant30 cdt30 ctt30), slt30⟩)
    (ct30 : PySem.W.codeIn K cdt30 "roll" = true)
    (kt30 : PySem.W.keepIn K (.ref ft30) = true)
    (at31 : PySem.W.nsIn K mainGlobals "goal" = some (some (.ref ft31)))
    (lt31 : K.lookup ft31 = some ⟨oct31, odt31, .func (PySem.W.fnOf "goal" "goal" (defArgs sGoalO) (defBody sGoalO) (defScope sGoalO) .none kVt31 dct31 pmt31 ant31 cdt31 ctt31), slt31⟩)
    (ct31 : PySem.W.codeIn K cdt31 "goal" = true)
    (kt31 : PySem.W.keepIn K (.ref ft31) = true)
    (at32 : PySem.W.nsIn K mainGlobals "plan_of" = some (some (.ref ft32)))
    (lt32 : K.lookup ft32 = some ⟨oct32, odt32, .func (PySem.W.fnOf "plan_of" "plan_of" (defArgs sPlanOf) (defBody sPlanOf) (defScope sPlanOf) .none kVt32 dct32 pmt32 ant32 cdt32 ctt32), slt32⟩)
    (ct32 : PySem.W.codeIn K cdt32 "plan_of" = true)
    (kt32 : PySem.W.keepIn K (.ref ft32) = true)
    (at33 : PySem.W.nsIn K mainGlobals "plan" = some (some (.ref ft33)))
    (lt33 : K.lookup ft33 = some ⟨oct33, odt33, .func (PySem.W.fnOf "plan" "plan" (defArgs sPlanO) (defBody sPlanO) (defScope sPlanO) .none kVt33 dct33 pmt33 ant33 cdt33 ctt33), slt33⟩)
    (ct33 : PySem.W.codeIn K cdt33 "plan" = true)
    (kt33 : PySem.W.keepIn K (.ref ft33) = true)
    (at34 : PySem.W.nsIn K mainGlobals "least" = some (some (.ref ft34)))
    (lt34 : K.lookup ft34 = some ⟨oct34, odt34, .func (PySem.W.fnOf "least" "least" (defArgs sLeastO) (defBody sLeastO) (defScope sLeastO) .none kVt34 dct34 pmt34 ant34 cdt34 ctt34), slt34⟩)
    (ct34 : PySem.W.codeIn K cdt34 "least" = true)
    (kt34 : PySem.W.keepIn K (.ref ft34) = true)
    (at35 : PySem.W.nsIn K mainGlobals "tops" = some (some (.ref ft35)))
    (lt35 : K.lookup ft35 = some ⟨oct35, odt35, .func (PySem.W.fnOf "tops" "tops" (defArgs sTopsO) (defBody sTopsO) (defScope sTopsO) .none kVt35 dct35 pmt35 ant35 cdt35 ctt35), slt35⟩)
    (ct35 : PySem.W.codeIn K cdt35 "tops" = true)
    (kt35 : PySem.W.keepIn K (.ref ft35) = true)
    (at36 : PySem.W.nsIn K mainGlobals "state" = some (some (.ref ft36)))
    (lt36 : K.lookup ft36 = some ⟨oct36, odt36, .func (PySem.W.fnOf "state" "state" (defArgs sStateO) (defBody sStateO) (defScope sStateO) .none kVt36 dct36 pmt36 ant36 cdt36 ctt36), slt36⟩)
    (ct36 : PySem.W.codeIn K cdt36 "state" = true)
    (kt36 : PySem.W.keepIn K (.ref ft36) = true)
    (at37 : PySem.W.nsIn K mainGlobals "told_alone" = some (some (.ref ft37)))
    (lt37 : K.lookup ft37 = some ⟨oct37, odt37, .func (PySem.W.fnOf "told_alone" "told_alone" (defArgs sAlone) (defBody sAlone) (defScope sAlone) .none kVt37 dct37 pmt37 ant37 cdt37 ctt37), slt37⟩)
    (ct37 : PySem.W.codeIn K cdt37 "told_alone" = true)
    (kt37 : PySem.W.keepIn K (.ref ft37) = true)
    (at38 : PySem.W.nsIn K mainGlobals "told" = some (some (.ref ft38)))
    (lt38 : K.lookup ft38 = some ⟨oct38, odt38, .func (PySem.W.fnOf "told" "told" (defArgs sTold) (defBody sTold) (defScope sTold) .none kVt38 dct38 pmt38 ant38 cdt38 ctt38), slt38⟩)
    (ct38 : PySem.W.codeIn K cdt38 "told" = true)
    (kt38 : PySem.W.keepIn K (.ref ft38) = true)
    (at39 : PySem.W.nsIn K mainGlobals "answer" = some (some (.ref ft39)))
    (lt39 : K.lookup ft39 = some ⟨oct39, odt39, .func (PySem.W.fnOf "answer" "answer" (defArgs sAnswer) (defBody sAnswer) (defScope sAnswer) .none kVt39 dct39 pmt39 ant39 cdt39 ctt39), slt39⟩)
    (ct39 : PySem.W.codeIn K cdt39 "answer" = true)
    (kt39 : PySem.W.keepIn K (.ref ft39) = true)
    (at40 : PySem.W.nsIn K mainGlobals "answers" = some (some (.ref ft40)))
    (lt40 : K.lookup ft40 = some ⟨oct40, odt40, .func (PySem.W.fnOf "answers" "answers" (defArgs sAns) (defBody sAns) (defScope sAns) .none kVt40 dct40 pmt40 ant40 cdt40 ctt40), slt40⟩)
    (ct40 : PySem.W.codeIn K cdt40 "answers" = true)
    (kt40 : PySem.W.keepIn K (.ref ft40) = true)
    (pgD : PySem.W.plainGet K CD Str.empty = true)
    (hdD : PySem.W.hasDictIn K CD = true)
    (poD : PySem.W.plainOver K CD = true)
    (saD : PySem.W.findIn K (.ref CD) "__setattr__" = some (some (.builtin "object.__setattr__")))
    (mkD : PySem.W.makesIn K CD = true)
    (kcD : PySem.W.keepIn K (.ref CD) = true)
    (n0D : PySem.W.findIn K (.ref CD) "top" = some none)
    (n1D : PySem.W.findIn K (.ref CD) "north" = some none)
    (n2D : PySem.W.findIn K (.ref CD) "east" = some none)
    (pgG : PySem.W.plainGet K CG Str.empty = true)
    (hdG : PySem.W.hasDictIn K CG = true)
    (poG : PySem.W.plainOver K CG = true)
    (saG : PySem.W.findIn K (.ref CG) "__setattr__" = some (some (.builtin "object.__setattr__")))
    (mkG : PySem.W.makesIn K CG = true)
    (kcG : PySem.W.keepIn K (.ref CG) = true)
    (n0G : PySem.W.findIn K (.ref CG) "rows" = some none)
    (n1G : PySem.W.findIn K (.ref CG) "columns" = some none)
    (n2G : PySem.W.findIn K (.ref CG) "walls" = some none)
    (pgL : PySem.W.plainGet K CL Str.empty = true)
    (hdL : PySem.W.hasDictIn K CL = true)
    (poL : PySem.W.plainOver K CL = true)
    (saL : PySem.W.findIn K (.ref CL) "__setattr__" = some (some (.builtin "object.__setattr__")))
    (mkL : PySem.W.makesIn K CL = true)
    (kcL : PySem.W.keepIn K (.ref CL) = true)
    (n0L : PySem.W.findIn K (.ref CL) "cell" = some none)
    (n1L : PySem.W.findIn K (.ref CL) "die" = some none)
    (pgW : PySem.W.plainGet K CW Str.empty = true)
    (hdW : PySem.W.hasDictIn K CW = true)
    (poW : PySem.W.plainOver K CW = true)
    (saW : PySem.W.findIn K (.ref CW) "__setattr__" = some (some (.builtin "object.__setattr__")))
    (mkW : PySem.W.makesIn K CW = true)
    (kcW : PySem.W.keepIn K (.ref CW) = true)
    (n0W : PySem.W.findIn K (.ref CW) "cell" = some none)
    (n1W : PySem.W.findIn K (.ref CW) "top" = some none)
    (pgR : PySem.W.plainGet K CR Str.empty = true)
    (hdR : PySem.W.hasDictIn K CR = true)
    (poR : PySem.W.plainOver K CR = true)
    (saR : PySem.W.findIn K (.ref CR) "__setattr__" = some (some (.builtin "object.__setattr__")))
    (mkR : PySem.W.makesIn K CR = true)
    (kcR : PySem.W.keepIn K (.ref CR) = true)
    (n0R : PySem.W.findIn K (.ref CR) "lies" = some none)
    (n1R : PySem.W.findIn K (.ref CR) "origins" = some none)
    (n2R : PySem.W.findIn K (.ref CR) "known" = some none)
    (pgC : PySem.W.plainGet K CC Str.empty = true)
    (hdC : PySem.W.hasDictIn K CC = true)
    (poC : PySem.W.plainOver K CC = true)
    (saC : PySem.W.findIn K (.ref CC) "__setattr__" = some (some (.builtin "object.__setattr__")))
    (mkC : PySem.W.makesIn K CC = true)
    (kcC : PySem.W.keepIn K (.ref CC) = true)
    (n0C : PySem.W.findIn K (.ref CC) "ground" = some none)
    (n1C : PySem.W.findIn K (.ref CC) "waiting" = some none)
    (n2C : PySem.W.findIn K (.ref CC) "settled" = some none)
    (pgH : PySem.W.plainGet K CH Str.empty = true)
    (hdH : PySem.W.hasDictIn K CH = true)
    (poH : PySem.W.plainOver K CH = true)
    (saH : PySem.W.findIn K (.ref CH) "__setattr__" = some (some (.builtin "object.__setattr__")))
    (mkH : PySem.W.makesIn K CH = true)
    (kcH : PySem.W.keepIn K (.ref CH) = true)
    (n0H : PySem.W.findIn K (.ref CH) "ground" = some none)
    (n1H : PySem.W.findIn K (.ref CH) "lie" = some none)
    (n2H : PySem.W.findIn K (.ref CH) "wish" = some none)
    (n3H : PySem.W.findIn K (.ref CH) "rolls" = some none)
    (n4H : PySem.W.findIn K (.ref CH) "cost" = some none)
    (z_list : PySem.W.nsIn K mainGlobals "list" = some none)
    (z_reversed : PySem.W.nsIn K mainGlobals "reversed" = some none)
    (z_enumerate : PySem.W.nsIn K mainGlobals "enumerate" = some none)
    (z_sorted : PySem.W.nsIn K mainGlobals "sorted" = some none)
    (z_set : PySem.W.nsIn K mainGlobals "set" = some none)
    (z_len : PySem.W.nsIn K mainGlobals "len" = some none)
    (z_min : PySem.W.nsIn K mainGlobals "min" = some none)
    (z_any : PySem.W.nsIn K mainGlobals "any" = some none)
    (z_ValueError : PySem.W.nsIn K mainGlobals "ValueError" = some none)
    (vN : PySem.W.nsIn K mainGlobals "NORTH" = some (some (.int 0 tN)))
    (vE : PySem.W.nsIn K mainGlobals "EAST" = some (some (.int 1 tE)))
    (vS : PySem.W.nsIn K mainGlobals "SOUTH" = some (some (.int 2 tS)))
    (vM : PySem.W.nsIn K mainGlobals "MOST_SIDE" = some (some (.int 5 tM)))
    (vW : PySem.W.nsIn K mainGlobals "WAYS" = some (some (.ref aW)))
    (lW : K.lookup aW = some ⟨.type "tuple", odW, .seq #[.int 0 tw0, .int 1 tw1, .int 2 tw2, .int 3 tw3] nW, slW⟩)
    (vT : PySem.W.nsIn K mainGlobals "NUMBERS" = some (some (.ref aN)))
    (lT : K.lookup aN = some ⟨.type "tuple", odN, .seq #[.int 2 tn0, .int 2 tn1, .int 3 tn2, .int 1 tn3, .int 2 tn4, .int 0 tn5, .int 0 tn6, .int 0 tn7, .int 1 tn8, .int 0 tn9, .int 0 tn10, .int 0 tn11] nN, slN⟩)
    (xL : K.lookup CF = some (excClassObj nm q CF N bs [.type "ValueError", .type "Exception", .type "BaseException", .type "object"] true sn sub ab col dd m0 m1 m2 m3 m5 "ValueError.__new__"))
    (xsa : PySem.W.findIn K (.ref CF) "__setattr__" = some (some (.builtin "object.__setattr__")))
    (xga : PySem.W.findIn K (.ref CF) "__getattribute__" = some (some (.builtin "BaseException.__getattribute__")))
    (xgg : PySem.W.findIn K (.ref CF) "__getattr__" = some none)
    (xnN : PySem.W.findIn K (.ref CF) "number" = some none)
    (xtI : PySem.W.typeIn K (.ref fx0) = some (.type "function"))
    (xkC : PySem.W.keepIn K (.ref CF) = true)
    (xeC : PySem.W.subIn K (.ref CF) (.type "BaseException") = some true)
    (xtC : PySem.W.typeIn K (.ref CF) = some (.type "type"))
    (xhC : PySem.W.hasDictIn K CF = true)
    (xiC : PySem.W.isClsIn K CF = true)
    (xsC : PySem.W.subIn K (.ref CF) (.ref CF) = some true)
    (xvV : PySem.W.findCls K (.type "ValueError") (.type "type") "__init__" = some (.val (.builtin "ValueError.__init__")))
    :
    ∃ fd : FuncData, (∀ (s : Shared) (us : List Value), us.length = (["calls"] : List Str).length → BindsTo s fd ⟨us, []⟩ ((["calls"] : List Str).zip us)) ∧ ∀ base : Heap, K.In base → base.Ns mainGlobals mg → FnOk P w K mg base CX0 13 fa fd ["calls"] (spAns K) := by
  have e := hfa.symm.trans (PySem.W.mg_of X G at40)
  cases e
  have TD : TDie K mg ⟨CD, CG, CL, CW, CR, CC, CH, CF⟩ := ⟨⟨pgD, hdD, poD, saD⟩, n0D, n1D, n2D, PySem.W.mg_of X G aCD⟩
  have TL : TLie K mg ⟨CD, CG, CL, CW, CR, CC, CH, CF⟩ := ⟨⟨pgL, hdL, poL, saL⟩, n0L, n1L, PySem.W.mg_of X G aCL⟩
  have TW : TWish K mg ⟨CD, CG, CL, CW, CR, CC, CH, CF⟩ := ⟨⟨pgW, hdW, poW, saW⟩, n0W, n1W, PySem.W.mg_of X G aCW⟩
  have TR : TReach K mg ⟨CD, CG, CL, CW, CR, CC, CH, CF⟩ := ⟨⟨pgR, hdR, poR, saR⟩, n0R, n1R, n2R, PySem.W.mg_of X G aCR⟩
  have TC : TCosts K mg ⟨CD, CG, CL, CW, CR, CC, CH, CF⟩ := ⟨⟨pgC, hdC, poC, saC⟩, n0C, n1C, n2C, PySem.W.mg_of X G aCC⟩
  have TH : THolder K mg ⟨CD, CG, CL, CW, CR, CC, CH, CF⟩ := ⟨⟨pgH, hdH, poH, saH⟩, n0H, n1H, n2H, n3H, n4H, PySem.W.mg_of X G aCH⟩
  have TG : TGround K mg ⟨CD, CG, CL, CW, CR, CC, CH, CF⟩ := ⟨⟨pgG, hdG, poG, saG⟩, n0G, n1G, n2G, PySem.W.mg_of X G aCG, PySem.W.mg_none_of X G z_sorted, PySem.W.mg_none_of X G z_list⟩
  have TY : TWays K mg := ⟨⟨tN, PySem.W.mg_of X G vN⟩, ⟨tE, PySem.W.mg_of X G vE⟩, ⟨tS, PySem.W.mg_of X G vS⟩, ⟨aW, PySem.W.mg_of X G vW, fun H => .inr ⟨_, _, _, lW, rfl, rfl, (by show 4 ≤ sizeLine; decide), .cons ⟨tw0, rfl⟩ (.cons ⟨tw1, rfl⟩ (.cons ⟨tw2, rfl⟩ (.cons ⟨tw3, rfl⟩ .nil)))⟩⟩, PySem.W.mg_none_of X G z_len⟩
  have TT : TTab K mg := ⟨⟨aN, PySem.W.mg_of X G vT, fun H => .inr ⟨_, _, _, lT, rfl, rfl, (by show 12 ≤ sizeLine; decide), .cons ⟨tn0, rfl⟩ (.cons ⟨tn1, rfl⟩ (.cons ⟨tn2, rfl⟩ (.cons ⟨tn3, rfl⟩ (.cons ⟨tn4, rfl⟩ (.cons ⟨tn5, rfl⟩ (.cons ⟨tn6, rfl⟩ (.cons ⟨tn7, rfl⟩ (.cons ⟨tn8, rfl⟩ (.cons ⟨tn9, rfl⟩ (.cons ⟨tn10, rfl⟩ (.cons ⟨tn11, rfl⟩ (.nil))))))))))))⟩⟩⟩
  have TN : TNames mg := ⟨PySem.W.mg_none_of X G z_list, PySem.W.mg_none_of X G z_reversed, PySem.W.mg_none_of X G z_enumerate, PySem.W.mg_none_of X G z_sorted, PySem.W.mg_none_of X G z_set, PySem.W.mg_none_of X G z_len, PySem.W.mg_none_of X G z_min, PySem.W.mg_none_of X G z_any⟩
  have TM : TNums mg := ⟨⟨tM, PySem.W.mg_of X G vM⟩⟩
  have TX : TExc K mg ⟨CD, CG, CL, CW, CR, CC, CH, CF⟩ fx0 := ⟨⟨⟨nm, q, N, bs, _, sn, sub, ab, col, dd, m0, m1, m2, m3, m5, xL, by decide +kernel⟩, xsa, xeC, xtC, xkC⟩, ⟨xga, xgg, xeC, xhC⟩, xnN, ax0, xtI, PySem.W.mg_of X G aCF, PySem.W.mg_none_of X G z_ValueError, xvV, exm_self xeC xiC xtC xsC⟩
  have Fd0 := fun_mk (st := sDieI) ld0 cd0 kd0
  have bd0 := Fd0.binds (ps := ["self", "top", "north", "east"]) fun _ _ _ _ _ _ us hl => match us, hl with | [_, _, _, _], _ => rfl
  have Fd1 := fun_mk (st := sNums) ld1 cd1 kd1
  have bd1 := Fd1.binds (ps := ["self"]) fun _ _ _ _ _ _ us hl => match us, hl with | [_], _ => rfl
  have Ft6 := fun_mk (st := sFirst) lt6 ct6 kt6
  have bt6 := Ft6.binds (ps := []) fun _ _ _ _ _ _ us hl => match us, hl with | [], _ => rfl
  have Ft7 := fun_mk (st := sRolled) lt7 ct7 kt7
  have bt7 := Ft7.binds (ps := ["die", "way"]) fun _ _ _ _ _ _ us hl => match us, hl with | [_, _], _ => rfl
  have Ft8 := fun_mk (st := sAllD) lt8 ct8 kt8
  have bt8 := Ft8.binds (ps := []) fun _ _ _ _ _ _ us hl => match us, hl with | [], _ => rfl
  have Ft9 := fun_mk (st := sDieL) lt9 ct9 kt9
  have bt9 := Ft9.binds (ps := ["top", "north"]) fun _ _ _ _ _ _ us hl => match us, hl with | [_, _], _ => rfl
  have Fg0 := fun_mk (st := sGroundI) lg0 cg0 kg0
  have bg0 := Fg0.binds (ps := ["self", "rows", "columns"]) fun _ _ _ _ _ _ us hl => match us, hl with | [_, _, _], _ => rfl
  have Fg1 := fun_mk (st := sMany) lg1 cg1 kg1
  have bg1 := Fg1.binds (ps := ["self"]) fun _ _ _ _ _ _ us hl => match us, hl with | [_], _ => rfl
  have Fg2 := fun_mk (st := sWallsT) lg2 cg2 kg2
  have bg2 := Fg2.binds (ps := ["self"]) fun _ _ _ _ _ _ us hl => match us, hl with | [_], _ => rfl
  have Fg3 := fun_mk (st := sSetW) lg3 cg3 kg3
  have bg3 := Fg3.binds (ps := ["self", "cell", "is_wall"]) fun _ _ _ _ _ _ us hl => match us, hl with | [_, _, _], _ => rfl
  have Fg4 := fun_mk (st := sBeside) lg4 cg4 kg4
  have bg4 := Fg4.binds (ps := ["self", "cell", "way"]) fun _ _ _ _ _ _ us hl => match us, hl with | [_, _, _], _ => rfl
  have Fg5 := fun_mk (st := sToRoll) lg5 cg5 kg5
  have bg5 := Fg5.binds (ps := ["self", "cell", "way"]) fun _ _ _ _ _ _ us hl => match us, hl with | [_, _, _], _ => rfl
  have Fl0 := fun_mk (st := sLieI) ll0 cl0 kl0
  have bl0 := Fl0.binds (ps := ["self", "cell", "die"]) fun _ _ _ _ _ _ us hl => match us, hl with | [_, _, _], _ => rfl
  have Fl1 := fun_mk (st := sKey) ll1 cl1 kl1
  have bl1 := Fl1.binds (ps := ["self"]) fun _ _ _ _ _ _ us hl => match us, hl with | [_], _ => rfl
  have Ft13 := fun_mk (st := sBehind) lt13 ct13 kt13
  have bt13 := Ft13.binds (ps := ["ground", "lie", "way"]) fun _ _ _ _ _ _ us hl => match us, hl with | [_, _, _], _ => rfl
  have Fw0 := fun_mk (st := sWishI) lw0 cw0 kw0
  have bw0 := Fw0.binds (ps := ["self", "cell", "top"]) fun _ _ _ _ _ _ us hl => match us, hl with | [_, _, _], _ => rfl
  have Fw1 := fun_mk (st := sMet) lw1 cw1 kw1
  have bw1 := Fw1.binds (ps := ["self", "lie"]) fun _ _ _ _ _ _ us hl => match us, hl with | [_, _], _ => rfl
  have Fr0 := fun_mk (st := sReachI) lr0 cr0 kr0
  have br0 := Fr0.binds (ps := ["self", "ground", "lie"]) fun _ _ _ _ _ _ us hl => match us, hl with | [_, _, _], _ => rfl
  have Fr1 := fun_mk (st := sCome) lr1 cr1 kr1
  have br1 := Fr1.binds (ps := ["self", "lie", "at", "way"]) fun _ _ _ _ _ _ us hl => match us, hl with | [_, _, _, _], _ => rfl
  have Fr2 := fun_mk (st := sRolls) lr2 cr2 kr2
  have br2 := Fr2.binds (ps := ["self", "number"]) fun _ _ _ _ _ _ us hl => match us, hl with | [_, _], _ => rfl
  have Fr3 := fun_mk (st := sPlanTo) lr3 cr3 kr3
  have br3 := Fr3.binds (ps := ["self", "wish"]) fun _ _ _ _ _ _ us hl => match us, hl with | [_, _], _ => rfl
  have Fr4 := fun_mk (st := sTopsOn) lr4 cr4 kr4
  have br4 := Fr4.binds (ps := ["self", "cell"]) fun _ _ _ _ _ _ us hl => match us, hl with | [_, _], _ => rfl
  have Fc0 := fun_mk (st := sCostsI) lc0 cc0 kc0
  have bc0 := Fc0.binds (ps := ["self", "ground", "lie"]) fun _ _ _ _ _ _ us hl => match us, hl with | [_, _, _], _ => rfl
  have Fc1 := fun_mk (st := sWait) lc1 cc1 kc1
  have bc1 := Fc1.binds (ps := ["self", "lie", "cost"]) fun _ _ _ _ _ _ us hl => match us, hl with | [_, _, _], _ => rfl
  have Fc2 := fun_mk (st := sSettle) lc2 cc2 kc2
  have bc2 := Fc2.binds (ps := ["self", "lie", "cost"]) fun _ _ _ _ _ _ us hl => match us, hl with | [_, _, _], _ => rfl
  have Ft18 := fun_mk (st := sLeastC) lt18 ct18 kt18
  have bt18 := Ft18.binds (ps := ["ground", "lie", "wish"]) fun _ _ _ _ _ _ us hl => match us, hl with | [_, _, _], _ => rfl
  have Fx0 := fun_mk (st := sRefI) lx0 cx0 kx0
  have bx0 := Fx0.binds (ps := ["self", "number"]) fun _ _ _ _ _ _ us hl => match us, hl with | [_, _], _ => rfl
  have Fh0 := fun_mk (st := sHolderI) lh0 ch0 kh0
  have bh0 := Fh0.binds (ps := ["self", "rows", "columns"]) fun _ _ _ _ _ _ us hl => match us, hl with | [_, _, _], _ => rfl
  have Fh1 := fun_mk (st := sBegin) lh1 ch1 kh1
  have bh1 := Fh1.binds (ps := ["self", "rows", "columns"]) fun _ _ _ _ _ _ us hl => match us, hl with | [_, _, _], _ => rfl
  have Fh2 := fun_mk (st := sReachO) lh2 ch2 kh2
  have bh2 := Fh2.binds (ps := ["self"]) fun _ _ _ _ _ _ us hl => match us, hl with | [_], _ => rfl
  have Ft24 := fun_mk (st := sMust) lt24 ct24 kt24
  have bt24 := Ft24.binds (ps := ["truth", "number"]) fun _ _ _ _ _ _ us hl => match us, hl with | [_, _], _ => rfl
  have Ft25 := fun_mk (st := sCounted) lt25 ct25 kt25
  have bt25 := Ft25.binds (ps := ["numbers"]) fun _ _ _ _ _ _ us hl => match us, hl with | [_], _ => rfl
  have Ft26 := fun_mk (st := sCell) lt26 ct26 kt26
  have bt26 := Ft26.binds (ps := ["holder", "cell"]) fun _ _ _ _ _ _ us hl => match us, hl with | [_, _], _ => rfl
  have Ft27 := fun_mk (st := sBegins) lt27 ct27 kt27
  have bt27 := Ft27.binds (ps := ["holder", "rows", "columns"]) fun _ _ _ _ _ _ us hl => match us, hl with | [_, _, _], _ => rfl
  have Ft28 := fun_mk (st := sWallO) lt28 ct28 kt28
  have bt28 := Ft28.binds (ps := ["holder", "cell", "truth"]) fun _ _ _ _ _ _ us hl => match us, hl with | [_, _, _], _ => rfl
  have Ft29 := fun_mk (st := sPutO) lt29 ct29 kt29
  have bt29 := Ft29.binds (ps := ["holder", "cell", "top", "north"]) fun _ _ _ _ _ _ us hl => match us, hl with | [_, _, _, _], _ => rfl
  have Ft30 := fun_mk (st := sRollO) lt30 ct30 kt30
  have bt30 := Ft30.binds (ps := ["holder", "way"]) fun _ _ _ _ _ _ us hl => match us, hl with | [_, _], _ => rfl
  have Ft31 := fun_mk (st := sGoalO) lt31 ct31 kt31
  have bt31 := Ft31.binds (ps := ["holder", "cell", "top"]) fun _ _ _ _ _ _ us hl => match us, hl with | [_, _, _], _ => rfl
  have Ft32 := fun_mk (st := sPlanOf) lt32 ct32 kt32
  have bt32 := Ft32.binds (ps := ["holder"]) fun _ _ _ _ _ _ us hl => match us, hl with | [_], _ => rfl
  have Ft33 := fun_mk (st := sPlanO) lt33 ct33 kt33
  have bt33 := Ft33.binds (ps := ["holder"]) fun _ _ _ _ _ _ us hl => match us, hl with | [_], _ => rfl
  have Ft34 := fun_mk (st := sLeastO) lt34 ct34 kt34
  have bt34 := Ft34.binds (ps := ["holder"]) fun _ _ _ _ _ _ us hl => match us, hl with | [_], _ => rfl
  have Ft35 := fun_mk (st := sTopsO) lt35 ct35 kt35
  have bt35 := Ft35.binds (ps := ["holder", "cell"]) fun _ _ _ _ _ _ us hl => match us, hl with | [_, _], _ => rfl
  have Ft36 := fun_mk (st := sStateO) lt36 ct36 kt36
  have bt36 := Ft36.binds (ps := ["holder"]) fun _ _ _ _ _ _ us hl => match us, hl with | [_], _ => rfl
  have Ft37 := fun_mk (st := sAlone) lt37 ct37 kt37
  have bt37 := Ft37.binds (ps := ["holder", "which"]) fun _ _ _ _ _ _ us hl => match us, hl with | [_, _], _ => rfl
  have Ft38 := fun_mk (st := sTold) lt38 ct38 kt38
  have bt38 := Ft38.binds (ps := ["holder", "which", "numbers"]) fun _ _ _ _ _ _ us hl => match us, hl with | [_, _, _], _ => rfl
  have Ft39 := fun_mk (st := sAnswer) lt39 ct39 kt39
  have bt39 := Ft39.binds (ps := ["holder", "which", "numbers"]) fun _ _ _ _ _ _ us hl => match us, hl with | [_, _, _], _ => rfl
  have Ft40 := fun_mk (st := sAns) lt40 ct40 kt40
  have bt40 := Ft40.binds (ps := ["calls"]) fun _ _ _ _ _ _ us hl => match us, hl with | [_], _ => rfl
  have MD : Mk K CD fd0 := ⟨mkD, ad0, id0, kcD⟩
  have MG : Mk K CG fg0 := ⟨mkG, ag0, ig0, kcG⟩
  have ML : Mk K CL fl0 := ⟨mkL, al0, il0, kcL⟩
  have MW : Mk K CW fw0 := ⟨mkW, aw0, iw0, kcW⟩
  have MR : Mk K CR fr0 := ⟨mkR, ar0, ir0, kcR⟩
  have MC : Mk K CC fc0 := ⟨mkC, ac0, ic0, kcC⟩
  have MH : Mk K CH fh0 := ⟨mkH, ah0, ih0, kcH⟩
  refine ⟨PySem.W.fnOf "answers" "answers" (defArgs sAns) (defBody sAns) (defScope sAns) .none kVt40 dct40 pmt40 ant40 cdt40 ctt40, fun s us hu => match us, hu with | [_], _ => .of_eq rfl, fun base _ _ => ?_⟩
  have Od0 := ok_DieI (P := P) (w := w) (base := base) (k := ⟨CD, CG, CL, CW, CR, CC, CH, CF⟩) Fd0 TD
  have Od1 := ok_nums (P := P) (w := w) (base := base) (k := ⟨CD, CG, CL, CW, CR, CC, CH, CF⟩) Fd1 TD
  have Ot6 := ok_first (P := P) (w := w) (base := base) (k := ⟨CD, CG, CL, CW, CR, CC, CH, CF⟩) Ft6 TD MD Od0 bd0
  have Ot7 := ok_rolled (P := P) (w := w) (base := base) (k := ⟨CD, CG, CL, CW, CR, CC, CH, CF⟩) Ft7 TD TY MD Od0 bd0
  have Ot8 := ok_allD (P := P) (w := w) (base := base) (k := ⟨CD, CG, CL, CW, CR, CC, CH, CF⟩) Ft8 TD TY Ot6 bt6 (PySem.W.mg_of X G at6) kt6 Ot7 bt7 (PySem.W.mg_of X G at7) kt7 Od1 bd1 ⟨ad1, id1, kd1⟩
  have Ot9 := ok_dieL (P := P) (w := w) (base := base) (k := ⟨CD, CG, CL, CW, CR, CC, CH, CF⟩) Ft9 TD Ot8 bt8 (PySem.W.mg_of X G at8) kt8
  have Og0 := ok_GroundI (P := P) (w := w) (base := base) (k := ⟨CD, CG, CL, CW, CR, CC, CH, CF⟩) Fg0 TG
  have Og1 := ok_many (P := P) (w := w) (base := base) (k := ⟨CD, CG, CL, CW, CR, CC, CH, CF⟩) Fg1 TG
  have Og2 := ok_wallsT (P := P) (w := w) (base := base) (k := ⟨CD, CG, CL, CW, CR, CC, CH, CF⟩) Fg2 TG
  have Og3 := ok_setW (P := P) (w := w) (base := base) (k := ⟨CD, CG, CL, CW, CR, CC, CH, CF⟩) Fg3 TG
  have Og4 := ok_beside (P := P) (w := w) (base := base) (k := ⟨CD, CG, CL, CW, CR, CC, CH, CF⟩) Fg4 TG TY
  have Og5 := ok_toRoll (P := P) (w := w) (base := base) (k := ⟨CD, CG, CL, CW, CR, CC, CH, CF⟩) Fg5 TG Og4 bg4 ⟨ag4, ig4, kg4⟩
  have Ol0 := ok_LieI (P := P) (w := w) (base := base) (k := ⟨CD, CG, CL, CW, CR, CC, CH, CF⟩) Fl0 TL
  have Ol1 := ok_key (P := P) (w := w) (base := base) (k := ⟨CD, CG, CL, CW, CR, CC, CH, CF⟩) Fl1 TL TD Od1 bd1 ⟨ad1, id1, kd1⟩
  have Ot13 := ok_behind (P := P) (w := w) (base := base) (k := ⟨CD, CG, CL, CW, CR, CC, CH, CF⟩) Ft13 TL TG Og5 bg5 ⟨ag5, ig5, kg5⟩ ML Ol0 bl0 Ot7 bt7 (PySem.W.mg_of X G at7) kt7
  have Ow0 := ok_WishI (P := P) (w := w) (base := base) (k := ⟨CD, CG, CL, CW, CR, CC, CH, CF⟩) Fw0 TW
  have Ow1 := ok_met (P := P) (w := w) (base := base) (k := ⟨CD, CG, CL, CW, CR, CC, CH, CF⟩) Fw1 TW TL TD
  have Or1 := ok_come (P := P) (w := w) (base := base) (k := ⟨CD, CG, CL, CW, CR, CC, CH, CF⟩) Fr1 TR TL Ol1 bl1 ⟨al1, il1, kl1⟩
  have Or0 := ok_ReachI (P := P) (w := w) (base := base) (k := ⟨CD, CG, CL, CW, CR, CC, CH, CF⟩) Fr0 TR TL TY Ol1 bl1 ⟨al1, il1, kl1⟩ Or1 br1 ⟨ar1, ir1, kr1⟩ Ot13 bt13 (PySem.W.mg_of X G at13) kt13
  have Or2 := ok_rolls (P := P) (w := w) (base := base) (k := ⟨CD, CG, CL, CW, CR, CC, CH, CF⟩) Fr2 TR TN
  have Or3 := ok_planTo (P := P) (w := w) (base := base) (k := ⟨CD, CG, CL, CW, CR, CC, CH, CF⟩) Fr3 TR TN TW Ow1 bw1 ⟨aw1, iw1, kw1⟩ Or2 br2 ⟨ar2, ir2, kr2⟩
  have Or4 := ok_topsOn (P := P) (w := w) (base := base) (k := ⟨CD, CG, CL, CW, CR, CC, CH, CF⟩) Fr4 TR TN TL TD
  have Oc0 := ok_CostsI (P := P) (w := w) (base := base) (k := ⟨CD, CG, CL, CW, CR, CC, CH, CF⟩) Fc0 TC
  have Oc1 := ok_wait (P := P) (w := w) (base := base) (k := ⟨CD, CG, CL, CW, CR, CC, CH, CF⟩) Fc1 TC TL Ol1 bl1 ⟨al1, il1, kl1⟩
  have Oc2 := ok_settle (P := P) (w := w) (base := base) (k := ⟨CD, CG, CL, CW, CR, CC, CH, CF⟩) Fc2 TC TL TD TY Ol1 bl1 ⟨al1, il1, kl1⟩ Oc1 bc1 ⟨ac1, ic1, kc1⟩ Ot13 bt13 (PySem.W.mg_of X G at13) kt13
  have Ot18 := ok_leastC (P := P) (w := w) (base := base) (k := ⟨CD, CG, CL, CW, CR, CC, CH, CF⟩) Ft18 TC TN TW MC Oc0 bc0 Ow1 bw1 ⟨aw1, iw1, kw1⟩ Oc2 bc2 ⟨ac2, ic2, kc2⟩
  have Ox0 := ok_RefI (P := P) (w := w) (base := base) (k := ⟨CD, CG, CL, CW, CR, CC, CH, CF⟩) Fx0 TX
  have Ot24 := ok_must (P := P) (w := w) (base := base) (k := ⟨CD, CG, CL, CW, CR, CC, CH, CF⟩) Ft24 TX Ox0 bx0
  have Oh1 := ok_begin (P := P) (w := w) (base := base) (k := ⟨CD, CG, CL, CW, CR, CC, CH, CF⟩) Fh1 TH TG TL TW MG Og0 bg0 ML Ol0 bl0 MW Ow0 bw0 Ot6 bt6 (PySem.W.mg_of X G at6) kt6
  have Oh0 := ok_HolderI (P := P) (w := w) (base := base) (k := ⟨CD, CG, CL, CW, CR, CC, CH, CF⟩) Fh0 TH Oh1 bh1 ⟨ah1, ih1, kh1⟩
  have Oh2 := ok_reachO (P := P) (w := w) (base := base) (k := ⟨CD, CG, CL, CW, CR, CC, CH, CF⟩) Fh2 TH TR MR Or0 br0
  have Ot25 := ok_counted (P := P) (w := w) (base := base) Ft25 TN
  have Ot26 := ok_cell (P := P) (w := w) (base := base) (k := ⟨CD, CG, CL, CW, CR, CC, CH, CF⟩) Ft26 TH TG Ot24 bt24 (PySem.W.mg_of X G at24) kt24 Og1 bg1 ⟨ag1, ig1, kg1⟩
  have Ot27 := ok_begins (P := P) (w := w) (base := base) (k := ⟨CD, CG, CL, CW, CR, CC, CH, CF⟩) Ft27 TH TG TM ⟨_, _, Ot24, bt24, PySem.W.mg_of X G at24, kt24⟩ ⟨_, _, Oh1, bh1, ⟨ah1, ih1, kh1⟩⟩ ⟨_, _, Og1, bg1, ⟨ag1, ig1, kg1⟩⟩
  have Ot28 := ok_wallO (P := P) (w := w) (base := base) (k := ⟨CD, CG, CL, CW, CR, CC, CH, CF⟩) Ft28 TH TG TL TW TN ⟨_, _, Ot24, bt24, PySem.W.mg_of X G at24, kt24⟩ ⟨_, _, Ot26, bt26, PySem.W.mg_of X G at26, kt26⟩ ⟨_, _, Og3, bg3, ⟨ag3, ig3, kg3⟩⟩ ⟨_, _, Og2, bg2, ⟨ag2, ig2, kg2⟩⟩
  have Ot29 := ok_putO (P := P) (w := w) (base := base) (k := ⟨CD, CG, CL, CW, CR, CC, CH, CF⟩) Ft29 TH TG TL TD ⟨_, _, Ot24, bt24, PySem.W.mg_of X G at24, kt24⟩ ⟨_, _, Ot26, bt26, PySem.W.mg_of X G at26, kt26⟩ ⟨_, _, Ot9, bt9, PySem.W.mg_of X G at9, kt9⟩ ⟨_, _, ML, Ol0, bl0⟩
  have Ot31 := ok_goalO (P := P) (w := w) (base := base) (k := ⟨CD, CG, CL, CW, CR, CC, CH, CF⟩) Ft31 TH TG TW ⟨_, _, Ot24, bt24, PySem.W.mg_of X G at24, kt24⟩ ⟨_, _, Ot26, bt26, PySem.W.mg_of X G at26, kt26⟩ ⟨_, _, MW, Ow0, bw0⟩
  have Ot30 := ok_rollO (P := P) (w := w) (base := base) (k := ⟨CD, CG, CL, CW, CR, CC, CH, CF⟩) Ft30 TH TG TL TD ⟨_, _, Ot24, bt24, PySem.W.mg_of X G at24, kt24⟩ ⟨_, _, Ot13, bt13, PySem.W.mg_of X G at13, kt13⟩ ⟨_, _, Ot25, bt25, PySem.W.mg_of X G at25, kt25⟩
  have Ot32 := ok_planOf (P := P) (w := w) (base := base) (k := ⟨CD, CG, CL, CW, CR, CC, CH, CF⟩) Ft32 TH TR ⟨_, _, Ot24, bt24, PySem.W.mg_of X G at24, kt24⟩ ⟨_, _, Oh2, bh2, ⟨ah2, ih2, kh2⟩⟩ ⟨_, _, Or3, br3, ⟨ar3, ir3, kr3⟩⟩
  have Ot33 := ok_planO (P := P) (w := w) (base := base) (k := ⟨CD, CG, CL, CW, CR, CC, CH, CF⟩) Ft33 TN ⟨_, _, Ot32, bt32, PySem.W.mg_of X G at32, kt32⟩ ⟨_, _, Ot25, bt25, PySem.W.mg_of X G at25, kt25⟩
  have Ot34 := ok_leastO (P := P) (w := w) (base := base) (k := ⟨CD, CG, CL, CW, CR, CC, CH, CF⟩) Ft34 TH ⟨_, _, Ot24, bt24, PySem.W.mg_of X G at24, kt24⟩ ⟨_, _, Ot18, bt18, PySem.W.mg_of X G at18, kt18⟩
  have Ot35 := ok_topsO (P := P) (w := w) (base := base) (k := ⟨CD, CG, CL, CW, CR, CC, CH, CF⟩) Ft35 TH TR TN ⟨_, _, Ot26, bt26, PySem.W.mg_of X G at26, kt26⟩ ⟨_, _, Oh2, bh2, ⟨ah2, ih2, kh2⟩⟩ ⟨_, _, Or4, br4, ⟨ar4, ir4, kr4⟩⟩ ⟨_, _, Ot25, bt25, PySem.W.mg_of X G at25, kt25⟩
  have Ot36 := ok_stateO (P := P) (w := w) (base := base) (k := ⟨CD, CG, CL, CW, CR, CC, CH, CF⟩) Ft36 TH TG TW TN ⟨_, _, Og2, bg2, ⟨ag2, ig2, kg2⟩⟩ ⟨_, _, Ot25, bt25, PySem.W.mg_of X G at25, kt25⟩
  have Ot37 := ok_alone (P := P) (w := w) (base := base) (k := ⟨CD, CG, CL, CW, CR, CC, CH, CF⟩) Ft37 TH TR TL TD TN ⟨_, _, Ot32, bt32, PySem.W.mg_of X G at32, kt32⟩ ⟨_, _, Ot33, bt33, PySem.W.mg_of X G at33, kt33⟩ ⟨_, _, Ot34, bt34, PySem.W.mg_of X G at34, kt34⟩ ⟨_, _, Oh2, bh2, ⟨ah2, ih2, kh2⟩⟩ ⟨_, _, Ot25, bt25, PySem.W.mg_of X G at25, kt25⟩ ⟨_, _, Od1, bd1, ⟨ad1, id1, kd1⟩⟩ ⟨_, _, Ot36, bt36, PySem.W.mg_of X G at36, kt36⟩
  have Ot38 := ok_told (P := P) (w := w) (base := base) (k := ⟨CD, CG, CL, CW, CR, CC, CH, CF⟩) Ft38 ⟨_, _, Ot27, bt27, PySem.W.mg_of X G at27, kt27⟩ ⟨_, _, Ot28, bt28, PySem.W.mg_of X G at28, kt28⟩ ⟨_, _, Ot29, bt29, PySem.W.mg_of X G at29, kt29⟩ ⟨_, _, Ot30, bt30, PySem.W.mg_of X G at30, kt30⟩ ⟨_, _, Ot31, bt31, PySem.W.mg_of X G at31, kt31⟩ ⟨_, _, Ot35, bt35, PySem.W.mg_of X G at35, kt35⟩ ⟨_, _, Ot37, bt37, PySem.W.mg_of X G at37, kt37⟩
  have Ot39 := ok_answer (P := P) (w := w) (base := base) (k := ⟨CD, CG, CL, CW, CR, CC, CH, CF⟩) Ft39 TX ⟨_, _, Ot38, bt38, PySem.W.mg_of X G at38, kt38⟩
  exact ok_ans (P := P) (w := w) (base := base) (k := ⟨CD, CG, CL, CW, CR, CC, CH, CF⟩) Ft40 TH TN TT ⟨_, _, MH, Oh0, bh0⟩ ⟨_, _, Ot39, bt39, PySem.W.mg_of X G at39, kt39⟩
end L2.Rw

/-! text Fin -/
open PySem PySem.W PyProof.Rows
set_option maxRecDepth 100000 in
set_option maxHeartbeats 40000000 in
theorem PySem.Challenge.cw_rolledcube_s01_answers_holds : PySem.Challenge.rw_rolledcube_s01_answers.Holds := by
  w_on; k_headS; (case hw => exact ⟨[.list [.int 10]], by decide +kernel, by decide +kernel⟩)
  k_fillS
  refine L2.walk_specK (r := PySem.Challenge.rw_rolledcube_s01_answers) (k := 13) (CX := L2.CX0) (ps := ["calls"]) (sp := L2.Rw.spAns) (by decide +kernel) rfl rfl ⟨rfl, by decide, by decide⟩ (fun w h Y => PySem.W.kIn_of Y) ?F ?S (fun _ _ _ _ z => z)
  case F =>
    intro w mg fa h Y KX G hmg
    refine' L2.Rw.all_mk KX G hmg ?aCD ?aCG ?aCL ?aCW ?aCR ?aCC ?aCH ?aCF ?ad0 ?id0 ?ld0 ?cd0 ?kd0 ?ad1 ?id1 ?ld1 ?cd1 ?kd1 ?at6 ?lt6 ?ct6 ?kt6 ?at7 ?lt7 ?ct7 ?kt7 ?at8 ?lt8 ?ct8 ?kt8 ?at9 ?lt9 ?ct9 ?kt9 ?ag0 ?ig0 ?lg0 ?cg0 ?kg0 ?ag1 ?ig1 ?lg1 ?cg1 ?kg1 ?ag2 ?ig2 ?lg2 ?cg2 ?kg2 ?ag3 ?ig3 ?lg3 ?cg3 ?kg3 ?ag4 ?ig4 ?lg4 ?cg4 ?kg4 ?ag5 ?ig5 ?lg5 ?cg5 ?kg5 ?al0 ?il0 ?ll0 ?cl0 ?kl0 ?al1 ?il1 ?ll1 ?cl1 ?kl1 ?at13 ?lt13 ?ct13 ?kt13 ?aw0 ?iw0 ?lw0 ?cw0 ?kw0 ?aw1 ?iw1 ?lw1 ?cw1 ?kw1 ?ar0 ?ir0 ?lr0 ?cr0 ?kr0 ?ar1 ?ir1 ?lr1 ?cr1 ?kr1 ?ar2 ?ir2 ?lr2 ?cr2 ?kr2 ?ar3 ?ir3 ?lr3 ?cr3 ?kr3 ?ar4 ?ir4 ?lr4 ?cr4 ?kr4 ?ac0 ?ic0 ?lc0 ?cc0 ?kc0 ?ac1 ?ic1 ?lc1 ?cc1 ?kc1 ?ac2 ?ic2 ?lc2 ?cc2 ?kc2 ?at18 ?lt18 ?ct18 ?kt18 ?ax0 ?lx0 ?cx0 ?kx0 ?ah0 ?ih0 ?lh0 ?ch0 ?kh0 ?ah1 ?ih1 ?lh1 ?ch1 ?kh1 ?ah2 ?ih2 ?lh2 ?ch2 ?kh2 ?at24 ?lt24 ?ct24 ?kt24 ?at25 ?lt25 ?ct25 ?kt25 ?at26 ?lt26 ?ct26 ?kt26 ?at27 ?lt27 ?ct27 ?kt27 ?at28 ?lt28 ?ct28 ?kt28 ?at29 ?lt29 ?ct29 ?kt29 ?at30 ?lt30 ?ct30 ?kt30 ?at31 ?lt31 ?ct31 ?kt31 ?at32 ?lt32 ?ct32 ?kt32 ?at33 ?lt33 ?ct33 ?kt33 ?at34 ?lt34 ?ct34 ?kt34 ?at35 ?lt35 ?ct35 ?kt35 ?at36 ?lt36 ?ct36 ?kt36 ?at37 ?lt37 ?ct37 ?kt37 ?at38 ?lt38 ?ct38 ?kt38 ?at39 ?lt39 ?ct39 ?kt39 ?at40 ?lt40 ?ct40 ?kt40 ?pgD ?hdD ?poD ?saD ?mkD ?kcD ?n0D ?n1D ?n2D ?pgG ?hdG ?poG ?saG ?mkG ?kcG ?n0G ?n1G ?n2G ?pgL ?hdL ?poL ?saL ?mkL ?kcL ?n0L ?n1L ?pgW ?hdW ?poW ?saW ?mkW ?kcW ?n0W ?n1W ?pgR ?hdR ?poR ?saR ?mkR ?kcR ?n0R ?n1R ?n2R ?pgC ?hdC ?poC ?saC ?mkC ?kcC ?n0C ?n1C ?n2C ?pgH ?hdH ?poH ?saH ?mkH ?kcH ?n0H ?n1H ?n2H ?n3H ?n4H ?z_list ?z_reversed ?z_enumerate ?z_sorted ?z_set ?z_len ?z_min ?z_any ?z_ValueError ?vN ?vE ?vS ?vM ?vW ?lW ?vT ?lT ?xL ?xsa ?xga ?xgg ?xnN ?xtI ?xkC ?xeC ?xtC ?xhC ?xiC ?xsC ?xvV
    (case aCD => k_is)
    (case aCG => k_is)
    (case aCL => k_is)
    (case aCW => k_is)
    (case aCR => k_is)
    (case aCC => k_is)
    (case aCH => k_is)
    (case aCF => k_is)
    (case ad0 => k_is)
    (case id0 => k_is)
    (case ld0 => k_is)
    (case cd0 => k_is)
    (case kd0 => k_is)
    (case ad1 => k_is)
    (case id1 => k_is)
    (case ld1 => k_is)
    (case cd1 => k_is)
    (case kd1 => k_is)
    (case at6 => k_is)
    (case lt6 => k_is)
    (case ct6 => k_is)
    (case kt6 => k_is)
    (case at7 => k_is)
    (case lt7 => k_is)
    (case ct7 => k_is)
    (case kt7 => k_is)
    (case at8 => k_is)
    (case lt8 => k_is)
    (case ct8 => k_is)
    (case kt8 => k_is)
    (case at9 => k_is)
    (case lt9 => k_is)
    (case ct9 => k_is)
    (case kt9 => k_is)
    (case ag0 => k_is)
    (case ig0 => k_is)
    (case lg0 => k_is)
    (case cg0 => k_is)
    (case kg0 => k_is)
    (case ag1 => k_is)
    (case ig1 => k_is)
    (case lg1 => k_is)
    (case cg1 => k_is)
    (case kg1 => k_is)
    (case ag2 => k_is)
    (case ig2 => k_is)
    (case lg2 => k_is)
    (case cg2 => k_is)
    (case kg2 => k_is)
    (case ag3 => k_is)
    (case ig3 => k_is)
    (case lg3 => k_is)
    (case cg3 => k_is)
    (case kg3 => k_is)
    (case ag4 => k_is)
    (case ig4 => k_is)
    (case lg4 => k_is)
    (case cg4 => k_is)
    (case kg4 => k_is)
    (case ag5 => k_is)
    (case ig5 => k_is)
    (case lg5 => k_is)
    (case cg5 => k_is)
    (case kg5 => k_is)
    (case al0 => k_is)
    (case il0 => k_is)
    (case ll0 => k_is)
    (case cl0 => k_is)
    (case kl0 => k_is)
    (case al1 => k_is)
    (case il1 => k_is)
    (case ll1 => k_is)
    (case cl1 => k_is)
    (case kl1 => k_is)
    (case at13 => k_is)
    (case lt13 => k_is)
    (case ct13 => k_is)
    (case kt13 => k_is)
    (case aw0 => k_is)
    (case iw0 => k_is)
    (case lw0 => k_is)
    (case cw0 => k_is)
    (case kw0 => k_is)
    (case aw1 => k_is)
    (case iw1 => k_is)
    (case lw1 => k_is)
    (case cw1 => k_is)
    (case kw1 => k_is)
    (case ar0 => k_is)
    (case ir0 => k_is)
    (case lr0 => k_is)
    (case cr0 => k_is)
    (case kr0 => k_is)
    (case ar1 => k_is)
    (case ir1 => k_is)
    (case lr1 => k_is)
    (case cr1 => k_is)
    (case kr1 => k_is)
    (case ar2 => k_is)
    (case ir2 => k_is)
    (case lr2 => k_is)
    (case cr2 => k_is)
    (case kr2 => k_is)
    (case ar3 => k_is)
    (case ir3 => k_is)
    (case lr3 => k_is)
    (case cr3 => k_is)
    (case kr3 => k_is)
    (case ar4 => k_is)
    (case ir4 => k_is)
    (case lr4 => k_is)
    (case cr4 => k_is)
    (case kr4 => k_is)
    (case ac0 => k_is)
    (case ic0 => k_is)
    (case lc0 => k_is)
    (case cc0 => k_is)
    (case kc0 => k_is)
    (case ac1 => k_is)
    (case ic1 => k_is)
    (case lc1 => k_is)
    (case cc1 => k_is)
    (case kc1 => k_is)
    (case ac2 => k_is)
    (case ic2 => k_is)
    (case lc2 => k_is)
    (case cc2 => k_is)
    (case kc2 => k_is)
    (case at18 => k_is)
    (case lt18 => k_is)
    (case ct18 => k_is)
    (case kt18 => k_is)
    (case ax0 => k_is)
    (case lx0 => k_is)
    (case cx0 => k_is)
    (case kx0 => k_is)
    (case ah0 => k_is)
    (case ih0 => k_is)
    (case lh0 => k_is)
    (case ch0 => k_is)
    (case kh0 => k_is)
    (case ah1 => k_is)
    (case ih1 => k_is)
    (case lh1 => k_is)
    (case ch1 => k_is)
    (case kh1 => k_is)
    (case ah2 => k_is)
    (case ih2 => k_is)
    (case lh2 => k_is)
    (case ch2 => k_is)
    (case kh2 => k_is)
    (case at24 => k_is)
    (case lt24 => k_is)
    (case ct24 => k_is)
    (case kt24 => k_is)
    (case at25 => k_is)
    (case lt25 => k_is)
    (case ct25 => k_is)
    (case kt25 => k_is)
    (case at26 => k_is)
    (case lt26 => k_is)
    (case ct26 => k_is)
    (case kt26 => k_is)
    (case at27 => k_is)
    (case lt27 => k_is)
    (case ct27 => k_is)
    (case kt27 => k_is)
    (case at28 => k_is)
    (case lt28 => k_is)
    (case ct28 => k_is)
    (case kt28 => k_is)
    (case at29 => k_is)
    (case lt29 => k_is)
    (case ct29 => k_is)
    (case kt29 => k_is)
    (case at30 => k_is)
    (case lt30 => k_is)
    (case ct30 => k_is)
    (case kt30 => k_is)
    (case at31 => k_is)
    (case lt31 => k_is)
    (case ct31 => k_is)
    (case kt31 => k_is)
    (case at32 => k_is)
    (case lt32 => k_is)
    (case ct32 => k_is)
    (case kt32 => k_is)
    (case at33 => k_is)
    (case lt33 => k_is)
    (case ct33 => k_is)
    (case kt33 => k_is)
    (case at34 => k_is)
    (case lt34 => k_is)
    (case ct34 => k_is)
    (case kt34 => k_is)
    (case at35 => k_is)
    (case lt35 => k_is)
    (case ct35 => k_is)
    (case kt35 => k_is)
    (case at36 => k_is)
    (case lt36 => k_is)
    (case ct36 => k_is)
    (case kt36 => k_is)
    (case at37 => k_is)
    (case lt37 => k_is)
    (case ct37 => k_is)
    (case kt37 => k_is)
    (case at38 => k_is)
    (case lt38 => k_is)
    (case ct38 => k_is)
    (case kt38 => k_is)
    (case at39 => k_is)
    (case lt39 => k_is)
    (case ct39 => k_is)
    (case kt39 => k_is)
    (case at40 => k_is)
    (case lt40 => k_is)
    (case ct40 => k_is)
    (case kt40 => k_is)
    (case pgD => k_is)
    (case hdD => k_is)
    (case poD => k_is)
    (case saD => k_is)
    (case mkD => k_is)
    (case kcD => k_is)
    (case n0D => k_is)
    (case n1D => k_is)
    (case n2D => k_is)
    (case pgG => k_is)
    (case hdG => k_is)
    (case poG => k_is)
    (case saG => k_is)
    (case mkG => k_is)
    (case kcG => k_is)
    (case n0G => k_is)
    (case n1G => k_is)
    (case n2G => k_is)
    (case pgL => k_is)
    (case hdL => k_is)
    (case poL => k_is)
    (case saL => k_is)
    (case mkL => k_is)
    (case kcL => k_is)
    (case n0L => k_is)
    (case n1L => k_is)
    (case pgW => k_is)
    (case hdW => k_is)
    (case poW => k_is)
    (case saW => k_is)
    (case mkW => k_is)
    (case kcW => k_is)
    (case n0W => k_is)
    (case n1W => k_is)
    (case pgR => k_is)
    (case hdR => k_is)
    (case poR => k_is)
    (case saR => k_is)
    (case mkR => k_is)
    (case kcR => k_is)
    (case n0R => k_is)
    (case n1R => k_is)
    (case n2R => k_is)
    (case pgC => k_is)
    (case hdC => k_is)
    (case poC => k_is)
    (case saC => k_is)
    (case mkC => k_is)
    (case kcC => k_is)
    (case n0C => k_is)
    (case n1C => k_is)
    (case n2C => k_is)
    (case pgH => k_is)
    (case hdH => k_is)
    (case poH => k_is)
    (case saH => k_is)
    (case mkH => k_is)
    (case kcH => k_is)
    (case n0H => k_is)
    (case n1H => k_is)
    (case n2H => k_is)
    (case n3H => k_is)
    (case n4H => k_is)
    (case z_list => k_is)
    (case z_reversed => k_is)
    (case z_enumerate => k_is)
    (case z_sorted => k_is)
    (case z_set => k_is)
    (case z_len => k_is)
    (case z_min => k_is)
    (case z_any => k_is)
    (case z_ValueError => k_is)
    (case vN => k_is)
    (case vE => k_is)
    (case vS => k_is)
    (case vM => k_is)
    (case vW => k_is)
    (case lW => k_is)
    (case vT => k_is)
    (case lT => k_is)
    (case xL => k_is)
    (case xsa => k_is)
    (case xga => k_is)
    (case xgg => k_is)
    (case xnN => k_is)
    (case xtI => k_is)
    (case xkC => k_is)
    (case xeC => k_is)
    (case xtC => k_is)
    (case xhC => k_is)
    (case xiC => k_is)
    (case xsC => first | rfl | k_is)
    (case xvV => first | rfl | k_is)
  case S =>
    intro K H xs a hO hwi hask hx
    cases hx with
    | cons h1 h2 =>
      cases h2
      cases h1 with
      | lst hs ha =>
        have e := L2.ints_dw a.1 _ ha
        subst e
        have hd : PySy74.answers_asked a.1 = true := hask
        exact ⟨_, a.1, rfl, hs, Rc.due_of hd, fun H' p hp => .lst (L2.SqL.of hp) (L2.dw_ints _)⟩
