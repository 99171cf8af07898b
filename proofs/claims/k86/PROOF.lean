import PyProof.Rows.All
import Wide.All
import OpenK.AllK
import Wide.FinOn
import KE.GoesEnum
import KE.KRevSl
import HandS.ForMost
import HandS.Deep
import HandS.NoneIn
import HandS.Conv
import HandS.More
import HandS.TupAny
import HandS.TupMul
import HandS.TupLe
import HandS.Gcd
import HandS.Zip
import HandS.SortRule
import HandS.IsInst
import HandS.EndBits
import HandS.Walk
import PySem.Challenge.RW_stepswithin_k86_whole_choices_and_single
import HandS.SortInts
set_option Elab.async false
/-! K86Math: the plain mathematics of choices among whole steps (no program in sight). -/
namespace SW

/-! ### lists -/
theorem getElem?_inj_of_nodup {α : Type} {l : List α} (h : l.Nodup) {i j : Nat} {x : α} (a : l[i]? = some x) (b : l[j]? = some x) : i = j := by
  obtain ⟨h1, e1⟩ := List.getElem?_eq_some_iff.mp a
  obtain ⟨h2, e2⟩ := List.getElem?_eq_some_iff.mp b
  exact (List.getElem_inj h).mp (e1.trans e2.symm)

theorem perm_of_nodup_mem {α : Type} [DecidableEq α] : ∀ {l m : List α}, l.Nodup → m.Nodup → (∀ x, x ∈ l ↔ x ∈ m) → l.Perm m := by
  intro l m hl hm h
  refine List.perm_iff_count.mpr fun a => ?_
  by_cases ha : a ∈ l
  · rw [List.Nodup.count hl, List.Nodup.count hm, if_pos ha, if_pos ((h a).mp ha)]
  · rw [List.Nodup.count hl, List.Nodup.count hm, if_neg ha, if_neg fun z => ha ((h a).mpr z)]

theorem sorted_eq : ∀ {l m : List Int}, l.Perm m → l.Pairwise (· ≤ ·) → m.Pairwise (· ≤ ·) → l = m
  | [], m, p, _, _ => by
    have := p.length_eq
    simp at this
    exact (List.eq_nil_of_length_eq_zero this.symm).symm
  | a :: l, [], p, _, _ => by
    have := p.length_eq
    simp at this
  | a :: l, b :: m, p, h1, h2 => by
    obtain ⟨a1, l1⟩ := List.pairwise_cons.mp h1
    obtain ⟨b1, m1⟩ := List.pairwise_cons.mp h2
    have e1 : a ∈ b :: m := p.subset List.mem_cons_self
    have e2 : b ∈ a :: l := p.symm.subset List.mem_cons_self
    have hab : a = b := by
      rcases List.mem_cons.mp e1 with q | q
      · exact q
      · rcases List.mem_cons.mp e2 with r | r
        · exact r.symm
        · have x := b1 a q
          have y := a1 b r
          omega
    subst hab
    rw [sorted_eq (List.Perm.cons_inv p) l1 m1]

theorem length_le_of_sub {α : Type} [DecidableEq α] : ∀ {l m : List α}, l.Nodup → (∀ x ∈ l, x ∈ m) → l.length ≤ m.length
  | [], _, _, _ => Nat.zero_le _
  | a :: l, m, hn, h => by
    obtain ⟨h1, h2⟩ := List.nodup_cons.mp hn
    have ha : a ∈ m := h a List.mem_cons_self
    have := length_le_of_sub (m := m.erase a) h2 fun x hx => (List.mem_erase_of_ne (fun (e : x = a) => h1 (by rw [← e]; exact hx))).mpr (h x (List.mem_cons_of_mem _ hx))
    rw [List.length_erase_of_mem ha] at this
    have := List.length_pos_of_mem ha
    rw [List.length_cons]
    omega
/-- within [-B, B] a list without repeats has at most 2 B + 1 items -/
theorem nodup_bound {l : List Int} {B : Int} (hB : 0 ≤ B) (hn : l.Nodup) (hb : ∀ x ∈ l, -B ≤ x ∧ x ≤ B) : (l.length : Int) ≤ 2 * B + 1 := by
  have hs : ∀ x ∈ l, x ∈ (List.range (2 * B + 1).toNat).map fun (k : Nat) => (k : Int) - B := by
    intro x hx
    obtain ⟨h1, h2⟩ := hb x hx
    refine List.mem_map.mpr ⟨(x + B).toNat, List.mem_range.mpr (by omega), by omega⟩
  have := length_le_of_sub hn hs
  rw [List.length_map, List.length_range] at this
  omega

/-! ### steps with whole numbers -/
/-- the integer to which a step leads an integer -/
def ledI (row : List Int) (x : Int) : Int := row.foldr (fun c acc => acc * x + c) 0

/-- one turn of the sums of sizes: the sum so far, the power so far -/
def hbStep (R : Int) (p : Int × Int) (s : Int) : Int × Int := (p.1 + s * p.2, p.2 * R)
def sumsAt (sizes : List Int) (R : Int) (i : Nat) : Int × Int := (sizes.take i).foldl (hbStep R) (R, 1)
theorem sumsAt_zero (sizes : List Int) (R : Int) : sumsAt sizes R 0 = (R, 1) := rfl
theorem sumsAt_succ {sizes : List Int} {R : Int} {i : Nat} {s : Int} (h : sizes[i]? = some s) : sumsAt sizes R (i + 1) = hbStep R (sumsAt sizes R i) s := by
  unfold sumsAt
  rw [List.take_add_one, h]
  show List.foldl _ _ (List.take i sizes ++ [s]) = _
  rw [List.foldl_append]
  rfl
theorem sumsAt_pow {sizes : List Int} {R : Int} : ∀ {i : Nat}, i ≤ sizes.length → (sumsAt sizes R i).2 = R ^ i
  | 0, _ => by rw [sumsAt_zero, Int.pow_zero]
  | i + 1, h => by
    have hi : i < sizes.length := h
    rw [sumsAt_succ (List.getElem?_eq_getElem hi)]
    show (sumsAt sizes R i).2 * R = _
    rw [sumsAt_pow (Nat.le_of_lt hi), Int.pow_succ]
def sizesOf (row : List Int) : List Int := row.map fun c => (c.natAbs : Int)
/-- whether R is a bound: the head's part is at least all others and R together -/
def holdsI (row : List Int) (R : Int) : Bool :=
  decide ((sumsAt (sizesOf row) R (row.length - 1)).1 ≤ (sizesOf row).getD (row.length - 1) 0 * (sumsAt (sizesOf row) R (row.length - 1)).2)

/-- what is known of a drawn step: its numbers are small, and B is its least bound -/
structure Good (row : List Int) (B : Nat) : Prop where
  len2 : 2 ≤ row.length
  len4 : row.length ≤ 4
  b1 : 1 ≤ B
  b5 : B ≤ 5
  coef : ∀ c ∈ row, -5 ≤ c ∧ c ≤ 5
  last : row.getD (row.length - 1) 0 ≠ 0
  bound : ∀ R ∈ [1, 2, 3, 4, 5, 6, 7, 8], holdsI row (R : Nat) = decide (B ≤ R)
  grow : 2 < row.length ∨ 1 < (row.getD 1 0).natAbs

instance (row : List Int) (B : Nat) : Decidable (Good row B) :=
  if h : 2 ≤ row.length ∧ row.length ≤ 4 ∧ 1 ≤ B ∧ B ≤ 5 ∧ (∀ c ∈ row, -5 ≤ c ∧ c ≤ 5) ∧ row.getD (row.length - 1) 0 ≠ 0 ∧ (∀ R ∈ [1, 2, 3, 4, 5, 6, 7, 8], holdsI row (R : Nat) = decide (B ≤ R)) ∧ (2 < row.length ∨ 1 < (row.getD 1 0).natAbs) then
    .isTrue ⟨h.1, h.2.1, h.2.2.1, h.2.2.2.1, h.2.2.2.2.1, h.2.2.2.2.2.1, h.2.2.2.2.2.2.1, h.2.2.2.2.2.2.2⟩
  else .isFalse fun g => h ⟨g.len2, g.len4, g.b1, g.b5, g.coef, g.last, g.bound, g.grow⟩

/-- the least bound, sought among 1 to 5 -/
def lbOf (row : List Int) : Nat := (([1, 2, 3, 4, 5] : List Nat).find? fun R => holdsI row (R : Nat)).getD 0

def ofs (lo : Int) (n : Nat) : List Int := (List.range n).map fun (k : Nat) => lo + k
/-- the straight ones, those of degree 2 and 3 that choices draw; those that the single law draws -/
def rows1 : List (List Int) := ([2, -2, 3, -3] : List Int).flatMap fun h => (ofs (-3) 7).map fun a => [a, h]
def rows2 (m : Nat) (lo : Int) : List (List Int) := ([1, -1, 2] : List Int).flatMap fun h => (ofs lo m).flatMap fun a => (ofs (-2) 5).map fun b => [a, b, h]
def rows3 (m : Nat) (lo : Int) : List (List Int) := ([1, -1, 2] : List Int).flatMap fun h => (ofs lo m).flatMap fun a => (ofs (-2) 5).map fun b => [a, b, 0, h]
def allRows : List (List Int) := rows1 ++ rows2 7 (-3) ++ rows3 7 (-3) ++ rows2 9 (-5) ++ rows3 9 (-5)
theorem all_good : ∀ row ∈ allRows, Good row (lbOf row) := by decide +kernel
theorem mem_ofs {lo a : Int} {n : Nat} (h1 : lo ≤ a) (h2 : a < lo + n) : a ∈ ofs lo n :=
  List.mem_map.mpr ⟨(a - lo).toNat, List.mem_range.mpr (by omega), by omega⟩
theorem good1 {a h : Int} (hh : h ∈ ([2, -2, 3, -3] : List Int)) (h1 : -3 ≤ a) (h2 : a ≤ 3) : Good [a, h] (lbOf [a, h]) := by
  refine all_good _ ?_
  refine List.mem_append_left _ (List.mem_append_left _ (List.mem_append_left _ (List.mem_append_left _ ?_)))
  exact List.mem_flatMap.mpr ⟨h, hh, List.mem_map.mpr ⟨a, mem_ofs (by omega) (by omega), rfl⟩⟩
theorem good2 {a b h : Int} (hh : h ∈ ([1, -1, 2] : List Int)) (h1 : -3 ≤ a) (h2 : a ≤ 3) (h3 : -2 ≤ b) (h4 : b ≤ 2) : Good [a, b, h] (lbOf [a, b, h]) := by
  refine all_good _ ?_
  refine List.mem_append_left _ (List.mem_append_left _ (List.mem_append_left _ (List.mem_append_right _ ?_)))
  exact List.mem_flatMap.mpr ⟨h, hh, List.mem_flatMap.mpr ⟨a, mem_ofs (by omega) (by omega), List.mem_map.mpr ⟨b, mem_ofs (by omega) (by omega), rfl⟩⟩⟩
theorem good3 {a b h : Int} (hh : h ∈ ([1, -1, 2] : List Int)) (h1 : -3 ≤ a) (h2 : a ≤ 3) (h3 : -2 ≤ b) (h4 : b ≤ 2) : Good [a, b, 0, h] (lbOf [a, b, 0, h]) := by
  refine all_good _ ?_
  refine List.mem_append_left _ (List.mem_append_left _ (List.mem_append_right _ ?_))
  exact List.mem_flatMap.mpr ⟨h, hh, List.mem_flatMap.mpr ⟨a, mem_ofs (by omega) (by omega), List.mem_map.mpr ⟨b, mem_ofs (by omega) (by omega), rfl⟩⟩⟩
theorem good2s {a b h : Int} (hh : h ∈ ([1, -1, 2] : List Int)) (h1 : -5 ≤ a) (h2 : a ≤ 3) (h3 : -2 ≤ b) (h4 : b ≤ 2) : Good [a, b, h] (lbOf [a, b, h]) := by
  refine all_good _ ?_
  refine List.mem_append_left _ (List.mem_append_right _ ?_)
  exact List.mem_flatMap.mpr ⟨h, hh, List.mem_flatMap.mpr ⟨a, mem_ofs (by omega) (by omega), List.mem_map.mpr ⟨b, mem_ofs (by omega) (by omega), rfl⟩⟩⟩
theorem good3s {a b h : Int} (hh : h ∈ ([1, -1, 2] : List Int)) (h1 : -5 ≤ a) (h2 : a ≤ 3) (h3 : -2 ≤ b) (h4 : b ≤ 2) : Good [a, b, 0, h] (lbOf [a, b, 0, h]) := by
  refine all_good _ ?_
  refine List.mem_append_right _ ?_
  exact List.mem_flatMap.mpr ⟨h, hh, List.mem_flatMap.mpr ⟨a, mem_ofs (by omega) (by omega), List.mem_map.mpr ⟨b, mem_ofs (by omega) (by omega), rfl⟩⟩⟩
theorem Good.holds {row : List Int} {B : Nat} (g : Good row B) {R : Nat} (h1 : 1 ≤ R) (h8 : R ≤ 8) : holdsI row (R : Int) = decide (B ≤ R) := by
  refine g.bound R ?_
  have : R = 1 ∨ R = 2 ∨ R = 3 ∨ R = 4 ∨ R = 5 ∨ R = 6 ∨ R = 7 ∨ R = 8 := by omega
  rcases this with e | e | e | e | e | e | e | e <;> (subst e; decide)

theorem Good.uniq {row : List Int} {B C : Nat} (g : Good row B) (h : Good row C) : B = C := by
  have a := (g.holds (R := B) g.b1 (by have := g.b5; omega)).symm.trans (h.holds (R := B) g.b1 (by have := g.b5; omega))
  have b := (g.holds (R := C) h.b1 (by have := h.b5; omega)).symm.trans (h.holds (R := C) h.b1 (by have := h.b5; omega))
  simp only [Nat.le_refl, decide_true] at a b
  have a := of_decide_eq_true a.symm
  have b := of_decide_eq_true b
  omega

/-! ### words -/
/-- the word w leads x to y, each number behind x within B -/
inductive Word (rows : List (List Int)) (B : Int) : Int → List Nat → Int → Prop
  | nil (x : Int) : Word rows B x [] x
  | cons {x y z : Int} {i : Nat} {row : List Int} {w : List Nat} (hr : rows[i]? = some row) (hy : ledI row x = y) (hb : (y.natAbs : Int) ≤ B) (h : Word rows B y w z) : Word rows B x (i :: w) z

theorem Word.append {rows : List (List Int)} {B : Int} {x y z : Int} {v w : List Nat} (a : Word rows B x v y) (b : Word rows B y w z) : Word rows B x (v ++ w) z := by
  induction a with
  | nil _ => exact b
  | cons hr hy hb _ ih => exact .cons hr hy hb (ih b)
theorem Word.snoc {rows : List (List Int)} {B : Int} {x y z : Int} {v : List Nat} {i : Nat} {row : List Int} (a : Word rows B x v y) (hr : rows[i]? = some row) (hz : ledI row y = z) (hb : (z.natAbs : Int) ≤ B) : Word rows B x (v ++ [i]) z :=
  a.append (.cons hr hz hb (.nil _))
theorem Word.lt {rows : List (List Int)} {B : Int} {x y : Int} {w : List Nat} (a : Word rows B x w y) : ∀ i ∈ w, i < rows.length := by
  induction a with
  | nil _ => exact fun _ h => absurd h List.not_mem_nil
  | cons hr hy hb _ ih =>
    intro j hj
    rcases List.mem_cons.mp hj with e | e
    · subst e
      exact (List.getElem?_eq_some_iff.mp hr).1
    · exact ih j e
theorem Word.bound {rows : List (List Int)} {B : Int} {x y : Int} {w : List Nat} (a : Word rows B x w y) (hx : (x.natAbs : Int) ≤ B) : (y.natAbs : Int) ≤ B := by
  induction a with
  | nil _ => exact hx
  | cons hr hy hb _ ih => exact ih hb
theorem Word.mono {rows : List (List Int)} {B C : Int} (h : B ≤ C) {x y : Int} {w : List Nat} (a : Word rows B x w y) : Word rows C x w y := by
  induction a with
  | nil _ => exact .nil _
  | cons hr hy hb _ ih => exact .cons hr hy (Int.le_trans hb h) ih

/-! ### the search by breadth -/
/-- what is found: an integer, how it is come to, its word -/
structure Nd where
  key : Int
  prd : Option (Int × Nat)
  word : List Nat

/-- while the item at place pl is looked at by the first r rows (or, r = 0, ahead of that) -/
structure Bf (rows : List (List Int)) (B : Int) (s : Int) (g : List Nd) (pl r : Nat) : Prop where
  root : g[0]? = some ⟨s, none, []⟩
  nodup : (g.map (·.key)).Nodup
  bnd : ∀ n ∈ g, (n.key.natAbs : Int) ≤ B
  pre : ∀ (j : Nat) (n : Nd), g[j]? = some n → 0 < j → ∃ (k : Nat) (p : Nd) (i : Nat) (row : List Int), k < j ∧ g[k]? = some p ∧ rows[i]? = some row ∧ ledI row p.key = n.key ∧ n.prd = some (p.key, i) ∧ n.word = p.word ++ [i]
  mono : ∀ (j k : Nat) (n m : Nd), j ≤ k → g[j]? = some n → g[k]? = some m → n.word.length ≤ m.word.length
  top : ∀ (n p : Nd), n ∈ g → g[pl]? = some p → n.word.length ≤ p.word.length + 1
  done : ∀ (j : Nat) (p : Nd) (i : Nat) (row : List Int), j < pl → g[j]? = some p → rows[i]? = some row → ((ledI row p.key).natAbs : Int) ≤ B → ∃ n ∈ g, n.key = ledI row p.key ∧ n.word.length ≤ p.word.length + 1
  part : ∀ (p : Nd) (i : Nat) (row : List Int), i < r → g[pl]? = some p → rows[i]? = some row → ((ledI row p.key).natAbs : Int) ≤ B → ∃ n ∈ g, n.key = ledI row p.key ∧ n.word.length ≤ p.word.length + 1

section
variable {rows : List (List Int)} {B s : Int} {g : List Nd} {pl r : Nat}
theorem Bf.start (hs : (s.natAbs : Int) ≤ B) : Bf rows B s [⟨s, none, []⟩] 0 0 := by
  have one : ∀ {j : Nat} {n : Nd}, ([⟨s, none, []⟩] : List Nd)[j]? = some n → j = 0 ∧ n = ⟨s, none, []⟩ := by
    intro j n h
    cases j with
    | zero => exact ⟨rfl, (Option.some.inj h).symm⟩
    | succ j => simp at h
  refine ⟨rfl, by simp, fun n hn => ?_, fun j n h hj => ?_, fun j k n m _ h1 h2 => ?_, fun n p hn h => ?_, fun j p i row hj => by omega, fun p i row hi => by omega⟩
  · rw [List.mem_singleton.mp hn]
    exact hs
  · have := (one h).1
    omega
  · rw [(one h1).2]
    exact Nat.zero_le _
  · rw [List.mem_singleton.mp hn]
    exact Nat.zero_le _
theorem Bf.len (b : Bf rows B s g pl r) (hB : 0 ≤ B) : (g.length : Int) ≤ 2 * B + 1 := by
  have := nodup_bound hB b.nodup (fun x hx => by
    obtain ⟨n, hn, e⟩ := List.mem_map.mp hx
    have := b.bnd n hn
    subst e
    omega)
  rw [List.length_map] at this
  exact this
theorem Bf.uniq (b : Bf rows B s g pl r) {n m : Nd} (hn : n ∈ g) (hm : m ∈ g) (e : n.key = m.key) : n = m := by
  obtain ⟨i, hi, e1⟩ := List.getElem_of_mem hn
  obtain ⟨j, hj, e2⟩ := List.getElem_of_mem hm
  have h1 : (g.map (·.key))[i]? = some n.key := by rw [List.getElem?_map, List.getElem?_eq_getElem hi, e1]; rfl
  have h2 : (g.map (·.key))[j]? = some n.key := by rw [List.getElem?_map, List.getElem?_eq_getElem hj, e2, e]; rfl
  have := getElem?_inj_of_nodup b.nodup h1 h2
  subst this
  exact e1.symm.trans e2
/-- a row whose number is not within the bound, or is there -/
theorem Bf.skip (b : Bf rows B s g pl r) {p : Nd} {row : List Int} (hp : g[pl]? = some p) (hr : rows[r]? = some row)
    (h : ¬ ((ledI row p.key).natAbs : Int) ≤ B ∨ ledI row p.key ∈ g.map (·.key)) : Bf rows B s g pl (r + 1) := by
  refine ⟨b.root, b.nodup, b.bnd, b.pre, b.mono, b.top, b.done, fun q i row' hi hq hr' hb => ?_⟩
  by_cases e : i < r
  · exact b.part q i row' e hq hr' hb
  · have e : i = r := by omega
    subst e
    rw [hp] at hq
    cases hq
    rw [hr] at hr'
    cases hr'
    rcases h with h | h
    · exact absurd hb h
    · obtain ⟨n, hn, e⟩ := List.mem_map.mp h
      exact ⟨n, hn, e, b.top n p hn hp⟩
/-- a row whose number is new -/
theorem Bf.grow (b : Bf rows B s g pl r) {p : Nd} {row : List Int} (hp : g[pl]? = some p) (hr : rows[r]? = some row)
    (hb : ((ledI row p.key).natAbs : Int) ≤ B) (hn : ¬ ledI row p.key ∈ g.map (·.key)) : Bf rows B s (g ++ [⟨ledI row p.key, some (p.key, r), p.word ++ [r]⟩]) pl (r + 1) := by
  have hpl : pl < g.length := (List.getElem?_eq_some_iff.mp hp).1
  have h0 : 0 < g.length := by omega
  have old : ∀ {j : Nat} {n : Nd}, j < g.length → (g ++ [⟨ledI row p.key, some (p.key, r), p.word ++ [r]⟩])[j]? = some n → g[j]? = some n := by
    intro j n hj h
    rw [List.getElem?_append_left hj] at h
    exact h
  have new : ∀ {j : Nat} {n : Nd}, ¬ j < g.length → (g ++ [⟨ledI row p.key, some (p.key, r), p.word ++ [r]⟩])[j]? = some n → j = g.length ∧ n = ⟨ledI row p.key, some (p.key, r), p.word ++ [r]⟩ := by
    intro j n hj h
    rw [List.getElem?_append_right (by omega)] at h
    cases e : j - g.length with
    | zero =>
      rw [e] at h
      exact ⟨by omega, (Option.some.inj h).symm⟩
    | succ k =>
      rw [e] at h
      simp at h
  have up : ∀ {j : Nat} {n : Nd}, g[j]? = some n → (g ++ [⟨ledI row p.key, some (p.key, r), p.word ++ [r]⟩])[j]? = some n := by
    intro j n h
    rw [List.getElem?_append_left (List.getElem?_eq_some_iff.mp h).1]
    exact h
  have wl : (p.word ++ [r]).length = p.word.length + 1 := by simp
  refine ⟨up b.root, ?_, fun n h => ?_, fun j n h hj => ?_, fun j k n m hjk h1 h2 => ?_, fun n q h hq => ?_, fun j q i row' hj hq hr' hb' => ?_, fun q i row' hi hq hr' hb' => ?_⟩
  · rw [List.map_append, List.nodup_append]
    refine ⟨b.nodup, by simp, fun a ha c hc => ?_⟩
    have : c = ledI row p.key := by simpa using hc
    subst this
    intro e
    subst e
    exact hn ha
  · rcases List.mem_append.mp h with h | h
    · exact b.bnd n h
    · rw [List.mem_singleton.mp h]
      exact hb
  · by_cases hl : j < g.length
    · obtain ⟨k, q, i, row', h1, h2, h3⟩ := b.pre j n (old hl h) hj
      exact ⟨k, q, i, row', h1, up h2, h3⟩
    · obtain ⟨e1, e2⟩ := new hl h
      subst e2
      exact ⟨pl, p, r, row, by omega, up hp, hr, rfl, rfl, rfl⟩
  · by_cases hk : k < g.length
    · exact b.mono j k n m hjk (old (by omega) h1) (old hk h2)
    · obtain ⟨_, e2⟩ := new hk h2
      subst e2
      by_cases hj : j < g.length
      · have := b.top n p (List.mem_of_getElem? (old hj h1)) hp
        simp only [List.length_append, List.length_cons, List.length_nil]
        omega
      · obtain ⟨_, e3⟩ := new hj h1
        subst e3
        exact Nat.le_refl _
  · have hq' := old hpl hq
    rw [hp] at hq'
    cases hq'
    rcases List.mem_append.mp h with h | h
    · exact b.top n p h hp
    · rw [List.mem_singleton.mp h]
      simp
  · obtain ⟨n, h1, h2⟩ := b.done j q i row' hj (old (by omega) hq) hr' hb'
    exact ⟨n, List.mem_append_left _ h1, h2⟩
  · have hq' := old hpl hq
    rw [hp] at hq'
    cases hq'
    by_cases e : i < r
    · obtain ⟨n, h1, h2⟩ := b.part p i row' e hp hr' hb'
      exact ⟨n, List.mem_append_left _ h1, h2⟩
    · have e : i = r := by omega
      subst e
      rw [hr] at hr'
      cases hr'
      exact ⟨_, List.mem_append_right _ (List.mem_singleton.mpr rfl), rfl, by simp⟩
/-- the next item -/
theorem Bf.next (b : Bf rows B s g pl rows.length) (hpl : pl < g.length) : Bf rows B s g (pl + 1) 0 := by
  have hp := List.getElem?_eq_getElem hpl
  refine ⟨b.root, b.nodup, b.bnd, b.pre, b.mono, fun n q hn hq => ?_, fun j q i row hj hq hr hb => ?_, fun p i row hi => by omega⟩
  · have h1 := b.top n _ hn hp
    have h2 := b.mono pl (pl + 1) _ _ (Nat.le_succ _) hp hq
    omega
  · by_cases e : j < pl
    · exact b.done j q i row e hq hr hb
    · have e : j = pl := by omega
      subst e
      exact b.part q i row (List.getElem?_eq_some_iff.mp hr).1 hq hr hb
/-- each found integer is come to by its word -/
theorem Bf.word (b : Bf rows B s g pl r) : ∀ (m j : Nat) (n : Nd), j ≤ m → g[j]? = some n → Word rows B s n.word n.key
  | m, j, n, hj, h => by
    by_cases e : 0 < j
    · obtain ⟨k, p, i, row, h1, h2, h3, h4, h5, h6⟩ := b.pre j n h e
      cases m with
      | zero => omega
      | succ m =>
        have := Bf.word b m k p (by omega) h2
        rw [h6]
        exact this.snoc h3 h4 (b.bnd n (List.mem_of_getElem? h))
    · have e : j = 0 := by omega
      subst e
      rw [b.root] at h
      cases h
      exact .nil _
theorem Bf.word' (b : Bf rows B s g pl r) {n : Nd} (hn : n ∈ g) : Word rows B s n.word n.key := by
  obtain ⟨j, hj, e⟩ := List.getElem_of_mem hn
  exact b.word j j n (Nat.le_refl _) (by rw [List.getElem?_eq_getElem hj, e])
/-- all looked at: closed -/
theorem Bf.closed (b : Bf rows B s g pl 0) (hpl : g.length ≤ pl) {n : Nd} (hn : n ∈ g) {i : Nat} {row : List Int} (hr : rows[i]? = some row) (hb : ((ledI row n.key).natAbs : Int) ≤ B) : ledI row n.key ∈ g.map (·.key) := by
  obtain ⟨j, hj, e⟩ := List.getElem_of_mem hn
  obtain ⟨m, hm, h, _⟩ := b.done j n i row (by omega) (by rw [List.getElem?_eq_getElem hj, e]) hr hb
  exact List.mem_map.mpr ⟨m, hm, h⟩
theorem Bf.all (b : Bf rows B s g pl 0) (hpl : g.length ≤ pl) {x y : Int} {w : List Nat} (h : Word rows B x w y) (hx : x ∈ g.map (·.key)) : y ∈ g.map (·.key) := by
  induction h with
  | nil _ => exact hx
  | cons hr hy hb _ ih =>
    refine ih ?_
    obtain ⟨n, hn, e⟩ := List.mem_map.mp hx
    subst hy
    rw [← e] at hb ⊢
    exact b.closed hpl hn hr hb
theorem Bf.root_mem (b : Bf rows B s g pl r) : s ∈ g.map (·.key) := List.mem_map.mpr ⟨_, List.mem_of_getElem? b.root, rfl⟩
/-- the goal's word is one of the shortest -/
theorem Bf.least (b : Bf rows B s g pl 0) {t : Nd} (ht : t ∈ g) {x y : Int} {w : List Nat} (h : Word rows B x w y) : y = t.key → ∀ (j : Nat) (p : Nd) (m : Nat), g[j]? = some p → p.key = x → p.word.length ≤ m → t.word.length ≤ m + w.length := by
  induction h with
  | nil x =>
    intro e j p m hj hk hm
    have : p = t := b.uniq (List.mem_of_getElem? hj) ht (hk.trans e)
    subst this
    exact hm
  | cons hr hy hb h ih =>
    intro e j p m hj hk hm
    subst hk hy
    by_cases hl : j < pl
    · obtain ⟨n, hn, e1, e2⟩ := b.done j p _ _ hl hj hr hb
      obtain ⟨k, hk, e3⟩ := List.getElem_of_mem hn
      have := ih e k n (m + 1) (by rw [List.getElem?_eq_getElem hk, e3]) e1 (by omega)
      rw [List.length_cons]
      omega
    · have hj' : j < g.length := (List.getElem?_eq_some_iff.mp hj).1
      have hp := List.getElem?_eq_getElem (show pl < g.length by omega)
      have h1 := b.top t _ ht hp
      have h2 := b.mono pl j _ _ (by omega) hp hj
      rw [List.length_cons]
      omega
theorem Bf.least' (b : Bf rows B s g pl 0) {t : Nd} (ht : t ∈ g) {w : List Nat} (h : Word rows B s w t.key) : t.word.length ≤ w.length := by
  have := b.least ht h rfl 0 _ 0 b.root rfl (Nat.le_refl _)
  omega
end
/-- what the search ends with: looked at all, or the goal is there -/
structure Found (rows : List (List Int)) (B : Int) (s : Int) (goal : Option Int) (g : List Nd) : Prop where
  ex : ∃ pl, Bf rows B s g pl 0 ∧ (g.length ≤ pl ∨ ∃ t, goal = some t ∧ t ∈ g.map (·.key))
theorem Found.mem {rows : List (List Int)} {B s t : Int} {g : List Nd} (f : Found rows B s (some t) g) {w : List Nat} (h : Word rows B s w t) : t ∈ g.map (·.key) := by
  obtain ⟨pl, b, h1 | ⟨u, e, h2⟩⟩ := f.ex
  · exact b.all h1 h b.root_mem
  · cases e
    exact h2
theorem Found.none {rows : List (List Int)} {B s t : Int} {g : List Nd} (f : Found rows B s Option.none g) {w : List Nat} (h : Word rows B s w t) : t ∈ g.map (·.key) := by
  obtain ⟨pl, b, h1 | ⟨u, e, h2⟩⟩ := f.ex
  · exact b.all h1 h b.root_mem
  · cases e
end SW

/-! K86Math2: one step done again and again, and the choices of that one step. -/
namespace SW
/-- the number behind n times the step -/
def orb (row : List Int) (s : Int) : Nat → Int
  | 0 => s
  | n + 1 => ledI row (orb row s n)
theorem orb_zero {row : List Int} {s : Int} : orb row s 0 = s := rfl
theorem orb_succ {row : List Int} {s : Int} {n : Nat} : orb row s (n + 1) = ledI row (orb row s n) := rfl
theorem orb_add {row : List Int} {s : Int} (m : Nat) : ∀ n, orb row s (m + n) = orb row (orb row s m) n
  | 0 => rfl
  | n + 1 => by
    rw [← Nat.add_assoc, orb_succ, orb_succ, orb_add m n]
/-- the walk of unlike numbers within B, and the next number -/
structure Wk (row : List Int) (B : Int) (s : Int) (l : List Int) (nx : Int) : Prop where
  items : ∀ (i : Nat) (x : Int), l[i]? = some x → x = orb row s i
  nodup : l.Nodup
  bnd : ∀ x ∈ l, (x.natAbs : Int) ≤ B
  next : nx = orb row s l.length
section
variable {row : List Int} {B s nx : Int} {l : List Int}
theorem Wk.start : Wk row B s [] s := ⟨fun i x h => by simp at h, List.nodup_nil, fun x h => absurd h List.not_mem_nil, rfl⟩
theorem Wk.step (k : Wk row B s l nx) (hb : (nx.natAbs : Int) ≤ B) (hn : ¬ nx ∈ l) : Wk row B s (l ++ [nx]) (ledI row nx) := by
  refine ⟨fun i x h => ?_, ?_, fun x h => ?_, ?_⟩
  · by_cases hi : i < l.length
    · rw [List.getElem?_append_left hi] at h
      exact k.items i x h
    · rw [List.getElem?_append_right (by omega)] at h
      cases c : i - l.length with
      | zero =>
        rw [c] at h
        have e : nx = x := Option.some.inj h
        have e2 : i = l.length := by omega
        rw [← e, e2]
        exact k.next
      | succ n =>
        rw [c] at h
        simp at h
  · rw [List.nodup_append]
    refine ⟨k.nodup, by simp, fun a ha c hc => ?_⟩
    have e : c = nx := by simpa using hc
    subst e
    intro z
    subst z
    exact hn ha
  · rcases List.mem_append.mp h with h | h
    · exact k.bnd x h
    · rw [List.mem_singleton.mp h]
      exact hb
  · rw [List.length_append, List.length_singleton, orb_succ, ← k.next]
theorem Wk.len (k : Wk row B s l nx) (hB : 0 ≤ B) : (l.length : Int) ≤ 2 * B + 1 :=
  nodup_bound hB k.nodup fun x hx => by
    have := k.bnd x hx
    omega
theorem Wk.at (k : Wk row B s l nx) {i : Nat} (hi : i < l.length) : l[i]? = some (orb row s i) := by
  rw [List.getElem?_eq_getElem hi]
  exact congrArg some (k.items i _ (List.getElem?_eq_getElem hi))
theorem Wk.orb_mem (k : Wk row B s l nx) {i : Nat} (hi : i < l.length) : orb row s i ∈ l := List.mem_of_getElem? (k.at hi)
/-- it comes round: all numbers behind are in the walk -/
theorem Wk.all (k : Wk row B s l nx) (hr : nx ∈ l) : ∀ n, orb row s n ∈ l
  | 0 => by
    have h0 : 0 < l.length := List.length_pos_of_mem hr
    exact k.orb_mem h0
  | n + 1 => by
    obtain ⟨i, hi, e⟩ := List.getElem_of_mem (k.all hr n)
    have e1 : orb row s n = orb row s i := e.symm.trans (k.items i _ (List.getElem?_eq_getElem hi))
    rw [orb_succ, e1, ← orb_succ]
    by_cases c : i + 1 < l.length
    · exact k.orb_mem c
    · have e2 : i + 1 = l.length := by omega
      rw [e2, ← k.next]
      exact hr
end
/-! ### words of one step -/
section
variable {row : List Int} {B : Int}
theorem word_orb {s t : Int} {w : List Nat} (h : Word [row] B s w t) : w = List.replicate w.length 0 ∧ t = orb row s w.length ∧ ∀ j, 1 ≤ j → j ≤ w.length → ((orb row s j).natAbs : Int) ≤ B := by
  generalize e : [row] = rs at h
  induction h with
  | nil x => exact ⟨rfl, rfl, fun j h1 h2 => by simp at h2; omega⟩
  | @cons x y z i r w hr hy hb h ih =>
    subst e
    obtain ⟨i1, i2, i3⟩ := ih
    have hi : i = 0 := by
      have := (List.getElem?_eq_some_iff.mp hr).1
      simp at this
      exact this
    subst hi
    have er : row = r := by simpa using hr
    subst er
    have shift : ∀ n, orb row y n = orb row x (n + 1) := fun n => by
      have := orb_add (row := row) (s := x) 1 n
      rw [Nat.add_comm 1 n] at this
      rw [this, orb_succ, orb_zero, hy]
    refine ⟨by rw [List.length_cons, List.replicate_succ, ← i1], by rw [i2, List.length_cons, shift], fun j h1 h2 => ?_⟩
    by_cases c : j = 1
    · subst c
      rw [orb_succ, orb_zero, hy]
      exact hb
    · have := i3 (j - 1) (by omega) (by simp at h2; omega)
      rw [shift, show j - 1 + 1 = j by omega] at this
      exact this
theorem orb_word {s : Int} : ∀ (n : Nat), (∀ j, 1 ≤ j → j ≤ n → ((orb row s j).natAbs : Int) ≤ B) → Word [row] B s (List.replicate n 0) (orb row s n)
  | 0, _ => .nil s
  | n + 1, h => by
    have := (orb_word n fun j h1 h2 => h j h1 (by omega)).snoc (i := 0) (row := row) rfl (orb_succ (n := n)).symm (h (n + 1) (by omega) (Nat.le_refl _))
    rw [← List.replicate_succ'] at this
    exact this
theorem orb_word' {s : Int} {n : Nat} {t : Int} (e : t = orb row s n) (h : ∀ j, 1 ≤ j → j ≤ n → ((orb row s j).natAbs : Int) ≤ B) : Word [row] B s (List.replicate n 0) t := by
  rw [e]
  exact orb_word n h
section
variable {s nx : Int} {l : List Int} {C : Int}
/-- the least word to a number of the walk -/
theorem Wk.reach (k : Wk row B s l nx) (hC : B ≤ C) {i : Nat} {x : Int} (hx : l[i]? = some x) {w : List Nat} (hw : Word [row] C s w x) (hl : ∀ v, Word [row] C s v x → w.length ≤ v.length) : w = List.replicate i 0 := by
  obtain ⟨e1, e2, _⟩ := word_orb hw
  have hi := (List.getElem?_eq_some_iff.mp hx).1
  have ex := k.items i x hx
  have h1 := hl _ (orb_word' ex fun j _ hj => Int.le_trans (k.bnd _ (k.orb_mem (by omega))) hC)
  rw [List.length_replicate] at h1
  have h2 : l[w.length]? = some x := by
    rw [k.at (by omega), ← e2]
  have h3 := getElem?_inj_of_nodup k.nodup h2 hx
  rw [← h3]
  exact e1
theorem Wk.word (k : Wk row B s l nx) (hC : B ≤ C) {x : Int} (hx : x ∈ l) : ∃ w, Word [row] C s w x := by
  obtain ⟨i, hi, e⟩ := List.getElem_of_mem hx
  have ex := k.items i x (by rw [List.getElem?_eq_getElem hi, e])
  exact ⟨_, orb_word' ex fun j _ hj => Int.le_trans (k.bnd _ (k.orb_mem (by omega))) hC⟩
/-- what one word leads to is in the walk, if it comes round -/
theorem Wk.closed (k : Wk row B s l nx) (hr : nx ∈ l) {x : Int} {w : List Nat} (h : Word [row] C s w x) : x ∈ l := by
  rw [(word_orb h).2.1]
  exact k.all hr _
end
/-- some row of choices stays -/
def StaysB (rows : List (List Int)) (B : Int) (s : Int) : Prop := (s.natAbs : Int) ≤ B ∧ ∃ x w v, Word rows B s w x ∧ v ≠ [] ∧ Word rows B x v x
theorem Wk.stays {s nx : Int} {l : List Int} (k : Wk row B s l nx) (he : ¬ (nx.natAbs : Int) ≤ B ∨ nx ∈ l) : StaysB [row] B s ↔ nx ∈ l := by
  constructor
  · rintro ⟨hs, x, w, v, h1, hv, h2⟩
    rcases he with he | he
    · exfalso
      obtain ⟨a1, a2, a3⟩ := word_orb h1
      obtain ⟨b1, b2, b3⟩ := word_orb h2
      have hv0 : 0 < v.length := List.length_pos_iff.mpr hv
      -- from x on all numbers are those of the round
      have per : ∀ (q r : Nat), orb row x (q * v.length + r) = orb row x r := by
        intro q
        induction q with
        | zero => intro r; rw [Nat.zero_mul, Nat.zero_add]
        | succ q ih =>
          intro r
          rw [Nat.succ_mul, Nat.add_assoc, ih, orb_add, ← b2]
      have hx : (x.natAbs : Int) ≤ B := h1.bound hs
      have inB : ∀ n, ((orb row s n).natAbs : Int) ≤ B := by
        intro n
        by_cases c : n ≤ w.length
        · by_cases c0 : n = 0
          · subst c0
            exact hs
          · exact a3 n (by omega) c
        · have e : n = w.length + (n - w.length) := by omega
          rw [e, orb_add, ← a2]
          have e2 : n - w.length = ((n - w.length) / v.length) * v.length + (n - w.length) % v.length := by
            rw [Nat.mul_comm]
            exact (Nat.div_add_mod _ _).symm
          rw [e2, per]
          by_cases c0 : (n - w.length) % v.length = 0
          · rw [c0]
            exact hx
          · exact b3 _ (by omega) (Nat.le_of_lt (Nat.mod_lt _ hv0))
      rw [k.next] at he
      exact he (inB _)
    · exact he
  · intro hr
    have h0 : 0 < l.length := List.length_pos_of_mem hr
    have hs : (s.natAbs : Int) ≤ B := k.bnd s (k.orb_mem h0)
    obtain ⟨i, hi, e⟩ := List.getElem_of_mem hr
    have ex := k.items i nx (by rw [List.getElem?_eq_getElem hi, e])
    have all : ∀ n, ((orb row s n).natAbs : Int) ≤ B := fun n => k.bnd _ (k.all hr n)
    refine ⟨hs, nx, _, List.replicate (l.length - i) 0, orb_word' ex fun j _ _ => all j, ?_, ?_⟩
    · intro z
      have := congrArg List.length z
      rw [List.length_replicate, List.length_nil] at this
      omega
    · refine orb_word' ?_ fun j _ _ => ?_
      · have := orb_add (row := row) (s := s) i (l.length - i)
        rw [show i + (l.length - i) = l.length by omega, ← k.next, ← ex] at this
        exact this
      · have := all (i + j)
        rw [orb_add, ← ex] at this
        exact this
end
end SW

set_option linter.all false
set_option maxRecDepth 100000
set_option maxHeartbeats 4000000
/-! K86Low: rules that the layer has not: t >= u, t * 0, t * 1, t[::-1], sorted of a tuple, repr of data, enumerate of a tuple, not in over a tuple of data. -/
namespace K86
open PySem PySem.Spec PyProof.Rows L2

/-! ### t >= u, two pairs of ints -/
section
variable {X : Cx}
def rGeP (K : PySem.W.Frag) : R2 := fun x y H Q => ∃ (a b : Addr) (i j k l : Int), x = .ref a ∧ y = .ref b ∧ SqT K H a [.int i, .int j] ∧ SqT K H b [.int k, .int l] ∧
  Q (.bl (if i = k then (if j = l then true else decide (l ≤ j)) else decide (k ≤ i))) H
theorem op_geP (hu : X.A.units < cLine) : OpR X (compareOp .GtE) (rGeP X.K) := by
  intro pins st σ H x y v u Q Iv rx ry hh
  obtain ⟨a, b, i, j, k, l, rfl, rfl, ha, hb, q⟩ := hh
  cases rx
  cases ry
  obtain ⟨its, r1, p1, _⟩ := Iv.tuple ha
  obtain ⟨its2, r2, p2, _⟩ := Iv.tuple hb
  obtain ⟨v1, v2, rfl, ⟨t1, rfl⟩, ⟨t2, rfl⟩⟩ := r1.two
  obtain ⟨w1, w2, rfl, ⟨t3, rfl⟩, ⟨t4, rfl⟩⟩ := r2.two
  have eqI : ∀ (A : Around) (m n : Int) (t t' : Tok), SeqAt.EqAt A st (.int m t) (.int n t') (decide (m = n)) := by
    intro A m n t t'
    obtain ⟨e, he, hi⟩ := HT.eqAt_int A st m t n t'
    by_cases c : m = n
    · rw [decide_eq_true c, ← hi.mpr c]
      exact he
    · rw [decide_eq_false c]
      cases e with
      | true => exact absurd (hi.mp rfl) c
      | false => exact he
  have R := Ob.RcOp.tuples_ge (A := X.A) (s := st) (l := a) (b := b) (items := #[.int i t1, .int j t2]) (items2 := #[.int k t3, .int l t4])
    (e := fun n => match n with | 0 => decide (i = k) | _ => decide (j = l)) (r := fun n => match n with | 0 => decide (k ≤ i) | _ => decide (l ≤ j)) p1 p2 hu
    (fun n h1 h2 => by
      match n, h1, h2 with
      | 0, _, _ => exact eqI _ _ _ _ _
      | 1, _, _ => exact eqI _ _ _ _ _
      | n + 2, h1, _ => exact absurd h1 (by simp))
    (fun n h1 h2 _ => by
      match n, h1, h2 with
      | 0, _, _ => exact Ob.RcOp.ge_int _ _ _ _
      | 1, _, _ => exact Ob.RcOp.ge_int _ _ _ _
      | n + 2, h1, _ => exact absurd h1 (by simp))
  refine R X.prog X.w X.xe (EP X pins σ Q) ⟨.bl _, H, Iv, rfl, ?_⟩
  have e : Ob.lexAt (fun n => match n with | 0 => decide (i = k) | _ => decide (j = l)) (fun n => match n with | 0 => decide (k ≤ i) | _ => decide (l ≤ j)) (decide ((#[Value.int i t1, Value.int j t2] : Array Value).size ≥ (#[Value.int k t3, Value.int l t4] : Array Value).size)) 0
      (min (#[Value.int i t1, Value.int j t2] : Array Value).size (#[Value.int k t3, Value.int l t4] : Array Value).size) = (if i = k then (if j = l then true else decide (l ≤ j)) else decide (k ≤ i)) := by
    show Ob.lexAt _ _ (decide (2 ≥ 2)) 0 2 = _
    rw [Ob.lexAt_succ, Ob.lexAt_succ, Ob.lexAt_zero]
    by_cases c : i = k
    · by_cases c2 : j = l
      · simp [c, c2]
      · simp [c, c2]
    · simp [c]
  rw [e]
  exact q
/-! ### t * 0, t * 1 -/
section
variable {P : Program} {w : World} {A : Around} {E : Value → Shared → Prop} {st : Shared}
theorem tup_mul_one (l : Addr) (its : Array Value) (n : Nat) (dd : Option Addr) (sl : Array (Option Value)) (u : Tok) :
    Meets (Builtin.«tuple.__mul__» ⟨[.ref l, .int 1 u], []⟩) (fun _ R s => s.heap.get? l = some { cls := .type "tuple", dict := dd, data := .seq its n, slots := sl } ∧ R (.ok (.ret (Value.ref l))) s) :=
  .of_wp fun prog w A R s h => by
    obtain ⟨hp, g, d, tk, os⟩ := s
    obtain ⟨hl, h⟩ := h
    have f1 := AutoSeq1.idx_int
    have c1 : (its.isEmpty || ((1 : Int) == 1)) = true := by simp
    wp_walk using wpAny_loadPart' hl
    repeat (first
      | (refine wpAny_ite_true (decide_eq_true (by rw [c1])) ?_; wp_walk using wpAny_loadPart' hl)
      | (refine wpAny_ite_false (decide_eq_false (by decide)) ?_; wp_walk using wpAny_loadPart' hl))
    exact ⟨_, rfl, h⟩
theorem tup_mul_zero (l : Addr) (its : Array Value) (n : Nat) (dd : Option Addr) (sl : Array (Option Value)) (u : Tok) (c1 : (its.isEmpty || ((0 : Int) == 1)) = false) :
    Meets (Builtin.«tuple.__mul__» ⟨[.ref l, .int 0 u], []⟩) (fun _ R s => s.heap.get? l = some { cls := .type "tuple", dict := dd, data := .seq its n, slots := sl } ∧
      R (.ok (.ret (Value.ref s.heap.objs.size))) { s with heap := s.heap.push { cls := Value.type "tuple", data := Data.seq #[] }, toks := s.toks }) :=
  .of_wp fun prog w A R s h => by
    obtain ⟨hp, g, d, tk, os⟩ := s
    obtain ⟨hl, h⟩ := h
    have f1 := AutoSeq1.idx_int
    have c2 : (decide ((0 : Int) ≤ 0) || its.isEmpty) = true := by simp
    wp_walk using wpAny_loadPart' hl
    repeat (first
      | (refine wpAny_ite_false (decide_eq_false (by rw [c1]; exact Bool.false_ne_true)) ?_; wp_walk using wpAny_loadPart' hl)
      | (refine wpAny_ite_true (decide_eq_true (by rw [c2])) ?_; wp_walk using wpAny_loadPart' hl)
      | (refine wpAny_ite_false (decide_eq_false (by decide)) ?_; wp_walk using wpAny_loadPart' hl))
    exact ⟨_, rfl, h⟩
end
/-- t * k, t a tuple of one item -/
def rMulT (K : PySem.W.Frag) : R2 := fun x y H Q => ∃ (l : Addr) (k : Nat) (z : V), x = .ref l ∧ y = .int k ∧ SqT K H l [z] ∧ k ≤ 1000 ∧ (k = 1 → Q (.ref l) H) ∧ (k ≠ 1 → ∀ p, H p = none → Q (.ref p) (upd H p (.tup (List.replicate k z))))
theorem op_mulT : OpR X (binaryOp .Mult) (rMulT X.K) := by
  intro pins st σ H x y v u Q Iv rx ry hh
  obtain ⟨l, k, z, rfl, rfl, hT, hk, q1, q2⟩ := hh
  by_cases h2 : 2 ≤ k
  · have flat : (List.replicate ((k : Nat) : Int).toNat [z]).flatten = List.replicate k z := by
      rw [Int.toNat_natCast]
      clear hk q1 q2 ry h2
      induction k with
      | zero => rfl
      | succ k ih => rw [List.replicate_succ, List.flatten_cons, ih, List.replicate_succ]; rfl
    refine op_repT pins st σ H _ _ v u Q Iv rx ry ⟨l, k, [z], rfl, rfl, hT, by simp, by omega, by omega, by simp, fun p hp => ?_⟩
    rw [flat]
    exact q2 (by omega) p hp
  · cases rx
    obtain ⟨t, rfl⟩ := ry
    obtain ⟨its, r, ⟨⟨cls, dd, data, sl⟩, ho, hc, n, hd⟩, hs⟩ := Iv.tuple hT
    simp only at hc hd
    subst hc hd
    obtain ⟨z', rfl, rz⟩ := r.one
    have k01 : k = 0 ∨ k = 1 := by omega
    rcases k01 with e | e
    · subst e
      refine wpAny_binaryOp_repeat_ref (T := "tuple") (U := "int") (by decide) ⟨_, ho, rfl⟩ (fun s' => typeIs_int s' _ t) noFill_tuple_mul F.fills_int_mul F.slot_int_rmul repeat_tuple F.slot_int_index.lookup
        (call_meets F.slot_int_rmul (typeIs_int st _ t) F.entry_int_rmul (F.args_int_rmul_2 _ _) (int_rmul_tuple _ t l _ n dd sl)
          ⟨ho, rfl, ⟨_, ho, rfl⟩, call_meets F.slot_tuple_mul ⟨_, ho, rfl⟩ F.entry_tuple_mul (F.args_tuple_mul_2 _ _) (tup_mul_zero l _ n dd sl t (by rfl)) ⟨ho, ?_⟩⟩)
      refine ⟨.ref st.heap.objs.size, _, Iv.laid (t' := st.toks) (o := .tup []) (fun b ob q => Heap.get?_push_of_some _ q) (Nat.le_refl _) ?_, rfl, q2 (by decide) _ (Iv.hok.fresh (Nat.le_refl _))⟩
      exact ⟨Nat.zero_le _, [], .nil, IsTup.new _ _⟩
    · subst e
      refine wpAny_binaryOp_repeat_ref (T := "tuple") (U := "int") (by decide) ⟨_, ho, rfl⟩ (fun s' => typeIs_int s' _ t) noFill_tuple_mul F.fills_int_mul F.slot_int_rmul repeat_tuple F.slot_int_index.lookup
        (call_meets F.slot_int_rmul (typeIs_int st _ t) F.entry_int_rmul (F.args_int_rmul_2 _ _) (int_rmul_tuple _ t l _ n dd sl)
          ⟨ho, rfl, ⟨_, ho, rfl⟩, call_meets F.slot_tuple_mul ⟨_, ho, rfl⟩ F.entry_tuple_mul (F.args_tuple_mul_2 _ _) (tup_mul_one l _ n dd sl t) ⟨ho, ?_⟩⟩)
      exact ⟨.ref l, H, Iv, rfl, q1 rfl⟩

/-! ### t[::-1] -/
section
variable {prog : Program} {w : World} {A : Around} {E : Value → Shared → Prop} {s : Shared}
theorem applied_back {sl : Addr} {u : Tok} {n : Nat} {Q : Int × Int × Nat → Shared → Prop} (hs : s.heap.IsSliceOf sl .none .none (.int (-1) u))
    (h : Q ((n : Int) - 1, -1, n) s) : wpAny (model prog w) A (Builtin.Slice.sliceApplied (.ref sl) (pure (n : Int))) Q E s := by
  obtain ⟨os, hos, hcs, hds⟩ := id hs
  unfold Builtin.Slice.sliceApplied Builtin.Slice.sliceFields
  refine wpAny_bind (wpAny_bind (wpAny_field hos hds (x := .none) rfl (wpAny_bind (wpAny_field hos hds (x := .none) rfl (wpAny_bind (wpAny_field hos hds (x := .int (-1) u) rfl (wpAny_pure ?_)))))))
  refine wpAny_bind (slicePart_int ?_)
  show wpAny _ _ (if ((-1 : Int) == 0) = true then _ else _) _ _ s
  rw [if_neg (by decide)]
  refine wpAny_bind (slicePart_none (wpAny_bind (slicePart_none (wpAny_bind (wpAny_pure ?_)))))
  show wpAny _ _ (pure ((n : Int) - 1, (-1 : Int), Builtin.Slice.slicePlaces ((n : Int) - 1) (-1) (-1))) _ _ s
  have e : Builtin.Slice.slicePlaces ((n : Int) - 1) (-1) (-1) = n := by
    unfold Builtin.Slice.slicePlaces
    rw [if_neg (by decide)]
    split
    · rw [show (-(-1 : Int)) = 1 by decide, Int.ediv_one]
      omega
    · omega
  rw [e]
  exact wpAny_pure h
theorem fm_congr {α β : Type} {f g : α → Option β} : ∀ {l : List α}, (∀ x ∈ l, f x = g x) → l.filterMap f = l.filterMap g
  | [], _ => rfl
  | a :: l, h => by
    rw [List.filterMap_cons, List.filterMap_cons, h a List.mem_cons_self, fm_congr fun x hx => h x (List.mem_cons_of_mem _ hx)]
theorem pick_back (xs : List Value) : (List.range xs.length).filterMap (fun (k : Nat) => xs.toArray[((xs.length : Int) - 1 + (k : Int) * (-1)).toNat]?) = xs.reverse := by
  refine List.ext_getElem? fun i => ?_
  have e : (List.range xs.length).filterMap (fun (k : Nat) => xs.toArray[((xs.length : Int) - 1 + (k : Int) * (-1)).toNat]?) = (List.range xs.length).filterMap (fun (k : Nat) => some (xs.reverse.getD k .none)) := by
    refine fm_congr fun k hk => ?_
    have hk : k < xs.length := List.mem_range.mp hk
    have e1 : ((xs.length : Int) - 1 + (k : Int) * (-1)).toNat = xs.length - 1 - k := by omega
    rw [e1, List.getElem?_toArray, List.getD_eq_getElem?_getD, List.getElem?_reverse hk, List.getElem?_eq_getElem (by omega)]
    rfl
  rw [e, List.filterMap_eq_map', List.getElem?_map]
  by_cases hi : i < xs.length
  · rw [List.getElem?_range hi]
    show some (xs.reverse.getD i .none) = _
    rw [List.getD_eq_getElem?_getD, List.getElem?_eq_getElem (by rw [List.length_reverse]; exact hi)]
    rfl
  · rw [List.getElem?_eq_none (by rw [List.length_range]; omega), List.getElem?_eq_none (by rw [List.length_reverse]; omega)]
    rfl
theorem getItem_tup_back {t sl : Addr} {its : List Value} {u : Tok} {Q : Value → Shared → Prop} (ht : IsTup s.heap t its.toArray) (hs : s.heap.IsSliceOf sl .none .none (.int (-1) u))
    (h : Q (.ref s.heap.objs.size) { s with heap := s.heap.push { cls := .type "tuple", data := .seq its.reverse.toArray } }) (hsz : its.length ≤ sizeLine) : wpAny (model prog w) A (getItem (.ref t) (.ref sl)) Q E s := by
  have hz : sizeOk (.seq its.reverse.toArray) := by
    show its.reverse.toArray.size ≤ sizeLine
    rw [List.size_toArray, List.length_reverse]
    exact hsz
  obtain ⟨os, hos, hcs, hds⟩ := id hs
  have hT : s.TypeIs (.ref sl) "slice" := ⟨os, hos, hcs⟩
  unfold getItem
  try with_reducible refine wpAny_holding ?_
  first | refine wpAny_bind (wpAny_pure ?_) | skip
  refine wpAny_bind (wpAny_sequenceKey ht.typeIs (by decide) ?_)
  refine wpAny_bind (wpAny_callSpecial?_slot (name := Str.ofString "__getitem__") ht.typeIs slot_tuple_getitem (wpAny_call_entry slot_tuple_getitem ht.typeIs entry_tuple_getitem ?_ (args_tuple_getitem _ _)))
  show wpAny _ _ (Builtin.Tuple.tupleItemsOf (.ref t) >>= _) _ _ s
  refine wpAny_bind (tupleItemsOf_ ht (wpAny_bind (wpAny_typeOf hT ?_)))
  rw [if_pos (by decide)]
  refine wpAny_bind (applied_back (n := its.toArray.size) hs ?_)
  have hno : ¬ ((((its.toArray.size : Int) - 1) == 0 && (-1 : Int) == 1 && its.toArray.size == its.toArray.size) = true) := by simp
  show wpAny _ _ (if (((its.toArray.size : Int) - 1) == 0 && (-1 : Int) == 1 && its.toArray.size == its.toArray.size) = true then _ else _) _ _ s
  rw [if_neg hno, List.size_toArray, pick_back its]
  first
    | exact wpAny_bind (m := Builtin.Tuple.tupleExact _) (wpAny_newObj_type (wpAny_pure ⟨_, rfl, wpAny_pure h⟩) hz)
    | exact wpAny_bind (wpAny_bind (m := Builtin.Tuple.tupleExact _) (wpAny_newObj_type (wpAny_pure ⟨_, rfl, wpAny_pure h⟩) hz))
end
def tRevT (K : PySem.W.Frag) (te : TE) : TE := fun σ H Q => te σ H fun x H1 => ∃ a xs, x = .ref a ∧ SqT K H1 a xs ∧ ∀ p, H1 p = none → Q (.ref p) (upd H1 p (.tup xs.reverse))
theorem pe_revT {e : Expr} {te : TE} {k : Nat} {p1 p2 p3 pos : Pos} (he : PE X e te) : PE X (.Subscript e (.Slice none none (some (.UnaryOp .USub (.Constant (.int 1) k p1) p2)) p3) pos) (tRevT X.K te) := by
  refine ⟨fun pins s σ H Q Iv h => ?_⟩
  refine Subscript_ (thn (he.run pins s σ H _ Iv h) fun v s1 ⟨x, H1, I1, r1, a, xs, ex, hx, q⟩ => ?_)
  subst ex
  cases r1
  have part : PO X (some (.UnaryOp .USub (.Constant (.int 1) k p1) p2)) (tPart (tUn (rU fun i => .int (-i)) (tC (.int 1)))) := po_some (pe_un un_neg pe_int)
  refine wpAny_Slice (thn (po_none.run pins s1 σ H1 (fun o G => o = none ∧ G = H1) I1 ⟨rfl, rfl⟩) fun vl s2 ⟨l, H2, I2, pl, el, e2⟩ => ?_)
  subst el e2
  refine thn (po_none.run pins s2 σ H2 (fun o G => o = none ∧ G = H2) I2 ⟨rfl, rfl⟩) fun vu s3 ⟨o3, H3, I3, pu, eu, e3⟩ => ?_
  subst eu e3
  refine thn (part.run pins s3 σ H3 (fun o G => o = some (-1) ∧ G = H3) I3 ⟨1, rfl, -1, rfl, rfl, rfl⟩) fun vs s4 ⟨o, H4, I4, ps, eo, e4⟩ => ?_
  subst eo e4
  cases pl
  cases pu
  cases ps with
  | int _ tk =>
    have I5 : Inv X pins σ H4 { s4 with heap := s4.heap.push { cls := .type "slice", data := .fields #[.none, .none, .int (-1) tk] } } := I4.kept (t' := s4.toks) fun b ob q => Heap.get?_push_of_some _ q
    obtain ⟨its, r, ht, hz⟩ := I5.tuple hx
    have hlen := r.length
    show wpAny (model X.prog X.w) X.A (subscriptTail e (.Slice none none (some (.UnaryOp .USub (.Constant (.int 1) k p1) p2)) p3) (.ref a) (.ref s4.heap.objs.size)) (EP X pins σ Q) X.xe { s4 with heap := s4.heap.push { cls := .type "slice", data := .fields #[.none, .none, .int (-1) tk] } }
    refine tail_any (ops := [.ref a, .ref s4.heap.objs.size]) ht.typeIs (slot_tuple_getitem.lookup) ?_ (by with_unfolding_all rfl)
    refine getItem_tup_back ht (Heap.IsSliceOf.new _ _ _ _) ?_ (by omega)
    refine ⟨.ref _, _, I5.laid (t' := s4.toks) (o := .tup xs.reverse) (fun b ob q => Heap.get?_push_of_some _ q) (Nat.le_refl _) ?_, rfl, q _ (I5.hok.fresh (Nat.le_refl _))⟩
    exact ⟨by rw [List.length_reverse]; exact hz, _, r.reverse, IsTup.new _ _⟩
end
end K86

/-! K86Low2: data made of pairs (n, 1); not in over a tuple; sorted of a tuple; repr; enumerate of a tuple. -/
namespace K86
open PySem PySem.Spec PyProof.Rows L2

/-! ### pairs (n, 1) as data -/
def prI (n : Int) : PyData := .tuple [.int n, .int 1]
theorem prI_lay (n : Int) : (prI n).canLay0 = true := by simp [prI, PyData.canLay0, PyData.canLayAll0]
theorem prI_depth (n : Int) : (prI n).depth = 1 := by simp [prI, PyData.depth, PyData.depthAll]
theorem prIs_lay : ∀ ns : List Int, PyData.canLayAll0 (ns.map prI) = true
  | [] => by simp [PyData.canLayAll0]
  | n :: ns => by simp [PyData.canLayAll0, prI_lay n, prIs_lay ns]
theorem prIs_depth : ∀ ns : List Int, PyData.depthAll (ns.map prI) ≤ 1
  | [] => by simp [PyData.depthAll]
  | n :: ns => by
    have h1 := prIs_depth ns
    have h2 := prI_depth n
    simp only [List.map_cons, PyData.depthAll]
    omega
theorem prI_shaped (n : Int) : SeqAt.shaped (prI n) = true := by
  have h := prI_depth n
  show ((prI n).canLay0 && decide ((prI n).depth ≤ 64)) = true
  rw [prI_lay, decide_eq_true (by omega)]
  rfl
theorem prIs_shapedL (ns : List Int) : SeqAt.shaped (.list (ns.map prI)) = true := by
  have h1 := prIs_depth ns
  have h2 : PyData.depth (.list (ns.map prI)) ≤ 64 := by
    simp only [PyData.depth]
    omega
  show (PyData.canLay0 (.list (ns.map prI)) && decide (PyData.depth (.list (ns.map prI)) ≤ 64)) = true
  rw [decide_eq_true h2, Bool.and_true]
  simp only [PyData.canLay0]
  exact prIs_lay ns
theorem prIs_shapedT (ns : List Int) : SeqAt.shaped (.tuple (ns.map prI)) = true := by
  have h1 := prIs_depth ns
  have h2 : PyData.depth (.tuple (ns.map prI)) ≤ 64 := by
    simp only [PyData.depth]
    omega
  show (PyData.canLay0 (.tuple (ns.map prI)) && decide (PyData.depth (.tuple (ns.map prI)) ≤ 64)) = true
  rw [decide_eq_true h2, Bool.and_true]
  simp only [PyData.canLay0]
  exact prIs_lay ns
theorem prI_eqv (a b : Int) : PyData.eqv (prI a) (prI b) = decide (a = b) := by
  have e : PyData.eqv (prI a) (prI b) = ((a == b) && (((1 : Int) == 1) && true)) := by simp only [prI, PyData.eqv, PyData.eqvAll]
  rw [e]
  by_cases h : a = b
  · simp [h]
  · simp [h]
theorem prIs_any (ns : List Int) (a : Int) : ((ns.map prI).any fun z => PyData.eqv z (prI a)) = decide (a ∈ ns) := by
  induction ns with
  | nil => simp
  | cons n ns ih =>
    rw [List.map_cons, List.any_cons, ih, prI_eqv]
    by_cases h : n = a
    · simp [h]
    · have h' : ¬ a = n := fun e => h e.symm
      simp [h, h']
theorem ints_shapedT (ns : List Int) : SeqAt.shaped (.tuple (ns.map PyData.int)) = true := by
  have h1 : ∀ ns : List Int, PyData.canLayAll0 (ns.map PyData.int) = true ∧ PyData.depthAll (ns.map PyData.int) = 0 := by
    intro ns
    induction ns with
    | nil => simp [PyData.canLayAll0, PyData.depthAll]
    | cons n ns ih =>
      simp only [List.map_cons, PyData.canLayAll0, PyData.depthAll, PyData.canLay0, PyData.depth]
      exact ⟨by rw [ih.1]; rfl, by rw [ih.2]; rfl⟩
  obtain ⟨a, b⟩ := h1 ns
  show (PyData.canLay0 (.tuple (ns.map PyData.int)) && decide (PyData.depth (.tuple (ns.map PyData.int)) ≤ 64)) = true
  have h2 : PyData.depth (.tuple (ns.map PyData.int)) ≤ 64 := by
    simp only [PyData.depth]
    omega
  rw [decide_eq_true h2, Bool.and_true]
  simp only [PyData.canLay0]
  exact a
theorem ints_shapedL (ns : List Int) : SeqAt.shaped (.list (ns.map PyData.int)) = true := by
  have h1 : ∀ ns : List Int, PyData.canLayAll0 (ns.map PyData.int) = true ∧ PyData.depthAll (ns.map PyData.int) = 0 := by
    intro ns
    induction ns with
    | nil => simp [PyData.canLayAll0, PyData.depthAll]
    | cons n ns ih =>
      simp only [List.map_cons, PyData.canLayAll0, PyData.depthAll, PyData.canLay0, PyData.depth]
      exact ⟨by rw [ih.1]; rfl, by rw [ih.2]; rfl⟩
  obtain ⟨a, b⟩ := h1 ns
  show (PyData.canLay0 (.list (ns.map PyData.int)) && decide (PyData.depth (.list (ns.map PyData.int)) ≤ 64)) = true
  have h2 : PyData.depth (.list (ns.map PyData.int)) ≤ 64 := by
    simp only [PyData.depth]
    omega
  rw [decide_eq_true h2, Bool.and_true]
  simp only [PyData.canLay0]
  exact a

/-! ### d not in a tuple of data -/
section
variable {X : Cx}
def rNotInT (K : PySem.W.Frag) : R2 := fun x y H Q => ∃ d ds, Dp K H x d ∧ Dp K H y (.tuple ds) ∧ SeqAt.shaped d = true ∧ SeqAt.shaped (.tuple ds) = true ∧ Q (.bl (!ds.any fun z => PyData.eqv z d)) H
theorem op_notInT (hu : X.A.units + 65 < cLine) : OpR X (compareOp .NotIn) (rNotInT X.K) := by
  intro pins st σ H x y v u Q Iv rx ry hh
  obtain ⟨d, ds, hd, he, sd, se, q⟩ := hh
  obtain ⟨as, k1⟩ := Dp.reads Iv d x v hd rx
  obtain ⟨bs, k2⟩ := Dp.reads Iv (.tuple ds) y u he ry
  exact SeqAt.notIn_tuple_reads k2 k1 (SeqAt.canLay_of_shaped se) (SeqAt.canLay_of_shaped sd) (room_in_shaped sd hu) ⟨.bl _, H, Iv, rfl, q⟩

/-! ### repr of data -/
/-- what repr says of data -/
def rRepr (K : PySem.W.Frag) : List V → Hp → VK → Prop := fun xs H Q => ∃ (x : V) (d : PyData), xs = [x] ∧ Dp K H x d ∧ d.showable = true ∧ d.hasDict = false ∧ d.depth ≤ 8 ∧ d.shown.length ≤ sizeLine ∧ (∀ z, d ≠ .str z) ∧ Q (.str d.shown) H
theorem cr_repr (hg : X.A.guards = some []) (hu : X.A.units + 64 < cLine) : CallR X (.builtin "repr") (rRepr X.K) := by
  intro pins s σ H xs us Q Iv r hh
  obtain ⟨x, d, rfl, hd, hs, hn, hdep, hz, hstr, q⟩ := hh
  obtain ⟨u, rfl, ru⟩ := vals1 r
  obtain ⟨as, rd⟩ := Dp.reads Iv d x u hd ru
  have big : ∀ {a : Addr}, u = .ref a → wpAny (model X.prog X.w) X.A (call (.builtin "repr") [u]) (EP X pins σ Q) X.xe s := by
    intro a e
    subst e
    refine PySem.repr_of_reads' rd hs (fun z => by rw [hn] at z; cases z) hg (by omega) (fun _ _ e => e) (fun h' t tk hk => ?_) hz
    exact ⟨.str d.shown, H, Iv.kept (t' := tk) hk, ⟨_, rfl⟩, q⟩
  cases hd with
  | non =>
    cases ru
    exact PySem.P.repr_of_none ⟨.str _, H, Iv.tok _, ⟨_, rfl⟩, by simpa [PyData.shown] using q⟩
  | bl b =>
    cases ru
    exact PySem.P.repr_of_bool ⟨.str _, H, Iv.tok _, ⟨_, rfl⟩, by simpa [PyData.shown] using q⟩
  | int i =>
    obtain ⟨t, rfl⟩ := ru
    have hs' : i.natAbs.log2 < 1920 := by simpa [PyData.showable] using hs
    exact PySem.P.repr_of_int hs' ⟨.str _, H, Iv.tok _, ⟨_, rfl⟩, by simpa [PyData.shown] using q⟩
  | str z => exact absurd rfl (hstr z)
  | lst _ _ => exact big ru
  | tup _ _ => exact big ru
end

/-! ### small data, to be shown -/
structure Shw (d : PyData) : Prop where
  able : d.showable = true
  nodict : d.hasDict = false
  depth : d.depth ≤ 8
  len : d.shown.length ≤ sizeLine
  nstr : ∀ z, d ≠ .str z
theorem int_small : ∀ k ∈ List.range 201, (PyData.shown (.int ((k : Int) - 100))).length ≤ 8 ∧ PyData.showable (.int ((k : Int) - 100)) = true := by decide +kernel
theorem int_leaf {n : Int} (h1 : -100 ≤ n) (h2 : n ≤ 100) : PyData.leavesShort 8 (.int n) = true ∧ PyData.showable (.int n) = true := by
  have := int_small (n + 100).toNat (List.mem_range.mpr (by omega))
  have e : (((n + 100).toNat : Nat) : Int) - 100 = n := by omega
  rw [e] at this
  refine ⟨?_, this.2⟩
  simp only [PyData.leavesShort]
  exact decide_eq_true this.1
theorem Shw.bl (b : Bool) : Shw (.bool b) := ⟨by simp [PyData.showable], by simp [PyData.hasDict], by simp [PyData.depth], by cases b <;> decide +kernel, fun z e => by cases e⟩
theorem shw_of {d : PyData} (h1 : d.showable = true) (h2 : d.hasDict = false) (h3 : d.depth ≤ 8) (h4 : d.leavesShort 8 = true) (h5 : d.bulk ≤ 2 ^ 20) (h6 : ∀ z, d ≠ .str z) : Shw d :=
  ⟨h1, h2, h3, PyData.shown_fits_bulk (Nat.le_refl 8) (by decide) h4 h5, h6⟩
theorem ints_all : ∀ {ns : List Int}, (∀ n ∈ ns, -100 ≤ n ∧ n ≤ 100) → PyData.showableAll (ns.map PyData.int) = true ∧ PyData.hasDictAll (ns.map PyData.int) = false ∧ PyData.depthAll (ns.map PyData.int) ≤ 1 ∧ PyData.leavesShortAll 8 (ns.map PyData.int) = true ∧ PyData.bulkAll (ns.map PyData.int) = ns.length
  | [], _ => by simp [PyData.showableAll, PyData.hasDictAll, PyData.depthAll, PyData.leavesShortAll, PyData.bulkAll]
  | n :: ns, h => by
    obtain ⟨a1, a2, a3, a4, a5⟩ := ints_all fun m hm => h m (List.mem_cons_of_mem _ hm)
    obtain ⟨b1, b2⟩ := h n List.mem_cons_self
    obtain ⟨c1, c2⟩ := int_leaf b1 b2
    simp only [List.map_cons, PyData.showableAll, PyData.hasDictAll, PyData.depthAll, PyData.leavesShortAll, PyData.bulkAll, a1, a2, a4, a5, c1, c2, PyData.hasDict, PyData.depth, PyData.bulk, List.length_cons]
    refine ⟨rfl, rfl, by omega, rfl, by omega⟩
theorem prs_all : ∀ {ns : List Int}, (∀ n ∈ ns, -100 ≤ n ∧ n ≤ 100) → PyData.showableAll (ns.map prI) = true ∧ PyData.hasDictAll (ns.map prI) = false ∧ PyData.depthAll (ns.map prI) ≤ 2 ∧ PyData.leavesShortAll 8 (ns.map prI) = true ∧ PyData.bulkAll (ns.map prI) = 3 * ns.length
  | [], _ => by simp [PyData.showableAll, PyData.hasDictAll, PyData.depthAll, PyData.leavesShortAll, PyData.bulkAll]
  | n :: ns, h => by
    obtain ⟨a1, a2, a3, a4, a5⟩ := prs_all fun m hm => h m (List.mem_cons_of_mem _ hm)
    obtain ⟨c1, c2, c3, c4, c5⟩ := ints_all (ns := [n, 1]) fun m hm => by
      rcases List.mem_cons.mp hm with e | e
      · rw [e]
        exact h n List.mem_cons_self
      · rw [List.mem_singleton.mp e]
        decide
    have e : prI n = .tuple ([n, 1].map PyData.int) := rfl
    rw [List.map_cons]
    simp only [PyData.showableAll, PyData.hasDictAll, PyData.depthAll, PyData.leavesShortAll, PyData.bulkAll, a1, a2, a4, a5, e, PyData.showable, PyData.hasDict, PyData.depth, PyData.leavesShort, PyData.bulk, c1, c2, c4, c5, List.length_cons]
    refine ⟨rfl, rfl, ?_, rfl, ?_⟩
    · omega
    · simp only [List.length_nil]
      omega
theorem Shw.ints {ns : List Int} (h : ∀ n ∈ ns, -100 ≤ n ∧ n ≤ 100) (hl : ns.length ≤ 1000) : Shw (.tuple (ns.map PyData.int)) := by
  obtain ⟨a1, a2, a3, a4, a5⟩ := ints_all h
  refine shw_of ?_ ?_ ?_ ?_ ?_ (fun z e => by cases e)
  · simpa [PyData.showable] using a1
  · simpa [PyData.hasDict] using a2
  · simp only [PyData.depth]
    omega
  · simpa [PyData.leavesShort] using a4
  · simp only [PyData.bulk, a5]
    omega
theorem Shw.prs {ns : List Int} (h : ∀ n ∈ ns, -100 ≤ n ∧ n ≤ 100) (hl : ns.length ≤ 1000) : Shw (.tuple (ns.map prI)) := by
  obtain ⟨a1, a2, a3, a4, a5⟩ := prs_all h
  refine shw_of ?_ ?_ ?_ ?_ ?_ (fun z e => by cases e)
  · simpa [PyData.showable] using a1
  · simpa [PyData.hasDict] using a2
  · simp only [PyData.depth]
    omega
  · simpa [PyData.leavesShort] using a4
  · simp only [PyData.bulk, a5]
    omega

/-! ### enumerate of a tuple -/
/-- the tuple at a, each item in a new pair behind its place -/
def IteT (K : PySem.W.Frag) (a : Addr) : It :=
  ⟨fun i H => ∃ (xs : List V) (x : V), SqT K H a xs ∧ xs[i]? = some x, fun i H v G => ∃ T x, v = .ref T ∧ H T = none ∧ G = upd H T (.tup [.int (i : Nat), x]) ∧ ∀ xs, SqT K H a xs → xs[i]? = some x, fun i H => ∃ xs : List V, SqT K H a xs ∧ xs.length ≤ i⟩
theorem turn_enumT {P : Program} {w : World} {K : PySem.W.Frag} {elts : List Expr} {kk : Nat} {tpos : Pos} (a e it : Addr) :
    Turn P w K (.Tuple elts kk tpos) (IteT K a) [e, it] e (fun i h => (∃ old, IsEnum h e it ((i : Nat) : Int) old) ∧ h.IsTupleIter it a i ∧ e ≠ it ∧ a ≠ it ∧ a ≠ e) where
  mem := by simp
  obj := fun i h st b hb => by
    obtain ⟨⟨old, he⟩, ⟨o, ho, hc, hd⟩, _⟩ := st
    have e' : b = e ∨ b = it := by simpa using hb
    rcases e' with z | z
    · rw [z]
      exact ⟨_, he, fun v q => nomatch q⟩
    · rw [z]
      exact ⟨o, ho, fun v q => by rw [hd] at q; cases q⟩
  keep := fun i h g st k => let ⟨⟨old, he⟩, hi, hne⟩ := st; ⟨⟨old, k e (by simp) _ he⟩, hi.at fun o q => k it (by simp) o q, hne⟩
  item := by
    intro X hP hw hK hc i pins s σ H E Iv hf st hg
    subst hP hw hK
    obtain ⟨⟨old, he⟩, hit, hne, hai, hae⟩ := st
    obtain ⟨xs, x, hq, hx⟩ := hg
    obtain ⟨its, rv, p, hz⟩ := Iv.tuple hq
    obtain ⟨u, hu, ru⟩ := rv.get hx
    have hi : i < its.toArray.size := by
      rw [List.size_toArray]
      exact (List.getElem?_eq_some_iff.mp hu).1
    have hel : e < s.heap.objs.size := Heap.lt_size he
    have hil : it < s.heap.objs.size := by
      obtain ⟨_, q, _⟩ := hit
      exact Heap.lt_size q
    refine PySem.wpAny_pyNext_enum_itemD (Draws.tuple (A := X.A.in1) (Iv.ok.hd hc) it a hai its.toArray) he ⟨hit, p⟩ hi hne (by simp [hne, Ne.symm hae]) fun v h' tk hv ho ht hT hsz hk => ?_
    have ev : v = u := by
      have : some v = some u := by
        rw [← hu, ← hv]
        simp
      exact Option.some.inj this
    subst ev
    refine ⟨_, rfl, wpAny_letOwnedTupleGo_enum (s := { s with heap := h', toks := tk + 1 }) ho fun h'' he' sb => ?_⟩
    have hT2 : h''.get? s.heap.objs.size = some { cls := .type "tuple", data := .seq #[.int i tk, v] } := (sb.2 _ (Nat.ne_of_gt hel)).trans hT
    have new : ObjOk X.prog X.w (upd H s.heap.objs.size (.tup [.int (i : Nat), x])) h'' s.heap.objs.size (.tup [.int (i : Nat), x]) :=
      ⟨by show 2 ≤ sizeLine; decide, [.int i tk, v], .cons ⟨_, rfl⟩ (.cons ru .nil), ⟨_, hT2, rfl, _, rfl⟩⟩
    have I1 : Inv X pins σ (upd H s.heap.objs.size (.tup [.int (i : Nat), x])) { s with heap := h'', toks := tk + 1 } :=
      Iv.turnedNew (ch := [e, it]) (fun b ob hb q => (sb.2 b (fun z => hb (by simp [z]))).trans (hk b ob (fun z => hb (by simp [z])) (fun z => hb (by simp [z])) q)) hf (Nat.le_refl _) new
    refine ⟨.ref s.heap.objs.size, _, I1, rfl, ⟨_, x, rfl, Iv.hok.fresh (Nat.le_refl _), rfl, fun ys hy => by rw [Iv.tuple_inj hy hq]; exact hx⟩, ⟨⟨v, ?_⟩, ht.1.at fun o q => (sb.2 it (Ne.symm hne)).trans q, hne, hai, hae⟩, fun b hb => ?_⟩
    · have e1 : ((i + 1 : Nat) : Int) = (i : Int) + 1 := by omega
      rw [e1]
      exact he'
    · have hb' : b < s.heap.objs.size := by
        have e' : b = e ∨ b = it := by simpa using hb
        rcases e' with z | z
        · rw [z]; exact hel
        · rw [z]; exact hil
      rw [upd_ne (Nat.ne_of_lt hb')]
      exact (hf b hb).1
  done := by
    intro X hP hw hK hc i pins s σ H E Iv hf st hg
    subst hP hw hK
    obtain ⟨⟨old, he⟩, hit, hne, hai, hae⟩ := st
    obtain ⟨xs, hq, hx⟩ := hg
    obtain ⟨its, rv, p, hz⟩ := Iv.tuple hq
    obtain ⟨f0, f1, f2, f3, f4, f5⟩ := hf it (by simp)
    have hl := rv.length
    have hT : s.TypeIs (.ref e) "enumerate" := ⟨_, he, rfl⟩
    unfold pyNext
    refine wpAny_bind (wpAny_attempt (wpAny_callSpecial?_slot (name := Str.ofString "__next__") hT PySem.F.slot_enumerate_next
      (wpAny_call_entry PySem.F.slot_enumerate_next hT PySem.F.entry_enumerate_next ?_ (PySem.F.args_enumerate_next_1 _))))
    show wpAny _ _ (field (.ref e) 2 >>= _) _ _ _
    refine wpAny_bind (wpAny_field he rfl (x := .ref it) rfl (wpAny_bind (wpAny_nextOf_tuple_end (Iv.ok.hd hc) hit p (by simp; omega) fun h' y he' hy => ?_)))
    obtain ⟨o, ho, hcl⟩ := hy
    refine wpAny_bind (wpAny_isInstance (T := "StopIteration") (b := true) ⟨o, ho, hcl⟩ isSubtype_stop (wpAny_pure ?_))
    exact ⟨rfl, Iv.turned (t' := s.toks) (fun b o hb q => he' b o hb q) f0 f1 f3 f4 f5⟩
  self := fun A i s Q E st h => let ⟨⟨_, he⟩, _⟩ := st; wpAny_pyIter_enum he h
set_option maxHeartbeats 1000000 in
theorem enum_new_tuple (t : Addr) (items : Array Value) :
    Meets (Builtin.«enumerate.__new__» ⟨[.type "enumerate", .ref t], []⟩) (fun _ R s => s.heap.IsTuple t items ∧
      R (.ok (.ret (.ref (s.heap.objs.size + 1)))) { s with heap := (s.heap.push { cls := .type "tuple_iterator", data := .fields #[.ref t, .int 0 0] }).push { cls := .type "enumerate", data := .fields #[.none, .bool false, .ref s.heap.objs.size, rawInt 0, .none, .none] } }) :=
  .of_wp fun prog w A R s h => by
    obtain ⟨hp, g, d, tk, os⟩ := s
    obtain ⟨h1, h⟩ := h
    have hz : (hp.push { cls := .type "tuple_iterator", data := .fields #[.ref t, .int 0 0] }).objs.size = hp.objs.size + 1 := Heap.size_push ..
    rw [← hz] at h
    have hsub := sub_enumerate
    have q1 : ∀ {A' : Around} {E : Value → Shared → Prop} {Q : Value → Shared → Prop}, Q (.ref hp.objs.size) ⟨hp.push { cls := .type "tuple_iterator", data := .fields #[.ref t, .int 0 0] }, g, d, tk, os⟩ → wpAny (model prog w) A' (pyIter (.ref t)) Q E ⟨hp, g, d, tk, os⟩ :=
      fun q => (begins_tuple t items).iter prog w _ _ ⟨hp, g, d, tk, os⟩ _ h1 q
    wp_walk using q1
    refine wpAny_stack_any fun sk => wpAny_pure ?_
    split
    · rename_i c _ _ _ _ _
      cases (c == Value.type "enumerate")
      · wp_walk using q1
        exact ⟨_, rfl, h⟩
      · wp_walk using q1
        exact ⟨_, rfl, h⟩
    · wp_walk using q1
      exact ⟨_, rfl, h⟩
section
variable {X : Cx}
def iEnumT (K : PySem.W.Frag) (ta : TA) : TI := fun σ H R => ta σ H fun vs H1 => ∃ a xs, vs = [.ref a] ∧ SqT K H1 a xs ∧ R (IteT K a) H1
theorem pi_enumT {e : Expr} {ta : TA} {p pos tpos : Pos} {elts : List Expr} {kk : Nat} (hg : Gl X "enumerate") (hm : X.mg "enumerate" = none) (ha : PA X [e] ta) (hs : starEach [e] X.env = [(false, eval e X.env)] := by rfl) :
    PI X (.Tuple elts kk tpos) (.Call (.Name "enumerate" p) [e] [] pos) (iEnumT X.K ta) := by
  refine ⟨fun pins s σ H R Iv h => ?_⟩
  refine Call_ (ld_blt Iv hg hm boot_enumerate (PyProof.Rows.callWith_type1 (thn (ha.run pos pins s σ H _ Iv h) fun us s1 ⟨vs, H1, I1, r1, a, xs, ex, hq, q⟩ => ?_) hs rfl))
  subst ex
  obtain ⟨u, rfl, ru⟩ := vals1 r1
  cases ru
  obtain ⟨its, rv, p', hz⟩ := I1.tuple hq
  have ha : a < s1.heap.objs.size := p'.lt
  refine callType_new PySem.F.called_enumerate (by decide) (PySem.F.typeCall_enumerate_1 _) (PySem.F.newCall_enumerate_1 _) (fun obj => PySem.F.args_object_init_2 obj _) PySem.F.entry_enumerate_new
    (enum_new_tuple a its.toArray) ⟨p', ?_⟩
  have hsz : (s1.heap.push { cls := .type "tuple_iterator", data := .fields #[.ref a, .int 0 0] }).objs.size = s1.heap.objs.size + 1 := Heap.size_push ..
  have he : IsEnum ((s1.heap.push { cls := .type "tuple_iterator", data := .fields #[.ref a, .int 0 0] }).push { cls := .type "enumerate", data := .fields #[.none, .bool false, .ref s1.heap.objs.size, rawInt 0, .none, .none] }) (s1.heap.objs.size + 1) s1.heap.objs.size 0 .none := by
    have := Heap.get?_push_size (s1.heap.push { cls := .type "tuple_iterator", data := .fields #[.ref a, .int 0 0] }) (o := { cls := .type "enumerate", data := .fields #[.none, .bool false, .ref s1.heap.objs.size, rawInt 0, .none, .none] }) rfl
    rw [hsz] at this
    exact this
  have hk : ∀ b o, s1.heap.get? b = some o → ((s1.heap.push { cls := .type "tuple_iterator", data := .fields #[.ref a, .int 0 0] }).push { cls := .type "enumerate", data := .fields #[.none, .bool false, .ref s1.heap.objs.size, rawInt 0, .none, .none] }).get? b = some o :=
    fun b o x => Heap.get?_push_of_some _ (Heap.get?_push_of_some _ x)
  refine ⟨⟨_, he, rfl⟩, wpAny_pyIter_enum he ?_⟩
  have I2 := I1.kept (t' := s1.toks) hk
  refine ⟨s1.heap.objs.size + 1, [s1.heap.objs.size + 1, s1.heap.objs.size], _, _, H1, rfl, I2, turn_enumT a (s1.heap.objs.size + 1) s1.heap.objs.size, ⟨⟨.none, he⟩, ⟨_, Heap.get?_push_of_some _ (Heap.get?_push_size _ rfl), rfl, rfl⟩, Nat.succ_ne_self _, Nat.ne_of_lt ha, Nat.ne_of_lt (Nat.lt_succ_of_lt ha)⟩, fun b hb => ?_, q⟩
  have e' : b = s1.heap.objs.size + 1 ∨ b = s1.heap.objs.size := by simpa using hb
  have hle : s1.heap.objs.size ≤ b := by
    rcases e' with z | z
    · rw [z]; exact Nat.le_add_right _ _
    · rw [z]; exact Nat.le_refl _
  exact I1.fpOk hle (I1.hok.fresh hle)
end
theorem walk_enumT {K : PySem.W.Frag} {a : Addr} {xs : List V} : Walk (IteT K a) xs.length (fun H => SqT K H a xs) (YPair (fun i => some (.int (i : Nat))) (fun i => xs[i]?)) := by
  refine ⟨fun i _ hi q => ⟨xs, xs[i], q, by simp [hi]⟩, fun _ q => ⟨xs, q, Nat.le_refl _⟩, fun i H v G _ q y => ?_⟩
  obtain ⟨T, x, h1, h2, h3, h4⟩ := y
  exact ⟨T, .int (i : Nat), x, h1, h2, h3, rfl, h4 xs q⟩
theorem walk_zipT {K : PySem.W.Frag} {a b : Addr} {xs ys : List V} {n : Nat} (hn : n = min xs.length ys.length) : Walk (RZ.ItzT K a b) n (fun H => SqT K H a xs ∧ SqT K H b ys) (YPair (fun i => xs[i]?) (fun i => ys[i]?)) := by
  subst hn
  refine ⟨fun i _ hi q => ?_, fun _ q => ⟨xs, ys, q.1, q.2, by omega⟩, fun i H v G _ q y => ?_⟩
  · have h1 : i < xs.length := by omega
    have h2 : i < ys.length := by omega
    exact ⟨xs, ys, xs[i], ys[i], q.1, q.2, by simp [h1], by simp [h2]⟩
  · obtain ⟨T, x, z, h1, h2, h3, h4, h5⟩ := y
    exact ⟨T, x, z, h1, h2, h3, h4 xs q.1, h5 ys q.2⟩

/-! ### sorted of a tuple of pairs of ints -/
section
variable {prog : Program} {w : World} {A : Around} {E : Value → Shared → Prop} {s : Shared}
theorem collect_tup {l : Addr} {vs : List Value} {Q : List Value → Shared → Prop} (hl : IsTup s.heap l vs.toArray)
    (h : Q vs { s with heap := (s.heap.push (seqObj "list" #[] 0)).update s.heap.objs.size (Obj.mapSeq (· ++ vs.toArray)) }) (hsz : vs.length ≤ sizeLine) : wpAny (model prog w) A (collect (.ref l)) Q E s := by
  obtain ⟨o, ho, hc, n, hd⟩ := id hl
  unfold collect
  refine wpAny_bind (wpAny_runValue (codeAny_builtin entry_proto_collect' ?_))
  show wpAny _ _ (do again (.builtin "list.__iadd__" ⟨[← newList [], .ref l], []⟩)) _ _ s
  refine wpAny_bind (wpAny_newList (wpAny_pure ⟨Code.quiet_builtin _ (by decide +kernel), codeAny_builtin entry_list_iadd' ?_⟩))
  show wpAny _ _ (Builtin.List.listExtendWith (.ref s.heap.objs.size) (.ref l) (.ref s.heap.objs.size)) _ _ { s with heap := s.heap.push (seqObj "list" #[] 0) }
  unfold Builtin.List.listExtendWith
  have ho2 : (s.heap.push (seqObj "list" #[] 0)).get? l = some o := Heap.get?_push_of_some _ ho
  refine wpAny_bind (wpAny_typeOf (T := "tuple") ⟨o, ho2, hc⟩ ?_)
  rw [if_pos (by rw [show (Value.type "tuple" == Value.type "tuple") = true from rfl, Bool.or_true])]
  refine wpAny_bind (listItems_at ho2 hd (wpAny_bind (listItems_at (xs := #[]) (n := 0) (Heap.get?_push_size _ rfl) rfl ?_)))
  rw [if_neg (by simp)]
  refine wpAny_bind (listUpdate_at (xs := #[]) (n := 0) (Heap.get?_push_size _ rfl) rfl (wpAny_pure ?_) (Nat.zero_le _) (by show (#[] ++ vs.toArray).size ≤ sizeLine + 1; simp only [Array.size_append, List.size_toArray, List.length_nil]; omega))
  show wpAny (model prog w) A (do
      let o ← load s.heap.objs.size
      match o.data with
      | .seq xs _ => pure xs.toList
      | _ => unsupported "internal:collect") Q E { s with heap := (s.heap.push (seqObj "list" #[] 0)).update s.heap.objs.size (Obj.mapSeq (· ++ vs.toArray)) }
  refine wpAny_bind (wpAny_load (get?_update_seq (Heap.get?_push_size _ rfl) _) ?_)
  show wpAny _ _ (pure ((#[] : Array Value) ++ vs.toArray).toList) Q E _
  rw [show ((#[] : Array Value) ++ vs.toArray).toList = vs by simp]
  exact wpAny_pure h
theorem sorted_tupO {l : Addr} {vs : List Value} {ltv : Value → Value → Bool} {Q : Value → Shared → Prop} (O : SrtO.Swo ltv) (hl : IsTup s.heap l vs.toArray) (hz : vs.length ≤ sizeLine)
    (hS : 2 ≤ vs.length → ∀ (g : Heap) (a : Addr), g.get? a = some (seqObj "list" vs.toArray 0) → (∀ b o, s.heap.get? b = some o → b ≠ a ∧ g.get? b = some o) → SrtO.SortableO prog w A.in1.in1 { s with heap := g } a vs ltv)
    (h : ∀ out : List Value, SrtO.Srtd ltv out → SrtO.Stb ltv out vs → Q (.ref (s.heap.objs.size + 1)) { s with heap := sortedAll s.heap vs out.toArray }) : wpAny (model prog w) A (call (.builtin "sorted") [.ref l]) Q E s := by
  refine Calls.call_function_entry kind_sorted plain_sorted entry_sorted (args_sorted1 _) ?_
  unfold Builtin.«sorted»
  refine wpAny_bind (m := checkCount "sorted" 1 1 _) (wpAny_pure (wpAny_bind (collect_tup hl (wpAny_bind (wpAny_newList ?_ hz)) hz)))
  have sz : ((s.heap.push (seqObj "list" #[] 0)).update s.heap.objs.size (Obj.mapSeq (· ++ vs.toArray))).objs.size = s.heap.objs.size + 1 := by
    rw [Heap.size_update, size_push']
  have hoL : (((s.heap.push (seqObj "list" #[] 0)).update s.heap.objs.size (Obj.mapSeq (· ++ vs.toArray))).push (seqObj "list" vs.toArray 0)).get? (s.heap.objs.size + 1) = some (seqObj "list" vs.toArray 0) := by
    rw [← sz]
    exact Heap.get?_push_size _ rfl
  have kp : ∀ b o, s.heap.get? b = some o → b ≠ s.heap.objs.size + 1 ∧ (((s.heap.push (seqObj "list" #[] 0)).update s.heap.objs.size (Obj.mapSeq (· ++ vs.toArray))).push (seqObj "list" vs.toArray 0)).get? b = some o := fun b o q => by
    have hlt : b < s.heap.objs.size := Heap.lt_size q
    refine ⟨Nat.ne_of_lt (Nat.lt_succ_of_lt hlt), Heap.get?_push_of_some _ ?_⟩
    rw [Heap.get?_update_ne _ _ _ _ (Nat.ne_of_lt hlt)]
    exact Heap.get?_push_of_some _ q
  show wpAny _ _ _ _ _ { s with heap := ((s.heap.push (seqObj "list" #[] 0)).update s.heap.objs.size (Obj.mapSeq (· ++ vs.toArray))).push (seqObj "list" vs.toArray 0) }
  rw [sz]
  refine wpAny_bind (wpAny_holding (wpAny_call_entry slot_list_sort ⟨_, hoL, rfl⟩ entry_list_sort (SrtO.list_sort_ord O hoL hz (fun h2 => hS h2 _ _ hoL kp) fun out hs hb => ⟨_, rfl, wpAny_pure ⟨_, rfl, h out hs hb⟩⟩) (args_list_sort _)))
theorem sorted_tup_pairs {l : Addr} {vs : List Value} {k : Value → Int × Int} {Q : Value → Shared → Prop} (hl : IsTup s.heap l vs.toArray) (hz : vs.length ≤ sizeLine) (hp : ∀ v ∈ vs, Srt.IsPair s.heap v (k v).1 (k v).2)
    (h : ∀ (g : Heap) (d : Addr) (out : List Value), SrtO.Srtd (fun v u => SrtO.lexB (k v) (k u)) out → SrtO.Stb (fun v u => SrtO.lexB (k v) (k u)) out vs → (∀ b o, s.heap.get? b = some o → g.get? b = some o) → s.heap.objs.size ≤ d → (∃ n, g.get? d = some (seqObj "list" out.toArray n)) → Q (.ref d) { s with heap := g }) :
    wpAny (model prog w) A (call (.builtin "sorted") [.ref l]) Q E s := by
  refine sorted_tupO (SrtO.swo_lex k) hl hz (fun h2 g a ha kk => SrtO.pairs_sortableO (s := { s with heap := g }) (by omega) (fun v hm => (hp v hm).keeps fun b o e _ => (kk b o e).2) fun o e => ?_) fun out hs hb => ?_
  · have e' : some o = some (seqObj "list" vs.toArray 0) := e.symm.trans ha
    cases e'
    intro c
    exact absurd (Value.type.inj c) (by decide)
  · exact h _ _ out hs hb (fun b o e => sortedAll_old e) (Nat.le_succ _) (sortedAll_at s.heap vs out.toArray)
end
section
variable {X : Cx}
def rSortT (K : PySem.W.Frag) : List V → Hp → VK → Prop := fun vs H Q => ∃ (a : Addr) (xs : List V) (k : V → Int × Int), vs = [V.ref a] ∧ SqT K H a xs ∧ (∀ x ∈ xs, ∃ t, x = V.ref t ∧ H t = some (.tup [.int (k x).1, .int (k x).2])) ∧
  ∀ ys p, SrtO.Srtd (ltP k) ys → ys.Perm xs → H p = none → Q (.ref p) (upd H p (.lst ys))
theorem cr_sortT : CallR X (.builtin "sorted") (rSortT X.K) := by
  intro pins s σ H vs us Q Iv r h
  obtain ⟨a, xs, k, rfl, hs, hx, q⟩ := h
  obtain ⟨its, rv, hl, hz⟩ := Iv.tuple hs
  obtain ⟨u, rfl, ru⟩ := vals1 r
  obtain rfl : u = Value.ref a := ru
  obtain ⟨e1, e2⟩ := refs_back rv fun x m => by
    obtain ⟨t, e, _⟩ := hx x m
    exact ⟨t, e⟩
  refine sorted_tup_pairs (k := fun u => k (backV u)) hl (by rw [← rv.length]; exact hz) (fun v hv => ?_) fun g d out h1 h2 kp hd hn => ?_
  · obtain ⟨t, rfl⟩ := e2 v hv
    have hm : V.ref t ∈ xs := by
      rw [e1]
      exact List.mem_map.mpr ⟨_, hv, rfl⟩
    obtain ⟨t', e, ht⟩ := hx _ hm
    cases e
    obtain ⟨_, its2, r2, o, ho, hc, n, hd⟩ := Iv.hok _ _ ht
    obtain ⟨u1, u2, rfl, ri, rj⟩ := vals2 r2
    obtain ⟨t1, rfl⟩ := ri
    obtain ⟨t2, rfl⟩ := rj
    exact ⟨t, o, t1, t2, n, rfl, ho, hc, hd⟩
  · have h3 : ∀ u ∈ out, ∃ a, u = Value.ref a := fun u hu => e2 u (h2.perm.mem_iff.mp hu)
    obtain ⟨n, hn⟩ := hn
    have hb : (out.map backV).Perm xs := by
      rw [e1]
      exact h2.perm.map backV
    refine ⟨.ref d, upd H d (.lst (out.map backV)), Iv.laid (t' := s.toks) kp hd ⟨?_, out, n, vals_back h3, hn⟩, rfl, q _ d (SrtO.srtd_map h1) hb (Iv.hok.fresh hd)⟩
    rw [hb.length_eq]
    exact hz
end
end K86

/-! K86Gd: defs that are called where no repr is under way (repr of data asks for that), and the law's end for such a def; the end hands on what is known of the loose names and of the script's bits. -/
namespace K86
open PySem PySem.Spec PyProof.Rows L2

structure FnG (P : Program) (w : World) (K : PySem.W.Frag) (mg : Str → Option Value) (base : Heap) (k : Nat) (f : Addr) (fd : FuncData) (ps : List Str) (sp : Sp) : Prop where
  many : ∀ vs H Q E, sp vs H Q E → vs.length = ps.length
  runs : ∀ (A : Around) (outer : List Env) (s : Shared) (H : Hp) (args : Args) (us : List Value) (vs : List V) (Q : VK) (E : XK), A.guards = some [] → Room k A → Env0 P w K mg base A outer s H → BindsTo s fd args (ps.zip us) → Vals vs us → sp vs H Q E →
    codeAny (model P w) A (.call (.ref f) args) (CR CX0 outer P w H s Q E) s

section
variable {P : Program} {w : World} {K : PySem.W.Frag} {mg : Str → Option Value} {base : Heap}
theorem okG {x qual : Str} {stm : Stmt} {f : Addr} {fd : FuncData} {N ps : List Str} {k : Nat} {sp : Sp} (F : Fun K x qual stm f fd) (S : FnScope N ps (defScope stm)) (many : ∀ vs H Q E, sp vs H Q E → vs.length = ps.length)
    (hb : ∀ (cdv : Value) (A : Around) (outer : List Env) (s : Shared) (H : Hp) (vs : List V) (Q : VK) (E : XK), A.guards = some [] → Room k (A.deeper (envOfC qual (defScope stm) s.heap.objs.size f cdv)) → sp vs H Q E →
      ∃ t, PSs (cxOf CX0 P w K mg base N qual (defScope stm) f cdv A outer s H E).nox (defBody stm) t ∧ t { nx := fun _ G => Q .non G, rt := Q } (start N vs) H) : FnG P w K mg base (k + 1) f fd ps sp := by
  obtain ⟨oc, od, kV, doc, pm, an, cdv, ct, osl, rfl, lk, hcd⟩ := F.ex
  refine ⟨many, fun A outer s H args us vs Q E gA rm en bd rv hsp => ?_⟩
  have inK : K.In s.heap := en.mod.kin.keeps fun b o q => (en.bs b o q).1
  have lim : s.heap.NoLimit := en.mod.nolimit.keeps fun b o q => (en.bs b o q).1
  have knd : ∀ y ∈ ps.zip us, (defScope stm).names.lookup y.1 = some .local ∨ ((defScope stm).names.lookup y.1 = some .cell ∧ ((cellsFrom (s.heap.objs.size + 1) (defScope stm).names []).lookup y.1).isSome = true) := by
    rintro ⟨n, v⟩ hy
    exact (S.par n (List.of_mem_zip hy).1).imp id fun q => ⟨q, PySem.W.cellsFrom_some _ _ _ (.inl q)⟩
  refine codeAny_call_function rm.depth (inK _ _ lk) rfl S.co S.gen rfl (PySem.W.codeRec_of inK hcd) (bd _ _ _ _ (wpAny_newFunctionEnv_cells S.kind knd fun env he s1 ic => ?_))
  subst he
  refine ⟨lim.keeps ic.toInCall.keep, codeAny_func ?_⟩
  obtain ⟨t, ht, hq⟩ := hb cdv A outer s H vs Q E gA (rm.deeper _) hsp
  have Iv : Inv (cxOf CX0 P w K mg base N qual (defScope stm) f cdv A outer s H E) [] (start N vs) H s1 := inv_start S rm.hd en (many _ _ _ _ hsp) rv ic
  refine wpAny_mono (ht.nox.run [] s1 (start N vs) H _ Iv hq) (fun fl s2 hs => ?_) fun e s2 hs => hs
  cases fl with
  | ret u =>
    obtain ⟨v, σ, G, J, r, q⟩ := hs
    exact ⟨v, G, J.os, J.bare, J.base, J.hok, r, q⟩
  | next =>
    obtain ⟨σ, G, J, q⟩ := hs
    exact ⟨V.non, G, J.os, J.bare, J.base, J.hok, rfl, q⟩
  | brk =>
    obtain ⟨_, _, _, q⟩ := hs
    exact q.elim
  | cont =>
    obtain ⟨_, _, _, q⟩ := hs
    exact q.elim
end
section
variable {X : Cx} {k : Nat} {f : Addr} {fd : FuncData} {ps : List Str} {sp : Sp} {x : Str} {p pos : Pos} {e : Expr} {es : List Expr} {t : TA}
theorem pe_callG (F : FnG X.prog X.w X.K X.mg X.base k f fd ps sp) (gA : X.A.guards = some []) (hr : Room k X.A) (hg : Gl X x) (hm : X.mg x = some (.ref f)) (hk : PySem.W.keepIn X.K (.ref f) = true) (hb : Binds X.K fd ps [])
    (ha : PA X (e :: es) t) (hdb : (x == ("__debug__" : Str)) = false := by decide) (he : starEach (e :: es) X.env = (false, eval e X.env) :: starEach es X.env := by rfl) (hpl : (backTo pos (starEach es X.env)).any (·.1) = false := by rfl) :
    PE X (.Call (.Name x p) (e :: es) [] pos) (tCall sp [] E0 t) := by
  refine ⟨fun pins s σ H Q Iv h => wpAny_Call_Name_kw (ld_glob Iv hg hm ?_ hdb)⟩
  refine PySem.W.callWith_K (h₀ := X.base) Iv.ok.mod.kin hk (thn (ha.run pos pins s σ H _ Iv h) fun us s1 ⟨vs, H1, I1, r, q⟩ => ⟨I1.kIn, ?_⟩) he hpl
  have q : sp vs H1 Q E0 := by simpa using q
  have hl : (us ++ []).length = ps.length := by rw [List.append_nil, ← r.length]; exact F.many _ _ _ _ q
  have bd := hb s1 us I1.kIn hl
  rw [List.append_nil] at bd
  refine wpAny_call (codeAny_mono (F.runs X.A X.stack s1 H1 ⟨us, []⟩ us vs Q E0 gA hr I1.env0 bd r q) fun res s2 hq => ?_)
  cases res with
  | error ex => exact hq.elim
  | ok fl =>
    cases fl with
    | ret u => exact I1.after hq
    | next => exact False.elim hq
    | brk => exact False.elim hq
    | cont => exact False.elim hq
end

/-! ### the law's end -/
theorem callG {P : Program} {w : World} {K : PySem.W.Frag} {mg mb : Str → Option Value} {k : Nat} {fa a : Addr} {fd : FuncData} {x : Str} {sp : Sp} {s1 : Shared} {vs : List Value} {ns : List Int}
    (KX : K.In s1.heap) (hns : s1.heap.Ns mainGlobals mg) (hb : s1.heap.Ns builtinsNs mb) (hbb : ∀ x : Str, x ≠ "__name__" → mb x = bootBuiltins x) (hlim : s1.heap.NoLimit) (hg : s1.gens = #[])
    (ha : s1.heap.get? a = some { cls := .type "list", data := .seq vs.toArray }) (hi : IntsAre vs ns) (hl : ns.length ≤ sizeLine) (hr : Room k callerA)
    (F : ∀ base : Heap, K.In base → base.Ns mainGlobals mg → FnG P w K mg base k fa fd [x] sp) (hbind : ∀ (s : Shared) (u : Value), BindsTo s fd ⟨[u], []⟩ [(x, u)])
    (hsp : ∀ H : Hp, Only H → SqL K H a (ns.map V.int) → sp [.ref a] H (fun v _ => v = .bl true) fun _ _ _ => False) :
    codeAny (model P w) callerA (.call (.ref fa) ⟨[.ref a], []⟩) (fun r s2 => r = .ok (.ret (.bool true)) ∧ OldK s1.heap s2.heap ∧ s2.os = s1.os ∧ AllBare s2.gens) s1 := by
  have rv := vals_ints hi
  have lv := hi.length
  have main : ∀ H : Hp, Only H → SqL K H a (ns.map V.int) → HOk P w H s1.heap → (∀ b, H b ≠ none → b = a) → (H a ≠ none → K.lookup a = none) →
      codeAny (model P w) callerA (.call (.ref fa) ⟨[.ref a], []⟩) (fun r s2 => r = .ok (.ret (.bool true)) ∧ OldK s1.heap s2.heap ∧ s2.os = s1.os ∧ AllBare s2.gens) s1 := by
    intro H hO hS hok hA hKa
    have dictFree : ∀ {b : Addr} {o : Obj} {es : Array DictEntry} {ep : Nat}, s1.heap.get? b = some o → o.data = .dict es ep → H b = none := by
      intro b o es ep e d
      rcases hO b with z | ⟨ob, xs, z⟩
      · exact z
      · obtain rfl : b = a := hA b (by rw [z]; exact Option.some_ne_none _)
        rw [ha] at e
        cases e
        cases d
    have nsH : ∀ {b : Addr} {m : Str → Option Value}, s1.heap.Ns b m → (hidT s1.heap H).Ns b m := by
      rintro b m ⟨o, es, ep, e, d, r⟩
      exact ⟨o, es, ep, hidT_get e (dictFree e d), d, r⟩
    have inH : K.In (hidT s1.heap H) := by
      intro b o e
      refine hidT_get (KX b o e) ?_
      rcases hO b with z | ⟨ob, xs, z⟩
      · exact z
      · obtain rfl : b = a := hA b (by rw [z]; exact Option.some_ne_none _)
        rw [hKa (by rw [z]; exact Option.some_ne_none _)] at e
        cases e
    have md : Mod K mg (hidT s1.heap H) := by
      obtain ⟨mc, l1, l2⟩ := hlim
      exact ⟨inH, nsH hns, ⟨mb, nsH hb, hbb⟩, ⟨mc, nsH l1, l2⟩⟩
    have en : Env0 P w K mg (hidT s1.heap H) callerA [] s1 H := ⟨rfl, md, fun b o e => of_hidT e, Nat.le_of_eq (hidT_size _ _), trivial, fun b q => absurd (show b ∈ ([] : List Addr) from q) (by simp), hok, .of_eq hg⟩
    refine codeAny_mono ((F _ inH (nsH hns)).runs callerA [] s1 H ⟨[.ref a], []⟩ [.ref a] [.ref a] _ _ rfl hr en (hbind s1 (.ref a)) (.cons rfl .nil) (hsp H hO hS)) fun r s2 h => ?_
    cases r with
    | error e => exact h.elim
    | ok fl =>
      cases fl with
      | next => exact h.elim
      | brk => exact h.elim
      | cont => exact h.elim
      | ret u =>
        obtain ⟨v, G, os, bare, un, hok2, r2, q⟩ := h
        obtain rfl : v = .bl true := q
        obtain rfl : u = Value.bool true := r2
        refine ⟨rfl, OldK.of_keep fun b o e => ?_, os, bare⟩
        rcases hO b with z | ⟨ob, xs, z⟩
        · exact un.keep b o e z (fun q => absurd (show b ∈ ([] : List Addr) from q) (by simp)) (by simp)
        · obtain ⟨e1, _⟩ := hok b _ z
          obtain ⟨e2, _⟩ := hok2 b _ (un.frzs b ob _ z)
          rw [e] at e1
          cases e1
          exact e2
  cases hk : K.lookup a with
  | some o =>
    have e := KX a o hk
    rw [ha] at e
    cases e
    exact main (fun _ => none) (fun _ => .inl rfl) (.inr ⟨_, vs.toArray, _, hk, rfl, rfl, rfl, by rw [List.size_toArray, lv]; exact hl, by simpa using rv⟩) (fun b u z => nomatch z) (fun b z => absurd rfl z) fun z => absurd rfl z
  | none =>
    have at1 : ∀ b, b = a → (fun b : Addr => if b = a then some (HO.frz { cls := .type "list", data := .seq vs.toArray } (.lst (ns.map V.int))) else none) b = some (HO.frz { cls := .type "list", data := .seq vs.toArray } (.lst (ns.map V.int))) := fun b e => if_pos e
    have at0 : ∀ b, ¬ b = a → (fun b : Addr => if b = a then some (HO.frz { cls := .type "list", data := .seq vs.toArray } (.lst (ns.map V.int))) else none) b = none := fun b e => if_neg e
    refine main (fun b => if b = a then some (.frz { cls := .type "list", data := .seq vs.toArray } (.lst (ns.map V.int))) else none) (fun b => ?_) (.inl (.inr ⟨{ cls := .type "list", data := .seq vs.toArray }, at1 a rfl⟩)) (fun b u z => ?_) (fun b z => ?_) fun _ => hk
    · by_cases c : b = a
      · exact .inr ⟨_, _, at1 b c⟩
      · exact .inl (at0 b c)
    · by_cases c : b = a
      · have z2 := (at1 b c).symm.trans z
        cases z2
        subst c
        exact ⟨ha, by rw [List.length_map]; exact hl, vs, _, rv, ha⟩
      · have z2 := (at0 b c).symm.trans z
        cases z2
    · by_cases c : b = a
      · exact c
      · exact absurd (at0 b c) z
theorem walkG {l : PySem.W.OpenLaw} {n k : Nat} {q : Program} {loose : List Str} {XP : (Str → Option Value) → Heap → Prop} {YP : World → Heap → Prop} {d : DefRec} {K : Params → PySem.W.Frag} {sp : World → Sp} {x : Str}
    (hn : l.most = some n) (hn2 : n ≤ sizeLine) (hdf : d.params.defaults = []) (hr : Room k callerA) (hY : ∀ (w : World) (h : Heap), YP w h → (K w.params).In h)
    (F : ∀ (w : World) (mg : Str → Option Value) (fa : Addr) (h : Heap), (K w.params).In h → h.Ns mainGlobals mg → XP mg h → mg d.name = some (.ref fa) →
      ∃ fd : FuncData, (∀ (s : Shared) (u : Value), BindsTo s fd ⟨[u], []⟩ [(x, u)]) ∧ ∀ base : Heap, (K w.params).In base → base.Ns mainGlobals mg → FnG l.prog w (K w.params) mg base k fa fd [x] (sp w))
    (hsp : ∀ (w : World) (H : Hp) (a : Addr) (ns : List Int), ns.length ≤ n → Only H → SqL (K w.params) H a (ns.map V.int) → sp w [.ref a] H (fun v _ => v = .bl true) fun _ _ _ => False) :
    PySem.W.WalkO q loose XP YP l.row.toRowW d [] (fun f vs => PySem.call f vs) := by
  refine Att.attach_call hn hdf fun w s0 s1 mg mb fa o pm cd doc a vs ns G Y ho hd hcd hmg hobj hints hlen hgen => ?_
  have KX := hY w _ Y
  obtain ⟨fd, hb, hF⟩ := F w mg fa _ KX G.T.g G.X hmg
  exact callG KX G.T.g G.T.b G.T.builtins G.T.nolimit hgen hobj hints (Nat.le_trans hlen hn2) hr hF hb fun H hO hS => hsp w H a ns hlen hO hS
end K86

/-! K86Base: the text's statements, what the top has written, how data lie in the heap. -/
namespace K86
open PySem PySem.Spec PyProof.Rows L2 SW

def topS (i : Nat) : Stmt := PySem.Challenge.pw_stepswithin_k86_whole_choices_and_single.main.body.getD i (.Pass ⟨0, 0, 0, 0⟩)

/-! ### what the top has written -/
def CstI (mg : Str → Option Value) (x : Str) (i : Int) : Prop := ∃ t, mg x = some (.int i t)
structure Txt (mg : Str → Option Value) : Prop where
  len : mg "len" = none
  isinstance : mg "isinstance" = none
  range : mg "range" = none
  enumerate : mg "enumerate" = none
  zip : mg "zip" = none
  sorted : mg "sorted" = none
  reversed : mg "reversed" = none
  max : mg "max" = none
  abs : mg "abs" = none
  int : mg "int" = none
  bool : mg "bool" = none
  list : mg "list" = none
  tuple : mg "tuple" = none
  repr : mg "repr" = none
  gcd : mg "gcd" = some (.builtin "math.gcd")
  part : CstI mg "MOST_PART" (10 ^ 60)
  degree : CstI mg "MOST_DEGREE" 64
  row : CstI mg "MOST_ROW" 8
  lookS : CstI mg "MOST_LOOKED_AT_starts" 2000
  lookT : CstI mg "MOST_LOOKED_AT_twostarts" 2000
  whole : CstI mg "MOST_WHOLE" 256

/-- a def of the text, where it stands -/
structure Df (K : PySem.W.Frag) (mg : Str → Option Value) (x : Str) (st : Stmt) (ps : List Str) (f : Addr) (fd : FuncData) : Prop where
  fn : Fun K x x st f fd
  gl : mg x = some (.ref f)
  bd : Binds K fd ps []
/-- the def x keeps the promise sp -/
def Has (P : Program) (w : World) (K : PySem.W.Frag) (mg : Str → Option Value) (base : Heap) (x : Str) (k : Nat) (ps : List Str) (sp : Sp) : Prop :=
  ∃ f fd, mg x = some (.ref f) ∧ PySem.W.keepIn K (.ref f) = true ∧ Binds K fd ps [] ∧ FnOk P w K mg base CX0 k f fd ps sp
def HasG (P : Program) (w : World) (K : PySem.W.Frag) (mg : Str → Option Value) (base : Heap) (x : Str) (k : Nat) (ps : List Str) (sp : Sp) : Prop :=
  ∃ f fd, mg x = some (.ref f) ∧ PySem.W.keepIn K (.ref f) = true ∧ Binds K fd ps [] ∧ FnG P w K mg base k f fd ps sp ∧ ∃ oc od osl, K.lookup f = some ⟨oc, od, .func fd, osl⟩
section
variable {P : Program} {w : World} {K : PySem.W.Frag} {mg : Str → Option Value} {base : Heap}
theorem Df.has {x : Str} {st : Stmt} {ps N : List Str} {f : Addr} {fd : FuncData} {k : Nat} {sp : Sp} (D : Df K mg x st ps f fd) (S : FnScope N ps (defScope st)) (len : ∀ vs H Q E, sp vs H Q E → vs.length = ps.length)
    (hb : ∀ (cdv : Value) (A : Around) (outer : List Env) (s : Shared) (H : Hp) (vs : List V) (Q : VK) (E : XK), Room k (A.deeper (envOfC x (defScope st) s.heap.objs.size f cdv)) → sp vs H Q E →
      ∃ t, PSs (cxOf CX0 P w K mg base N x (defScope st) f cdv A outer s H E).nox (defBody st) t ∧ t { nx := fun _ G => Q .non G, rt := Q } (start N vs) H) : Has P w K mg base x (k + 1) ps sp :=
  ⟨f, fd, D.gl, D.fn.kp, D.bd, D.fn.ok S len hb⟩
theorem Df.hasG {x : Str} {st : Stmt} {ps N : List Str} {f : Addr} {fd : FuncData} {k : Nat} {sp : Sp} (D : Df K mg x st ps f fd) (S : FnScope N ps (defScope st)) (len : ∀ vs H Q E, sp vs H Q E → vs.length = ps.length)
    (hb : ∀ (cdv : Value) (A : Around) (outer : List Env) (s : Shared) (H : Hp) (vs : List V) (Q : VK) (E : XK), A.guards = some [] → Room k (A.deeper (envOfC x (defScope st) s.heap.objs.size f cdv)) → sp vs H Q E →
      ∃ t, PSs (cxOf CX0 P w K mg base N x (defScope st) f cdv A outer s H E).nox (defBody st) t ∧ t { nx := fun _ G => Q .non G, rt := Q } (start N vs) H) : HasG P w K mg base x (k + 1) ps sp := by
  obtain ⟨oc, od, kV, doc, pm, an, cdv, ct, osl, e, lk, hcd⟩ := D.fn.ex
  exact ⟨f, fd, D.gl, D.fn.kp, D.bd, okG D.fn S len hb, oc, od, osl, lk⟩
end
section
variable {X : Cx} {k : Nat} {ps : List Str} {sp : Sp} {x : Str} {p pos : Pos} {e : Expr} {es : List Expr} {t : TA}
theorem pe_has (h : Has X.prog X.w X.K X.mg X.base x k ps sp) (hr : Room k X.A) (hg : Gl X x) (ha : PA X (e :: es) t) (hdb : (x == ("__debug__" : Str)) = false := by decide)
    (he : starEach (e :: es) X.env = (false, eval e X.env) :: starEach es X.env := by rfl) (hpl : (backTo pos (starEach es X.env)).any (·.1) = false := by rfl) : PE X (.Call (.Name x p) (e :: es) [] pos) (tCall sp [] E0 t) := by
  obtain ⟨f, fd, g, kp, b, F⟩ := h
  exact pe_call F hr hg g kp b .nil pass0 ha hdb he hpl
theorem pe_hasG (h : HasG X.prog X.w X.K X.mg X.base x k ps sp) (gA : X.A.guards = some []) (hr : Room k X.A) (hg : Gl X x) (ha : PA X (e :: es) t) (hdb : (x == ("__debug__" : Str)) = false := by decide)
    (he : starEach (e :: es) X.env = (false, eval e X.env) :: starEach es X.env := by rfl) (hpl : (backTo pos (starEach es X.env)).any (·.1) = false := by rfl) : PE X (.Call (.Name x p) (e :: es) [] pos) (tCall sp [] E0 t) := by
  obtain ⟨f, fd, g, kp, b, F, _⟩ := h
  exact pe_callG F gA hr hg g kp b ha hdb he hpl
theorem pe_cst {i : Int} (h : CstI X.mg x i) (hg : Gl X x) (hdb : (x == ("__debug__" : Str)) = false := by decide) : PE X (.Name x pos) (tC (.int i)) := by
  obtain ⟨t, h⟩ := h
  exact pe_glob hg h ⟨t, rfl⟩ hdb
end

/-! ### built-in names -/
theorem bt_len : bootBuiltins "len" = some (.builtin "len") := by decide +kernel
theorem bt_isi : bootBuiltins "isinstance" = some (.builtin "isinstance") := by decide +kernel
theorem bt_sorted : bootBuiltins "sorted" = some (.builtin "sorted") := by decide +kernel
theorem bt_max : bootBuiltins "max" = some (.builtin "max") := by decide +kernel
theorem bt_abs : bootBuiltins "abs" = some (.builtin "abs") := by decide +kernel
theorem bt_repr : bootBuiltins "repr" = some (.builtin "repr") := by decide +kernel
theorem bt_int : bootBuiltins "int" = some (.type "int") := by decide +kernel
theorem bt_bool : bootBuiltins "bool" = some (.type "bool") := by decide +kernel
theorem bt_list : bootBuiltins "list" = some (.type "list") := by decide +kernel
theorem bt_tuple : bootBuiltins "tuple" = some (.type "tuple") := by decide +kernel
theorem kt_int_int {K : PySem.W.Frag} : PySem.W.kitOne K (.type "int") (.type "int") = some true := kit_ty (by decide +kernel)
theorem kt_int_bool {K : PySem.W.Frag} : PySem.W.kitOne K (.type "int") (.type "bool") = some false := kit_ty (by decide +kernel)
theorem kt_tup_tup {K : PySem.W.Frag} : PySem.W.kitOne K (.type "tuple") (.type "tuple") = some true := kit_ty (by decide +kernel)

/-! ### data in the heap -/
/-- item by item -/
structure Al {α β : Type} (R : α → β → Prop) (xs : List α) (ys : List β) : Prop where
  len : xs.length = ys.length
  get : ∀ (i : Nat) (x : α) (y : β), xs[i]? = some x → ys[i]? = some y → R x y
section
variable {α β : Type} {R S : α → β → Prop} {xs : List α} {ys : List β}
theorem Al.nil : Al R ([] : List α) ([] : List β) := ⟨rfl, fun i x y h => by simp at h⟩
theorem Al.mono (a : Al R xs ys) (h : ∀ x y, R x y → S x y) : Al S xs ys := ⟨a.len, fun i x y h1 h2 => h x y (a.get i x y h1 h2)⟩
theorem Al.of (a : Al R xs ys) {i : Nat} {x : α} (h : xs[i]? = some x) : ∃ y, ys[i]? = some y ∧ R x y := by
  have hi := (List.getElem?_eq_some_iff.mp h).1
  have hj : i < ys.length := a.len ▸ hi
  exact ⟨ys[i], List.getElem?_eq_getElem hj, a.get i x _ h (List.getElem?_eq_getElem hj)⟩
theorem Al.to (a : Al R xs ys) {i : Nat} {y : β} (h : ys[i]? = some y) : ∃ x, xs[i]? = some x ∧ R x y := by
  have hi := (List.getElem?_eq_some_iff.mp h).1
  have hj : i < xs.length := a.len ▸ hi
  exact ⟨xs[i], List.getElem?_eq_getElem hj, a.get i _ y (List.getElem?_eq_getElem hj) h⟩
theorem Al.snoc {x : α} {y : β} (a : Al R xs ys) (h : R x y) : Al R (xs ++ [x]) (ys ++ [y]) := by
  refine ⟨by simp [a.len], fun i u v h1 h2 => ?_⟩
  by_cases hi : i < xs.length
  · rw [List.getElem?_append_left hi] at h1
    rw [List.getElem?_append_left (a.len ▸ hi)] at h2
    exact a.get i u v h1 h2
  · rw [List.getElem?_append_right (by omega)] at h1
    rw [List.getElem?_append_right (by have := a.len; omega)] at h2
    have e : i - xs.length = 0 := by
      cases c : i - xs.length with
      | zero => rfl
      | succ n =>
        rw [c] at h1
        simp at h1
    have e2 : i - ys.length = 0 := by have := a.len; omega
    rw [e] at h1
    rw [e2] at h2
    cases h1
    cases h2
    exact h
theorem Al.cons {x : α} {y : β} (a : Al R xs ys) (h : R x y) : Al R (x :: xs) (y :: ys) := by
  refine ⟨by simp [a.len], fun i u v h1 h2 => ?_⟩
  cases i with
  | zero =>
    cases h1
    cases h2
    exact h
  | succ i => exact a.get i u v h1 h2
theorem Al.one {x : α} {y : β} (h : R x y) : Al R [x] [y] := Al.nil.cons h
theorem Al.two {x x' : α} {y y' : β} (h : R x y) (h' : R x' y') : Al R [x, x'] [y, y'] := (Al.one h').cons h
theorem Al.append {xs' : List α} {ys' : List β} (a : Al R xs ys) (b : Al R xs' ys') : Al R (xs ++ xs') (ys ++ ys') := by
  refine ⟨by simp [a.len, b.len], fun i u v h1 h2 => ?_⟩
  by_cases hi : i < xs.length
  · rw [List.getElem?_append_left hi] at h1
    rw [List.getElem?_append_left (a.len ▸ hi)] at h2
    exact a.get i u v h1 h2
  · rw [List.getElem?_append_right (by omega)] at h1
    rw [List.getElem?_append_right (by have := a.len; omega)] at h2
    rw [← a.len] at h2
    exact b.get _ u v h1 h2
theorem Al.take (a : Al R xs ys) (n : Nat) : Al R (xs.take n) (ys.take n) := by
  refine ⟨by simp [a.len], fun i u v h1 h2 => ?_⟩
  rw [List.getElem?_take] at h1 h2
  split at h1
  · rename_i hi
    rw [if_pos hi] at h2
    exact a.get i u v h1 h2
  · cases h1
theorem Al.drop (a : Al R xs ys) (n : Nat) : Al R (xs.drop n) (ys.drop n) := by
  refine ⟨by simp [a.len], fun i u v h1 h2 => ?_⟩
  rw [List.getElem?_drop] at h1 h2
  exact a.get _ u v h1 h2
end

/-- tuples stay -/
def Tk (H G : Hp) : Prop := ∀ a xs, H a = some (.tup xs) → G a = some (.tup xs)
theorem Tk.refl (H : Hp) : Tk H H := fun _ _ h => h
theorem Tk.trans {H G J : Hp} (a : Tk H G) (b : Tk G J) : Tk H J := fun x xs h => b x xs (a x xs h)
theorem tk_of {H G : Hp} (s : Same H G) : Tk H G := fun a xs h => s a _ h
theorem same_new {H : Hp} {p : Addr} {o : HO} (h : H p = none) : Same H (upd H p o) := fun b x e => by
  rw [upd_ne (ne_of_none e h)]
  exact e
theorem same_put {H G : Hp} {p : Addr} {o : HO} (s : Same H G) (h : H p = none) : Same H (upd G p o) := fun b x e => by
  rw [upd_ne (ne_of_none e h)]
  exact s b x e

/-- the number (n, 1) -/
def Pr (H : Hp) (v : V) (n : Int) : Prop := ∃ a, v = .ref a ∧ H a = some (.tup [.int n, .int 1])
/-- a step with whole numbers -/
def Stp (H : Hp) (v : V) (row : List Int) : Prop := ∃ a vs, v = .ref a ∧ H a = some (.tup vs) ∧ Al (Pr H) vs row
/-- a row of such steps -/
def Sts (H : Hp) (v : V) (rows : List (List Int)) : Prop := ∃ a vs, v = .ref a ∧ H a = some (.tup vs) ∧ Al (Stp H) vs rows
theorem Pr.tk {H G : Hp} {v : V} {n : Int} (h : Pr H v n) (s : Tk H G) : Pr G v n := by
  obtain ⟨a, e, h⟩ := h
  exact ⟨a, e, s a _ h⟩
theorem Stp.tk {H G : Hp} {v : V} {row : List Int} (h : Stp H v row) (s : Tk H G) : Stp G v row := by
  obtain ⟨a, vs, e, h, al⟩ := h
  exact ⟨a, vs, e, s a _ h, al.mono fun x y q => q.tk s⟩
theorem Sts.tk {H G : Hp} {v : V} {rows : List (List Int)} (h : Sts H v rows) (s : Tk H G) : Sts G v rows := by
  obtain ⟨a, vs, e, h, al⟩ := h
  exact ⟨a, vs, e, s a _ h, al.mono fun x y q => q.tk s⟩
/-- a polynomial: the list of its integers, over 1 -/
def Pol (H : Hp) (v : V) (row : List Int) : Prop := ∃ a l, v = .ref a ∧ H a = some (.tup [.ref l, .int 1]) ∧ H l = some (.lst (row.map V.int))
theorem Pol.same {H G : Hp} {v : V} {row : List Int} (h : Pol H v row) (s : Same H G) : Pol G v row := by
  obtain ⟨a, l, e, h1, h2⟩ := h
  exact ⟨a, l, e, s _ _ h1, s _ _ h2⟩
/-- a list of ints -/
def IsL (H : Hp) (v : V) (ns : List Int) : Prop := ∃ l, v = .ref l ∧ H l = some (.lst (ns.map V.int))
theorem IsL.same {H G : Hp} {v : V} {ns : List Int} (h : IsL H v ns) (s : Same H G) : IsL G v ns := by
  obtain ⟨l, e, h⟩ := h
  exact ⟨l, e, s _ _ h⟩
/-- the list of the steps' lists -/
def Rws (H : Hp) (v : V) (rows : List (List Int)) : Prop := ∃ a vs, v = .ref a ∧ H a = some (.lst vs) ∧ Al (IsL H) vs rows
theorem Rws.same {H G : Hp} {v : V} {rows : List (List Int)} (h : Rws H v rows) (s : Same H G) : Rws G v rows := by
  obtain ⟨a, vs, e, h, al⟩ := h
  exact ⟨a, vs, e, s _ _ h, al.mono fun x y q => q.same s⟩
/-- the rows and their least bounds -/
def Gds (rows : List (List Int)) (B : Nat) : Prop := rows ≠ [] ∧ rows.length ≤ 3 ∧ (∀ row ∈ rows, ∃ b, Good row b ∧ b ≤ B) ∧ ∃ row ∈ rows, Good row B
theorem ints_get {ns : List Int} {i : Nat} {n : Int} (h : ns[i]? = some n) : (ns.map V.int)[i]? = some (.int n) := by
  rw [List.getElem?_map, h]
  rfl
end K86

/-! K86Steps: numbers, steps, rows, polynomials. -/
namespace K86
open PySem PySem.Spec PyProof.Rows L2 SW
theorem hu65 {k : Nat} {A : Around} (r : Room k A) : A.units + 65 < cLine := by
  have := r.un
  omega
theorem sc_is_from : FnScope ["value", "low", "high"] ["value", "low", "high"] (defScope (topS 13)) := ⟨rfl, rfl, rfl, by decide +kernel, rfl, by decide +kernel, by decide +kernel⟩
theorem sc_is_number : FnScope ["value"] ["value"] (defScope (topS 14)) := ⟨rfl, rfl, rfl, by decide +kernel, rfl, by decide +kernel, by decide +kernel⟩
theorem sc_is_step : FnScope ["value", "number"] ["value"] (defScope (topS 15)) := ⟨rfl, rfl, rfl, by decide +kernel, rfl, by decide +kernel, by decide +kernel⟩
theorem sc_need_number : FnScope ["value"] ["value"] (defScope (topS 16)) := ⟨rfl, rfl, rfl, by decide +kernel, rfl, by decide +kernel, by decide +kernel⟩
theorem sc_need_step : FnScope ["value"] ["value"] (defScope (topS 17)) := ⟨rfl, rfl, rfl, by decide +kernel, rfl, by decide +kernel, by decide +kernel⟩
theorem sc_need_row : FnScope ["value", "index", "step"] ["value"] (defScope (topS 18)) := ⟨rfl, rfl, rfl, by decide +kernel, rfl, by decide +kernel, by decide +kernel⟩
def sp_is_from : Sp := fun vs H Q _ => ∃ n lo hi : Int, vs = [.int n, .int lo, .int hi] ∧ Q (.bl (decide (lo ≤ n) && decide (n ≤ hi))) H
def sp_is_number : Sp := fun vs H Q _ => ∃ (v : V) (n : Int), vs = [v] ∧ Pr H v n ∧ -(10 ^ 60) ≤ n ∧ n ≤ 10 ^ 60 ∧ Q (.bl true) H
def sp_is_step : Sp := fun vs H Q _ => ∃ (v : V) (row : List Int) (b : Nat), vs = [v] ∧ Stp H v row ∧ Good row b ∧ Q (.bl true) H
def sp_need_number : Sp := fun vs H Q _ => ∃ (v : V) (n : Int), vs = [v] ∧ Pr H v n ∧ -(10 ^ 60) ≤ n ∧ n ≤ 10 ^ 60 ∧ Q v H
def sp_need_step : Sp := fun vs H Q _ => ∃ (v : V) (row : List Int) (b : Nat), vs = [v] ∧ Stp H v row ∧ Good row b ∧ Q v H
def sp_need_row : Sp := fun vs H Q _ => ∃ (v : V) (rows : List (List Int)), vs = [v] ∧ Sts H v rows ∧ 1 ≤ rows.length ∧ rows.length ≤ 8 ∧ (∀ row ∈ rows, ∃ b, Good row b) ∧ ∀ G, Same H G → Q v G
section
variable {P : Program} {w : World} {K : PySem.W.Frag} {mg : Str → Option Value} {base : Heap}
theorem ok_is_from (T : Txt mg) {f : Addr} {fd : FuncData} (D : Df K mg "is_from" (topS 13) ["value", "low", "high"] f fd)  : Has P w K mg base "is_from" 1 ["value", "low", "high"] sp_is_from := by
  refine D.has sc_is_from (fun vs H Q E h => ?_) (fun cdv A outer s H vs Q E hr h => ?_)
  · obtain ⟨n, lo, hi, rfl, _⟩ := h
    rfl
  · obtain ⟨n, lo, hi, rfl, q⟩ := h
    refine ⟨_, (pss_one (ps_ret (pe_and (pe_callB call_isi (by rfl) T.isinstance bt_isi (pa_cons (pv 0) (pa_cons (pe_bltn (v := .ty "int") (by rfl) T.int bt_int rfl) pa_nil))) (pe_and (pe_not (pe_callB call_isi (by rfl) T.isinstance bt_isi (pa_cons (pv 0) (pa_cons (pe_bltn (v := .ty "bool") (by rfl) T.bool bt_bool rfl) pa_nil)))) (pe_one (pe_chain op_le op_le (pv 1) (pv 0) (pv 2))))))), ?_⟩
    refine ⟨.int n, rfl, .int n, .ty "int", .type "int", .type "int", true, rfl, .ty _, .base (.int n), kt_int_int, true, rfl, iteT ?_⟩
    refine ⟨.int n, rfl, .int n, .ty "bool", .type "int", .type "bool", false, rfl, .ty _, .base (.int n), kt_int_bool, false, rfl, true, rfl, iteT ?_⟩
    refine ⟨.int lo, rfl, .int n, rfl, lo, n, rfl, rfl, _, rfl, ?_⟩
    by_cases c : lo ≤ n
    · rw [decide_eq_true c, Bool.true_and] at q
      rw [decide_eq_true c]
      exact iteT ⟨.int hi, rfl, n, hi, rfl, rfl, q⟩
    · rw [decide_eq_false c, Bool.false_and] at q
      rw [decide_eq_false c]
      exact iteF q
theorem ok_is_number (T : Txt mg) {f : Addr} {fd : FuncData} (D : Df K mg "is_number" (topS 14) ["value"] f fd) (h_is_from : Has P w K mg base "is_from" 1 ["value", "low", "high"] sp_is_from) : Has P w K mg base "is_number" 2 ["value"] sp_is_number := by
  refine D.has sc_is_number (fun vs H Q E h => ?_) (fun cdv A outer s H vs Q E hr h => ?_)
  · obtain ⟨v, n, rfl, _⟩ := h
    rfl
  · obtain ⟨v, n, rfl, ⟨a, rfl, ha⟩, h1, h2, q⟩ := h
    refine ⟨_, (pss_cons (ps_if (PW.pt (pw_or (pt_not (pt_val (pe_callB call_isi (by rfl) T.isinstance bt_isi (pa_cons (pv 0) (pa_cons (pe_bltn (v := .ty "tuple") (by rfl) T.tuple bt_tuple rfl) pa_nil))))) (pw_or1 (pt_cmpR op_ne (pe_callB call_len_seq (by rfl) T.len bt_len (pa_cons (pv 0) pa_nil)) pe_int (nomark _))))) (pss_one (ps_ret pe_bl)) pss_nil)
      (pss_cons (ps_if (PW.pt (pw_or (pt_not (pt_val (pe_has h_is_from (hr.mono (by decide)) (by rfl) (pa_cons (pe_ix ix_tup (pv 0) pe_int (fun _ _ => rfl)) (pa_cons (pe_un un_neg (pe_cst T.part (by rfl))) (pa_cons (pe_cst T.part (by rfl)) pa_nil)))))) (pw_or1 (pt_not (pt_val (pe_has h_is_from (hr.mono (by decide)) (by rfl) (pa_cons (pe_ix ix_tup (pv 0) pe_int (fun _ _ => rfl)) (pa_cons pe_int (pa_cons (pe_cst T.part (by rfl)) pa_nil))))))))) (pss_one (ps_ret pe_bl)) pss_nil)
      (pss_one (ps_ret (pe_cmpR op_eq (pe_callBfun cr_gcd (by rfl) T.gcd (pa_cons (pe_ix ix_tup (pv 0) pe_int (fun _ _ => rfl)) (pa_cons (pe_ix ix_tup (pv 0) pe_int (fun _ _ => rfl)) pa_nil))) pe_int (nomark _)))))), ?_⟩
    have sq : SqT K H a [.int n, .int 1] := .of ha
    refine ⟨.ref a, rfl, .ref a, .ty "tuple", .type "tuple", .type "tuple", true, rfl, .ty _, .base (.tup ha), kt_tup_tup, true, rfl, iteF ?_⟩
    refine ⟨.ref a, rfl, a, _, rfl, .inr sq, rfl, false, rfl, iteF ?_⟩
    refine ⟨.ref a, rfl, a, _, 0, .int n, rfl, rfl, sq, atI_nat (j := 0) rfl, 10 ^ 60, rfl, n, -(10 ^ 60), 10 ^ 60, rfl, ?_⟩
    rw [decide_eq_true h1, decide_eq_true h2]
    refine ⟨true, rfl, iteF ?_⟩
    refine ⟨.ref a, rfl, a, _, 1, .int 1, rfl, rfl, sq, atI_nat (j := 1) rfl, 1, 1, 10 ^ 60, rfl, ?_⟩
    rw [decide_eq_true (show (1 : Int) ≤ 1 by decide), decide_eq_true (show (1 : Int) ≤ 10 ^ 60 by decide)]
    refine ⟨true, rfl, iteF ?_⟩
    refine ⟨.ref a, rfl, a, _, 0, .int n, rfl, rfl, sq, atI_nat (j := 0) rfl, .ref a, rfl, a, _, 1, .int 1, rfl, rfl, sq, atI_nat (j := 1) rfl, n, 1, rfl, ?_⟩
    have e : ((Nat.gcd n.natAbs (1 : Int).natAbs : Nat) : Int) = 1 := by
      rw [show (1 : Int).natAbs = 1 from rfl, Nat.gcd_one_right]
      rfl
    rw [e]
    exact ⟨rfl, q⟩
theorem good_coef {row : List Int} {b : Nat} (g : Good row b) {c : Int} (h : c ∈ row) : -(10 ^ 60) ≤ c ∧ c ≤ 10 ^ 60 := by
  have := g.coef c h
  omega
theorem good_last {row : List Int} {b : Nat} (g : Good row b) : ∃ c, row[row.length - 1]? = some c ∧ c ≠ 0 := by
  have h1 := g.len2
  have h2 := g.last
  refine ⟨row[row.length - 1]'(by omega), List.getElem?_eq_getElem (by omega), ?_⟩
  rw [List.getD_eq_getElem?_getD, List.getElem?_eq_getElem (by omega)] at h2
  exact h2
theorem at_end {xs : List V} {v : V} (h : xs[xs.length - 1]? = some v) : atI xs (-1) = some v := by
  have h0 : 0 < xs.length := by
    have := (List.getElem?_eq_some_iff.mp h).1
    omega
  have e : xs = xs.dropLast ++ [v] := by
    have hne : xs ≠ [] := by
      intro z
      rw [z] at h0
      exact absurd h0 (by decide)
    have e1 := List.dropLast_concat_getLast hne
    have e2 : xs.getLast hne = v := by
      rw [List.getLast_eq_getElem]
      exact Option.some.inj ((List.getElem?_eq_getElem _).symm.trans h)
    rw [e2] at e1
    exact e1.symm
  rw [e]
  exact atI_last _ _
theorem ok_is_step (T : Txt mg) {f : Addr} {fd : FuncData} (D : Df K mg "is_step" (topS 15) ["value"] f fd) (h_is_number : Has P w K mg base "is_number" 2 ["value"] sp_is_number) : Has P w K mg base "is_step" 3 ["value"] sp_is_step := by
  refine D.has sc_is_step (fun vs H Q E h => ?_) (fun cdv A outer s H vs Q E hr h => ?_)
  · obtain ⟨v, row, b, rfl, _⟩ := h
    rfl
  · obtain ⟨v, row, b, rfl, ⟨a, vs, rfl, ha, al⟩, g, q⟩ := h
    refine ⟨_, (pss_cons (ps_if (PW.pt (pw_or (pt_not (pt_val (pe_callB call_isi (by rfl) T.isinstance bt_isi (pa_cons (pv 0) (pa_cons (pe_bltn (v := .ty "tuple") (by rfl) T.tuple bt_tuple rfl) pa_nil))))) (pw_or1 (pt_not (pt_chain op_le op_le pe_int (pe_callB call_len_seq (by rfl) T.len bt_len (pa_cons (pv 0) pa_nil)) (pe_op op_add (pe_cst T.degree (by rfl)) pe_int)))))) (pss_one (ps_ret pe_bl)) pss_nil)
      (pss_cons (ps_for PassesOwn.never rfl (pi_tup (pv 0)) (pg_name (i := 1) sc_is_step.nd rfl (.inl rfl)) (pss_one (ps_if (pt_not (pt_val (pe_has h_is_number (hr.mono (by decide)) (by rfl) (pa_cons (pv 1) pa_nil)))) (pss_one (ps_ret pe_bl)) pss_nil)))
      (pss_one (ps_ret (pe_cmpR op_ne (pe_ix ix_tup (pe_ix ix_tup (pv 0) (pe_un un_neg pe_int) (fun _ _ => rfl)) pe_int (fun _ _ => rfl)) pe_int (nomark _)))))), ?_⟩
    have sq : SqT K H a vs := .of ha
    have l2 := g.len2
    have l4 := g.len4
    refine ⟨.ref a, rfl, .ref a, .ty "tuple", .type "tuple", .type "tuple", true, rfl, .ty _, .base (.tup ha), kt_tup_tup, true, rfl, iteF ?_⟩
    refine ⟨.ref a, rfl, a, vs, rfl, .inr sq, 2, vs.length, rfl, rfl, _, rfl, ?_⟩
    rw [decide_eq_true (show (2 : Int) ≤ vs.length by have := al.len; omega)]
    refine iteT ⟨64, 1, rfl, rfl, vs.length, 65, rfl, rfl, _, rfl, ?_⟩
    rw [decide_eq_true (show (vs.length : Int) ≤ 65 by have := al.len; omega)]
    refine iteF ?_
    refine ⟨.ref a, rfl, a, rfl, ⟨vs, sq⟩, for_tup (xs := vs) (fun i σ G => G = H ∧ ∃ z, σ = [some (.ref a), z]) ⟨rfl, _, rfl⟩ (fun i σ G _ p => by obtain ⟨rfl, _⟩ := p; exact sq) (fun i x σ G hx p => ?_) (fun σ G p => ?_)⟩
    · obtain ⟨rfl, z, rfl⟩ := p
      obtain ⟨n, hn, hp⟩ := al.of hx
      obtain ⟨b1, b2⟩ := good_coef g (List.mem_of_getElem? hn)
      exact ⟨x, rfl, x, n, rfl, hp, b1, b2, true, rfl, iteF ⟨rfl, _, rfl⟩⟩
    · obtain ⟨rfl, z, rfl⟩ := p
      obtain ⟨c, hc, hc0⟩ := good_last g
      rw [← al.len] at hc
      obtain ⟨y, hy, ay, rfl, hay⟩ := al.to hc
      refine ⟨.ref a, rfl, 1, rfl, a, vs, -1, .ref ay, rfl, rfl, sq, at_end hy, ay, _, 0, .int c, rfl, rfl, .of hay, atI_nat (j := 0) rfl, rfl, ?_⟩
      have e : decide (V.int c = V.int 0) = false := decide_eq_false fun z => hc0 (V.int.inj z)
      rw [e]
      exact q
theorem ok_need_number (T : Txt mg) {f : Addr} {fd : FuncData} (D : Df K mg "need_number" (topS 16) ["value"] f fd) (h_is_number : Has P w K mg base "is_number" 2 ["value"] sp_is_number) : Has P w K mg base "need_number" 3 ["value"] sp_need_number := by
  refine D.has sc_need_number (fun vs H Q E h => ?_) (fun cdv A outer s H vs Q E hr h => ?_)
  · obtain ⟨v, n, rfl, _⟩ := h
    rfl
  · obtain ⟨v, n, rfl, hp, h1, h2, q⟩ := h
    refine ⟨_, (pss_cons (ps_if (pt_not (pt_val (pe_has h_is_number (hr.mono (by decide)) (by rfl) (pa_cons (pv 0) pa_nil)))) (pss_one ps_never) pss_nil)
      (pss_one (ps_ret (pv 0)))), ?_⟩
    exact ⟨v, rfl, v, n, rfl, hp, h1, h2, true, rfl, iteF ⟨v, rfl, q⟩⟩
theorem ok_need_step (T : Txt mg) {f : Addr} {fd : FuncData} (D : Df K mg "need_step" (topS 17) ["value"] f fd) (h_is_step : Has P w K mg base "is_step" 3 ["value"] sp_is_step) : Has P w K mg base "need_step" 4 ["value"] sp_need_step := by
  refine D.has sc_need_step (fun vs H Q E h => ?_) (fun cdv A outer s H vs Q E hr h => ?_)
  · obtain ⟨v, row, b, rfl, _⟩ := h
    rfl
  · obtain ⟨v, row, b, rfl, hs, g, q⟩ := h
    refine ⟨_, (pss_cons (ps_if (pt_not (pt_val (pe_has h_is_step (hr.mono (by decide)) (by rfl) (pa_cons (pv 0) pa_nil)))) (pss_one ps_never) pss_nil)
      (pss_one (ps_ret (pv 0)))), ?_⟩
    exact ⟨v, rfl, v, row, b, rfl, hs, g, true, rfl, iteF ⟨v, rfl, q⟩⟩
theorem ok_need_row (T : Txt mg) {f : Addr} {fd : FuncData} (D : Df K mg "need_row" (topS 18) ["value"] f fd) (h_is_step : Has P w K mg base "is_step" 3 ["value"] sp_is_step) : Has P w K mg base "need_row" 4 ["value"] sp_need_row := by
  refine D.has sc_need_row (fun vs H Q E h => ?_) (fun cdv A outer s H vs Q E hr h => ?_)
  · obtain ⟨v, rows, rfl, _⟩ := h
    rfl
  · obtain ⟨v, rows, rfl, ⟨a, vs, rfl, ha, al⟩, l1, l8, g, q⟩ := h
    refine ⟨_, (pss_cons (ps_if (PW.pt (pw_or (pt_not (pt_val (pe_callB call_isi (by rfl) T.isinstance bt_isi (pa_cons (pv 0) (pa_cons (pe_bltn (v := .ty "tuple") (by rfl) T.tuple bt_tuple rfl) pa_nil))))) (pw_or1 (pt_not (pt_chain op_le op_le pe_int (pe_callB call_len_seq (by rfl) T.len bt_len (pa_cons (pv 0) pa_nil)) (pe_cst T.row (by rfl))))))) (pss_one ps_never) pss_nil)
      (pss_cons (ps_for PassesOwn.never rfl (pi_enumT (by rfl) T.enumerate (pa_cons (pv 0) pa_nil)) (pg_tup rfl (pgs_cons (pg_name (i := 1) sc_need_row.nd rfl (.inl rfl)) (pgs_cons (pg_name (i := 2) sc_need_row.nd rfl (.inl rfl)) pgs_nil))) (pss_one (ps_if (pt_not (pt_val (pe_has h_is_step (hr.mono (by decide)) (by rfl) (pa_cons (pv 2) pa_nil)))) (pss_one ps_never) pss_nil)))
      (pss_one (ps_ret (pv 0))))), ?_⟩
    have sq : SqT K H a vs := .of ha
    have ln := al.len
    refine ⟨.ref a, rfl, .ref a, .ty "tuple", .type "tuple", .type "tuple", true, rfl, .ty _, .base (.tup ha), kt_tup_tup, true, rfl, iteF ?_⟩
    refine ⟨.ref a, rfl, a, vs, rfl, .inr sq, 1, vs.length, rfl, rfl, _, rfl, ?_⟩
    rw [decide_eq_true (show (1 : Int) ≤ vs.length by omega)]
    refine iteT ⟨vs.length, 8, rfl, rfl, _, rfl, ?_⟩
    rw [decide_eq_true (show (vs.length : Int) ≤ 8 by omega)]
    refine iteF ?_
    refine ⟨.ref a, rfl, a, vs, rfl, sq, for_it walk_enumT (fun i σ G => Same H G ∧ ∃ y z, σ = [some (.ref a), y, z]) ⟨Same.refl H, _, _, rfl⟩ (fun i σ G _ p => .of (p.1 _ _ ha)) (fun i x σ G G2 hi p y => ?_) (fun σ G p => ?_)⟩
    · obtain ⟨s1, y1, z1, rfl⟩ := p
      obtain ⟨Tp, x1, x2, rfl, nT, rfl, e1, e2⟩ := y
      cases e1
      have s2 : Same H (upd G Tp (.tup [.int (i : Nat), x2])) := s1.trans (same_new nT)
      obtain ⟨row, hr2, hs2⟩ := al.of e2
      obtain ⟨b, hg⟩ := g row (List.mem_of_getElem? hr2)
      refine ⟨Tp, _, rfl, .of upd_same, rfl, .int (i : Nat), [x2], rfl, x2, [], rfl, rfl, ?_⟩
      exact ⟨x2, rfl, x2, row, b, rfl, hs2.tk (tk_of s2), hg, true, rfl, iteF ⟨s2, _, _, rfl⟩⟩
    · obtain ⟨s1, y1, z1, rfl⟩ := p
      exact ⟨.ref a, rfl, q G s1⟩
end
end K86

/-! K86Poly: polynomials of whole steps, their values. -/
namespace K86
open PySem PySem.Spec PyProof.Rows L2 SW
theorem sc_number_of : FnScope ["above", "below", "whole"] ["above", "below"] (defScope (topS 19)) := ⟨rfl, rfl, rfl, by decide +kernel, rfl, by decide +kernel, by decide +kernel⟩
theorem sc_reduced : FnScope ["numbers", "below", "many", "whole", "number"] ["numbers", "below"] (defScope (topS 20)) := ⟨rfl, rfl, rfl, by decide +kernel, rfl, by decide +kernel, by decide +kernel⟩
theorem sc_as_poly : FnScope ["step", "below", "number"] ["step"] (defScope (topS 21)) := ⟨rfl, rfl, rfl, by decide +kernel, rfl, by decide +kernel, by decide +kernel⟩
theorem sc_value_of : FnScope ["poly", "number", "found", "shift", "item"] ["poly", "number"] (defScope (topS 22)) := ⟨rfl, rfl, rfl, by decide +kernel, rfl, by decide +kernel, by decide +kernel⟩
theorem gcd_one (a : Int) : ((Nat.gcd a.natAbs (1 : Int).natAbs : Nat) : Int) = 1 := by
  rw [show (1 : Int).natAbs = 1 from rfl, Nat.gcd_one_right]
  rfl
theorem one_gcd (a : Int) : ((Nat.gcd (1 : Int).natAbs a.natAbs : Nat) : Int) = 1 := by
  rw [show (1 : Int).natAbs = 1 from rfl, Nat.gcd_one_left]
  rfl
theorem cut_all {xs : List V} {n : Int} (h : n = xs.length) : cutV xs none (some n) = xs := by
  subst h
  unfold cutV
  rw [HT.sIx_nat, HT.sIx_none, List.drop_zero, Nat.min_self, Nat.sub_zero, List.take_length]
theorem div_one {a : Int} : CDiv a 1 := ⟨by decide, by decide⟩
theorem take_map {ns : List Int} {i : Nat} {n : Int} (h : ns[i]? = some n) : (ns.take i).map V.int ++ [V.int n] = (ns.take (i + 1)).map V.int := by
  rw [List.take_add_one, h, List.map_append]
  rfl
theorem small_row {row : List Int} (h : row.length ≤ 64) : row.length < sizeLine := small1000 (by omega)
def sp_number_of : Sp := fun vs H Q _ => ∃ a : Int, vs = [.int a, .int 1] ∧ ∀ p, H p = none → Q (.ref p) (upd H p (.tup [.int a, .int 1]))
def sp_reduced : Sp := fun vs H Q _ => ∃ (v : V) (row : List Int) (c : Int), vs = [v, .int 1] ∧ IsL H v row ∧ row.length ≤ 64 ∧ row[row.length - 1]? = some c ∧ c ≠ 0 ∧ ∀ v' G, Same H G → Pol G v' row → Q v' G
def sp_as_poly : Sp := fun vs H Q _ => ∃ (v : V) (row : List Int) (b : Nat), vs = [v] ∧ Stp H v row ∧ Good row b ∧ ∀ v' G, Same H G → Pol G v' row → Q v' G
def sp_value_of : Sp := fun vs H Q _ => ∃ (p v : V) (row : List Int) (x : Int), vs = [p, v] ∧ Pol H p row ∧ Pr H v x ∧ 0 < row.length ∧ row.length ≤ 64 ∧ -1000 ≤ x ∧ x ≤ 1000 ∧ ∀ v' G, Same H G → Pr G v' (ledI row x) → Q v' G
section
variable {P : Program} {w : World} {K : PySem.W.Frag} {mg : Str → Option Value} {base : Heap}
theorem ok_number_of (T : Txt mg) {f : Addr} {fd : FuncData} (D : Df K mg "number_of" (topS 19) ["above", "below"] f fd)  : Has P w K mg base "number_of" 1 ["above", "below"] sp_number_of := by
  refine D.has sc_number_of (fun vs H Q E h => ?_) (fun cdv A outer s H vs Q E hr h => ?_)
  · obtain ⟨a, rfl, _⟩ := h
    rfl
  · obtain ⟨a, rfl, q⟩ := h
    refine ⟨_, (pss_cons (ps_set (i := 2) sc_number_of.nd rfl (.inl rfl) (pe_callBfun cr_gcd (by rfl) T.gcd (pa_cons (pv 0) (pa_cons (pv 1) pa_nil))))
      (pss_cons (ps_if (pt_cmpR op_lt (pv 1) pe_int (nomark _)) (pss_one (ps_set (i := 2) sc_number_of.nd rfl (.inl rfl) (pe_un un_neg (pv 2)))) pss_nil)
      (pss_one (ps_ret (pe_tup (pa_cons (pe_op op_fdiv (pv 0) (pv 2)) (pa_cons (pe_op op_fdiv (pv 1) (pv 2)) pa_nil))))))), ?_⟩
    refine ⟨.int a, rfl, .int 1, rfl, a, 1, rfl, ?_⟩
    rw [gcd_one]
    refine ⟨.int 1, rfl, 1, 0, rfl, rfl, _, rfl, iteF ?_⟩
    refine ⟨.int a, rfl, .int 1, rfl, a, 1, rfl, rfl, div_one, .int 1, rfl, .int 1, rfl, 1, 1, rfl, rfl, div_one, by show 2 ≤ sizeLine; decide, fun p np => ?_⟩
    show Q (.ref p) (upd H p (.tup [.int (a / 1), .int (1 / 1)]))
    rw [Int.ediv_one, Int.ediv_one]
    exact q p np
theorem ok_reduced (T : Txt mg) {f : Addr} {fd : FuncData} (D : Df K mg "reduced" (topS 20) ["numbers", "below"] f fd)  : Has P w K mg base "reduced" 1 ["numbers", "below"] sp_reduced := by
  refine D.has sc_reduced (fun vs H Q E h => ?_) (fun cdv A outer s H vs Q E hr h => ?_)
  · obtain ⟨v, row, c, rfl, _⟩ := h
    rfl
  · obtain ⟨v, row, c, rfl, ⟨l, rfl, hl⟩, h64, hc, hc0, q⟩ := h
    refine ⟨_, (pss_cons (ps_set (i := 2) sc_reduced.nd rfl (.inl rfl) (pe_callB call_len_seq (by rfl) T.len bt_len (pa_cons (pv 0) pa_nil)))
      (pss_cons (ps_while PassesOwn.never (PW.pt (pw_and (pt_cmpR op_gt (pv 2) pe_int (nomark _)) (pw_and1 (pt_cmpR op_eq (pe_ix ix_list (pv 0) (pe_op op_sub (pv 2) pe_int) (fun _ _ => rfl)) pe_int (nomark _))))) (pss_one (ps_set (i := 2) sc_reduced.nd rfl (.inl rfl) (pe_op op_sub (pv 2) pe_int))))
      (pss_cons (ps_set (i := 3) sc_reduced.nd rfl (.inr rfl) (pe_callBfun cr_gcd (by rfl) T.gcd (pa_cons (pv 1) (pa_cons pe_int pa_nil))))
      (pss_cons (ps_for PassesOwn.never rfl (pi_list (pe_slice sl_list (pv 0) po_none (po_some (pv 2)))) (pg_name (i := 4) sc_reduced.nd rfl (.inl rfl)) (pss_one (ps_set (i := 3) sc_reduced.nd rfl (.inr rfl) (pe_callBfun cr_gcd (by rfl) T.gcd (pa_cons (pv 3) (pa_cons (pv 4) pa_nil))))))
      (pss_cons (ps_if (pt_cmpR op_lt (pv 1) pe_int (nomark _)) (pss_one (ps_set (i := 3) sc_reduced.nd rfl (.inr rfl) (pe_un un_neg (pv 3)))) pss_nil)
      (pss_one (ps_ret (pe_tup (pa_cons (pe_lc (own := [("number", 4)]) rfl sc_reduced.nd (pi_list (pe_slice sl_list (pv 0) po_none (po_some (pv 2)))) (blkOk_by (own := [("number", 4)]) (N := ["numbers", "below", "many", "whole", "number"]) (sc := defScope (topS 20)) (by decide +kernel)) (fun _ _ _ _ _ => (pg_name (i := 4) sc_reduced.nd rfl (.inl rfl))) (fun _ _ _ _ _ => pts_nil) (fun _ _ _ _ _ => (pe_op op_fdiv (pv 4) (pv 3)))) (pa_cons (pe_op op_fdiv (pv 1) (pv 3)) pa_nil)))))))))), ?_⟩
    have sq : SqL K H l (row.map V.int) := .of hl
    have h0 : 0 < row.length := by
      have := (List.getElem?_eq_some_iff.mp hc).1
      omega
    have lm : (row.map V.int).length = row.length := List.length_map _
    refine ⟨.ref l, rfl, l, _, rfl, .inl sq, ?_⟩
    rw [lm]
    refine ⟨fun m σ G => σ = [some (.ref l), some (.int 1), some (.int row.length), none, none] ∧ G = H, ⟨0, rfl, rfl⟩, ?_⟩
    rintro m σ G ⟨rfl, rfl⟩
    refine ⟨.int row.length, rfl, row.length, 0, rfl, rfl, _, rfl, ?_⟩
    rw [decide_eq_true (show (0 : Int) < row.length by omega)]
    refine iteT ⟨.ref l, rfl, .int row.length, rfl, row.length, 1, rfl, rfl, l, _, row.length - 1, .int c, rfl, rfl, sq, at_of (j := row.length - 1) (by omega) (ints_get hc), rfl, _, rfl, ?_⟩
    rw [decide_eq_false fun z => hc0 (V.int.inj z)]
    refine iteF ?_
    refine ⟨.int 1, rfl, 1, 0, rfl, ?_⟩
    rw [one_gcd]
    refine ⟨.ref l, rfl, .int row.length, rfl, row.length, rfl, l, _, rfl, sq, fun p np => ?_⟩
    rw [cut_all (n := row.length) (by rw [lm])]
    have s1 := same_new (o := .lst (row.map V.int)) np
    refine ⟨p, rfl, ⟨_, .of upd_same⟩, for_list (xs := row.map V.int) (fun i σ J => (∃ z, σ = [some (.ref l), some (.int 1), some (.int row.length), some (.int 1), z]) ∧ J = upd G p (.lst (row.map V.int))) ⟨⟨_, rfl⟩, rfl⟩ (fun i σ J _ pp => by obtain ⟨_, rfl⟩ := pp; exact .of upd_same) (fun i x σ J hx pp => ?_) (fun σ J pp => ?_)⟩
    · obtain ⟨⟨z, rfl⟩, rfl⟩ := pp
      rw [List.getElem?_map] at hx
      obtain ⟨n, hn, rfl⟩ := Option.map_eq_some_iff.mp hx
      refine ⟨.int 1, rfl, .int n, rfl, 1, n, rfl, ?_⟩
      rw [one_gcd]
      exact ⟨⟨_, rfl⟩, rfl⟩
    · obtain ⟨⟨z, rfl⟩, rfl⟩ := pp
      refine ⟨.int 1, rfl, 1, 0, rfl, rfl, _, rfl, iteF ?_⟩
      refine ⟨.ref l, rfl, .int row.length, rfl, row.length, rfl, l, _, rfl, s1.seq sq, fun p2 np2 => ?_⟩
      rw [cut_all (n := row.length) (by rw [lm])]
      have s2 := s1.trans (same_new (o := .lst (row.map V.int)) np2)
      refine ⟨p2, rfl, ⟨_, .of upd_same⟩, fun Dl nD => ?_⟩
      have ne : p2 ≠ Dl := fun e => by
        rw [← e, upd_same] at nD
        cases nD
      have nDH : G Dl = none := s2.free nD
      refine lc_it walk_list (fun i J => Same G J ∧ J p2 = some (.lst (row.map V.int)) ∧ J Dl = some (.lst ((row.take i).map V.int))) ⟨s2.trans (same_new nD), by rw [upd_ne ne, upd_same], by rw [upd_same]; rfl⟩ (fun i J _ pp => .of pp.2.1) (fun i x J J2 hi pp y => ?_) (fun J pp => ?_)
      · obtain ⟨rfl, hx⟩ := y
        rw [List.getElem?_map] at hx
        obtain ⟨n, hn, rfl⟩ := Option.map_eq_some_iff.mp hx
        obtain ⟨t1, t2, t3⟩ := pp
        refine ⟨rfl, .int n, rfl, .int 1, rfl, n, 1, rfl, rfl, div_one, _, t3, ?_, same_put t1 nDH, ?_, ?_⟩
        · rw [List.length_map, List.length_take]
          exact Nat.lt_of_le_of_lt (Nat.min_le_right _ _) (small_row h64)
        · rw [upd_ne ne]
          exact t2
        · dsimp only
          rw [upd_same, Int.ediv_one, take_map hn]
      · obtain ⟨t1, t2, t3⟩ := pp
        rw [lm, List.take_length] at t3
        refine ⟨.int 1, rfl, .int 1, rfl, 1, 1, rfl, rfl, div_one, by show 2 ≤ sizeLine; decide, fun r nr => ?_⟩
        exact q (.ref r) _ (t1.trans (same_new nr)) ⟨r, Dl, rfl, upd_same, by rw [upd_ne (ne_of_none t3 nr)]; exact t3⟩
theorem ok_as_poly (T : Txt mg) {f : Addr} {fd : FuncData} (D : Df K mg "as_poly" (topS 21) ["step"] f fd) (h_reduced : Has P w K mg base "reduced" 1 ["numbers", "below"] sp_reduced) : Has P w K mg base "as_poly" 2 ["step"] sp_as_poly := by
  refine D.has sc_as_poly (fun vs H Q E h => ?_) (fun cdv A outer s H vs Q E hr h => ?_)
  · obtain ⟨v, row, b, rfl, _⟩ := h
    rfl
  · obtain ⟨v, row, b, rfl, ⟨a, vs, rfl, ha, al⟩, g, q⟩ := h
    refine ⟨_, (pss_cons (ps_set (i := 1) sc_as_poly.nd rfl (.inr rfl) pe_int)
      (pss_cons (ps_for PassesOwn.never rfl (pi_tup (pv 0)) (pg_name (i := 2) sc_as_poly.nd rfl (.inl rfl)) (pss_one (ps_set (i := 1) sc_as_poly.nd rfl (.inr rfl) (pe_op op_fdiv (pe_op op_mul (pv 1) (pe_ix ix_tup (pv 2) pe_int (fun _ _ => rfl))) (pe_callBfun cr_gcd (by rfl) T.gcd (pa_cons (pv 1) (pa_cons (pe_ix ix_tup (pv 2) pe_int (fun _ _ => rfl)) pa_nil)))))))
      (pss_one (ps_ret (pe_has h_reduced (hr.mono (by decide)) (by rfl) (pa_cons (pe_lc (own := [("number", 2)]) rfl sc_as_poly.nd (pi_tup (pv 0)) (blkOk_by (own := [("number", 2)]) (N := ["step", "below", "number"]) (sc := defScope (topS 21)) (by decide +kernel)) (fun _ _ _ _ _ => (pg_name (i := 2) sc_as_poly.nd rfl (.inl rfl))) (fun _ _ _ _ _ => pts_nil) (fun _ _ _ _ _ => (pe_op op_mul (pe_ix (show IxR _ (rIxT K) from ix_tup) (pv 2) pe_int (fun _ _ => rfl)) (pe_op op_fdiv (pv 1) (pe_ix (show IxR _ (rIxT K) from ix_tup) (pv 2) pe_int (fun _ _ => rfl)))))) (pa_cons (pv 1) pa_nil))))))), ?_⟩
    have sq : SqT K H a vs := .of ha
    have l4 := g.len4
    refine ⟨.ref a, rfl, a, rfl, ⟨_, sq⟩, for_tup (xs := vs) (fun i σ J => (∃ z, σ = [some (.ref a), some (.int 1), z]) ∧ J = H) ⟨⟨_, rfl⟩, rfl⟩ (fun i σ J _ pp => by obtain ⟨_, rfl⟩ := pp; exact sq) (fun i x σ J hx pp => ?_) (fun σ J pp => ?_)⟩
    · obtain ⟨⟨z, rfl⟩, rfl⟩ := pp
      obtain ⟨n, hn, pr, rfl, hpr⟩ := al.of hx
      have sp : SqT K J pr [.int n, .int 1] := .of hpr
      refine ⟨.int 1, rfl, .ref pr, rfl, pr, _, 1, .int 1, rfl, rfl, sp, atI_nat (j := 1) rfl, 1, 1, rfl, rfl, .inl ⟨by decide, by decide⟩, ?_⟩
      exact ⟨.int 1, rfl, .ref pr, rfl, pr, _, 1, .int 1, rfl, rfl, sp, atI_nat (j := 1) rfl, 1, 1, rfl, 1, 1, rfl, rfl, div_one, ⟨_, rfl⟩, rfl⟩
    · obtain ⟨⟨z, rfl⟩, rfl⟩ := pp
      refine ⟨.ref a, rfl, a, rfl, ⟨_, sq⟩, fun Dl nD => ?_⟩
      refine lc_it walk_tup (fun i J2 => Same J J2 ∧ J2 Dl = some (.lst ((row.take i).map V.int))) ⟨same_new nD, by rw [upd_same]; rfl⟩ (fun i J2 _ pp => .of (pp.1 _ _ ha)) (fun i x J2 J3 hi pp y => ?_) (fun J2 pp => ?_)
      · obtain ⟨rfl, hx⟩ := y
        obtain ⟨t1, t2⟩ := pp
        obtain ⟨n, hn, pr, rfl, hpr⟩ := al.of hx
        have sp : SqT K J3 pr [.int n, .int 1] := .of (t1 _ _ hpr)
        refine ⟨rfl, .ref pr, rfl, pr, _, 0, .int n, rfl, rfl, sp, atI_nat (j := 0) rfl, .int 1, rfl, .ref pr, rfl, pr, _, 1, .int 1, rfl, rfl, sp, atI_nat (j := 1) rfl, 1, 1, rfl, rfl, div_one, n, 1, rfl, rfl, .inr ⟨by decide, by decide⟩, _, t2, ?_, same_put t1 nD, ?_⟩
        · rw [List.length_map, List.length_take]
          exact Nat.lt_of_le_of_lt (Nat.min_le_right _ _) (small_row (by omega))
        · dsimp only
          rw [upd_same, Int.mul_one, take_map hn]
      · obtain ⟨t1, t2⟩ := pp
        rw [al.len, List.take_length] at t2
        obtain ⟨c, hc, hc0⟩ := good_last g
        exact ⟨.int 1, rfl, .ref Dl, row, c, rfl, ⟨Dl, rfl, t2⟩, by omega, hc, hc0, fun v' G s p => q v' G (t1.trans s) p⟩
theorem led_step {row : List Int} {x : Int} {i : Nat} {c : Int} (hi : i < row.length) (hc : row[row.length - 1 - i]? = some c) : ledI (row.drop (row.length - i)) x * x + c = ledI (row.drop (row.length - (i + 1))) x := by
  have e : row.length - (i + 1) = row.length - 1 - i := by omega
  have hlt : row.length - 1 - i < row.length := by omega
  have hcc : row[row.length - 1 - i] = c := Option.some.inj ((List.getElem?_eq_getElem hlt).symm.trans hc)
  rw [e, List.drop_eq_getElem_cons hlt, hcc, show row.length - 1 - i + 1 = row.length - i by omega]
  rfl
theorem ok_value_of (T : Txt mg) {f : Addr} {fd : FuncData} (D : Df K mg "value_of" (topS 22) ["poly", "number"] f fd) (h_number_of : Has P w K mg base "number_of" 1 ["above", "below"] sp_number_of) : Has P w K mg base "value_of" 2 ["poly", "number"] sp_value_of := by
  refine D.has sc_value_of (fun vs H Q E h => ?_) (fun cdv A outer s H vs Q E hr h => ?_)
  · obtain ⟨p, v, row, x, rfl, _⟩ := h
    rfl
  · obtain ⟨p, v, row, x, rfl, ⟨a, l, rfl, ha, hl⟩, ⟨b, rfl, hb⟩, h0, h64, hx1, hx2, q⟩ := h
    refine ⟨_, (pss_cons (ps_asg (pe_tup (pa_cons pe_int (pa_cons pe_int pa_nil))) (pg_tup rfl (pgs_cons (pg_name (i := 2) sc_value_of.nd rfl (.inl rfl)) (pgs_cons (pg_name (i := 3) sc_value_of.nd rfl (.inl rfl)) pgs_nil))))
      (pss_cons (ps_for PassesOwn.never rfl (pi_reversed (by rfl) T.reversed (pa_cons (pe_ix ix_tup (pv 0) pe_int (fun _ _ => rfl)) pa_nil)) (pg_name (i := 4) sc_value_of.nd rfl (.inl rfl)) (pss_cons (ps_set (i := 2) sc_value_of.nd rfl (.inl rfl) (pe_op op_add (pe_op op_mul (pv 2) (pe_ix ix_tup (pv 1) pe_int (fun _ _ => rfl))) (pe_op op_mul (pv 4) (pv 3))))
      (pss_one (ps_set (i := 3) sc_value_of.nd rfl (.inl rfl) (pe_op op_mul (pv 3) (pe_ix ix_tup (pv 1) pe_int (fun _ _ => rfl)))))))
      (pss_one (ps_ret (pe_ifExp (pt_cmpR (op_neD hr.units) (pe_ix ix_tup (pv 0) pe_int (fun _ _ => rfl)) (pe_lst pa_nil) (nomark _)) (pe_has h_number_of (hr.mono (by decide)) (by rfl) (pa_cons (pe_op op_mul (pv 2) (pe_ix ix_tup (pv 1) pe_int (fun _ _ => rfl))) (pa_cons (pe_op op_mul (pe_ix ix_tup (pv 0) pe_int (fun _ _ => rfl)) (pv 3)) pa_nil))) (pe_tup (pa_cons pe_int (pa_cons pe_int pa_nil)))))))), ?_⟩
    have sa : SqT K H a [.ref l, .int 1] := .of ha
    have sb : SqT K H b [.int x, .int 1] := .of hb
    have sl : SqL K H l (row.map V.int) := .of hl
    have lm : (row.map V.int).length = row.length := List.length_map _
    refine ⟨by show 2 ≤ sizeLine; decide, fun c nc => ⟨c, _, rfl, .of upd_same, rfl, .int 0, [.int 1], rfl, .int 1, [], rfl, rfl, ?_⟩⟩
    have s0 := same_new (o := .tup [.int 0, .int 1]) nc
    replace ha := s0 _ _ ha
    replace hb := s0 _ _ hb
    replace hl := s0 _ _ hl
    replace sa : SqT K (upd H c (.tup [.int 0, .int 1])) a [.ref l, .int 1] := .of ha
    replace sb : SqT K (upd H c (.tup [.int 0, .int 1])) b [.int x, .int 1] := .of hb
    replace sl : SqL K (upd H c (.tup [.int 0, .int 1])) l (row.map V.int) := .of hl
    replace q : ∀ v' G, Same (upd H c (.tup [.int 0, .int 1])) G → Pr G v' (ledI row x) → Q v' G := fun v' G s p => q v' G (s0.trans s) p
    generalize upd H c (.tup [.int 0, .int 1]) = H1 at *
    refine ⟨.ref a, rfl, a, _, 0, .ref l, rfl, rfl, sa, atI_nat (j := 0) rfl, l, row.map V.int, rfl, sl, for_it walk_rev (fun i σ J => (∃ z, σ = [some (.ref a), some (.ref b), some (.int (ledI (row.drop (row.length - i)) x)), some (.int 1), z]) ∧ J = H1) ⟨⟨none, ?_⟩, rfl⟩ (fun i σ J _ pp => by rw [pp.2]; exact sl) (fun i y σ J J2 hi pp yy => ?_) (fun σ J pp => ?_)⟩
    · rw [Nat.sub_zero, List.drop_length]
      rfl
    · obtain ⟨⟨z, rfl⟩, rfl⟩ := pp
      rw [lm] at hi
      obtain ⟨rfl, hy⟩ := yy
      rw [List.getElem?_map, lm] at hy
      obtain ⟨c, hc, rfl⟩ := Option.map_eq_some_iff.mp hy
      refine ⟨.int _, rfl, .ref b, rfl, b, _, 0, .int x, rfl, rfl, sb, atI_nat (j := 0) rfl, _, x, rfl, rfl, .inr ⟨by omega, by omega⟩, .int c, rfl, .int 1, rfl, c, 1, rfl, rfl, .inr ⟨by decide, by decide⟩, _, _, rfl, rfl, ?_⟩
      rw [Int.mul_one]
      refine ⟨.int 1, rfl, .ref b, rfl, b, _, 1, .int 1, rfl, rfl, sb, atI_nat (j := 1) rfl, 1, 1, rfl, rfl, .inl ⟨by decide, by decide⟩, ⟨some (.int c), ?_⟩, rfl⟩
      rw [← led_step hi hc]
      rfl
    · obtain ⟨⟨z, rfl⟩, rfl⟩ := pp
      rw [lm, Nat.sub_self, List.drop_zero]
      refine ⟨.ref a, rfl, a, _, 0, .ref l, rfl, rfl, sa, atI_nat (j := 0) rfl, Nat.zero_le _, fun e ne => ?_⟩
      have s1 := same_new (o := .lst []) ne
      refine ⟨.list (row.map PyData.int), .list [], .lst (s1.seq sl) ?_, .lst (.of upd_same) .nil, ints_shapedL row, ints_shapedL [], _, rfl, ?_⟩
      · clear q ha hl sl lm h0 h64
        induction row with
        | nil => exact .nil
        | cons c row ih => exact .cons (.int c) ih
      · have ee : (!PyData.eqv (.list (row.map PyData.int)) (.list [])) = true := by
          cases row with
          | nil => exact absurd h0 (by decide)
          | cons c row => simp [PyData.eqv, PyData.eqvAll]
        rw [ee]
        have sa2 : SqT K (upd J e (.lst [])) a [.ref l, .int 1] := .of (s1 _ _ ha)
        have sb2 : SqT K (upd J e (.lst [])) b [.int x, .int 1] := .of (s1 _ _ hb)
        refine iteT ⟨.int _, rfl, .ref b, rfl, b, _, 1, .int 1, rfl, rfl, sb2, atI_nat (j := 1) rfl, _, 1, rfl, rfl, .inr ⟨by decide, by decide⟩, .ref a, rfl, a, _, 1, .int 1, rfl, rfl, sa2, atI_nat (j := 1) rfl, .int 1, rfl, 1, 1, rfl, rfl, .inl ⟨by decide, by decide⟩, ?_⟩
        exact ⟨ledI row x, by show [V.int (ledI row x * 1), V.int (1 * 1)] = _; rw [Int.mul_one, Int.mul_one], fun r nr => q (.ref r) _ (s1.trans (same_new nr)) ⟨r, rfl, upd_same⟩⟩
end
end K86

/-! K86Starts: bounds, walks, rounds. -/
namespace K86
open PySem PySem.Spec PyProof.Rows L2 SW
theorem sc_need_bent : FnScope ["step"] ["step"] (defScope (topS 25)) := ⟨rfl, rfl, rfl, by decide +kernel, rfl, by decide +kernel, by decide +kernel⟩
theorem sc_holds_bound : FnScope ["sizes", "beneath", "bound", "top", "others", "shift", "index"] ["sizes", "beneath", "bound"] (defScope (topS 26)) := ⟨rfl, rfl, rfl, by decide +kernel, rfl, by decide +kernel, by decide +kernel⟩
theorem sc_least_bound : FnScope ["poly", "sizes", "high", "low", "middle", "number"] ["poly"] (defScope (topS 27)) := ⟨rfl, rfl, rfl, by decide +kernel, rfl, by decide +kernel, by decide +kernel⟩
theorem sc_bounds_so : FnScope ["poly"] ["poly"] (defScope (topS 28)) := ⟨rfl, rfl, rfl, by decide +kernel, rfl, by decide +kernel, by decide +kernel⟩
theorem sc_is_within : FnScope ["bounds", "number"] ["bounds", "number"] (defScope (topS 29)) := ⟨rfl, rfl, rfl, by decide +kernel, rfl, by decide +kernel, by decide +kernel⟩
theorem sc_walk_so : FnScope ["poly", "bounds", "start", "found", "met", "here"] ["poly", "bounds", "start"] (defScope (topS 30)) := ⟨rfl, rfl, rfl, by decide +kernel, rfl, by decide +kernel, by decide +kernel⟩
theorem sc_round_so : FnScope ["poly", "bounds", "start", "found", "here", "first"] ["poly", "bounds", "start"] (defScope (topS 31)) := ⟨rfl, rfl, rfl, by decide +kernel, rfl, by decide +kernel, by decide +kernel⟩
theorem sc_comes_round : FnScope ["step", "start", "poly"] ["step", "start"] (defScope (topS 32)) := ⟨rfl, rfl, rfl, by decide +kernel, rfl, by decide +kernel, by decide +kernel⟩
def sp_need_bent : Sp := fun vs H Q _ => ∃ (v : V) (row : List Int) (b : Nat), vs = [v] ∧ Stp H v row ∧ Good row b ∧ 3 ≤ row.length ∧ Q v H
def sp_holds_bound : Sp := fun vs H Q _ => ∃ (v : V) (row : List Int) (b R : Nat), vs = [v, .int 1, .int R] ∧ IsL H v (sizesOf row) ∧ Good row b ∧ 1 ≤ R ∧ R ≤ 8 ∧ Q (.bl (decide (b ≤ R))) H
def sp_least_bound : Sp := fun vs H Q _ => ∃ (v : V) (row : List Int) (b : Nat), vs = [v] ∧ Pol H v row ∧ Good row b ∧ ∀ G, Same H G → Q (.int b) G
def sp_bounds_so : Sp := fun vs H Q _ => ∃ (v : V) (row : List Int) (b : Nat), vs = [v] ∧ Pol H v row ∧ Good row b ∧ ∀ G p (c : Int), Same H G → G p = some (.tup [.int b, .int c]) → Q (.ref p) G
def sp_is_within : Sp := fun vs H Q _ => ∃ (p : Addr) (u : V) (b : Nat) (c n : Int), vs = [.ref p, u] ∧ H p = some (.tup [.int b, .int c]) ∧ Pr H u n ∧ Q (.bl (decide ((n.natAbs : Int) ≤ b))) H
def sp_walk_so : Sp := fun vs H Q _ => ∃ (v u : V) (p : Addr) (row : List Int) (b : Nat) (c s : Int), vs = [v, .ref p, u] ∧ Pol H v row ∧ Good row b ∧ H p = some (.tup [.int b, .int c]) ∧ Pr H u s ∧
  ∀ G r fl ws z l nx, Same H G → G r = some (.tup [.ref fl, z]) → G fl = some (.lst ws) → Al (Pr G) ws l → Pr G z nx → Wk row b s l nx → (¬ (nx.natAbs : Int) ≤ b ∨ nx ∈ l) → Q (.ref r) G
/-- what comes_round tells -/
def Rnd (H : Hp) (row : List Int) (b : Nat) (s : Int) (v : V) : Prop := ∃ l nx, Wk row b s l nx ∧ (¬ (nx.natAbs : Int) ≤ b ∨ nx ∈ l) ∧
  ((v = .non ∧ ¬ nx ∈ l) ∨ (nx ∈ l ∧ ∃ p t r tail ring, v = .ref p ∧ H p = some (.tup [.ref t, .ref r]) ∧ H t = some (.tup tail) ∧ H r = some (.tup ring) ∧ ring ≠ [] ∧ Al (Pr H) (tail ++ ring) l))
def sp_round_so : Sp := fun vs H Q _ => ∃ (v u : V) (p : Addr) (row : List Int) (b : Nat) (c s : Int), vs = [v, .ref p, u] ∧ Pol H v row ∧ Good row b ∧ H p = some (.tup [.int b, .int c]) ∧ Pr H u s ∧
  ∀ G z, Same H G → Rnd G row b s z → Q z G
def sp_comes_round : Sp := fun vs H Q _ => ∃ (v u : V) (row : List Int) (b : Nat) (s : Int), vs = [v, u] ∧ Stp H v row ∧ Good row b ∧ 3 ≤ row.length ∧ Pr H u s ∧ -1000 ≤ s ∧ s ≤ 1000 ∧ ∀ G z, Same H G → Rnd G row b s z → Q z G
theorem abs_nat (c : Int) : (if c < 0 then -c else c) = (c.natAbs : Int) := by
  split <;> omega
theorem Pr.dp {K : PySem.W.Frag} {H : Hp} {v : V} {n : Int} (h : Pr H v n) : Dp K H v (prI n) := by
  obtain ⟨a, rfl, ha⟩ := h
  exact .tup (.of ha) (.cons (.int n) (.cons (.int 1) .nil))
theorem prs_dp {K : PySem.W.Frag} {H : Hp} : ∀ {vs : List V} {ns : List Int}, Al (Pr H) vs ns → DpAll K H vs (ns.map prI)
  | [], [], _ => .nil
  | [], n :: ns, a => absurd a.len (by simp)
  | v :: vs, [], a => absurd a.len (by simp)
  | v :: vs, n :: ns, a => .cons (a.get 0 v n rfl rfl).dp (prs_dp ⟨by have := a.len; simpa using this, fun i x y h1 h2 => a.get (i + 1) x y h1 h2⟩)
theorem cut_to {xs : List V} {j : Nat} (h : j ≤ xs.length) : cutV xs none (some (j : Int)) = xs.take j := by
  unfold cutV
  rw [HT.sIx_nat, HT.sIx_none, List.drop_zero, Nat.sub_zero, Nat.min_eq_left h]
theorem cut_from {xs : List V} {j : Nat} (h : j ≤ xs.length) : cutV xs (some (j : Int)) none = xs.drop j := by
  unfold cutV
  rw [HT.sIx_nat, HT.sIx_none, Nat.min_eq_left h, List.take_of_length_le (by rw [List.length_drop]; exact Nat.le_refl _)]
theorem sizes_get {row : List Int} {i : Nat} {c : Int} (h : row[i]? = some c) : (sizesOf row)[i]? = some (c.natAbs : Int) := by
  unfold sizesOf
  rw [List.getElem?_map, h]
  rfl
/-- the keys of the dict of what was met -/
def mets (l : List Int) : List (List Key × V) := l.map fun n => ([.inl n, .inl 1], .bl true)
theorem mets_val (l : List Int) (n : Int) : (valV (mets l) [.inl n, .inl 1]).isSome = decide (n ∈ l) := by
  rw [← valV_any]
  unfold mets
  rw [List.any_map]
  induction l with
  | nil => rfl
  | cons m l ih =>
    rw [List.any_cons, ih]
    by_cases c : m = n
    · subst c
      simp
    · have c2 : ¬ n = m := fun e => c e.symm
      simp [c, c2]
theorem mets_put {l : List Int} {n : Int} (h : ¬ n ∈ l) : putK (mets l) [.inl n, .inl 1] (.bl true) = mets (l ++ [n]) := by
  have e : valV (mets l) [.inl n, .inl 1] = none := by
    have := mets_val l n
    rw [decide_eq_false h] at this
    exact Option.isSome_eq_false_iff.mp this |> Option.isNone_iff_eq_none.mp
  rw [putK_new _ e]
  unfold mets
  rw [List.map_append]
  rfl
section
variable {P : Program} {w : World} {K : PySem.W.Frag} {mg : Str → Option Value} {base : Heap}
theorem ok_need_bent (T : Txt mg) {f : Addr} {fd : FuncData} (D : Df K mg "need_bent" (topS 25) ["step"] f fd) (h_need_step : Has P w K mg base "need_step" 4 ["value"] sp_need_step) : Has P w K mg base "need_bent" 5 ["step"] sp_need_bent := by
  refine D.has sc_need_bent (fun vs H Q E h => ?_) (fun cdv A outer s H vs Q E hr h => ?_)
  · obtain ⟨v, row, b, rfl, _⟩ := h
    rfl
  · obtain ⟨v, row, b, rfl, hs, g, h3, q⟩ := h
    refine ⟨_, (pss_cons (ps_expr (pe_has h_need_step (hr.mono (by decide)) (by rfl) (pa_cons (pv 0) pa_nil)))
      (pss_cons (ps_if (pt_cmpR op_eq (pe_callB call_len_seq (by rfl) T.len bt_len (pa_cons (pv 0) pa_nil)) pe_int (nomark _)) (pss_one ps_never) pss_nil)
      (pss_one (ps_ret (pv 0))))), ?_⟩
    refine ⟨v, rfl, v, row, b, rfl, hs, g, ?_⟩
    obtain ⟨a, vs, rfl, ha, al⟩ := hs
    refine ⟨.ref a, rfl, a, vs, rfl, .inr (.of ha), rfl, _, rfl, ?_⟩
    rw [decide_eq_false fun z => by have := V.int.inj z; have := al.len; omega]
    exact iteF ⟨.ref a, rfl, q⟩
theorem ok_holds_bound (T : Txt mg) {f : Addr} {fd : FuncData} (D : Df K mg "holds_bound" (topS 26) ["sizes", "beneath", "bound"] f fd)  : Has P w K mg base "holds_bound" 1 ["sizes", "beneath", "bound"] sp_holds_bound := by
  refine D.has sc_holds_bound (fun vs H Q E h => ?_) (fun cdv A outer s H vs Q E hr h => ?_)
  · obtain ⟨v, row, b, R, rfl, _⟩ := h
    rfl
  · obtain ⟨v, row, b, R, rfl, ⟨l, rfl, hl⟩, g, h1, h8, q⟩ := h
    refine ⟨_, (pss_cons (ps_set (i := 3) sc_holds_bound.nd rfl (.inl rfl) (pe_op op_sub (pe_callB call_len_seq (by rfl) T.len bt_len (pa_cons (pv 0) pa_nil)) pe_int))
      (pss_cons (ps_set (i := 4) sc_holds_bound.nd rfl (.inl rfl) (pe_op op_mul (pv 2) (pv 1)))
      (pss_cons (ps_set (i := 5) sc_holds_bound.nd rfl (.inl rfl) pe_int)
      (pss_cons (ps_for PassesOwn.never rfl (pi_range1 (by rfl) T.range (pa_cons (pv 3) pa_nil)) (pg_name (i := 6) sc_holds_bound.nd rfl (.inl rfl)) (pss_cons (ps_set (i := 4) sc_holds_bound.nd rfl (.inl rfl) (pe_op op_add (pv 4) (pe_op op_mul (pe_ix ix_list (pv 0) (pv 6) (fun _ _ => rfl)) (pv 5))))
      (pss_one (ps_set (i := 5) sc_holds_bound.nd rfl (.inl rfl) (pe_op op_mul (pv 5) (pv 2))))))
      (pss_one (ps_ret (pe_cmpR op_ge (pe_op op_mul (pe_ix ix_list (pv 0) (pv 3) (fun _ _ => rfl)) (pv 5)) (pv 4) (nomark _)))))))), ?_⟩
    have sq : SqL K H l ((sizesOf row).map V.int) := .of hl
    have lm : (sizesOf row).length = row.length := by
      unfold sizesOf
      rw [List.length_map]
    have lm2 : ((sizesOf row).map V.int).length = row.length := by rw [List.length_map, lm]
    have l2 := g.len2
    have l4 := g.len4
    refine ⟨.ref l, rfl, l, _, rfl, .inl sq, (row.length : Int), 1, by rw [lm2], rfl, ?_⟩
    refine ⟨.int R, rfl, .int 1, rfl, R, 1, rfl, rfl, .inr ⟨by decide, by decide⟩, ?_⟩
    refine ⟨.int ((row.length : Int) - 1), rfl, (row.length : Int) - 1, rfl, by omega, by omega, ?_⟩
    have en : ((row.length : Int) - 1).toNat = row.length - 1 := by omega
    rw [en]
    refine for_range (n := row.length - 1) (fun i σ G => (∃ z, σ = [some (.ref l), some (.int 1), some (.int R), some (.int ((row.length : Int) - 1)), some (.int (sumsAt (sizesOf row) R i).1), some (.int (sumsAt (sizesOf row) R i).2), z]) ∧ G = H) ⟨⟨none, ?_⟩, rfl⟩ (fun i σ G hi pp => ?_) (fun σ G pp => ?_)
    · show [some (V.ref l), some (.int 1), some (.int R), some (.int ((row.length : Int) - 1)), some (.int ((R : Int) * 1)), some (.int 1), none] = _
      rw [Int.mul_one]
      rfl
    · obtain ⟨⟨z, rfl⟩, rfl⟩ := pp
      have hir : i < row.length := by omega
      have hc := sizes_get (List.getElem?_eq_getElem hir)
      have cb := g.coef _ (List.getElem_mem hir)
      refine ⟨.int _, rfl, .ref l, rfl, .int (0 + (i : Nat)), rfl, l, _, 0 + (i : Nat), .int _, rfl, rfl, sq, at_of (j := i) (by omega) (ints_get hc), .int _, rfl, _, _, rfl, rfl, .inl ⟨by omega, by omega⟩, _, _, rfl, rfl, ?_⟩
      refine ⟨.int _, rfl, .int R, rfl, _, R, rfl, rfl, .inr ⟨by omega, by omega⟩, ⟨some (.int (0 + (i : Nat))), ?_⟩, rfl⟩
      rw [sumsAt_succ hc]
      rfl
    · obtain ⟨⟨z, rfl⟩, rfl⟩ := pp
      have hir : row.length - 1 < row.length := by omega
      have hc := sizes_get (List.getElem?_eq_getElem hir)
      have cb := g.coef _ (List.getElem_mem hir)
      refine ⟨.ref l, rfl, .int ((row.length : Int) - 1), rfl, l, _, (row.length : Int) - 1, .int _, rfl, rfl, sq, at_of (j := row.length - 1) (by omega) (ints_get hc), .int _, rfl, _, _, rfl, rfl, .inl ⟨by omega, by omega⟩, .int _, rfl, _, _, rfl, rfl, ?_⟩
      have e := g.holds h1 h8
      unfold holdsI at e
      rw [List.getD_eq_getElem?_getD, hc] at e
      rw [← e] at q
      exact q
theorem ok_least_bound (T : Txt mg) {f : Addr} {fd : FuncData} (D : Df K mg "least_bound" (topS 27) ["poly"] f fd) (h_holds_bound : Has P w K mg base "holds_bound" 1 ["sizes", "beneath", "bound"] sp_holds_bound) : Has P w K mg base "least_bound" 2 ["poly"] sp_least_bound := by
  refine D.has sc_least_bound (fun vs H Q E h => ?_) (fun cdv A outer s H vs Q E hr h => ?_)
  · obtain ⟨v, row, b, rfl, _⟩ := h
    rfl
  · obtain ⟨v, row, b, rfl, ⟨a, l, rfl, ha, hl⟩, g, q⟩ := h
    refine ⟨_, (pss_cons (ps_setLc (i := 1) (own := [("number", 5)]) rfl sc_least_bound.nd rfl rfl (sw_true rfl rfl rfl (by decide +kernel)) (pi_list (pe_ix ix_tup (pv 0) pe_int (fun _ _ => rfl))) (blkOk_by (own := [("number", 5)]) (N := ["poly", "sizes", "high", "low", "middle", "number"]) (sc := defScope (topS 27)) (by decide +kernel)) (fun _ _ _ _ _ => (pg_name (i := 5) sc_least_bound.nd rfl (.inl rfl))) (fun _ _ _ _ _ => pts_nil) (fun _ _ _ _ _ => (pe_callB call_abs (by rfl) T.abs bt_abs (pa_cons (pv 5) pa_nil))))
      (pss_cons (ps_set (i := 2) sc_least_bound.nd rfl (.inl rfl) pe_int)
      (pss_cons (ps_while PassesOwn.never (pt_not (pt_val (pe_has h_holds_bound (hr.mono (by decide)) (by rfl) (pa_cons (pv 1) (pa_cons (pe_ix ix_tup (pv 0) pe_int (fun _ _ => rfl)) (pa_cons (pv 2) pa_nil)))))) (pss_one (ps_set (i := 2) sc_least_bound.nd rfl (.inl rfl) (pe_op op_mul pe_int (pv 2)))))
      (pss_cons (ps_set (i := 3) sc_least_bound.nd rfl (.inl rfl) (pe_op op_fdiv (pv 2) pe_int))
      (pss_cons (ps_while PassesOwn.never (pt_cmpR op_gt (pe_op op_sub (pv 2) (pv 3)) pe_int (nomark _)) (pss_cons (ps_set (i := 4) sc_least_bound.nd rfl (.inl rfl) (pe_op op_fdiv (pe_op op_add (pv 3) (pv 2)) pe_int))
      (pss_one (ps_if (pt_val (pe_has h_holds_bound (hr.mono (by decide)) (by rfl) (pa_cons (pv 1) (pa_cons (pe_ix ix_tup (pv 0) pe_int (fun _ _ => rfl)) (pa_cons (pv 4) pa_nil))))) (pss_one (ps_set (i := 2) sc_least_bound.nd rfl (.inl rfl) (pv 4))) (pss_one (ps_set (i := 3) sc_least_bound.nd rfl (.inl rfl) (pv 4)))))))
      (pss_one (ps_ret (pv 2)))))))), ?_⟩
    have b1 := g.b1
    have b5 := g.b5
    have l4 := g.len4
    have sa : SqT K H a [.ref l, .int 1] := .of ha
    have sl : SqL K H l (row.map V.int) := .of hl
    have lm : (row.map V.int).length = row.length := List.length_map _
    refine ⟨.ref a, rfl, a, _, 0, .ref l, rfl, rfl, sa, atI_nat (j := 0) rfl, l, rfl, ⟨_, sl⟩, fun Dl nD => ?_⟩
    refine lc_it walk_list (fun i J => Same H J ∧ J Dl = some (.lst (((sizesOf row).take i).map V.int))) ⟨same_new nD, by rw [upd_same]; rfl⟩ (fun i J _ pp => pp.1.seq sl) (fun i x J J2 hi pp y => ?_) (fun J pp => ?_)
    · obtain ⟨rfl, hx⟩ := y
      obtain ⟨t1, t2⟩ := pp
      rw [List.getElem?_map] at hx
      obtain ⟨n, hn, rfl⟩ := Option.map_eq_some_iff.mp hx
      refine ⟨rfl, .int n, rfl, n, rfl, _, t2, ?_, same_put t1 nD, ?_⟩
      · rw [List.length_map, List.length_take]
        refine Nat.lt_of_le_of_lt (Nat.min_le_right _ _) ?_
        unfold sizesOf
        rw [List.length_map]
        exact small_row (by omega)
      · rw [upd_same, abs_nat, take_map (sizes_get hn)]
    · obtain ⟨t1, t2⟩ := pp
      have e : (sizesOf row).take (row.map V.int).length = sizesOf row := by
        rw [lm]
        refine List.take_of_length_le ?_
        unfold sizesOf
        rw [List.length_map]
        exact Nat.le_refl _
      rw [e] at t2
      have sa2 : SqT K J a [.ref l, .int 1] := .of (t1 _ _ ha)
      have hz : IsL J (.ref Dl) (sizesOf row) := ⟨Dl, rfl, t2⟩
      refine ⟨fun m σ G => G = J ∧ ∃ h : Nat, m = 8 - h ∧ (h = 1 ∨ h = 2 ∨ h = 4 ∨ h = 8) ∧ h / 2 < b ∧ σ = [some (.ref a), some (.ref Dl), some (.int h), none, none, none], ⟨7, rfl, 1, rfl, .inl rfl, by omega, rfl⟩, ?_⟩
      rintro m σ G ⟨rfl, h, rfl, hh, hb, rfl⟩
      refine ⟨.ref Dl, rfl, .ref a, rfl, a, _, 1, .int 1, rfl, rfl, sa2, atI_nat (j := 1) rfl, .int h, rfl, .ref Dl, row, b, h, rfl, hz, g, by omega, by omega, _, rfl, ?_⟩
      by_cases c : b ≤ h
      · rw [decide_eq_true c]
        refine iteF ?_
        refine ⟨.int h, rfl, h, 2, rfl, rfl, ⟨by decide, by decide⟩, ?_⟩
        have e2 : ((h : Int) / 2) = ((h / 2 : Nat) : Int) := by omega
        refine ⟨fun m σ G2 => G2 = G ∧ ∃ lo hi : Nat, m = hi - lo ∧ lo < b ∧ b ≤ hi ∧ hi ≤ 8 ∧ ∃ z, σ = [some (.ref a), some (.ref Dl), some (.int hi), some (.int lo), z, none], ⟨_, rfl, h / 2, h, rfl, hb, c, by omega, none, by rw [← e2]; rfl⟩, ?_⟩
        rintro m σ G2 ⟨rfl, lo, hi, rfl, c1, c2, c3, z, rfl⟩
        refine ⟨.int hi, rfl, .int lo, rfl, hi, lo, rfl, rfl, _, 1, rfl, rfl, _, rfl, ?_⟩
        by_cases c4 : (1 : Int) < (hi : Int) - lo
        · rw [decide_eq_true c4]
          refine iteT ⟨fun σ G3 => G3 = G2 ∧ ∃ lo2 hi2 : Nat, hi2 - lo2 < hi - lo ∧ lo2 < b ∧ b ≤ hi2 ∧ hi2 ≤ 8 ∧ ∃ z, σ = [some (.ref a), some (.ref Dl), some (.int hi2), some (.int lo2), z, none], fun σ G3 n => ?_, ?_⟩
          · obtain ⟨rfl, lo2, hi2, d1, d2, d3, d4, z2, rfl⟩ := n
            exact ⟨hi2 - lo2, d1, rfl, lo2, hi2, rfl, d2, d3, d4, z2, rfl⟩
          · have e3 : ((lo : Int) + hi) / 2 = (((lo + hi) / 2 : Nat) : Int) := by omega
            refine ⟨.int lo, rfl, .int hi, rfl, lo, hi, rfl, rfl, (lo : Int) + hi, 2, rfl, rfl, ⟨by decide, by decide⟩, ?_⟩
            dsimp only
            rw [e3]
            refine ⟨.ref Dl, rfl, .ref a, rfl, a, _, 1, .int 1, rfl, rfl, sa2, atI_nat (j := 1) rfl, .int (((lo + hi) / 2 : Nat) : Int), rfl, .ref Dl, row, b, (lo + hi) / 2, rfl, hz, g, by omega, by omega, _, rfl, ?_⟩
            by_cases c5 : b ≤ (lo + hi) / 2
            · rw [decide_eq_true c5]
              exact iteT ⟨_, rfl, rfl, lo, (lo + hi) / 2, by omega, c1, c5, by omega, _, rfl⟩
            · rw [decide_eq_false c5]
              exact iteF ⟨_, rfl, rfl, (lo + hi) / 2, hi, by omega, by omega, c2, c3, _, rfl⟩
        · rw [decide_eq_false c4]
          refine iteF ⟨.int hi, rfl, ?_⟩
          have e4 : hi = b := by omega
          subst e4
          exact q G2 t1
      · rw [decide_eq_false c]
        refine iteT ⟨fun σ G3 => G3 = G ∧ σ = [some (.ref a), some (.ref Dl), some (.int (2 * h : Nat)), none, none, none], fun σ G3 n => ?_, ?_⟩
        · obtain ⟨rfl, rfl⟩ := n
          exact ⟨8 - 2 * h, by omega, rfl, 2 * h, rfl, by omega, by omega, rfl⟩
        · refine ⟨.int h, rfl, 2, h, rfl, rfl, .inl ⟨by decide, by decide⟩, rfl, ?_⟩
          rw [Int.natCast_mul]
          rfl
theorem ok_bounds_so (T : Txt mg) {f : Addr} {fd : FuncData} (D : Df K mg "bounds_so" (topS 28) ["poly"] f fd) (h_least_bound : Has P w K mg base "least_bound" 2 ["poly"] sp_least_bound) : Has P w K mg base "bounds_so" 3 ["poly"] sp_bounds_so := by
  refine D.has sc_bounds_so (fun vs H Q E h => ?_) (fun cdv A outer s H vs Q E hr h => ?_)
  · obtain ⟨v, row, b, rfl, _⟩ := h
    rfl
  · obtain ⟨v, row, b, rfl, hp, g, q⟩ := h
    refine ⟨_, (pss_one (ps_ret (pe_tup (pa_cons (pe_has h_least_bound (hr.mono (by decide)) (by rfl) (pa_cons (pv 0) pa_nil)) (pa_cons (pe_callB call_abs (by rfl) T.abs bt_abs (pa_cons (pe_ix ix_list (pe_ix ix_tup (pv 0) pe_int (fun _ _ => rfl)) (pe_un un_neg pe_int) (fun _ _ => rfl)) pa_nil)) pa_nil))))), ?_⟩
    refine ⟨v, rfl, v, row, b, rfl, hp, g, fun G s1 => ?_⟩
    obtain ⟨a, l, rfl, ha, hl⟩ := hp
    obtain ⟨c, hc, hc0⟩ := good_last g
    have e : (row.map V.int)[(row.map V.int).length - 1]? = some (.int c) := by
      rw [List.length_map]
      exact ints_get hc
    refine ⟨.ref a, rfl, a, _, 0, .ref l, rfl, rfl, .of (s1 _ _ ha), atI_nat (j := 0) rfl, 1, rfl, l, _, -1, .int c, rfl, rfl, .of (s1 _ _ hl), at_end e, c, rfl, by show 2 ≤ sizeLine; decide, fun p np => ?_⟩
    exact q _ p _ (s1.trans (same_new np)) upd_same
theorem ok_is_within (T : Txt mg) {f : Addr} {fd : FuncData} (D : Df K mg "is_within" (topS 29) ["bounds", "number"] f fd)  : Has P w K mg base "is_within" 1 ["bounds", "number"] sp_is_within := by
  refine D.has sc_is_within (fun vs H Q E h => ?_) (fun cdv A outer s H vs Q E hr h => ?_)
  · obtain ⟨p, u, b, c, n, rfl, _⟩ := h
    rfl
  · obtain ⟨p, u, b, c, n, rfl, hp, ⟨a, rfl, ha⟩, q⟩ := h
    refine ⟨_, (pss_one (ps_ret (pe_and (pe_cmpR op_le (pe_callB call_abs (by rfl) T.abs bt_abs (pa_cons (pe_ix ix_tup (pv 1) pe_int (fun _ _ => rfl)) pa_nil)) (pe_op op_mul (pe_ix ix_tup (pv 0) pe_int (fun _ _ => rfl)) (pe_ix ix_tup (pv 1) pe_int (fun _ _ => rfl))) (nomark _)) (pe_one (pe_cmpR op_eq (pe_op op_mod (pe_ix ix_tup (pv 0) pe_int (fun _ _ => rfl)) (pe_ix ix_tup (pv 1) pe_int (fun _ _ => rfl))) pe_int (nomark _)))))), ?_⟩
    have sp : SqT K H p [.int b, .int c] := .of hp
    have sa : SqT K H a [.int n, .int 1] := .of ha
    refine ⟨.ref a, rfl, a, _, 0, .int n, rfl, rfl, sa, atI_nat (j := 0) rfl, n, rfl, .ref p, rfl, p, _, 0, .int b, rfl, rfl, sp, atI_nat (j := 0) rfl, .ref a, rfl, a, _, 1, .int 1, rfl, rfl, sa, atI_nat (j := 1) rfl, b, 1, rfl, rfl, .inr ⟨by decide, by decide⟩, _, _, rfl, rfl, _, rfl, ?_⟩
    rw [abs_nat, Int.mul_one]
    by_cases e : (n.natAbs : Int) ≤ b
    · rw [decide_eq_true e] at q ⊢
      refine iteT ⟨.ref p, rfl, p, _, 1, .int c, rfl, rfl, sp, atI_nat (j := 1) rfl, .ref a, rfl, a, _, 1, .int 1, rfl, rfl, sa, atI_nat (j := 1) rfl, c, 1, rfl, rfl, (by show (0 : Int) < 1; decide), rfl, ?_⟩
      refine (show Q (.bl (decide (V.int (c % 1) = V.int 0))) H from ?_)
      rw [decide_eq_true (show V.int (c % 1) = V.int 0 by rw [Int.emod_one])]
      exact q
    · rw [decide_eq_false e] at q ⊢
      exact iteF q
theorem ok_walk_so (T : Txt mg) {f : Addr} {fd : FuncData} (D : Df K mg "walk_so" (topS 30) ["poly", "bounds", "start"] f fd) (h_is_within : Has P w K mg base "is_within" 1 ["bounds", "number"] sp_is_within) (h_value_of : Has P w K mg base "value_of" 2 ["poly", "number"] sp_value_of) : Has P w K mg base "walk_so" 3 ["poly", "bounds", "start"] sp_walk_so := by
  refine D.has sc_walk_so (fun vs H Q E h => ?_) (fun cdv A outer s H vs Q E hr h => ?_)
  · obtain ⟨v, u, p, row, b, c, s, rfl, _⟩ := h
    rfl
  · obtain ⟨v, u, p, row, b, c, s, rfl, hv, g, hp, hu, q⟩ := h
    refine ⟨_, (pss_cons (ps_par (i := 3) (j := 4) (by rfl) sc_walk_so.nd rfl rfl (by decide) rfl rfl (pa_cons (pe_lst pa_nil) (pa_cons pe_dnewT pa_nil)) (by rfl))
      (pss_cons (ps_set (i := 5) sc_walk_so.nd rfl (.inl rfl) (pv 2))
      (pss_cons (ps_while PassesOwn.never (PW.pt (pw_and (pt_val (pe_has h_is_within (hr.mono (by decide)) (by rfl) (pa_cons (pv 1) (pa_cons (pv 5) pa_nil)))) (pw_and1 (pt_cmp (pc_dnotin (hu_of hr) (pv 5) (pv 4)))))) (pss_cons (ps_if (pt_cmpR op_eq (pe_callB call_len_seq (by rfl) T.len bt_len (pa_cons (pv 3) pa_nil)) (pe_cst T.lookS (by rfl)) (nomark _)) (pss_one ps_never) pss_nil)
      (pss_cons (ps_expr (pe_bm PySem.F.plainAttrs_list PySem.F.slot_list_append PySem.F.type_list_append mt_append (pv 3) (pa_cons (pv 5) pa_nil)))
      (pss_cons (ps_dput (hu_of hr) (pv 4) (pv 5) pe_bl rfl)
      (pss_one (ps_set (i := 5) sc_walk_so.nd rfl (.inl rfl) (pe_has h_value_of (hr.mono (by decide)) (by rfl) (pa_cons (pv 0) (pa_cons (pv 5) pa_nil)))))))))
      (pss_one (ps_ret (pe_tup (pa_cons (pv 3) (pa_cons (pv 5) pa_nil)))))))), ?_⟩
    have b5 := g.b5
    have l2 := g.len2
    have l4 := g.len4
    refine ⟨Nat.zero_le _, fun fl nf md nm => ⟨.ref fl, .ref md, rfl, u, rfl, ?_⟩⟩
    have nmf : md ≠ fl := fun e => by
      rw [e, upd_same] at nm
      cases nm
    have nmH : H md = none := by
      rw [upd_ne nmf] at nm
      exact nm
    refine ⟨fun m σ G => ∃ l nx vs z, Wk row b s l nx ∧ m = 20 - l.length ∧ σ = [some v, some (.ref p), some u, some (.ref fl), some (.ref md), some z] ∧ Same H G ∧ G fl = some (.lst vs) ∧ Al (Pr G) vs l ∧ Pr G z nx ∧ G md = some (.dT (mets l)), ⟨20, [], s, [], u, Wk.start, rfl, rfl, (same_new nf).trans (same_new nm), by rw [upd_ne nmf.symm, upd_same], Al.nil, hu.tk (tk_of ((same_new nf).trans (same_new nm))), upd_same⟩, ?_⟩
    rintro m σ G ⟨l, nx, vs, z, k, rfl, rfl, s1, hf, al, hz, hm⟩
    have fin : (¬ (nx.natAbs : Int) ≤ b ∨ nx ∈ l) → ∀ r, G r = none → Q (.ref r) (upd G r (.tup [.ref fl, z])) := fun e r nr =>
      q _ r fl vs z l nx (s1.trans (same_new nr)) upd_same (by rw [upd_ne (ne_of_none hf nr)]; exact hf) (al.mono fun x y pr => pr.tk (tk_of (same_new nr))) (hz.tk (tk_of (same_new nr))) k e
    have ln := k.len (by omega)
    refine ⟨.ref p, rfl, z, rfl, p, z, b, c, nx, rfl, s1 _ _ hp, hz, _, rfl, ?_⟩
    by_cases e : (nx.natAbs : Int) ≤ b
    · rw [decide_eq_true e]
      refine iteT ?_
      obtain ⟨az, rfl, haz⟩ := hz
      have hz : Pr G (.ref az) nx := ⟨az, rfl, haz⟩
      refine ⟨.ref az, rfl, .ref md, rfl, md, _, rfl, DGet.t (k := [.inl nx, .inl 1]) hm haz, _, rfl, ?_⟩
      rw [mets_val]
      by_cases e2 : nx ∈ l
      · rw [decide_eq_true e2]
        exact iteF ⟨.ref fl, rfl, .ref az, rfl, by show 2 ≤ sizeLine; decide, fin (.inr e2)⟩
      · rw [decide_eq_false e2]
        refine iteT ⟨fun σ G2 => ∃ l2 nx vs z, l2 = l.length + 1 ∧ ∃ l, l2 = l.length ∧ Wk row b s l nx ∧ σ = [some v, some (.ref p), some u, some (.ref fl), some (.ref md), some z] ∧ Same H G2 ∧ G2 fl = some (.lst vs) ∧ Al (Pr G2) vs l ∧ Pr G2 z nx ∧ G2 md = some (.dT (mets l)), fun σ G2 n => ?_, ?_⟩
        · obtain ⟨l2, nx2, vs2, z2, f1, l3, f2, f3, f4⟩ := n
          exact ⟨20 - l3.length, by omega, l3, nx2, vs2, z2, f3, rfl, f4⟩
        · refine ⟨.ref fl, rfl, fl, vs, rfl, .inl (.of hf), rfl, _, rfl, ?_⟩
          rw [decide_eq_false fun z => by have := V.int.inj z; have := al.len; omega]
          refine iteF ?_
          refine ⟨.ref fl, rfl, .inl ⟨rfl, _, .of hf⟩, .ref az, rfl, fl, vs, .ref az, rfl, rfl, hf, small1000 (by have := al.len; omega), ?_⟩
          have nmG : md ≠ fl := nmf
          have azf : az ≠ fl := ne_of haz hf (by intro z; cases z)
          have azm : az ≠ md := ne_of haz hm (by intro z; cases z)
          have hm2 : (upd G fl (.lst (vs ++ [.ref az]))) md = some (.dT (mets l)) := by
            rw [upd_ne nmf]
            exact hm
          refine ⟨.ref md, rfl, .ref az, rfl, md, _, rfl, DPut.t (k := [.inl nx, .inl 1]) hm2 (by rw [upd_ne azf]; exact haz) (by unfold mets; rw [List.length_map]; exact small1000 (by omega)), ?_⟩
          rw [mets_put e2]
          have s2 : Same H (upd (upd G fl (.lst (vs ++ [.ref az]))) md (.dT (mets (l ++ [nx])))) := same_put (same_put s1 nf) nmH
          have t2 : Tk G (upd (upd G fl (.lst (vs ++ [.ref az]))) md (.dT (mets (l ++ [nx])))) := fun x xs hx => by
            rw [upd_ne (ne_of hx hm (by intro z; cases z)), upd_ne (ne_of hx hf (by intro z; cases z))]
            exact hx
          refine ⟨v, rfl, .ref az, rfl, v, .ref az, row, nx, rfl, hv.same s2, hz.tk t2, by omega, by omega, by omega, by omega, fun z2 G2 s3 hz2 => ?_⟩
          refine ⟨l.length + 1, ledI row nx, vs ++ [.ref az], z2, rfl, l ++ [nx], by simp, k.step e e2, rfl, s2.trans s3, ?_, ?_, hz2, ?_⟩
          · exact s3 _ _ (by rw [upd_ne nmf.symm, upd_same])
          · exact (al.snoc hz).mono fun x y pr => (pr.tk t2).tk (tk_of s3)
          · exact s3 _ _ upd_same
    · rw [decide_eq_false e]
      exact iteF ⟨.ref fl, rfl, z, rfl, by show 2 ≤ sizeLine; decide, fin (.inl e)⟩
theorem ok_round_so (T : Txt mg) {f : Addr} {fd : FuncData} (D : Df K mg "round_so" (topS 31) ["poly", "bounds", "start"] f fd) (h_walk_so : Has P w K mg base "walk_so" 3 ["poly", "bounds", "start"] sp_walk_so) : Has P w K mg base "round_so" 4 ["poly", "bounds", "start"] sp_round_so := by
  refine D.has sc_round_so (fun vs H Q E h => ?_) (fun cdv A outer s H vs Q E hr h => ?_)
  · obtain ⟨v, u, p, row, b, c, s, rfl, _⟩ := h
    rfl
  · obtain ⟨v, u, p, row, b, c, s, rfl, hv, g, hp, hu, q⟩ := h
    refine ⟨_, (pss_cons (ps_asg (pe_has h_walk_so (hr.mono (by decide)) (by rfl) (pa_cons (pv 0) (pa_cons (pv 1) (pa_cons (pv 2) pa_nil)))) (pg_tup rfl (pgs_cons (pg_name (i := 3) sc_round_so.nd rfl (.inl rfl)) (pgs_cons (pg_name (i := 4) sc_round_so.nd rfl (.inl rfl)) pgs_nil))))
      (pss_cons (ps_if (pt_cmpR (op_notInD (K86.hu65 hr)) (pv 4) (pv 3) (by rfl)) (pss_one (ps_ret pe_non)) pss_nil)
      (pss_cons (ps_set (i := 5) sc_round_so.nd rfl (.inl rfl) (pe_bm PySem.F.plainAttrs_list PySem.F.slot_list_index PySem.F.type_list_index (mt_indexD (K86.hu65 hr)) (pv 3) (pa_cons (pv 4) pa_nil)))
      (pss_one (ps_ret (pe_tup (pa_cons (pe_callTy call_tuple_of (by rfl) T.tuple bt_tuple (pa_cons (pe_slice sl_list (pv 3) po_none (po_some (pv 5))) pa_nil)) (pa_cons (pe_callTy call_tuple_of (by rfl) T.tuple bt_tuple (pa_cons (pe_slice sl_list (pv 3) (po_some (pv 5)) po_none) pa_nil)) pa_nil)))))))), ?_⟩
    refine ⟨v, rfl, .ref p, rfl, u, rfl, v, u, p, row, b, c, s, rfl, hv, g, hp, hu, fun G r fl ws z l nx s1 hr hf al hz k he => ?_⟩
    refine ⟨r, _, rfl, .of hr, rfl, .ref fl, [z], rfl, z, [], rfl, rfl, ?_⟩
    have dz : Dp K G z (prI nx) := hz.dp
    have df : Dp K G (.ref fl) (.list (l.map prI)) := .lst (.of hf) (prs_dp al)
    refine ⟨z, rfl, .ref fl, rfl, prI nx, l.map prI, dz, df, prI_shaped nx, prIs_shapedL l, _, rfl, ?_⟩
    rw [prIs_any]
    by_cases e : nx ∈ l
    · rw [decide_eq_true e]
      refine iteF ?_
      have hj : l.idxOf nx < l.length := List.idxOf_lt_length_iff.mpr e
      have hj2 : l.idxOf nx < ws.length := by rw [al.len]; exact hj
      refine ⟨.ref fl, rfl, .inl ⟨rfl, _, .of hf⟩, z, rfl, fl, z, prI nx, l.map prI, l.idxOf nx, prI nx, rfl, rfl, df, dz, prIs_shapedL l, prI_shaped nx, ?_, by rw [prI_eqv]; exact decide_eq_true rfl, fun m y hm hy => ?_, ?_⟩
      · rw [List.getElem?_map, List.getElem?_eq_getElem hj, List.getElem_idxOf]
        rfl
      · rw [List.getElem?_map] at hy
        obtain ⟨n, hn, rfl⟩ := Option.map_eq_some_iff.mp hy
        rw [prI_eqv]
        refine decide_eq_false fun ez => ?_
        have h1 := (List.getElem?_eq_some_iff.mp hn).1
        have h2 := (List.getElem?_eq_some_iff.mp hn).2
        have := List.not_of_lt_findIdx (p := (· == nx)) hm
        rw [h2, ez] at this
        simp at this
      · refine ⟨.ref fl, rfl, .int (l.idxOf nx : Nat), rfl, (l.idxOf nx : Nat), rfl, fl, ws, rfl, .of hf, fun a1 n1 => ⟨a1, _, rfl, .inl ⟨.of upd_same, fun t nt => ?_⟩⟩⟩
        rw [cut_to (Nat.le_of_lt hj2)] at nt ⊢
        have hf2 : upd (upd G a1 (.lst (ws.take (l.idxOf nx)))) t (.tup (ws.take (l.idxOf nx))) fl = some (.lst ws) := (same_new nt) _ _ ((same_new n1) _ _ hf)
        refine ⟨.ref fl, rfl, .int (l.idxOf nx : Nat), rfl, (l.idxOf nx : Nat), rfl, fl, ws, rfl, .of hf2, fun a2 n2 => ⟨a2, _, rfl, .inl ⟨.of upd_same, fun r2 nr2 => ?_⟩⟩⟩
        rw [cut_from (Nat.le_of_lt hj2)] at nr2 ⊢
        refine ⟨by show 2 ≤ sizeLine; decide, fun p2 np2 => ?_⟩
        have sA := (same_new (o := .lst (ws.take (l.idxOf nx))) n1).trans (same_new (o := .tup (ws.take (l.idxOf nx))) nt)
        have sB := (same_new (o := .lst (ws.drop (l.idxOf nx))) n2).trans (same_new (o := .tup (ws.drop (l.idxOf nx))) nr2)
        have sC := same_new (o := .tup [.ref t, .ref r2]) np2
        have sAll := (sA.trans sB).trans sC
        refine q _ (.ref p2) (s1.trans sAll) ⟨l, nx, k, he, .inr ⟨e, p2, t, r2, _, _, rfl, upd_same, sC _ _ (sB _ _ upd_same), sC _ _ upd_same, ?_, ?_⟩⟩
        · intro z0
          have := congrArg List.length z0
          rw [List.length_drop, List.length_nil] at this
          omega
        · rw [List.take_append_drop]
          exact al.mono fun x y pr => pr.tk (tk_of sAll)
    · rw [decide_eq_false e]
      exact iteT (q _ _ s1 ⟨l, nx, k, he, .inl ⟨rfl, e⟩⟩)
theorem ok_comes_round (T : Txt mg) {f : Addr} {fd : FuncData} (D : Df K mg "comes_round" (topS 32) ["step", "start"] f fd) (h_as_poly : Has P w K mg base "as_poly" 2 ["step"] sp_as_poly) (h_round_so : Has P w K mg base "round_so" 4 ["poly", "bounds", "start"] sp_round_so) (h_need_bent : Has P w K mg base "need_bent" 5 ["step"] sp_need_bent) (h_bounds_so : Has P w K mg base "bounds_so" 3 ["poly"] sp_bounds_so) (h_need_number : Has P w K mg base "need_number" 3 ["value"] sp_need_number) : Has P w K mg base "comes_round" 6 ["step", "start"] sp_comes_round := by
  refine D.has sc_comes_round (fun vs H Q E h => ?_) (fun cdv A outer s H vs Q E hr h => ?_)
  · obtain ⟨v, u, row, b, s, rfl, _⟩ := h
    rfl
  · obtain ⟨v, u, row, b, s, rfl, hv, g, h3, hu, h1, h2, q⟩ := h
    refine ⟨_, (pss_cons (ps_set (i := 2) sc_comes_round.nd rfl (.inl rfl) (pe_has h_as_poly (hr.mono (by decide)) (by rfl) (pa_cons (pe_has h_need_bent (hr.mono (by decide)) (by rfl) (pa_cons (pv 0) pa_nil)) pa_nil)))
      (pss_one (ps_ret (pe_has h_round_so (hr.mono (by decide)) (by rfl) (pa_cons (pv 2) (pa_cons (pe_has h_bounds_so (hr.mono (by decide)) (by rfl) (pa_cons (pv 2) pa_nil)) (pa_cons (pe_has h_need_number (hr.mono (by decide)) (by rfl) (pa_cons (pv 1) pa_nil)) pa_nil))))))), ?_⟩
    refine ⟨v, rfl, v, row, b, rfl, hv, g, h3, v, row, b, rfl, hv, g, fun v1 G1 s1 p1 => ?_⟩
    refine ⟨v1, rfl, v1, rfl, v1, row, b, rfl, p1, g, fun G2 p c s2 hp => ?_⟩
    have hu2 := hu.tk (tk_of (s1.trans s2))
    exact ⟨u, rfl, u, s, rfl, hu2, by omega, by omega, v1, u, p, row, b, c, s, rfl, p1.same s2, g, hp, hu2, fun G z s3 r => q G z ((s1.trans s2).trans s3) r⟩
end
end K86

/-! K86Cho1: whole steps as choices, their bound, their rows. -/
namespace K86
open PySem PySem.Spec PyProof.Rows L2 SW
theorem sc_need_whole : FnScope ["number"] ["number"] (defScope (topS 35)) := ⟨rfl, rfl, rfl, by decide +kernel, rfl, by decide +kernel, by decide +kernel⟩
theorem sc_led : FnScope ["numbers", "here", "found", "number"] ["numbers", "here"] (defScope (topS 36)) := ⟨rfl, rfl, rfl, by decide +kernel, rfl, by decide +kernel, by decide +kernel⟩
theorem sc_check_few : FnScope ["bound"] ["bound"] (defScope (topS 37)) := ⟨rfl, rfl, rfl, by decide +kernel, rfl, by decide +kernel, by decide +kernel⟩
theorem sc_is_growing : FnScope ["step", "number"] ["step"] (defScope (topS 39)) := ⟨rfl, rfl, rfl, by decide +kernel, rfl, by decide +kernel, by decide +kernel⟩
theorem sc_need_choices : FnScope ["steps", "index", "step"] ["steps"] (defScope (topS 40)) := ⟨rfl, rfl, rfl, by decide +kernel, rfl, by decide +kernel, by decide +kernel⟩
theorem sc_bound_of : FnScope ["steps", "step"] ["steps"] (defScope (topS 41)) := ⟨rfl, rfl, rfl, by decide +kernel, rfl, by decide +kernel, by decide +kernel⟩
theorem sc_choice_bound : FnScope ["steps"] ["steps"] (defScope (topS 42)) := ⟨rfl, rfl, rfl, by decide +kernel, rfl, by decide +kernel, by decide +kernel⟩
theorem sc_whole_numbers : FnScope ["steps", "step", "number"] ["steps"] (defScope (topS 43)) := ⟨rfl, rfl, rfl, by decide +kernel, rfl, by decide +kernel, by decide +kernel⟩
theorem sc_asked_of : FnScope ["steps", "start", "goal", "near", "far"] ["steps", "start", "goal"] (defScope (topS 44)) := ⟨rfl, rfl, rfl, by decide +kernel, rfl, by decide +kernel, by decide +kernel⟩
def sp_need_whole : Sp := fun vs H Q _ => ∃ (v : V) (n : Int), vs = [v] ∧ Pr H v n ∧ -(10 ^ 60) ≤ n ∧ n ≤ 10 ^ 60 ∧ Q (.int n) H
def sp_led : Sp := fun vs H Q _ => ∃ (v : V) (row : List Int) (x : Int), vs = [v, .int x] ∧ IsL H v row ∧ -1000 ≤ x ∧ x ≤ 1000 ∧ Q (.int (ledI row x)) H
def sp_check_few : Sp := fun vs H Q _ => ∃ b : Int, vs = [.int b] ∧ b ≤ 999 ∧ Q .non H
def sp_is_growing : Sp := fun vs H Q _ => ∃ (v : V) (row : List Int) (b : Nat), vs = [v] ∧ Stp H v row ∧ Good row b ∧ ∀ G, Same H G → Q (.bl true) G
def sp_need_choices : Sp := fun vs H Q _ => ∃ (v : V) (rows : List (List Int)) (B : Nat), vs = [v] ∧ Sts H v rows ∧ Gds rows B ∧ ∀ G, Same H G → Q v G
def sp_bound_of : Sp := fun vs H Q _ => ∃ (v : V) (rows : List (List Int)) (B : Nat), vs = [v] ∧ Sts H v rows ∧ Gds rows B ∧ ∀ G, Same H G → Q (.int B) G
def sp_choice_bound : Sp := fun vs H Q _ => ∃ (v : V) (rows : List (List Int)) (B : Nat), vs = [v] ∧ Sts H v rows ∧ Gds rows B ∧ ∀ G, Same H G → Q (.int B) G
def sp_whole_numbers : Sp := fun vs H Q _ => ∃ (v : V) (rows : List (List Int)) (B : Nat), vs = [v] ∧ Sts H v rows ∧ Gds rows B ∧ ∀ G z, Same H G → Rws G z rows → Q z G
/-- the bound that a goal asks for -/
def bdOf (B : Nat) (t : Int) : Int := if t.natAbs > B then t.natAbs else B
def sp_asked_of : Sp := fun vs H Q _ => ∃ (v u g : V) (rows : List (List Int)) (B : Nat) (s t : Int), vs = [v, u, g] ∧ Sts H v rows ∧ Gds rows B ∧ Pr H u s ∧ Pr H g t ∧ -1000 ≤ s ∧ s ≤ 1000 ∧ -1000 ≤ t ∧ t ≤ 1000 ∧
  ∀ G p z, Same H G → G p = some (.tup [z, .int s, .int t, .int (bdOf B t)]) → Rws G z rows → Q (.ref p) G
theorem gds_row {rows : List (List Int)} {B : Nat} (g : Gds rows B) {i : Nat} {row : List Int} (h : rows[i]? = some row) : ∃ b, Good row b ∧ b ≤ B := g.2.2.1 row (List.mem_of_getElem? h)
theorem gds_b {rows : List (List Int)} {B : Nat} (g : Gds rows B) : 1 ≤ B ∧ B ≤ 5 := by
  obtain ⟨_, _, _, row, _, h⟩ := g
  exact ⟨h.b1, h.b5⟩
theorem gds_len {rows : List (List Int)} {B : Nat} (g : Gds rows B) : 1 ≤ rows.length ∧ rows.length ≤ 3 := by
  obtain ⟨h0, h3, _⟩ := g
  have := List.length_pos_iff.mpr h0
  exact ⟨this, h3⟩
section
variable {P : Program} {w : World} {K : PySem.W.Frag} {mg : Str → Option Value} {base : Heap}
theorem ok_need_whole (T : Txt mg) {f : Addr} {fd : FuncData} (D : Df K mg "need_whole" (topS 35) ["number"] f fd) (h_need_number : Has P w K mg base "need_number" 3 ["value"] sp_need_number) : Has P w K mg base "need_whole" 4 ["number"] sp_need_whole := by
  refine D.has sc_need_whole (fun vs H Q E h => ?_) (fun cdv A outer s H vs Q E hr h => ?_)
  · obtain ⟨v, n, rfl, _⟩ := h
    rfl
  · obtain ⟨v, n, rfl, hp, h1, h2, q⟩ := h
    refine ⟨_, (pss_cons (ps_expr (pe_has h_need_number (hr.mono (by decide)) (by rfl) (pa_cons (pv 0) pa_nil)))
      (pss_cons (ps_if (pt_cmpR op_ne (pe_ix ix_tup (pv 0) pe_int (fun _ _ => rfl)) pe_int (nomark _)) (pss_one ps_never) pss_nil)
      (pss_one (ps_ret (pe_ix ix_tup (pv 0) pe_int (fun _ _ => rfl)))))), ?_⟩
    refine ⟨v, rfl, v, n, rfl, hp, h1, h2, ?_⟩
    obtain ⟨a, rfl, ha⟩ := hp
    refine ⟨.ref a, rfl, a, _, 1, .int 1, rfl, rfl, .of ha, atI_nat (j := 1) rfl, rfl, _, rfl, iteF ?_⟩
    exact ⟨.ref a, rfl, a, _, 0, .int n, rfl, rfl, .of ha, atI_nat (j := 0) rfl, q⟩
theorem ok_led (T : Txt mg) {f : Addr} {fd : FuncData} (D : Df K mg "led" (topS 36) ["numbers", "here"] f fd)  : Has P w K mg base "led" 1 ["numbers", "here"] sp_led := by
  refine D.has sc_led (fun vs H Q E h => ?_) (fun cdv A outer s H vs Q E hr h => ?_)
  · obtain ⟨v, row, x, rfl, _⟩ := h
    rfl
  · obtain ⟨v, row, x, rfl, ⟨l, rfl, hl⟩, h1, h2, q⟩ := h
    refine ⟨_, (pss_cons (ps_set (i := 2) sc_led.nd rfl (.inl rfl) pe_int)
      (pss_cons (ps_for PassesOwn.never rfl (pi_reversed (by rfl) T.reversed (pa_cons (pv 0) pa_nil)) (pg_name (i := 3) sc_led.nd rfl (.inl rfl)) (pss_one (ps_set (i := 2) sc_led.nd rfl (.inl rfl) (pe_op op_add (pe_op op_mul (pv 2) (pv 1)) (pv 3)))))
      (pss_one (ps_ret (pv 2))))), ?_⟩
    have sl : SqL K H l (row.map V.int) := .of hl
    have lm : (row.map V.int).length = row.length := List.length_map _
    refine ⟨.ref l, rfl, l, row.map V.int, rfl, sl, for_it walk_rev (fun i σ J => (∃ z, σ = [some (.ref l), some (.int x), some (.int (ledI (row.drop (row.length - i)) x)), z]) ∧ J = H) ⟨⟨none, ?_⟩, rfl⟩ (fun i σ J _ pp => by rw [pp.2]; exact sl) (fun i y σ J J2 hi pp yy => ?_) (fun σ J pp => ?_)⟩
    · rw [Nat.sub_zero, List.drop_length]
      rfl
    · obtain ⟨⟨z, rfl⟩, rfl⟩ := pp
      rw [lm] at hi
      obtain ⟨rfl, hy⟩ := yy
      rw [List.getElem?_map, lm] at hy
      obtain ⟨c, hc, rfl⟩ := Option.map_eq_some_iff.mp hy
      refine ⟨.int _, rfl, .int x, rfl, _, x, rfl, rfl, .inr ⟨by omega, by omega⟩, .int c, rfl, _, c, rfl, rfl, ⟨some (.int c), ?_⟩, rfl⟩
      rw [← led_step hi hc]
      rfl
    · obtain ⟨⟨z, rfl⟩, rfl⟩ := pp
      rw [lm, Nat.sub_self, List.drop_zero]
      exact ⟨.int _, rfl, q⟩
theorem ok_check_few (T : Txt mg) {f : Addr} {fd : FuncData} (D : Df K mg "check_few" (topS 37) ["bound"] f fd)  : Has P w K mg base "check_few" 1 ["bound"] sp_check_few := by
  refine D.has sc_check_few (fun vs H Q E h => ?_) (fun cdv A outer s H vs Q E hr h => ?_)
  · obtain ⟨b, rfl, _⟩ := h
    rfl
  · obtain ⟨b, rfl, hb, q⟩ := h
    refine ⟨_, (pss_one (ps_if (pt_cmpR op_gt (pe_op op_add (pe_op op_mul pe_int (pv 0)) pe_int) (pe_cst T.lookT (by rfl)) (nomark _)) (pss_one ps_never) pss_nil)), ?_⟩
    refine ⟨.int b, rfl, 2, b, rfl, rfl, .inl ⟨by decide, by decide⟩, _, 1, rfl, rfl, _, 2000, rfl, rfl, _, rfl, ?_⟩
    rw [decide_eq_false (by omega)]
    exact iteF q
theorem ok_is_growing (T : Txt mg) {f : Addr} {fd : FuncData} (D : Df K mg "is_growing" (topS 39) ["step"] f fd)  : Has P w K mg base "is_growing" 1 ["step"] sp_is_growing := by
  refine D.has sc_is_growing (fun vs H Q E h => ?_) (fun cdv A outer s H vs Q E hr h => ?_)
  · obtain ⟨v, row, b, rfl, _⟩ := h
    rfl
  · obtain ⟨v, row, b, rfl, ⟨a, vs, rfl, ha, al⟩, g, q⟩ := h
    refine ⟨_, (pss_cons (ps_if (pt_cmpR (op_neD hr.units) (pe_lc (own := [("number", 1)]) rfl sc_is_growing.nd (pi_tup (pv 0)) (blkOk_by (own := [("number", 1)]) (N := ["step", "number"]) (sc := defScope (topS 39)) (by decide +kernel)) (fun _ _ _ _ _ => (pg_name (i := 1) sc_is_growing.nd rfl (.inl rfl))) (fun _ _ _ _ _ => (pts_one (pt_cmpR op_ne (pe_ix (show IxR _ (rIxT K) from ix_tup) (pv 1) pe_int (fun _ _ => rfl)) pe_int (nomark _)))) (fun _ _ _ _ _ => pe_int)) (pe_lst pa_nil) (nomark _)) (pss_one (ps_ret pe_bl)) pss_nil)
      (pss_one (ps_ret (pe_or (pe_cmpR op_gt (pe_callB call_len_seq (by rfl) T.len bt_len (pa_cons (pv 0) pa_nil)) pe_int (nomark _)) (pe_one (pe_cmpR op_gt (pe_callB call_abs (by rfl) T.abs bt_abs (pa_cons (pe_ix ix_tup (pe_ix ix_tup (pv 0) pe_int (fun _ _ => rfl)) pe_int (fun _ _ => rfl)) pa_nil)) pe_int (nomark _))))))), ?_⟩
    have l2 := g.len2
    refine ⟨.ref a, rfl, a, rfl, ⟨_, .of ha⟩, fun Dl nD => ?_⟩
    refine lc_it walk_tup (fun i J => Same H J ∧ J Dl = some (.lst [])) ⟨same_new nD, upd_same⟩ (fun i J _ pp => .of (pp.1 _ _ ha)) (fun i x J J2 hi pp y => ?_) (fun J pp => ?_)
    · obtain ⟨rfl, hx⟩ := y
      obtain ⟨n, hn, pr, rfl, hpr⟩ := al.of hx
      refine ⟨rfl, .ref pr, rfl, pr, _, 1, .int 1, rfl, rfl, .of (pp.1 _ _ hpr), atI_nat (j := 1) rfl, rfl, _, rfl, pp⟩
    · obtain ⟨t1, t2⟩ := pp
      refine ⟨Nat.zero_le _, fun e ne => ?_⟩
      have s2 := t1.trans (same_new (o := .lst []) ne)
      refine ⟨.list [], .list [], .lst (.of (same_new ne _ _ t2)) .nil, .lst (.of upd_same) .nil, ints_shapedL [], ints_shapedL [], _, rfl, iteF ?_⟩
      have ha2 := s2 _ _ ha
      refine ⟨.ref a, rfl, a, vs, rfl, .inr (.of ha2), vs.length, 2, rfl, rfl, _, rfl, ?_⟩
      by_cases c : (2 : Int) < vs.length
      · rw [decide_eq_true c]
        exact iteT (q _ s2)
      · rw [decide_eq_false c]
        refine iteF ?_
        have hl := al.len
        have gr := g.grow.resolve_left (by omega)
        have h1 : 1 < row.length := by omega
        obtain ⟨x, hx, ax, rfl, hax⟩ := al.to (List.getElem?_eq_getElem h1)
        rw [List.getD_eq_getElem?_getD, List.getElem?_eq_getElem h1] at gr
        have gr : 1 < row[1].natAbs := gr
        refine ⟨.ref a, rfl, a, vs, 1, .ref ax, rfl, rfl, .of ha2, atI_nat (j := 1) hx, ax, _, 0, .int _, rfl, rfl, .of (s2 _ _ hax), atI_nat (j := 0) rfl, _, rfl, _, 1, rfl, rfl, ?_⟩
        rw [abs_nat]
        refine (show Q (.bl (decide ((1 : Int) < row[1].natAbs))) (upd J e (.lst [])) from ?_)
        rw [decide_eq_true (by omega)]
        exact q _ s2
theorem ok_need_choices (T : Txt mg) {f : Addr} {fd : FuncData} (D : Df K mg "need_choices" (topS 40) ["steps"] f fd) (h_need_row : Has P w K mg base "need_row" 4 ["value"] sp_need_row) (h_is_growing : Has P w K mg base "is_growing" 1 ["step"] sp_is_growing) : Has P w K mg base "need_choices" 5 ["steps"] sp_need_choices := by
  refine D.has sc_need_choices (fun vs H Q E h => ?_) (fun cdv A outer s H vs Q E hr h => ?_)
  · obtain ⟨v, rows, B, rfl, _⟩ := h
    rfl
  · obtain ⟨v, rows, B, rfl, hs, g, q⟩ := h
    refine ⟨_, (pss_cons (ps_expr (pe_has h_need_row (hr.mono (by decide)) (by rfl) (pa_cons (pv 0) pa_nil)))
      (pss_cons (ps_for PassesOwn.never rfl (pi_enumT (by rfl) T.enumerate (pa_cons (pv 0) pa_nil)) (pg_tup rfl (pgs_cons (pg_name (i := 1) sc_need_choices.nd rfl (.inl rfl)) (pgs_cons (pg_name (i := 2) sc_need_choices.nd rfl (.inl rfl)) pgs_nil))) (pss_one (ps_if (pt_not (pt_val (pe_has h_is_growing (hr.mono (by decide)) (by rfl) (pa_cons (pv 2) pa_nil)))) (pss_one ps_never) pss_nil)))
      (pss_one (ps_ret (pv 0))))), ?_⟩
    have gl := gds_len g
    refine ⟨v, rfl, v, rows, rfl, hs, by omega, by omega, fun row hr => (g.2.2.1 row hr).imp fun b hb => hb.1, fun G s1 => ?_⟩
    obtain ⟨a, vs, rfl, ha, al⟩ := hs
    refine ⟨.ref a, rfl, a, vs, rfl, .of (s1 _ _ ha), for_it walk_enumT (fun i σ J => Same H J ∧ ∃ y z, σ = [some (.ref a), y, z]) ⟨s1, _, _, rfl⟩ (fun i σ J _ p => .of (p.1 _ _ ha)) (fun i x σ J J2 hi p y => ?_) (fun σ J p => ?_)⟩
    · obtain ⟨t1, y1, z1, rfl⟩ := p
      obtain ⟨Tp, x1, x2, rfl, nT, rfl, e1, e2⟩ := y
      cases e1
      have s2 : Same H (upd J Tp (.tup [.int (i : Nat), x2])) := t1.trans (same_new nT)
      obtain ⟨row, hr2, hs2⟩ := al.of e2
      obtain ⟨b, hg, _⟩ := gds_row g hr2
      refine ⟨Tp, _, rfl, .of upd_same, rfl, .int (i : Nat), [x2], rfl, x2, [], rfl, rfl, ?_⟩
      exact ⟨x2, rfl, x2, row, b, rfl, hs2.tk (tk_of s2), hg, fun G s3 => ⟨true, rfl, iteF ⟨s2.trans s3, _, _, rfl⟩⟩⟩
    · obtain ⟨t1, y1, z1, rfl⟩ := p
      exact ⟨.ref a, rfl, q J t1⟩
theorem ok_bound_of (T : Txt mg) {f : Addr} {fd : FuncData} (D : Df K mg "bound_of" (topS 41) ["steps"] f fd) (h_least_bound : Has P w K mg base "least_bound" 2 ["poly"] sp_least_bound) (h_as_poly : Has P w K mg base "as_poly" 2 ["step"] sp_as_poly) : Has P w K mg base "bound_of" 3 ["steps"] sp_bound_of := by
  refine D.has sc_bound_of (fun vs H Q E h => ?_) (fun cdv A outer s H vs Q E hr h => ?_)
  · obtain ⟨v, rows, B, rfl, _⟩ := h
    rfl
  · obtain ⟨v, rows, B, rfl, ⟨a, vs, rfl, ha, al⟩, g, q⟩ := h
    refine ⟨_, (pss_one (ps_ret (pe_callB (cr_max rfl) (by rfl) T.max bt_max (pa_cons (pe_lc (own := [("step", 1)]) rfl sc_bound_of.nd (pi_tup (pv 0)) (blkOk_by (own := [("step", 1)]) (N := ["steps", "step"]) (sc := defScope (topS 41)) (by decide +kernel)) (fun _ _ _ _ _ => (pg_name (i := 1) sc_bound_of.nd rfl (.inl rfl))) (fun _ _ _ _ _ => pts_nil) (fun _ _ _ _ _ => (pe_has h_least_bound (hr.mono (by decide)) (by rfl) (pa_cons (pe_has h_as_poly (hr.mono (by decide)) (by rfl) (pa_cons (pv 1) pa_nil)) pa_nil)))) pa_nil)))), ?_⟩
    have gl := gds_len g
    refine ⟨.ref a, rfl, a, rfl, ⟨_, .of ha⟩, fun Dl nD => ?_⟩
    refine lc_it walk_tup (fun i J => Same H J ∧ ∃ bs : List Int, J Dl = some (.lst (bs.map V.int)) ∧ Al (fun (c : Int) row => ∃ b : Nat, Good row b ∧ c = (b : Int)) bs (rows.take i)) ⟨same_new nD, [], upd_same, Al.nil⟩ (fun i J _ pp => .of (pp.1 _ _ ha)) (fun i x J J2 hi pp y => ?_) (fun J pp => ?_)
    · obtain ⟨rfl, hx⟩ := y
      obtain ⟨t1, bs, t2, t3⟩ := pp
      obtain ⟨row, hr2, hs2⟩ := al.of hx
      obtain ⟨b, hg, _⟩ := gds_row g hr2
      refine ⟨rfl, x, rfl, x, row, b, rfl, hs2.tk (tk_of t1), hg, fun v1 G1 s1 p1 => ?_⟩
      refine ⟨v1, row, b, rfl, p1, hg, fun G2 s2 => ?_⟩
      have s3 := s1.trans s2
      refine ⟨_, s3 _ _ t2, ?_, same_put (t1.trans s3) nD, bs ++ [(b : Int)], ?_, ?_⟩
      · rw [List.length_map, t3.len, List.length_take]
        exact Nat.lt_of_le_of_lt (Nat.min_le_right _ _) (small1000 (n := rows.length) (by omega))
      · rw [upd_same, List.map_append]
        rfl
      · rw [List.take_add_one, hr2]
        exact t3.snoc ⟨b, hg, rfl⟩
    · obtain ⟨t1, bs, t2, t3⟩ := pp
      rw [al.len, List.take_length] at t3
      refine ⟨Dl, bs, rfl, .of t2, by rw [t3.len]; omega, fun m hm hle => ?_⟩
      have e : m = B := by
        obtain ⟨i, hi, e1⟩ := List.getElem_of_mem hm
        obtain ⟨row, hr, b, hb, e2⟩ := t3.of (List.getElem?_eq_getElem hi)
        obtain ⟨b2, hb2, hle2⟩ := gds_row g hr
        have e3 := hb.uniq hb2
        obtain ⟨row3, hr3, hg3⟩ := g.2.2.2
        obtain ⟨j, hj, e4⟩ := List.getElem_of_mem hr3
        obtain ⟨c, hc, b4, hb4, e5⟩ := t3.to (List.getElem?_eq_getElem hj)
        rw [e4] at hb4
        have e6 := hb4.uniq hg3
        have := hle c (List.mem_of_getElem? hc)
        omega
      subst e
      exact q J t1
theorem ok_choice_bound (T : Txt mg) {f : Addr} {fd : FuncData} (D : Df K mg "choice_bound" (topS 42) ["steps"] f fd) (h_bound_of : Has P w K mg base "bound_of" 3 ["steps"] sp_bound_of) (h_need_choices : Has P w K mg base "need_choices" 5 ["steps"] sp_need_choices) : Has P w K mg base "choice_bound" 6 ["steps"] sp_choice_bound := by
  refine D.has sc_choice_bound (fun vs H Q E h => ?_) (fun cdv A outer s H vs Q E hr h => ?_)
  · obtain ⟨v, rows, B, rfl, _⟩ := h
    rfl
  · obtain ⟨v, rows, B, rfl, hs, g, q⟩ := h
    refine ⟨_, (pss_one (ps_ret (pe_has h_bound_of (hr.mono (by decide)) (by rfl) (pa_cons (pe_has h_need_choices (hr.mono (by decide)) (by rfl) (pa_cons (pv 0) pa_nil)) pa_nil)))), ?_⟩
    exact ⟨v, rfl, v, rows, B, rfl, hs, g, fun G s1 => ⟨v, rows, B, rfl, hs.tk (tk_of s1), g, fun G2 s2 => q G2 (s1.trans s2)⟩⟩
theorem ok_whole_numbers (T : Txt mg) {f : Addr} {fd : FuncData} (D : Df K mg "whole_numbers" (topS 43) ["steps"] f fd)  : Has P w K mg base "whole_numbers" 1 ["steps"] sp_whole_numbers := by
  refine D.has sc_whole_numbers (fun vs H Q E h => ?_) (fun cdv A outer s H vs Q E hr h => ?_)
  · obtain ⟨v, rows, B, rfl, _⟩ := h
    rfl
  · obtain ⟨v, rows, B, rfl, ⟨a, vs, rfl, ha, al⟩, g, q⟩ := h
    refine ⟨_, (pss_one (ps_ret (pe_lc (own := [("step", 1)]) rfl sc_whole_numbers.nd (pi_tup (pv 0)) (blkOk_by (own := [("step", 1)]) (N := ["steps", "step", "number"]) (sc := defScope (topS 43)) (by decide +kernel)) (fun _ _ _ _ _ => (pg_name (i := 1) sc_whole_numbers.nd rfl (.inl rfl))) (fun _ _ _ _ _ => pts_nil) (fun _ _ _ _ _ => (pe_lc (own := [("number", 2)]) rfl sc_whole_numbers.nd (show PI _ _ _ (iTup K _) from pi_tup (pv 1)) (blkOk_by (own := [("number", 2)]) (by rfl)) (fun _ _ _ _ _ => (pg_name (i := 2) sc_whole_numbers.nd rfl (.inl rfl))) (fun _ _ _ _ _ => pts_nil) (fun _ _ _ _ _ => (pe_ix (show IxR _ (rIxT K) from ix_tup) (pv 2) pe_int (fun _ _ => rfl)))))))), ?_⟩
    have gl := gds_len g
    refine ⟨.ref a, rfl, a, rfl, ⟨_, .of ha⟩, fun Dl nD => ?_⟩
    refine lc_it walk_tup (fun i J => Same H J ∧ ∃ us : List V, J Dl = some (.lst us) ∧ Al (IsL J) us (rows.take i)) ⟨same_new nD, [], upd_same, Al.nil⟩ (fun i J _ pp => .of (pp.1 _ _ ha)) (fun i x J J2 hi pp y => ?_) (fun J pp => ?_)
    · obtain ⟨rfl, hx⟩ := y
      obtain ⟨t1, us, t2, t3⟩ := pp
      obtain ⟨row, hr2, ax, ws, rfl, hax, ar⟩ := al.of hx
      obtain ⟨b, hg, _⟩ := gds_row g hr2
      have l4 := hg.len4
      refine ⟨rfl, .ref ax, rfl, ax, rfl, ⟨_, .of (t1 _ _ hax)⟩, fun E nE => ?_⟩
      refine lc_it walk_tup (fun j J => Same J2 J ∧ J E = some (.lst ((row.take j).map V.int))) ⟨same_new nE, by rw [upd_same]; rfl⟩ (fun j J _ pp => .of (pp.1 _ _ (t1 _ _ hax))) (fun j z J J3 hj pp y => ?_) (fun J pp => ?_)
      · obtain ⟨rfl, hz⟩ := y
        obtain ⟨u1, u2⟩ := pp
        obtain ⟨n, hn, pr, rfl, hpr⟩ := ar.of hz
        refine ⟨rfl, .ref pr, rfl, pr, _, 0, .int n, rfl, rfl, .of (u1 _ _ (t1 _ _ hpr)), atI_nat (j := 0) rfl, _, u2, ?_, same_put u1 nE, ?_⟩
        · rw [List.length_map, List.length_take]
          exact Nat.lt_of_le_of_lt (Nat.min_le_right _ _) (small_row (by omega))
        · rw [upd_same, take_map hn]
      · obtain ⟨u1, u2⟩ := pp
        rw [ar.len, List.take_length] at u2
        have neD : E ≠ Dl := fun e => by
          rw [e, t2] at nE
          cases nE
        refine ⟨_, u1 _ _ t2, ?_, same_put (t1.trans u1) nD, us ++ [.ref E], upd_same, ?_⟩
        · rw [t3.len, List.length_take]
          exact Nat.lt_of_le_of_lt (Nat.min_le_right _ _) (small1000 (n := rows.length) (by omega))
        · rw [List.take_add_one, hr2]
          refine Al.snoc ⟨t3.len, fun k x y h1 h2 => ?_⟩ ⟨E, rfl, by rw [upd_ne neD]; exact u2⟩
          obtain ⟨l, rfl, hl⟩ := t3.get k x y h1 h2
          refine ⟨l, rfl, ?_⟩
          by_cases c : l = Dl
          · subst c
            rw [t2] at hl
            have e1 : us = y.map V.int := HO.lst.inj (Option.some.inj hl)
            have hk := List.mem_of_getElem? h1
            rw [e1] at hk
            obtain ⟨_, _, e2⟩ := List.mem_map.mp hk
            cases e2
          · rw [upd_ne c]
            exact u1 _ _ hl
    · obtain ⟨t1, us, t2, t3⟩ := pp
      rw [al.len, List.take_length] at t3
      exact q J (.ref Dl) t1 ⟨Dl, us, rfl, t2, t3⟩
theorem ok_asked_of (T : Txt mg) {f : Addr} {fd : FuncData} (D : Df K mg "asked_of" (topS 44) ["steps", "start", "goal"] f fd) (h_need_choices : Has P w K mg base "need_choices" 5 ["steps"] sp_need_choices) (h_need_whole : Has P w K mg base "need_whole" 4 ["number"] sp_need_whole) (h_whole_numbers : Has P w K mg base "whole_numbers" 1 ["steps"] sp_whole_numbers) (h_bound_of : Has P w K mg base "bound_of" 3 ["steps"] sp_bound_of) : Has P w K mg base "asked_of" 6 ["steps", "start", "goal"] sp_asked_of := by
  refine D.has sc_asked_of (fun vs H Q E h => ?_) (fun cdv A outer s H vs Q E hr h => ?_)
  · obtain ⟨v, u, g, rows, B, s, t, rfl, _⟩ := h
    rfl
  · obtain ⟨v, u, g, rows, B, s, t, rfl, hv, gd, hu, hg, b1, b2, b3, b4, q⟩ := h
    refine ⟨_, (pss_cons (ps_expr (pe_has h_need_choices (hr.mono (by decide)) (by rfl) (pa_cons (pv 0) pa_nil)))
      (pss_cons (ps_set (i := 3) sc_asked_of.nd rfl (.inl rfl) (pe_has h_need_whole (hr.mono (by decide)) (by rfl) (pa_cons (pv 1) pa_nil)))
      (pss_cons (ps_set (i := 4) sc_asked_of.nd rfl (.inl rfl) (pe_has h_need_whole (hr.mono (by decide)) (by rfl) (pa_cons (pv 2) pa_nil)))
      (pss_one (ps_ret (pe_tup (pa_cons (pe_has h_whole_numbers (hr.mono (by decide)) (by rfl) (pa_cons (pv 0) pa_nil)) (pa_cons (pv 3) (pa_cons (pv 4) (pa_cons (pe_callB (call_max2 rfl) (by rfl) T.max bt_max (pa_cons (pe_has h_bound_of (hr.mono (by decide)) (by rfl) (pa_cons (pv 0) pa_nil)) (pa_cons (pe_callB call_abs (by rfl) T.abs bt_abs (pa_cons (pv 4) pa_nil)) pa_nil))) pa_nil)))))))))), ?_⟩
    refine ⟨v, rfl, v, rows, B, rfl, hv, gd, fun G1 s1 => ?_⟩
    refine ⟨u, rfl, u, s, rfl, hu.tk (tk_of s1), by omega, by omega, g, rfl, g, t, rfl, hg.tk (tk_of s1), by omega, by omega, ?_⟩
    refine ⟨v, rfl, v, rows, B, rfl, hv.tk (tk_of s1), gd, fun G2 z s2 hz => ?_⟩
    refine ⟨.int s, rfl, .int t, rfl, v, rfl, v, rows, B, rfl, hv.tk (tk_of (s1.trans s2)), gd, fun G3 s3 => ?_⟩
    refine ⟨.int t, rfl, t, rfl, B, _, rfl, by show 4 ≤ sizeLine; decide, fun p np => ?_⟩
    refine q _ p z (((s1.trans s2).trans s3).trans (same_new np)) ?_ (hz.same (s3.trans (same_new np)))
    rw [upd_same, abs_nat]
    have e : (if (t.natAbs : Int) > (B : Int) then (t.natAbs : Int) else (B : Int)) = bdOf B t := by
      unfold bdOf
      by_cases c : t.natAbs > B
      · rw [if_pos c, if_pos (by omega)]
      · rw [if_neg c, if_neg (by omega)]
    rw [← e]
end
end K86

/-! K86Cho2: the search by breadth, the word to a goal. -/
namespace K86
open PySem PySem.Spec PyProof.Rows L2 SW
/-- y in d; y may be None -/
def NG (H : Hp) (a : Addr) (y : V) (b : Bool) : Prop := (∃ o, DGet H a y o ∧ o.isSome = b) ∨ (b = false ∧ y = .non ∧ ∃ kvs, Rd H a (.dK kvs))
def tDNotInG (ty td : TE) : TE := fun σ H Q => ty σ H fun y H1 => td σ H1 fun x H2 => ∃ a b, x = .ref a ∧ NG H2 a y b ∧ Q (.bl (!b)) H2
theorem pc_dnotinG {X : Cx} {o i : Expr} {td ty : TE} (hu : X.A.units + 1 < cLine) (hi : PE X i ty) (ho : PE X o td) : PC X .NotIn i o (tDNotInG ty td) := by
  refine ⟨fun pins s σ H Q I h => ?_⟩
  refine thn (hi.run pins s σ H _ I h) fun iv s1 ⟨y, H1, I1, ry, q1⟩ => thn (ho.run pins s1 σ H1 _ I1 q1) fun u s2 ⟨x, H2, I2, rx, q2⟩ => ?_
  obtain ⟨a, b, ex, g, q2⟩ := q2
  subst ex
  obtain rfl : u = Value.ref a := rx
  rcases g with ⟨ov, g, eb⟩ | ⟨eb, ey, kvs, g⟩
  · subst eb
    exact d_notIn hu I2 g ry fun s3 I3 => ⟨.bl (!ov.isSome), H2, I3, rfl, q2⟩
  · subst ey eb
    obtain rfl : iv = Value.none := ry
    exact d_notInNone I2 g fun s3 I3 => ⟨.bl true, H2, I3, rfl, q2⟩
theorem sc_ways_from : FnScope ["rows", "bound", "start", "goal", "found", "line", "place", "here", "index", "row", "later"] ["rows", "bound", "start", "goal"] (defScope (topS 45)) := ⟨rfl, rfl, rfl, by decide +kernel, rfl, by decide +kernel, by decide +kernel⟩
theorem sc_word_to : FnScope ["ways", "goal", "found", "here", "index"] ["ways", "goal"] (defScope (topS 46)) := ⟨rfl, rfl, rfl, by decide +kernel, rfl, by decide +kernel, by decide +kernel⟩
/-- an entry of the dict of ways -/
def Ent (H : Hp) (kv : Key × V) (n : Nd) : Prop := kv.1 = .inl n.key ∧ ((n.prd = none ∧ kv.2 = .non) ∨ ∃ p i a, n.prd = some (p, i) ∧ kv.2 = .ref a ∧ H a = some (.tup [.int p, .int (i : Nat)]))
def Ways (H : Hp) (d : Addr) (g : List Nd) : Prop := ∃ kvs, H d = some (.dK kvs) ∧ Al (Ent H) kvs g
theorem Ent.tk {H G : Hp} {kv : Key × V} {n : Nd} (e : Ent H kv n) (t : Tk H G) : Ent G kv n := by
  obtain ⟨e1, e2⟩ := e
  refine ⟨e1, e2.imp id ?_⟩
  rintro ⟨p, i, a, h1, h2, h3⟩
  exact ⟨p, i, a, h1, h2, t _ _ h3⟩
theorem Ways.same {H G : Hp} {d : Addr} {g : List Nd} (h : Ways H d g) (s : Same H G) : Ways G d g := by
  obtain ⟨kvs, h1, h2⟩ := h
  exact ⟨kvs, s _ _ h1, h2.mono fun x y e => e.tk (tk_of s)⟩
theorem ent_keys {H : Hp} {kvs : List (Key × V)} {g : List Nd} (a : Al (Ent H) kvs g) : kvs.map (·.1) = (g.map (·.key)).map Sum.inl := by
  refine List.ext_getElem? fun i => ?_
  rw [List.getElem?_map, List.getElem?_map, List.getElem?_map]
  by_cases hi : i < kvs.length
  · obtain ⟨n, hn, e, _⟩ := a.of (List.getElem?_eq_getElem hi)
    rw [List.getElem?_eq_getElem hi, hn]
    exact congrArg some e
  · rw [List.getElem?_eq_none (by omega), List.getElem?_eq_none (by rw [← a.len]; omega)]
    rfl
theorem val_some {kvs : List (Key × V)} {ks : List Int} (h : kvs.map (·.1) = ks.map Sum.inl) (k : Int) : (valV kvs (.inl k)).isSome = decide (k ∈ ks) := by
  rw [← valV_any]
  have e : (kvs.any fun kv => decide (kv.1 = (Sum.inl k : Key))) = ((kvs.map (·.1)).any fun x => decide (x = (Sum.inl k : Key))) := by
    rw [List.any_map]
    rfl
  rw [e, h, List.any_map]
  clear e h
  induction ks with
  | nil => rfl
  | cons m ks ih =>
    rw [List.any_cons, ih]
    by_cases c : m = k
    · subst c
      simp
    · have c2 : ¬ k = m := fun e => c e.symm
      simp [c, c2]
theorem val_none {kvs : List (Key × V)} {ks : List Int} (h : kvs.map (·.1) = ks.map Sum.inl) {k : Int} (hk : ¬ k ∈ ks) : valV kvs (.inl k) = none := by
  have := val_some h k
  rw [decide_eq_false hk] at this
  cases e : valV kvs (.inl k) with
  | none => rfl
  | some v =>
    rw [e] at this
    cases this
theorem val_at : ∀ {kvs : List (Key × V)} {i : Nat} {k : Key} {v : V}, (kvs.map (·.1)).Nodup → kvs[i]? = some (k, v) → valV kvs k = some v
  | [], i, k, v, _, h => by simp at h
  | p :: r, 0, k, v, _, h => by
    have e : p = (k, v) := Option.some.inj h
    subst e
    exact valV_pos rfl
  | p :: r, i + 1, k, v, hn, h => by
    have hn : (p.1 :: r.map (·.1)).Nodup := hn
    obtain ⟨h1, h2⟩ := List.nodup_cons.mp hn
    have h : r[i]? = some (k, v) := h
    rw [valV_neg fun e => h1 (e ▸ List.mem_map.mpr ⟨_, List.mem_of_getElem? h, rfl⟩)]
    exact val_at h2 h
theorem nodup_inl {ks : List Int} (h : ks.Nodup) : (ks.map (Sum.inl : Int → Key)).Nodup := by
  refine List.Pairwise.map _ (fun a b hab e => hab ?_) h
  exact Sum.inl.inj e
/-- a goal's value, or none -/
def goalV : Option Int → V
  | some t => .int t
  | none => .non
def sp_ways_from : Sp := fun vs H Q _ => ∃ (v : V) (rows : List (List Int)) (M s : Int) (go : Option Int), vs = [v, .int M, .int s, goalV go] ∧ Rws H v rows ∧ 0 ≤ M ∧ M ≤ 20 ∧ rows.length ≤ 3 ∧
  ∀ G d g, Same H G → Ways G d g → ((s.natAbs : Int) ≤ M → Found rows M s go g) → (¬ (s.natAbs : Int) ≤ M → g = []) → Q (.ref d) G
def sp_word_to : Sp := fun vs H Q _ => ∃ (d : Addr) (rows : List (List Int)) (M s t : Int) (g : List Nd) (pl : Nat) (n : Nd), vs = [.ref d, .int t] ∧ Ways H d g ∧ Bf rows M s g pl 0 ∧ n ∈ g ∧ n.key = t ∧ g.length ≤ 100 ∧
  ∀ G p, Same H G → G p = some (.tup (n.word.map fun i : Nat => V.int i)) → Q (.ref p) G
/-- a word is no longer than its place -/
theorem Bf.wlen {rows : List (List Int)} {B s : Int} {g : List Nd} {pl r : Nat} (b : Bf rows B s g pl r) : ∀ (m j : Nat) (n : Nd), j ≤ m → g[j]? = some n → n.word.length ≤ j
  | m, j, n, hj, h => by
    by_cases e : 0 < j
    · obtain ⟨k, p, i, row, h1, h2, h3, h4, h5, h6⟩ := b.pre j n h e
      cases m with
      | zero => omega
      | succ m =>
        have := Bf.wlen b m k p (by omega) h2
        rw [h6, List.length_append, List.length_singleton]
        omega
    · have e : j = 0 := by omega
      subst e
      rw [b.root] at h
      cases h
      exact Nat.le_refl _
section
variable {P : Program} {w : World} {K : PySem.W.Frag} {mg : Str → Option Value} {base : Heap}
theorem ok_ways_from (T : Txt mg) {f : Addr} {fd : FuncData} (D : Df K mg "ways_from" (topS 45) ["rows", "bound", "start", "goal"] f fd) (h_led : Has P w K mg base "led" 1 ["numbers", "here"] sp_led) : Has P w K mg base "ways_from" 2 ["rows", "bound", "start", "goal"] sp_ways_from := by
  refine D.has sc_ways_from (fun vs H Q E h => ?_) (fun cdv A outer s H vs Q E hr h => ?_)
  · obtain ⟨v, rows, M, s, go, rfl, _⟩ := h
    rfl
  · obtain ⟨v, rows, M, s, go, rfl, ⟨ra, rv, rfl, hra, al⟩, m0, m1, r3, q⟩ := h
    refine ⟨_, (pss_cons (ps_set (i := 4) sc_ways_from.nd rfl (.inl rfl) pe_dnewK)
      (pss_cons (ps_if (pt_cmpR op_gt (pe_callB call_abs (by rfl) T.abs bt_abs (pa_cons (pv 2) pa_nil)) (pv 1) (nomark _)) (pss_one (ps_ret (pv 4))) pss_nil)
      (pss_cons (ps_dput (hu_of hr) (pv 4) (pv 2) pe_non rfl)
      (pss_cons (ps_set (i := 5) sc_ways_from.nd rfl (.inl rfl) (pe_lst (pa_cons (pv 2) pa_nil)))
      (pss_cons (ps_set (i := 6) sc_ways_from.nd rfl (.inl rfl) pe_int)
      (pss_cons (ps_while PassesOwn.never (PW.pt (pw_and (pt_cmpR op_lt (pv 6) (pe_callB call_len_seq (by rfl) T.len bt_len (pa_cons (pv 5) pa_nil)) (nomark _)) (pw_and1 (pt_cmp (pc_dnotinG (hu_of hr) (pv 3) (pv 4)))))) (pss_cons (ps_set (i := 7) sc_ways_from.nd rfl (.inl rfl) (pe_ix ix_list (pv 5) (pv 6) (fun _ _ => rfl)))
      (pss_cons (ps_set (i := 6) sc_ways_from.nd rfl (.inl rfl) (pe_op op_add (pv 6) pe_int))
      (pss_one (ps_for PassesOwn.never rfl (pi_enum (by rfl) T.enumerate (pa_cons (pv 0) pa_nil)) (pg_tup rfl (pgs_cons (pg_name (i := 8) sc_ways_from.nd rfl (.inl rfl)) (pgs_cons (pg_name (i := 9) sc_ways_from.nd rfl (.inl rfl)) pgs_nil))) (pss_cons (ps_set (i := 10) sc_ways_from.nd rfl (.inl rfl) (pe_has h_led (hr.mono (by decide)) (by rfl) (pa_cons (pv 9) (pa_cons (pv 7) pa_nil))))
      (pss_one (ps_if (PW.pt (pw_and (pt_cmpR op_le (pe_callB call_abs (by rfl) T.abs bt_abs (pa_cons (pv 10) pa_nil)) (pv 1) (nomark _)) (pw_and1 (pt_cmp (pc_dnotinG (hu_of hr) (pv 10) (pv 4)))))) (pss_cons (ps_dput (hu_of hr) (pv 4) (pv 10) (pe_tup (pa_cons (pv 7) (pa_cons (pv 8) pa_nil))) rfl)
      (pss_one (ps_expr (pe_bm PySem.F.plainAttrs_list PySem.F.slot_list_append PySem.F.type_list_append mt_append (pv 5) (pa_cons (pv 10) pa_nil))))) pss_nil))))))))
      (pss_one (ps_ret (pv 4))))))))), ?_⟩
    intro d nd
    refine ⟨.int s, rfl, s, rfl, .int M, rfl, _, M, rfl, rfl, _, rfl, ?_⟩
    rw [abs_nat]
    by_cases c : M < (s.natAbs : Int)
    · rw [decide_eq_true c]
      exact iteT ⟨.ref d, rfl, q _ d [] (same_new nd) ⟨[], upd_same, Al.nil⟩ (fun z => absurd z (by omega)) fun _ => rfl⟩
    · rw [decide_eq_false c]
      have hs : (s.natAbs : Int) ≤ M := by omega
      refine iteF ?_
      refine ⟨.ref d, rfl, .int s, rfl, d, _, rfl, DPut.k (k := .inl s) upd_same (small1000 (by decide)), ?_⟩
      rw [upd_upd]
      refine ⟨.int s, rfl, by show 1 ≤ sizeLine; decide, fun ln nl => ?_⟩
      have ndl : ln ≠ d := fun e => by
        rw [e, upd_same] at nl
        cases nl
      have nlH : H ln = none := by
        rw [upd_ne ndl] at nl
        exact nl
      refine ⟨fun m σ G => ∃ g pl, Bf rows M s g pl 0 ∧ m = 60 - pl ∧ pl ≤ g.length ∧ (∃ z7 z8 z9 z10, σ = [some (.ref ra), some (.int M), some (.int s), some (goalV go), some (.ref d), some (.ref ln), some (.int (pl : Nat)), z7, z8, z9, z10]) ∧ Same H G ∧ Ways G d g ∧ G ln = some (.lst ((g.map (·.key)).map V.int)), ⟨60, [⟨s, none, []⟩], 0, Bf.start hs, rfl, Nat.zero_le _, ⟨_, _, _, _, rfl⟩, same_put (same_new nd) nlH, ⟨[(.inl s, .non)], by rw [upd_ne ndl.symm, upd_same]; rfl, Al.one ⟨rfl, .inl ⟨rfl, rfl⟩⟩⟩, upd_same⟩, ?_⟩
      rintro m σ G ⟨g, pl, bf, rfl, hpl, ⟨z7, z8, z9, z10, rfl⟩, s1, hw, hl⟩
      obtain ⟨kvs, hd, ae⟩ := hw
      have hk := ent_keys ae
      have gl := bf.len m0
      refine ⟨.int (pl : Nat), rfl, .ref ln, rfl, ln, _, rfl, .inl (.of hl), _, _, rfl, rfl, _, rfl, ?_⟩
      rw [List.length_map, List.length_map]
      by_cases c1 : (pl : Int) < g.length
      · rw [decide_eq_true c1]
        refine iteT ?_
        -- whether the goal is there
        have tst : ∃ b, NG G d (goalV go) b ∧ (b = true ↔ ∃ t, go = some t ∧ t ∈ g.map (·.key)) := by
          cases go with
          | none => exact ⟨false, .inr ⟨rfl, rfl, kvs, .inl hd⟩, ⟨fun e => (by cases e), fun ⟨t, e, _⟩ => (by cases e)⟩⟩
          | some t =>
            refine ⟨_, .inl ⟨_, DGet.k (k := .inl t) hd, rfl⟩, ?_⟩
            rw [val_some hk, decide_eq_true_iff]
            exact ⟨fun h => ⟨t, rfl, h⟩, fun ⟨t', e, h⟩ => by cases e; exact h⟩
        obtain ⟨b, hng, hb⟩ := tst
        refine ⟨goalV go, rfl, .ref d, rfl, d, b, rfl, hng, !b, rfl, ?_⟩
        cases b with
        | true =>
          have hgo := hb.mp rfl
          exact iteF ⟨.ref d, rfl, q G d g s1 ⟨kvs, hd, ae⟩ (fun _ => ⟨pl, bf, .inr hgo⟩) fun z => absurd hs z⟩
        | false =>
          have hpg : pl < g.length := by omega
          have hp := List.getElem?_eq_getElem hpg
          generalize hpe : g[pl] = p at hp
          have hkp : (g.map (·.key))[pl]? = some p.key := by
            rw [List.getElem?_map, hp]
            rfl
          have pb := bf.bnd p (List.mem_of_getElem? hp)
          refine iteT ⟨fun σ G => ∃ g, Bf rows M s g (pl + 1) 0 ∧ pl + 1 ≤ g.length ∧ (∃ z7 z8 z9 z10, σ = [some (.ref ra), some (.int M), some (.int s), some (goalV go), some (.ref d), some (.ref ln), some (.int ((pl + 1 : Nat))), z7, z8, z9, z10]) ∧ Same H G ∧ Ways G d g ∧ G ln = some (.lst ((g.map (·.key)).map V.int)), fun σ G2 n => ?_, ?_⟩
          · obtain ⟨g2, b2, n1, n2⟩ := n
            exact ⟨60 - (pl + 1), by omega, g2, pl + 1, b2, rfl, n1, n2⟩
          · refine ⟨.ref ln, rfl, .int (pl : Nat), rfl, ln, _, (pl : Nat), .int p.key, rfl, rfl, .of hl, atI_nat (ints_get hkp), ?_⟩
            refine ⟨.int (pl : Nat), rfl, (pl : Nat), 1, rfl, rfl, ?_⟩
            refine ⟨.ref ra, rfl, ra, rv, rfl, .of (s1 _ _ hra), for_it walk_enum (fun i σ J => ∃ g, Bf rows M s g pl i ∧ g[pl]? = some p ∧ (∃ z8 z9 z10, σ = [some (.ref ra), some (.int M), some (.int s), some (goalV go), some (.ref d), some (.ref ln), some (.int ((pl : Nat) + 1)), some (.int p.key), z8, z9, z10]) ∧ Same H J ∧ Ways J d g ∧ J ln = some (.lst ((g.map (·.key)).map V.int)))
              ⟨g, bf, hp, ⟨_, _, _, rfl⟩, s1, ⟨kvs, hd, ae⟩, hl⟩ (fun i σ J _ pp => by obtain ⟨_, _, _, _, s2, _⟩ := pp; exact .of (s2 _ _ hra)) (fun i x σ J J2 hi pp y => ?_) (fun σ J pp => ?_)⟩
            · obtain ⟨g2, b2, hp2, ⟨y8, y9, y10, rfl⟩, s2, hw2, hl2⟩ := pp
              obtain ⟨Tp, x1, x2, rfl, nT, rfl, e1, e2⟩ := y
              cases e1
              obtain ⟨row, hrow, lr, rfl, hlr⟩ := al.of e2
              have sT := same_new (o := .tup [.int (i : Nat), .ref lr]) nT
              have s3 := s2.trans sT
              have hw3 := hw2.same sT
              have hl3 := sT _ _ hl2
              refine ⟨Tp, _, rfl, .of upd_same, rfl, .int (i : Nat), [.ref lr], rfl, .ref lr, [], rfl, rfl, ?_⟩
              generalize upd J Tp (.tup [.int (i : Nat), .ref lr]) = J3 at *
              refine ⟨.ref lr, rfl, .int p.key, rfl, .ref lr, row, p.key, rfl, ⟨lr, rfl, s3 _ _ hlr⟩, by omega, by omega, ?_⟩
              obtain ⟨kv3, hd3, ae3⟩ := hw3
              have hk3 := ent_keys ae3
              have gl3 := b2.len m0
              refine ⟨.int (ledI row p.key), rfl, _, rfl, .int M, rfl, _, M, rfl, rfl, _, rfl, ?_⟩
              rw [abs_nat]
              by_cases cb : ((ledI row p.key).natAbs : Int) ≤ M
              · rw [decide_eq_true cb]
                refine iteT ⟨.int (ledI row p.key), rfl, .ref d, rfl, d, _, rfl, .inl ⟨_, DGet.k (k := .inl (ledI row p.key)) hd3, rfl⟩, _, rfl, ?_⟩
                rw [val_some hk3]
                by_cases cm : ledI row p.key ∈ g2.map (·.key)
                · rw [decide_eq_true cm]
                  exact iteF ⟨g2, b2.skip hp2 hrow (.inr cm), hp2, ⟨_, _, _, rfl⟩, s3, ⟨kv3, hd3, ae3⟩, hl3⟩
                · rw [decide_eq_false cm]
                  refine iteT ⟨.int p.key, rfl, .int (i : Nat), rfl, by show 2 ≤ sizeLine; decide, fun e ne => ?_⟩
                  have sE := same_new (o := .tup [.int p.key, .int (i : Nat)]) ne
                  have hdE := sE _ _ hd3
                  have hlE := sE _ _ hl3
                  have aeE := ae3.mono fun x y z => z.tk (tk_of sE)
                  have hE : (upd J3 e (.tup [.int p.key, .int (i : Nat)])) e = some (.tup [.int p.key, .int (i : Nat)]) := upd_same
                  have sHE := s3.trans sE
                  generalize upd J3 e (.tup [.int p.key, .int (i : Nat)]) = J4 at *
                  have nld : ln ≠ d := fun z => by
                    rw [z, hdE] at hlE
                    cases hlE
                  have kl : kv3.length = g2.length := ae3.len
                  refine ⟨.ref d, rfl, .int (ledI row p.key), rfl, d, _, rfl, DPut.k (k := .inl (ledI row p.key)) hdE (small1000 (by omega)), ?_⟩
                  rw [putK_new _ (val_none hk3 cm)]
                  have hl5 : (upd J4 d (.dK (kv3 ++ [(.inl (ledI row p.key), .ref e)]))) ln = some (.lst ((g2.map (·.key)).map V.int)) := by
                    rw [upd_ne nld]
                    exact hlE
                  refine ⟨.ref ln, rfl, .inl ⟨rfl, _, .of hl5⟩, .int (ledI row p.key), rfl, ln, _, .int (ledI row p.key), rfl, rfl, hl5, ?_, ?_⟩
                  · rw [List.length_map, List.length_map]
                    exact small1000 (by omega)
                  · refine ⟨_, b2.grow hp2 hrow cb cm, ?_, ⟨_, _, _, rfl⟩, same_put (same_put sHE nd) nlH, ⟨_, by rw [upd_ne nld.symm, upd_same], ?_⟩, ?_⟩
                    · rw [List.getElem?_append_left (List.getElem?_eq_some_iff.mp hp2).1]
                      exact hp2
                    · refine (aeE.mono fun x y z => ?_).snoc ⟨rfl, .inr ⟨p.key, i, e, rfl, rfl, ?_⟩⟩
                      · refine z.tk fun a xs ha => ?_
                        rw [upd_ne (ne_of ha hlE (by intro z; cases z)), upd_ne (ne_of ha hdE (by intro z; cases z))]
                        exact ha
                      · rw [upd_ne (ne_of hE hlE (by intro z; cases z)), upd_ne (ne_of hE hdE (by intro z; cases z))]
                        exact hE
                    · rw [upd_same, List.map_append, List.map_append]
                      rfl
              · rw [decide_eq_false cb]
                exact iteF (iteF ⟨g2, b2.skip hp2 hrow (.inl cb), hp2, ⟨_, _, _, rfl⟩, s3, ⟨kv3, hd3, ae3⟩, hl3⟩)
            · obtain ⟨g2, b2, hp2, ⟨y8, y9, y10, rfl⟩, s2, hw2, hl2⟩ := pp
              rw [al.len] at b2
              have hlt := (List.getElem?_eq_some_iff.mp hp2).1
              exact ⟨g2, b2.next hlt, hlt, ⟨_, _, _, _, rfl⟩, s2, hw2, hl2⟩
      · rw [decide_eq_false c1]
        exact iteF (iteF ⟨.ref d, rfl, q G d g s1 ⟨kvs, hd, ae⟩ (fun _ => ⟨pl, bf, .inl (by omega)⟩) fun z => absurd hs z⟩)
theorem ok_word_to (T : Txt mg) {f : Addr} {fd : FuncData} (D : Df K mg "word_to" (topS 46) ["ways", "goal"] f fd)  : Has P w K mg base "word_to" 1 ["ways", "goal"] sp_word_to := by
  refine D.has sc_word_to (fun vs H Q E h => ?_) (fun cdv A outer s H vs Q E hr h => ?_)
  · obtain ⟨d, rows, M, s, t, g, pl, n, rfl, _⟩ := h
    rfl
  · obtain ⟨d, rows, M, s, t, g, pl, n, rfl, ⟨kvs, hd, ae⟩, bf, hn, hk, gl, q⟩ := h
    refine ⟨_, (pss_cons (ps_par (i := 2) (j := 3) (by rfl) sc_word_to.nd rfl rfl (by decide) rfl rfl (pa_cons (pe_lst pa_nil) (pa_cons (pv 1) pa_nil)) (by rfl))
      (pss_cons (ps_while PassesOwn.never (pt_cmpR op_notN (pe_dget (hu_of hr) (pv 0) (pv 3) (fun _ _ => rfl)) pe_non (nomark _)) (pss_cons (ps_asg (pe_dget (hu_of hr) (pv 0) (pv 3) (fun _ _ => rfl)) (pg_tup rfl (pgs_cons (pg_name (i := 3) sc_word_to.nd rfl (.inl rfl)) (pgs_cons (pg_name (i := 4) sc_word_to.nd rfl (.inl rfl)) pgs_nil))))
      (pss_one (ps_expr (pe_bm PySem.F.plainAttrs_list PySem.F.slot_list_append PySem.F.type_list_append mt_append (pv 2) (pa_cons (pv 4) pa_nil))))))
      (pss_cons (ps_expr (pe_bm0 PySem.F.plainAttrs_list PySem.F.slot_list_reverse PySem.F.type_list_reverse mt_reverse (pv 2)))
      (pss_one (ps_ret (pe_callTy call_tuple_of (by rfl) T.tuple bt_tuple (pa_cons (pv 2) pa_nil))))))), ?_⟩
    have hks := ent_keys ae
    have hnd : (kvs.map (·.1)).Nodup := by
      rw [hks]
      exact nodup_inl bf.nodup
    obtain ⟨j0, hj0, ej0⟩ := List.getElem_of_mem hn
    have hj0' : g[j0]? = some n := by rw [List.getElem?_eq_getElem hj0, ej0]
    refine ⟨by show 0 ≤ sizeLine; decide, fun ln nl => ⟨.int t, rfl, _, _, rfl, ?_⟩⟩
    refine ⟨fun m σ G => ∃ (nt : Nd) (rest : List Nat), g[m]? = some nt ∧ n.word = nt.word ++ rest ∧ (∃ z4, σ = [some (.ref d), some (.int t), some (.ref ln), some (.int nt.key), z4]) ∧ Same H G ∧ G ln = some (.lst (rest.reverse.map fun i : Nat => V.int i)), ⟨j0, n, [], hj0', (List.append_nil _).symm, ⟨none, by rw [hk]; rfl⟩, same_new nl, upd_same⟩, ?_⟩
    rintro m σ G ⟨nt, rest, hnt, hw, ⟨z4, rfl⟩, s1, hl⟩
    obtain ⟨kv, hkv, e1, e2⟩ := ae.to hnt
    have hd1 := s1 _ _ hd
    have hkv' : kvs[m]? = some (.inl nt.key, kv.2) := by
      rw [← e1]
      exact hkv
    have hv := val_at hnd hkv'
    refine ⟨.ref d, rfl, .int nt.key, rfl, d, kv.2, rfl, hv ▸ DGet.k (k := .inl nt.key) hd1, ?_⟩
    have hm := (List.getElem?_eq_some_iff.mp hnt).1
    have wl : n.word.length ≤ 100 := by
      have := Bf.wlen bf j0 j0 n (Nat.le_refl _) hj0'
      omega
    rcases e2 with ⟨p1, p2⟩ | ⟨p, i, a, p1, p2, p3⟩
    · rw [p2]
      refine ⟨rfl, _, rfl, iteF ?_⟩
      have m0 : m = 0 := by
        cases m with
        | zero => rfl
        | succ m =>
          obtain ⟨k, p, i, row, h1, h2, h3, h4, h5, h6⟩ := bf.pre _ nt hnt (Nat.succ_pos _)
          rw [p1] at h5
          cases h5
      subst m0
      have e3 : nt = ⟨s, none, []⟩ := by
        rw [bf.root] at hnt
        exact (Option.some.inj hnt).symm
      subst e3
      have e4 : rest = n.word := by rw [hw]; rfl
      subst e4
      refine ⟨.ref ln, rfl, .inl ⟨rfl, _, .of hl⟩, ln, _, rfl, rfl, hl, ?_⟩
      refine ⟨.ref ln, rfl, ln, _, rfl, .inl ⟨.of upd_same, fun p np => ?_⟩⟩
      refine q _ p ((same_put s1 nl).trans (same_new np)) ?_
      rw [upd_same, ← List.map_reverse, List.reverse_reverse]
    · rw [p2]
      refine ⟨rfl, _, rfl, iteT ?_⟩
      have mp : 0 < m := by
        cases m with
        | zero =>
          rw [bf.root] at hnt
          cases hnt
          cases p1
        | succ m => exact Nat.succ_pos _
      obtain ⟨k, pn, i2, row, h1, h2, h3, h4, h5, h6⟩ := bf.pre _ nt hnt mp
      rw [p1] at h5
      obtain ⟨rfl, rfl⟩ := Prod.mk.inj (Option.some.inj h5)
      have hv2 := p2 ▸ hv
      refine ⟨fun σ G2 => ∃ (k : Nat) (nt : Nd) (rest : List Nat), k < m ∧ g[k]? = some nt ∧ n.word = nt.word ++ rest ∧ (∃ z4, σ = [some (.ref d), some (.int t), some (.ref ln), some (.int nt.key), z4]) ∧ Same H G2 ∧ G2 ln = some (.lst (rest.reverse.map fun i : Nat => V.int i)), fun σ G2 x => ?_, ?_⟩
      · obtain ⟨k, nt, rest, x1, x2, x3, x4, x5⟩ := x
        exact ⟨k, x1, nt, rest, x2, x3, x4, x5⟩
      · have hG := s1 _ _ p3
        refine ⟨.ref d, rfl, .int nt.key, rfl, d, .ref a, rfl, hv2 ▸ DGet.k (k := .inl nt.key) hd1, ?_⟩
        refine ⟨a, _, rfl, .of hG, rfl, .int pn.key, [.int (i : Nat)], rfl, .int (i : Nat), [], rfl, rfl, ?_⟩
        refine ⟨.ref ln, rfl, .inl ⟨rfl, _, .of hl⟩, .int (i : Nat), rfl, ln, _, .int (i : Nat), rfl, rfl, hl, ?_, ?_⟩
        · rw [List.length_map, List.length_reverse]
          rw [hw, List.length_append] at wl
          exact small1000 (by omega)
        · refine ⟨k, pn, i :: rest, h1, h2, ?_, ⟨_, rfl⟩, same_put s1 nl, ?_⟩
          · rw [hw, h6, List.append_assoc]
            rfl
          · rw [upd_same, List.reverse_cons, List.map_append]
            rfl
end
end K86

/-! K86Cho3: reach, the closed list, the rows that stay. -/
namespace K86
open PySem PySem.Spec PyProof.Rows L2 SW
theorem sc_reach : FnScope ["steps", "start", "goal", "rows", "near", "far", "bound", "ways"] ["steps", "start", "goal"] (defScope (topS 47)) := ⟨rfl, rfl, rfl, by decide +kernel, rfl, by decide +kernel, by decide +kernel⟩
theorem sc_closed_list : FnScope ["steps", "start", "goal", "rows", "near", "far", "bound", "ways", "number"] ["steps", "start", "goal"] (defScope (topS 48)) := ⟨rfl, rfl, rfl, by decide +kernel, rfl, by decide +kernel, by decide +kernel⟩
theorem sc_is_list_within : FnScope ["value", "bound", "number", "near", "far"] ["value", "bound"] (defScope (topS 49)) := ⟨rfl, rfl, rfl, by decide +kernel, rfl, by decide +kernel, by decide +kernel⟩
theorem sc_is_closed : FnScope ["steps", "start", "goal", "value", "rows", "near", "far", "bound", "held", "number", "here", "row"] ["steps", "start", "goal", "value"] (defScope (topS 50)) := ⟨rfl, rfl, rfl, by decide +kernel, rfl, by decide +kernel, by decide +kernel⟩
theorem sc_round_from : FnScope ["rows", "bound", "start", "index", "row", "later", "ways"] ["rows", "bound", "start"] (defScope (topS 51)) := ⟨rfl, rfl, rfl, by decide +kernel, rfl, by decide +kernel, by decide +kernel⟩
theorem sc_stays : FnScope ["steps", "start", "near", "bound", "rows", "ways", "here", "found"] ["steps", "start"] (defScope (topS 52)) := ⟨rfl, rfl, rfl, by decide +kernel, rfl, by decide +kernel, by decide +kernel⟩
/-- what reach answers -/
def ReachR (rows : List (List Int)) (M s t : Int) (G : Hp) (r : V) : Prop :=
  (r = .non ∧ ¬ ((s.natAbs : Int) ≤ M ∧ ∃ w, Word rows M s w t)) ∨
  ∃ (p : Addr) (w : List Nat), r = .ref p ∧ G p = some (.tup (w.map fun i : Nat => V.int i)) ∧ (s.natAbs : Int) ≤ M ∧ Word rows M s w t ∧ ∀ v, Word rows M s v t → w.length ≤ v.length
def sp_reach : Sp := fun vs H Q _ => ∃ (v u z : V) (rows : List (List Int)) (B : Nat) (s t : Int), vs = [v, u, z] ∧ Sts H v rows ∧ Gds rows B ∧ Pr H u s ∧ Pr H z t ∧ -20 ≤ s ∧ s ≤ 20 ∧ -20 ≤ t ∧ t ≤ 20 ∧
  ∀ G r, Same H G → ReachR rows (bdOf B t) s t G r → Q r G
def sp_closed_list : Sp := fun vs H Q _ => ∃ (v u z : V) (rows : List (List Int)) (B : Nat) (s t : Int), vs = [v, u, z] ∧ Sts H v rows ∧ Gds rows B ∧ Pr H u s ∧ Pr H z t ∧ -20 ≤ s ∧ s ≤ 20 ∧ -20 ≤ t ∧ t ≤ 20 ∧
  (¬ ((s.natAbs : Int) ≤ bdOf B t ∧ ∃ w, Word rows (bdOf B t) s w t)) ∧
  ∀ G r (ns : List Int), Same H G → Stp G r ns → ns.Nodup → ns.Pairwise (· ≤ ·) → (∀ x, x ∈ ns ↔ ((s.natAbs : Int) ≤ bdOf B t ∧ ∃ w, Word rows (bdOf B t) s w x)) → Q r G
def sp_is_list_within : Sp := fun vs H Q _ => ∃ (v : V) (ns : List Int) (b : Int), vs = [v, .int b] ∧ Stp H v ns ∧ ns ≠ [] ∧ ns.length ≤ 100 ∧ 1 ≤ b ∧ b ≤ 20 ∧ (∀ x ∈ ns, (x.natAbs : Int) ≤ b) ∧ ns.Pairwise (· < ·) ∧ ∀ G, Same H G → Q (.bl true) G
def sp_is_closed : Sp := fun vs H Q _ => ∃ (v u z l : V) (rows : List (List Int)) (B : Nat) (s t : Int) (ns : List Int), vs = [v, u, z, l] ∧ Sts H v rows ∧ Gds rows B ∧ Pr H u s ∧ Pr H z t ∧ (s.natAbs : Int) ≤ B ∧ (t.natAbs : Int) ≤ B ∧
  Stp H l ns ∧ ns.length ≤ 100 ∧ (∀ x ∈ ns, (x.natAbs : Int) ≤ B) ∧ ns.Pairwise (· < ·) ∧ s ∈ ns ∧ (∀ x ∈ ns, ∀ row ∈ rows, ((ledI row x).natAbs : Int) ≤ B → ledI row x ∈ ns) ∧
  ∀ G, Same H G → Q (.bl (!decide (t ∈ ns))) G
def sp_round_from : Sp := fun vs H Q _ => ∃ (v : V) (rows : List (List Int)) (M x : Int), vs = [v, .int M, .int x] ∧ Rws H v rows ∧ 0 ≤ M ∧ M ≤ 20 ∧ rows.length ≤ 3 ∧ -20 ≤ x ∧ x ≤ 20 ∧
  ∀ G r, Same H G → ((r = .non ∧ ¬ ∃ w, w ≠ [] ∧ Word rows M x w x) ∨ ((∃ p, r = .ref p) ∧ ∃ w, w ≠ [] ∧ Word rows M x w x)) → Q r G
def sp_stays : Sp := fun vs H Q _ => ∃ (v u : V) (rows : List (List Int)) (B : Nat) (s : Int), vs = [v, u] ∧ Sts H v rows ∧ Gds rows B ∧ Pr H u s ∧ -20 ≤ s ∧ s ≤ 20 ∧
  ∀ G r, Same H G → ((r = .non ∧ ¬ StaysB rows B s) ∨ ((∃ p, r = .ref p) ∧ StaysB rows B s)) → Q r G
theorem bdOf_le {B : Nat} {t : Int} (hB : B ≤ 5) (h1 : -20 ≤ t) (h2 : t ≤ 20) : bdOf B t ≤ 20 := by
  unfold bdOf
  split <;> omega
theorem le_bdOf {B : Nat} {t : Int} : (B : Int) ≤ bdOf B t := by
  unfold bdOf
  split <;> omega
theorem bdOf_in {B : Nat} {t : Int} (h : (t.natAbs : Int) ≤ B) : bdOf B t = B := by
  unfold bdOf
  rw [if_neg (by omega)]
section
variable {P : Program} {w : World} {K : PySem.W.Frag} {mg : Str → Option Value} {base : Heap}
theorem ok_reach (T : Txt mg) {f : Addr} {fd : FuncData} (D : Df K mg "reach" (topS 47) ["steps", "start", "goal"] f fd) (h_asked_of : Has P w K mg base "asked_of" 6 ["steps", "start", "goal"] sp_asked_of) (h_check_few : Has P w K mg base "check_few" 1 ["bound"] sp_check_few) (h_ways_from : Has P w K mg base "ways_from" 2 ["rows", "bound", "start", "goal"] sp_ways_from) (h_word_to : Has P w K mg base "word_to" 1 ["ways", "goal"] sp_word_to) : Has P w K mg base "reach" 7 ["steps", "start", "goal"] sp_reach := by
  refine D.has sc_reach (fun vs H Q E h => ?_) (fun cdv A outer s H vs Q E hr h => ?_)
  · obtain ⟨v, u, z, rows, B, s, t, rfl, _⟩ := h
    rfl
  · obtain ⟨v, u, z, rows, B, s, t, rfl, hv, gd, hu, hz, a1, a2, a3, a4, q⟩ := h
    refine ⟨_, (pss_cons (ps_asg (pe_has h_asked_of (hr.mono (by decide)) (by rfl) (pa_cons (pv 0) (pa_cons (pv 1) (pa_cons (pv 2) pa_nil)))) (pg_tup rfl (pgs_cons (pg_name (i := 3) sc_reach.nd rfl (.inl rfl)) (pgs_cons (pg_name (i := 4) sc_reach.nd rfl (.inl rfl)) (pgs_cons (pg_name (i := 5) sc_reach.nd rfl (.inl rfl)) (pgs_cons (pg_name (i := 6) sc_reach.nd rfl (.inl rfl)) pgs_nil))))))
      (pss_cons (ps_expr (pe_has h_check_few (hr.mono (by decide)) (by rfl) (pa_cons (pv 6) pa_nil)))
      (pss_cons (ps_set (i := 7) sc_reach.nd rfl (.inl rfl) (pe_has h_ways_from (hr.mono (by decide)) (by rfl) (pa_cons (pv 3) (pa_cons (pv 6) (pa_cons (pv 4) (pa_cons (pv 5) pa_nil))))))
      (pss_one (ps_ret (pe_ifExp (pt_cmp (pc_din (hu_of hr) (pv 5) (pv 7))) (pe_has h_word_to (hr.mono (by decide)) (by rfl) (pa_cons (pv 7) (pa_cons (pv 5) pa_nil))) pe_non)))))), ?_⟩
    have gb := gds_b gd
    have gl := gds_len gd
    have m1 := bdOf_le gb.2 a3 a4
    have m0 := le_bdOf (B := B) (t := t)
    refine ⟨v, rfl, u, rfl, z, rfl, v, u, z, rows, B, s, t, rfl, hv, gd, hu, hz, by omega, by omega, by omega, by omega, fun G1 p zr s1 hp hr1 => ?_⟩
    generalize bdOf B t = M at *
    refine ⟨p, _, rfl, .of hp, rfl, zr, [.int s, .int t, .int M], rfl, .int s, [.int t, .int M], rfl, .int t, [.int M], rfl, .int M, [], rfl, rfl, ?_⟩
    refine ⟨.int M, rfl, M, rfl, by omega, ?_⟩
    refine ⟨zr, rfl, .int M, rfl, .int s, rfl, .int t, rfl, zr, rows, M, s, some t, rfl, hr1, by omega, m1, by omega, fun G2 d g s2 hw f1 f2 => ?_⟩
    have hw0 := hw
    obtain ⟨kvs, hd, ae⟩ := hw
    refine ⟨.int t, rfl, .ref d, rfl, d, _, rfl, DGet.k (k := .inl t) hd, _, rfl, ?_⟩
    rw [val_some (ent_keys ae)]
    have s3 := s1.trans s2
    by_cases c : t ∈ g.map (·.key)
    · rw [decide_eq_true c]
      have hs : (s.natAbs : Int) ≤ M := by
        refine Decidable.byContradiction fun e => ?_
        rw [f2 e] at c
        exact absurd c List.not_mem_nil
      obtain ⟨pl, bf, _⟩ := (f1 hs).ex
      obtain ⟨n, hn, hk⟩ := List.mem_map.mp c
      have gl2 := bf.len (by omega)
      refine iteT ⟨.ref d, rfl, .int t, rfl, d, rows, M, s, t, g, pl, n, rfl, hw0, bf, hn, hk, by omega, fun G3 p3 s4 hp3 => q G3 _ (s3.trans s4) (.inr ⟨p3, n.word, rfl, hp3, hs, ?_, ?_⟩)⟩
      · rw [← hk]
        exact bf.word' hn
      · intro v hv
        rw [← hk] at hv
        exact bf.least' hn hv
    · rw [decide_eq_false c]
      refine iteF (q G2 _ s3 (.inl ⟨rfl, fun ⟨e1, w, e2⟩ => c ((f1 e1).mem e2)⟩))
theorem ok_closed_list (T : Txt mg) {f : Addr} {fd : FuncData} (D : Df K mg "closed_list" (topS 48) ["steps", "start", "goal"] f fd) (h_asked_of : Has P w K mg base "asked_of" 6 ["steps", "start", "goal"] sp_asked_of) (h_check_few : Has P w K mg base "check_few" 1 ["bound"] sp_check_few) (h_ways_from : Has P w K mg base "ways_from" 2 ["rows", "bound", "start", "goal"] sp_ways_from) : Has P w K mg base "closed_list" 7 ["steps", "start", "goal"] sp_closed_list := by
  refine D.has sc_closed_list (fun vs H Q E h => ?_) (fun cdv A outer s H vs Q E hr h => ?_)
  · obtain ⟨v, u, z, rows, B, s, t, rfl, _⟩ := h
    rfl
  · obtain ⟨v, u, z, rows, B, s, t, rfl, hv, gd, hu, hz, a1, a2, a3, a4, un, q⟩ := h
    refine ⟨_, (pss_cons (ps_asg (pe_has h_asked_of (hr.mono (by decide)) (by rfl) (pa_cons (pv 0) (pa_cons (pv 1) (pa_cons (pv 2) pa_nil)))) (pg_tup rfl (pgs_cons (pg_name (i := 3) sc_closed_list.nd rfl (.inl rfl)) (pgs_cons (pg_name (i := 4) sc_closed_list.nd rfl (.inl rfl)) (pgs_cons (pg_name (i := 5) sc_closed_list.nd rfl (.inl rfl)) (pgs_cons (pg_name (i := 6) sc_closed_list.nd rfl (.inl rfl)) pgs_nil))))))
      (pss_cons (ps_expr (pe_has h_check_few (hr.mono (by decide)) (by rfl) (pa_cons (pv 6) pa_nil)))
      (pss_cons (ps_set (i := 7) sc_closed_list.nd rfl (.inl rfl) (pe_has h_ways_from (hr.mono (by decide)) (by rfl) (pa_cons (pv 3) (pa_cons (pv 6) (pa_cons (pv 4) (pa_cons (pv 5) pa_nil))))))
      (pss_cons (ps_if (pt_cmp (pc_din (hu_of hr) (pv 5) (pv 7))) (pss_one ps_never) pss_nil)
      (pss_one (ps_ret (pe_callTy call_tuple_of (by rfl) T.tuple bt_tuple (pa_cons (pe_lc (own := [("number", 8)]) rfl sc_closed_list.nd (pi_list (pe_callB (call_sortedDI rfl) (by rfl) T.sorted bt_sorted (pa_cons (pv 7) pa_nil))) (blkOk_by (own := [("number", 8)]) (N := ["steps", "start", "goal", "rows", "near", "far", "bound", "ways", "number"]) (sc := defScope (topS 48)) (by decide +kernel)) (fun _ _ _ _ _ => (pg_name (i := 8) sc_closed_list.nd rfl (.inl rfl))) (fun _ _ _ _ _ => pts_nil) (fun _ _ _ _ _ => (pe_tup (pa_cons (pv 8) (pa_cons pe_int pa_nil))))) pa_nil)))))))), ?_⟩
    have gb := gds_b gd
    have gl := gds_len gd
    have m1 := bdOf_le gb.2 a3 a4
    have m0 := le_bdOf (B := B) (t := t)
    refine ⟨v, rfl, u, rfl, z, rfl, v, u, z, rows, B, s, t, rfl, hv, gd, hu, hz, by omega, by omega, by omega, by omega, fun G1 p zr s1 hp hr1 => ?_⟩
    generalize bdOf B t = M at *
    refine ⟨p, _, rfl, .of hp, rfl, zr, [.int s, .int t, .int M], rfl, .int s, [.int t, .int M], rfl, .int t, [.int M], rfl, .int M, [], rfl, rfl, ?_⟩
    refine ⟨.int M, rfl, M, rfl, by omega, ?_⟩
    refine ⟨zr, rfl, .int M, rfl, .int s, rfl, .int t, rfl, zr, rows, M, s, some t, rfl, hr1, by omega, m1, by omega, fun G2 d g s2 hw f1 f2 => ?_⟩
    have hw0 := hw
    obtain ⟨kvs, hd, ae⟩ := hw
    refine ⟨.int t, rfl, .ref d, rfl, d, _, rfl, DGet.k (k := .inl t) hd, _, rfl, ?_⟩
    rw [val_some (ent_keys ae)]
    have s3 := s1.trans s2
    have hc : ¬ t ∈ g.map (·.key) := by
      intro c
      have hs : (s.natAbs : Int) ≤ M := by
        refine Decidable.byContradiction fun e => ?_
        rw [f2 e] at c
        exact absurd c List.not_mem_nil
      obtain ⟨pl, bf, _⟩ := (f1 hs).ex
      obtain ⟨n, hn, hk⟩ := List.mem_map.mp c
      refine un ⟨hs, n.word, ?_⟩
      rw [← hk]
      exact bf.word' hn
    rw [decide_eq_false hc]
    have kn : (g.map (·.key)).Nodup ∧ g.length ≤ 41 ∧ ∀ x, x ∈ g.map (·.key) ↔ ((s.natAbs : Int) ≤ M ∧ ∃ w, Word rows M s w x) := by
      by_cases hs : (s.natAbs : Int) ≤ M
      · obtain ⟨pl, bf, hf⟩ := (f1 hs).ex
        have gl2 := bf.len (by omega)
        refine ⟨bf.nodup, by omega, fun x => ⟨fun hx => ⟨hs, ?_⟩, fun ⟨_, w, hx⟩ => ?_⟩⟩
        · obtain ⟨n, hn, hk⟩ := List.mem_map.mp hx
          exact ⟨n.word, hk ▸ bf.word' hn⟩
        · rcases hf with hf | ⟨t2, e1, e2⟩
          · exact bf.all hf hx bf.root_mem
          · cases e1
            exact absurd e2 hc
      · rw [f2 hs]
        exact ⟨List.nodup_nil, by decide, fun x => ⟨fun hx => absurd hx List.not_mem_nil, fun hx => absurd hx.1 hs⟩⟩
    obtain ⟨kn1, kn2, kn3⟩ := kn
    refine iteF ⟨.ref d, rfl, d, kvs, g.map (·.key), rfl, .inl hd, ent_keys ae, by rw [List.length_map]; omega, fun ys l pm pw nl => ?_⟩
    have sl := same_new (o := .lst (ys.map V.int)) nl
    have hl : (upd G2 l (.lst (ys.map V.int))) l = some (.lst (ys.map V.int)) := upd_same
    have s4 := s3.trans sl
    generalize upd G2 l (.lst (ys.map V.int)) = G3 at *
    have yl : ys.length ≤ 41 := by
      have := pm.length_eq
      rw [List.length_map] at this
      omega
    refine ⟨l, rfl, ⟨_, .of hl⟩, fun E nE => ?_⟩
    refine lc_it walk_list (fun i J => Same G3 J ∧ ∃ us : List V, J E = some (.lst us) ∧ Al (Pr J) us (ys.take i)) ⟨same_new nE, [], upd_same, Al.nil⟩ (fun i J _ pp => .of (pp.1 _ _ hl)) (fun i x J J2 hi pp y => ?_) (fun J pp => ?_)
    · obtain ⟨rfl, hx⟩ := y
      obtain ⟨t1, us, t2, t3⟩ := pp
      rw [List.getElem?_map] at hx
      obtain ⟨n, hn, rfl⟩ := Option.map_eq_some_iff.mp hx
      refine ⟨rfl, .int n, rfl, by show 2 ≤ sizeLine; decide, fun r nr => ?_⟩
      have sr := same_new (o := .tup [.int n, .int 1]) nr
      have neE : r ≠ E := fun e => by
        rw [e, t2] at nr
        cases nr
      refine ⟨_, sr _ _ t2, ?_, same_put (t1.trans sr) nE, us ++ [.ref r], upd_same, ?_⟩
      · rw [t3.len, List.length_take]
        exact Nat.lt_of_le_of_lt (Nat.min_le_right _ _) (small1000 (by omega))
      · rw [List.take_add_one, hn]
        have tk : Tk J2 (upd (upd J2 r (.tup [.int n, .int 1])) E (.lst (us ++ [.ref r]))) := fun a xs ha => by
          rw [upd_ne (ne_of ha t2 (by intro z; cases z))]
          exact sr _ _ ha
        refine (t3.mono fun x y h => h.tk tk).snoc ⟨r, rfl, ?_⟩
        rw [upd_ne neE, upd_same]
    · obtain ⟨t1, us, t2, t3⟩ := pp
      rw [List.length_map, List.take_length] at t3
      refine ⟨E, us, rfl, .inl ⟨.of t2, fun r nr => ?_⟩⟩
      have sr := same_new (o := .tup us) nr
      refine q _ (.ref r) ys ((s4.trans t1).trans sr) ⟨r, us, rfl, upd_same, t3.mono fun x y h => h.tk (tk_of sr)⟩ (pm.nodup_iff.mpr kn1) pw fun x => ?_
      rw [pm.mem_iff]
      exact kn3 x
theorem ok_is_list_within (T : Txt mg) {f : Addr} {fd : FuncData} (D : Df K mg "is_list_within" (topS 49) ["value", "bound"] f fd) (h_is_from : Has P w K mg base "is_from" 1 ["value", "low", "high"] sp_is_from) : Has P w K mg base "is_list_within" 2 ["value", "bound"] sp_is_list_within := by
  refine D.has sc_is_list_within (fun vs H Q E h => ?_) (fun cdv A outer s H vs Q E hr h => ?_)
  · obtain ⟨v, ns, b, rfl, _⟩ := h
    rfl
  · obtain ⟨v, ns, b, rfl, ⟨a, vs, rfl, ha, al⟩, hne, hlen, b1, b2, hb, hpw, q⟩ := h
    refine ⟨_, (pss_cons (ps_if (pt_not (pt_val (pe_callB call_isi (by rfl) T.isinstance bt_isi (pa_cons (pv 0) (pa_cons (pe_bltn (v := .ty "tuple") (by rfl) T.tuple bt_tuple rfl) pa_nil))))) (pss_one (ps_ret pe_bl)) pss_nil)
      (pss_cons (ps_for PassesOwn.never rfl (pi_tup (pv 0)) (pg_name (i := 2) sc_is_list_within.nd rfl (.inl rfl)) (pss_cons (ps_if (PW.pt (pw_or (pt_not (pt_val (pe_callB call_isi (by rfl) T.isinstance bt_isi (pa_cons (pv 2) (pa_cons (pe_bltn (v := .ty "tuple") (by rfl) T.tuple bt_tuple rfl) pa_nil))))) (pw_or (pt_cmpR op_ne (pe_callB call_len_seq (by rfl) T.len bt_len (pa_cons (pv 2) pa_nil)) pe_int (nomark _)) (pw_or1 (pt_not (pt_val (pe_has h_is_from (hr.mono (by decide)) (by rfl) (pa_cons (pe_ix ix_tup (pv 2) pe_int (fun _ _ => rfl)) (pa_cons (pe_un un_neg (pv 1)) (pa_cons (pv 1) pa_nil)))))))))) (pss_one (ps_ret pe_bl)) pss_nil)
      (pss_one (ps_if (pt_not (pt_val (pe_has h_is_from (hr.mono (by decide)) (by rfl) (pa_cons (pe_ix ix_tup (pv 2) pe_int (fun _ _ => rfl)) (pa_cons pe_int (pa_cons pe_int pa_nil)))))) (pss_one (ps_ret pe_bl)) pss_nil))))
      (pss_one (ps_ret (pe_cmpR op_eq (pe_callB call_len_seq (by rfl) T.len bt_len (pa_cons (pe_lc (own := [("near", 3), ("far", 4)]) rfl sc_is_list_within.nd (RZ.pi_zipA (by rfl) T.zip (pa_cons (pv 0) (pa_cons (pe_slice sl_tupA (pv 0) (po_some pe_int) po_none) pa_nil))) (blkOk_by (own := [("near", 3), ("far", 4)]) (N := ["value", "bound", "number", "near", "far"]) (sc := defScope (topS 49)) (by decide +kernel)) (fun _ _ _ _ _ => (show PG _ _ (gTup K 2 _) from pg_tup rfl (pgs_cons (pg_name (i := 3) sc_is_list_within.nd rfl (.inl rfl)) (pgs_cons (pg_name (i := 4) sc_is_list_within.nd rfl (.inl rfl)) pgs_nil)))) (fun _ _ _ _ _ => (pts_one (pt_cmpR (show OpR _ (compareOp .GtE) (rGeP K) from op_geP hr.units0) (pv 3) (pv 4) (nomark _)))) (fun _ _ _ _ _ => pe_int)) pa_nil)) pe_int (nomark _)))))), ?_⟩
    refine ⟨.ref a, rfl, .ref a, .ty "tuple", .type "tuple", .type "tuple", true, rfl, .ty _, .base (.tup ha), kt_tup_tup, true, rfl, iteF ?_⟩
    refine ⟨.ref a, rfl, a, rfl, ⟨vs, .of ha⟩, for_it walk_tup (fun i σ G => G = H ∧ ∃ z, σ = [some (.ref a), some (.int b), z, none, none]) ⟨rfl, _, rfl⟩ (fun i σ G _ p => by obtain ⟨rfl, _⟩ := p; exact .of ha) (fun i x σ J J2 hi p y => ?_) (fun σ G p => ?_)⟩
    · obtain ⟨rfl, hx⟩ := y
      obtain ⟨rfl, z, rfl⟩ := p
      obtain ⟨n, hn, ap, rfl, hp⟩ := al.of hx
      have sq : SqT K J2 ap [.int n, .int 1] := .of hp
      have nb := hb n (List.mem_of_getElem? hn)
      refine ⟨.ref ap, rfl, .ref ap, .ty "tuple", .type "tuple", .type "tuple", true, rfl, .ty _, .base (.tup hp), kt_tup_tup, true, rfl, iteF ?_⟩
      refine ⟨.ref ap, rfl, ap, _, rfl, .inr sq, rfl, false, rfl, iteF ?_⟩
      refine ⟨.ref ap, rfl, ap, _, 0, .int n, rfl, rfl, sq, atI_nat (j := 0) rfl, .int b, rfl, b, rfl, .int b, rfl, n, -b, b, rfl, ?_⟩
      rw [decide_eq_true (show -b ≤ n by omega), decide_eq_true (show n ≤ b by omega)]
      refine ⟨true, rfl, iteF ?_⟩
      refine ⟨.ref ap, rfl, ap, _, 1, .int 1, rfl, rfl, sq, atI_nat (j := 1) rfl, 1, 1, 1, rfl, true, rfl, iteF ⟨rfl, _, rfl⟩⟩
    · obtain ⟨rfl, z, rfl⟩ := p
      have hl : 0 < vs.length := by
        rw [al.len]
        exact List.length_pos_iff.mpr hne
      refine ⟨.ref a, rfl, .ref a, rfl, 1, rfl, a, vs, rfl, .of ha, fun e => absurd e.1 (by rw [show (some (1 : Int)) = some ((1 : Nat) : Int) from rfl, HT.sIx_nat]; omega), fun _ c nc => ?_⟩
      rw [show (some (1 : Int)) = some ((1 : Nat) : Int) from rfl, cut_from (by omega)]
      have sc := same_new (o := .tup (vs.drop 1)) nc
      have hc : (upd G c (.tup (vs.drop 1))) c = some (.tup (vs.drop 1)) := upd_same
      generalize upd G c (.tup (vs.drop 1)) = G2 at *
      refine ⟨a, c, vs, vs.drop 1, rfl, .inr ⟨.of (sc _ _ ha), .of hc, fun Dl nD => ?_⟩⟩
      refine lc_it (walk_zipT rfl) (fun i J => Same G2 J ∧ J Dl = some (.lst [])) ⟨same_new nD, upd_same⟩ (fun i J _ pp => ⟨.of (pp.1 _ _ (sc _ _ ha)), .of (pp.1 _ _ hc)⟩) (fun i x J J2 hi pp y => ?_) (fun J pp => ?_)
      · obtain ⟨Tp, x1, x2, rfl, nT, rfl, e1, e2⟩ := y
        have e2 : (vs.drop 1)[i]? = some x2 := e2
        rw [List.getElem?_drop] at e2
        obtain ⟨n1, hn1, p1, rfl, hp1⟩ := al.of e1
        obtain ⟨n2, hn2, p2, rfl, hp2⟩ := al.of e2
        have sT := same_new (o := .tup [.ref p1, .ref p2]) nT
        have s2 := (sc.trans pp.1).trans sT
        refine ⟨Tp, _, rfl, .of upd_same, rfl, .ref p1, [.ref p2], rfl, .ref p2, [], rfl, rfl, rfl, ?_⟩
        refine ⟨.ref p1, rfl, .ref p2, rfl, p1, p2, n1, 1, n2, 1, rfl, rfl, .of (s2 _ _ hp1), .of (s2 _ _ hp2), _, rfl, ?_⟩
        have lt : n1 < n2 := by
          have h1 := (List.getElem?_eq_some_iff.mp hn1)
          have h2 := (List.getElem?_eq_some_iff.mp hn2)
          obtain ⟨l1, g1⟩ := h1
          obtain ⟨l2, g2⟩ := h2
          rw [← g1, ← g2]
          exact List.pairwise_iff_getElem.mp hpw i (1 + i) l1 l2 (by omega)
        rw [if_neg (by omega), decide_eq_false (by omega)]
        exact iteF ⟨pp.1.trans sT, sT _ _ pp.2⟩
      · obtain ⟨t1, t2⟩ := pp
        refine ⟨Dl, [], rfl, .inl (.of t2), ?_⟩
        exact ⟨rfl, q J (sc.trans t1)⟩
theorem ok_is_closed (T : Txt mg) {f : Addr} {fd : FuncData} (D : Df K mg "is_closed" (topS 50) ["steps", "start", "goal", "value"] f fd) (h_asked_of : Has P w K mg base "asked_of" 6 ["steps", "start", "goal"] sp_asked_of) (h_check_few : Has P w K mg base "check_few" 1 ["bound"] sp_check_few) (h_is_list_within : Has P w K mg base "is_list_within" 2 ["value", "bound"] sp_is_list_within) (h_led : Has P w K mg base "led" 1 ["numbers", "here"] sp_led) : Has P w K mg base "is_closed" 7 ["steps", "start", "goal", "value"] sp_is_closed := by
  refine D.has sc_is_closed (fun vs H Q E h => ?_) (fun cdv A outer s H vs Q E hr h => ?_)
  · obtain ⟨v, u, z, l, rows, B, s, t, ns, rfl, _⟩ := h
    rfl
  · obtain ⟨v, u, z, l, rows, B, s, t, ns, rfl, hv, gd, hu, hz, hs, ht, hl, nl, nb, npw, sm, clo, q⟩ := h
    refine ⟨_, (pss_cons (ps_asg (pe_has h_asked_of (hr.mono (by decide)) (by rfl) (pa_cons (pv 0) (pa_cons (pv 1) (pa_cons (pv 2) pa_nil)))) (pg_tup rfl (pgs_cons (pg_name (i := 4) sc_is_closed.nd rfl (.inl rfl)) (pgs_cons (pg_name (i := 5) sc_is_closed.nd rfl (.inl rfl)) (pgs_cons (pg_name (i := 6) sc_is_closed.nd rfl (.inl rfl)) (pgs_cons (pg_name (i := 7) sc_is_closed.nd rfl (.inr rfl)) pgs_nil))))))
      (pss_cons (ps_expr (pe_has h_check_few (hr.mono (by decide)) (by rfl) (pa_cons (pv 7) pa_nil)))
      (pss_cons (ps_if (pt_not (pt_val (pe_has h_is_list_within (hr.mono (by decide)) (by rfl) (pa_cons (pv 3) (pa_cons (pv 7) pa_nil))))) (pss_one (ps_ret pe_bl)) pss_nil)
      (pss_cons (ps_set (i := 8) sc_is_closed.nd rfl (.inr rfl) pe_dnewK)
      (pss_cons (ps_for PassesOwn.never rfl (pi_tup (pv 3)) (pg_name (i := 9) sc_is_closed.nd rfl (.inl rfl)) (pss_one (ps_dput (hu_of hr) (pv 8) (pe_ix ix_tup (pv 9) pe_int (fun _ _ => rfl)) pe_bl rfl)))
      (pss_cons (ps_if (PW.pt (pw_or (pt_cmp (pc_din (hu_of hr) (pv 6) (pv 8))) (pw_or1 (PW.pt (pw_and (pt_cmpR op_le (pe_callB call_abs (by rfl) T.abs bt_abs (pa_cons (pv 5) pa_nil)) (pv 7) (nomark _)) (pw_and1 (pt_cmp (pc_dnotin (hu_of hr) (pv 5) (pv 8))))))))) (pss_one (ps_ret pe_bl)) pss_nil)
      (pss_cons (ps_lock (ps_for PassesOwn.never rfl (pi_keys (pv 8)) (pg_name (i := 10) sc_is_closed.nd rfl (.inr rfl)) (pss_one (ps_if (pt_cmpR (op_neD hr.units) (pe_lc (own := [("row", 11)]) rfl sc_is_closed.nd (pi_list (pv 4)) (blkOk_by (own := [("row", 11)]) (N := ["steps", "start", "goal", "value", "rows", "near", "far", "bound", "held", "number", "here", "row"]) (sc := defScope (topS 50)) (by decide +kernel)) (fun _ _ _ _ _ => (pg_name (i := 11) sc_is_closed.nd rfl (.inl rfl))) (fun _ _ _ _ _ => (pts_one (PW.pt (pw_and (pt_cmpR op_le (pe_callB call_abs (by rfl) T.abs bt_abs (pa_cons (pe_has h_led (hr.mono (by decide)) (by rfl) (pa_cons (pv 11) (pa_cons (pv 10) pa_nil))) pa_nil)) (pv 7) (nomark _)) (pw_and1 (pt_cmp (pc_dnotin (hu_of hr) (pe_has h_led (hr.mono (by decide)) (by rfl) (pa_cons (pv 11) (pa_cons (pv 10) pa_nil))) (pv 8)))))))) (fun _ _ _ _ _ => pe_int)) (pe_lst pa_nil) (nomark _)) (pss_one (ps_ret pe_bl)) pss_nil))))
      (pss_one (ps_ret (pe_or (pe_cmpR op_le (pe_callB call_abs (by rfl) T.abs bt_abs (pa_cons (pv 5) pa_nil)) (pv 7) (nomark _)) (pe_one (pe_cmpR op_ne (pv 5) (pv 6) (nomark _))))))))))))), ?_⟩
    have gb := gds_b gd
    have gl := gds_len gd
    refine ⟨v, rfl, u, rfl, z, rfl, v, u, z, rows, B, s, t, rfl, hv, gd, hu, hz, by omega, by omega, by omega, by omega, fun G1 p zr s1 hp hr1 => ?_⟩
    rw [bdOf_in ht] at hp
    refine ⟨p, _, rfl, .of hp, rfl, zr, [.int s, .int t, .int B], rfl, .int s, [.int t, .int B], rfl, .int t, [.int B], rfl, .int B, [], rfl, rfl, ?_⟩
    refine ⟨.int B, rfl, B, rfl, by omega, ?_⟩
    refine ⟨l, rfl, .int B, rfl, l, ns, B, rfl, hl.tk (tk_of s1), fun e => by rw [e] at sm; exact absurd sm List.not_mem_nil, nl, by omega, by omega, nb, npw, fun G2 s2 => ⟨true, rfl, iteF ?_⟩⟩
    intro d nd
    have s3 := s1.trans s2
    obtain ⟨a, vs, rfl, ha, al⟩ := hl
    have ha2 := s3 _ _ ha
    have hnn : ns.Nodup := npw.imp fun h e => by omega
    refine ⟨.ref a, rfl, a, rfl, ⟨vs, .of (same_new nd _ _ ha2)⟩, for_it walk_tup (fun i σ J => Same G2 J ∧ ∃ kvs, J d = some (.dK kvs) ∧ kvs.map (·.1) = (ns.take i).map Sum.inl ∧ ∃ z9, σ = [some v, some u, some z, some (.ref a), some zr, some (.int s), some (.int t), some (.int B), some (.ref d), z9, none, none]) ⟨same_new nd, [], upd_same, rfl, _, rfl⟩ (fun i σ J _ pp => .of (pp.1 _ _ ha2)) (fun i x σ J J2 hi pp y => ?_) (fun σ J pp => ?_)⟩
    · obtain ⟨rfl, hx⟩ := y
      obtain ⟨t1, kvs, hd, hk, z9, rfl⟩ := pp
      obtain ⟨n, hn, ap, rfl, hap⟩ := al.of hx
      have il := (List.getElem?_eq_some_iff.mp hn).1
      have hnt : ¬ n ∈ ns.take i := by
        intro hm
        obtain ⟨j, hj, e⟩ := List.getElem_of_mem hm
        have hj2 : (ns.take i)[j]? = some n := by rw [List.getElem?_eq_getElem hj, e]
        rw [List.getElem?_take] at hj2
        split at hj2
        · rename_i hji
          have := getElem?_inj_of_nodup hnn hj2 hn
          omega
        · cases hj2
      have kl : kvs.length = i := by
        have := congrArg List.length hk
        rw [List.length_map, List.length_map, List.length_take] at this
        omega
      refine ⟨.ref d, rfl, .ref ap, rfl, ap, _, 0, .int n, rfl, rfl, .of (t1 _ _ (s3 _ _ hap)), atI_nat (j := 0) rfl, d, _, rfl, DPut.k (k := .inl n) hd (small1000 (by omega)), ?_⟩
      rw [putK_new _ (val_none hk hnt)]
      refine ⟨same_put t1 nd, _, upd_same, ?_, _, rfl⟩
      rw [List.map_append, hk, List.take_add_one, hn, List.map_append]
      rfl
    · obtain ⟨t1, kvs, hd, hk, z9, rfl⟩ := pp
      rw [al.len, List.take_length] at hk
      have s4 := s3.trans t1
      refine ⟨.int t, rfl, .ref d, rfl, d, _, rfl, DGet.k (k := .inl t) hd, _, rfl, ?_⟩
      rw [val_some hk]
      by_cases c : t ∈ ns
      · rw [decide_eq_true c]
        have := q J s4
        rw [decide_eq_true c] at this
        exact iteT (iteT this)
      · have q := fun J s4 => q J s4
        rw [decide_eq_false c] at q
        rw [decide_eq_false c]
        refine iteF ⟨.int s, rfl, _, rfl, .int B, rfl, _, B, rfl, rfl, _, rfl, ?_⟩
        rw [abs_nat, decide_eq_true hs]
        refine iteT ⟨.int s, rfl, .ref d, rfl, d, _, rfl, DGet.k (k := .inl s) hd, _, rfl, ?_⟩
        rw [val_some hk, decide_eq_true sm]
        refine iteF ⟨d, .dK kvs, hd, trivial, fun od => ?_⟩
        have hf : (upd J d (.frz od (.dK kvs))) d = some (.frz od (.dK kvs)) := upd_same
        have sf : Same G2 (upd J d (.frz od (.dK kvs))) := same_put t1 nd
        generalize upd J d (.frz od (.dK kvs)) = J0 at *
        refine ⟨.ref d, rfl, d, od, rfl, .inl ⟨kvs, hf, for_it walk_keys (fun i σ J => Same J0 J ∧ ∃ z10, σ = [some v, some u, some z, some (.ref a), some zr, some (.int s), some (.int t), some (.int B), some (.ref d), z9, z10, none]) ⟨Same.refl _, _, rfl⟩ (fun i σ J _ pp => pp.1 _ _ hf) (fun i x σ J J2 hi pp y => ?_) (fun σ J pp => ?_)⟩⟩
        · obtain ⟨rfl, k, x2, hk2, rfl⟩ := y
          obtain ⟨u1, z10, rfl⟩ := pp
          have hkk : (kvs.map (·.1))[i]? = some k := by
            rw [List.getElem?_map, hk2]
            rfl
          rw [hk, List.getElem?_map] at hkk
          obtain ⟨n, hn, rfl⟩ := Option.map_eq_some_iff.mp hkk
          have hnm := List.mem_of_getElem? hn
          have nbn := nb n hnm
          obtain ⟨ra, rv, rfl, hra, alr⟩ := hr1.same (s2.trans (sf.trans u1))
          refine ⟨.ref ra, rfl, ra, rfl, ⟨_, .of hra⟩, fun Dl nD => ?_⟩
          refine lc_it walk_list (fun i J => Same J2 J ∧ J Dl = some (.lst [])) ⟨same_new nD, upd_same⟩ (fun i J _ pp => .of (pp.1 _ _ hra)) (fun i x J J3 hi pp y => ?_) (fun J pp => ?_)
          · obtain ⟨rfl, hx⟩ := y
            obtain ⟨row, hrow, lr, rfl, hlr⟩ := alr.of hx
            have hlr3 := pp.1 _ _ hlr
            refine ⟨rfl, .ref lr, rfl, .int n, rfl, .ref lr, row, n, rfl, ⟨lr, rfl, hlr3⟩, by omega, by omega, _, rfl, .int B, rfl, _, B, rfl, rfl, _, rfl, ?_⟩
            rw [abs_nat]
            by_cases cb : ((ledI row n).natAbs : Int) ≤ B
            · rw [decide_eq_true cb]
              refine iteT ⟨.ref lr, rfl, .int n, rfl, .ref lr, row, n, rfl, ⟨lr, rfl, hlr3⟩, by omega, by omega, .ref d, rfl, d, _, rfl, .inl ⟨kvs, .inl (ledI row n), .inr ⟨od, pp.1 _ _ (u1 _ _ hf)⟩, rfl, rfl⟩, _, rfl, ?_⟩
              rw [val_some hk, decide_eq_true (clo n hnm row (List.mem_of_getElem? hrow) cb)]
              exact iteF pp
            · rw [decide_eq_false cb]
              exact iteF (iteF pp)
          · obtain ⟨t1', t2⟩ := pp
            refine ⟨Nat.zero_le _, fun e ne => ?_⟩
            have s5 := t1'.trans (same_new (o := .lst []) ne)
            refine ⟨.list [], .list [], .lst (.of (same_new ne _ _ t2)) .nil, .lst (.of upd_same) .nil, ints_shapedL [], ints_shapedL [], _, rfl, iteF ?_⟩
            exact ⟨u1.trans s5, _, rfl⟩
        · obtain ⟨u1, z10, rfl⟩ := pp
          refine ⟨u1 _ _ hf, ?_⟩
          refine ⟨.int s, rfl, _, rfl, .int B, rfl, _, B, rfl, rfl, ?_⟩
          rw [abs_nat]
          refine ⟨true, congrArg V.bl (decide_eq_true hs), ?_⟩
          rw [if_pos rfl]
          exact q _ (s3.trans (same_put (sf.trans u1) nd))
theorem ok_round_from (T : Txt mg) {f : Addr} {fd : FuncData} (D : Df K mg "round_from" (topS 51) ["rows", "bound", "start"] f fd) (h_led : Has P w K mg base "led" 1 ["numbers", "here"] sp_led) (h_ways_from : Has P w K mg base "ways_from" 2 ["rows", "bound", "start", "goal"] sp_ways_from) (h_word_to : Has P w K mg base "word_to" 1 ["ways", "goal"] sp_word_to) : Has P w K mg base "round_from" 3 ["rows", "bound", "start"] sp_round_from := by
  refine D.has sc_round_from (fun vs H Q E h => ?_) (fun cdv A outer s H vs Q E hr h => ?_)
  · obtain ⟨v, rows, M, x, rfl, _⟩ := h
    rfl
  · obtain ⟨v, rows, M, x, rfl, ⟨ra, rv, rfl, hra, al⟩, m0, m1, r3, x1, x2, q⟩ := h
    refine ⟨_, (pss_cons (ps_for PassesOwn.never rfl (pi_enum (by rfl) T.enumerate (pa_cons (pv 0) pa_nil)) (pg_tup rfl (pgs_cons (pg_name (i := 3) sc_round_from.nd rfl (.inl rfl)) (pgs_cons (pg_name (i := 4) sc_round_from.nd rfl (.inl rfl)) pgs_nil))) (pss_cons (ps_set (i := 5) sc_round_from.nd rfl (.inl rfl) (pe_has h_led (hr.mono (by decide)) (by rfl) (pa_cons (pv 4) (pa_cons (pv 2) pa_nil))))
      (pss_one (ps_if (pt_cmpR op_le (pe_callB call_abs (by rfl) T.abs bt_abs (pa_cons (pv 5) pa_nil)) (pv 1) (nomark _)) (pss_cons (ps_set (i := 6) sc_round_from.nd rfl (.inl rfl) (pe_has h_ways_from (hr.mono (by decide)) (by rfl) (pa_cons (pv 0) (pa_cons (pv 1) (pa_cons (pv 5) (pa_cons (pv 2) pa_nil))))))
      (pss_one (ps_if (pt_cmp (pc_din (hu_of hr) (pv 2) (pv 6))) (pss_one (ps_ret (pe_op op_catA (pe_tup (pa_cons (pv 3) pa_nil)) (pe_has h_word_to (hr.mono (by decide)) (by rfl) (pa_cons (pv 6) (pa_cons (pv 2) pa_nil)))))) pss_nil))) pss_nil))))
      (pss_one (ps_ret pe_non))), ?_⟩
    refine ⟨.ref ra, rfl, ra, rv, rfl, .of hra, for_it walk_enum (fun i σ J => Same H J ∧ (∀ j, j < i → ∀ u, ¬ Word rows M x (j :: u) x) ∧ ∃ z3 z4 z5 z6, σ = [some (.ref ra), some (.int M), some (.int x), z3, z4, z5, z6]) ⟨Same.refl _, fun j hj => absurd hj (Nat.not_lt_zero _), _, _, _, _, rfl⟩ (fun i σ J _ pp => .of (pp.1 _ _ hra)) (fun i y σ J J2 hi pp yy => ?_) (fun σ J pp => ?_)⟩
    · obtain ⟨t1, no, z3, z4, z5, z6, rfl⟩ := pp
      obtain ⟨Tp, y1, y2, rfl, nT, rfl, e1, e2⟩ := yy
      cases e1
      obtain ⟨row, hrow, lr, rfl, hlr⟩ := al.of e2
      have sT := same_new (o := .tup [.int (i : Nat), .ref lr]) nT
      have s3 := t1.trans sT
      refine ⟨Tp, _, rfl, .of upd_same, rfl, .int (i : Nat), [.ref lr], rfl, .ref lr, [], rfl, rfl, ?_⟩
      generalize upd J Tp (.tup [.int (i : Nat), .ref lr]) = J3 at *
      refine ⟨.ref lr, rfl, .int x, rfl, .ref lr, row, x, rfl, ⟨lr, rfl, s3 _ _ hlr⟩, by omega, by omega, ?_⟩
      refine ⟨.int (ledI row x), rfl, _, rfl, .int M, rfl, _, M, rfl, rfl, _, rfl, ?_⟩
      rw [abs_nat]
      have go : (∀ u, ¬ Word rows M x (i :: u) x) → ∀ j, j < i + 1 → ∀ u, ¬ Word rows M x (j :: u) x := by
        intro g j hj
        by_cases e : j = i
        · subst e
          exact g
        · exact no j (by omega)
      by_cases cb : ((ledI row x).natAbs : Int) ≤ M
      · rw [decide_eq_true cb]
        refine iteT ⟨.ref ra, rfl, .int M, rfl, .int (ledI row x), rfl, .int x, rfl, .ref ra, rows, M, ledI row x, some x, rfl, ⟨ra, rv, rfl, s3 _ _ hra, al.mono fun a b h => h.same s3⟩, m0, m1, r3, fun G2 d g s4 hw f1 _ => ?_⟩
        have fd := f1 cb
        have s5 := s3.trans s4
        have hw0 := hw
        obtain ⟨kvs, hd, ae⟩ := hw
        refine ⟨.int x, rfl, .ref d, rfl, d, _, rfl, DGet.k (k := .inl x) hd, _, rfl, ?_⟩
        rw [val_some (ent_keys ae)]
        by_cases c : x ∈ g.map (·.key)
        · rw [decide_eq_true c]
          obtain ⟨pl, bf, _⟩ := fd.ex
          obtain ⟨n, hn, hk⟩ := List.mem_map.mp c
          have gl2 := bf.len m0
          have wn := bf.word' hn
          rw [hk] at wn
          have ww : ∃ w, w ≠ [] ∧ Word rows M x w x := ⟨i :: n.word, List.cons_ne_nil _ _, .cons hrow rfl cb wn⟩
          refine iteT ⟨.int (i : Nat), rfl, by show 1 ≤ sizeLine; decide, fun t nt => ?_⟩
          have st := same_new (o := .tup [.int (i : Nat)]) nt
          have ht : (upd G2 t (.tup [.int (i : Nat)])) t = some (.tup [.int (i : Nat)]) := upd_same
          generalize upd G2 t (.tup [.int (i : Nat)]) = G3 at *
          have wl : n.word.length ≤ 100 := by
            obtain ⟨j, hj, ej⟩ := List.getElem_of_mem hn
            have := Bf.wlen bf j j n (Nat.le_refl _) (by rw [List.getElem?_eq_getElem hj, ej])
            omega
          refine ⟨.ref d, rfl, .int x, rfl, d, rows, M, ledI row x, x, g, pl, n, rfl, hw0.same st, bf, hn, hk, by omega, fun G4 p s6 hp => ?_⟩
          have s7 := (s5.trans st).trans s6
          refine ⟨t, p, _, _, rfl, rfl, .of (s6 _ _ ht), .of hp, ?_, fun e => absurd e (List.cons_ne_nil _ _), fun _ _ => q _ _ s7 (.inr ⟨⟨_, rfl⟩, ww⟩), fun _ _ r nr => q _ _ (s7.trans (same_new nr)) (.inr ⟨⟨_, rfl⟩, ww⟩)⟩
          rw [List.length_map, List.length_singleton]
          exact Nat.le_of_lt (small1000 (by omega))
        · rw [decide_eq_false c]
          refine iteF ⟨s5, go fun u hu => ?_, _, _, _, _, rfl⟩
          cases hu with
          | cons hr hy hb h =>
            rw [hrow] at hr
            cases hr
            subst hy
            exact c (fd.mem h)
      · rw [decide_eq_false cb]
        refine iteF ⟨s3, go fun u hu => ?_, _, _, _, _, rfl⟩
        cases hu with
        | cons hr hy hb h =>
          rw [hrow] at hr
          cases hr
          subst hy
          exact cb hb
    · obtain ⟨t1, no, z3, z4, z5, z6, rfl⟩ := pp
      refine q _ _ t1 (.inl ⟨rfl, fun ⟨w, hw, h⟩ => ?_⟩)
      cases h with
      | nil => exact hw rfl
      | cons hr hy hb h =>
        rename_i i row u
        have hi := (List.getElem?_eq_some_iff.mp hr).1
        exact no i (by rw [al.len]; exact hi) u (.cons hr hy hb h)
theorem ok_stays (T : Txt mg) {f : Addr} {fd : FuncData} (D : Df K mg "stays" (topS 52) ["steps", "start"] f fd) (h_need_choices : Has P w K mg base "need_choices" 5 ["steps"] sp_need_choices) (h_need_whole : Has P w K mg base "need_whole" 4 ["number"] sp_need_whole) (h_bound_of : Has P w K mg base "bound_of" 3 ["steps"] sp_bound_of) (h_check_few : Has P w K mg base "check_few" 1 ["bound"] sp_check_few) (h_whole_numbers : Has P w K mg base "whole_numbers" 1 ["steps"] sp_whole_numbers) (h_ways_from : Has P w K mg base "ways_from" 2 ["rows", "bound", "start", "goal"] sp_ways_from) (h_round_from : Has P w K mg base "round_from" 3 ["rows", "bound", "start"] sp_round_from) (h_word_to : Has P w K mg base "word_to" 1 ["ways", "goal"] sp_word_to) : Has P w K mg base "stays" 6 ["steps", "start"] sp_stays := by
  refine D.has sc_stays (fun vs H Q E h => ?_) (fun cdv A outer s H vs Q E hr h => ?_)
  · obtain ⟨v, u, rows, B, s, rfl, _⟩ := h
    rfl
  · obtain ⟨v, u, rows, B, s, rfl, hv, gd, hu, a1, a2, q⟩ := h
    refine ⟨_, (pss_cons (ps_expr (pe_has h_need_choices (hr.mono (by decide)) (by rfl) (pa_cons (pv 0) pa_nil)))
      (pss_cons (ps_set (i := 2) sc_stays.nd rfl (.inl rfl) (pe_has h_need_whole (hr.mono (by decide)) (by rfl) (pa_cons (pv 1) pa_nil)))
      (pss_cons (ps_set (i := 3) sc_stays.nd rfl (.inl rfl) (pe_has h_bound_of (hr.mono (by decide)) (by rfl) (pa_cons (pv 0) pa_nil)))
      (pss_cons (ps_expr (pe_has h_check_few (hr.mono (by decide)) (by rfl) (pa_cons (pv 3) pa_nil)))
      (pss_cons (ps_set (i := 4) sc_stays.nd rfl (.inl rfl) (pe_has h_whole_numbers (hr.mono (by decide)) (by rfl) (pa_cons (pv 0) pa_nil)))
      (pss_cons (ps_set (i := 5) sc_stays.nd rfl (.inl rfl) (pe_has h_ways_from (hr.mono (by decide)) (by rfl) (pa_cons (pv 4) (pa_cons (pv 3) (pa_cons (pv 2) (pa_cons pe_non pa_nil))))))
      (pss_cons (ps_for PassesOwn.never rfl (pi_list (pe_callTy (call_listD rfl) (by rfl) T.list bt_list (pa_cons (pv 5) pa_nil))) (pg_name (i := 6) sc_stays.nd rfl (.inl rfl)) (pss_cons (ps_set (i := 7) sc_stays.nd rfl (.inl rfl) (pe_has h_round_from (hr.mono (by decide)) (by rfl) (pa_cons (pv 4) (pa_cons (pv 3) (pa_cons (pv 6) pa_nil)))))
      (pss_one (ps_if (pt_cmpR op_notN (pv 7) pe_non (nomark _)) (pss_one (ps_ret (pe_tup (pa_cons (pe_has h_word_to (hr.mono (by decide)) (by rfl) (pa_cons (pv 5) (pa_cons (pv 6) pa_nil))) (pa_cons (pv 7) pa_nil))))) pss_nil))))
      (pss_one (ps_ret pe_non))))))))), ?_⟩
    have gb := gds_b gd
    have gl := gds_len gd
    refine ⟨v, rfl, v, rows, B, rfl, hv, gd, fun G1 s1 => ?_⟩
    refine ⟨u, rfl, u, s, rfl, hu.tk (tk_of s1), by omega, by omega, ?_⟩
    refine ⟨v, rfl, v, rows, B, rfl, hv.tk (tk_of s1), gd, fun G2 s2 => ?_⟩
    refine ⟨.int B, rfl, B, rfl, by omega, ?_⟩
    refine ⟨v, rfl, v, rows, B, rfl, hv.tk (tk_of (s1.trans s2)), gd, fun G3 zr s3 hr1 => ?_⟩
    refine ⟨zr, rfl, .int B, rfl, .int s, rfl, zr, rows, B, s, none, rfl, hr1, by omega, by omega, by omega, fun G4 d g s4 hw f1 f2 => ?_⟩
    have s5 := ((s1.trans s2).trans s3).trans s4
    have hw0 := hw
    obtain ⟨kvs, hd, ae⟩ := hw
    refine ⟨.ref d, rfl, d, kvs, rfl, .inl hd, fun l nl => ?_⟩
    have hks := ent_keys ae
    have e0 : kvs.map (fun kv => kV kv.1) = (g.map (·.key)).map V.int := by
      have := congrArg (List.map kV) hks
      rw [List.map_map, List.map_map] at this
      exact this
    rw [e0]
    have sl := same_new (o := .lst ((g.map (·.key)).map V.int)) nl
    have hl : (upd G4 l (.lst ((g.map (·.key)).map V.int))) l = some (.lst ((g.map (·.key)).map V.int)) := upd_same
    generalize upd G4 l (.lst ((g.map (·.key)).map V.int)) = G5 at *
    have hw5 := hw0.same sl
    have hr5 := hr1.same (s4.trans sl)
    have s6 := s5.trans sl
    refine ⟨l, rfl, ⟨_, .of hl⟩, for_it walk_list (fun i σ J => Same G5 J ∧ (∀ (j : Nat) (n : Nd), j < i → g[j]? = some n → ¬ ∃ w, w ≠ [] ∧ Word rows B n.key w n.key) ∧ ∃ z6 z7, σ = [some v, some u, some (.int s), some (.int B), some zr, some (.ref d), z6, z7]) ⟨Same.refl _, fun j n hj => absurd hj (Nat.not_lt_zero _), _, _, rfl⟩ (fun i σ J _ pp => .of (pp.1 _ _ hl)) (fun i y σ J J2 hi pp yy => ?_) (fun σ J pp => ?_)⟩
    · obtain ⟨rfl, hy⟩ := yy
      obtain ⟨t1, no, z6, z7, rfl⟩ := pp
      rw [List.getElem?_map, List.getElem?_map] at hy
      obtain ⟨k, hk, rfl⟩ := Option.map_eq_some_iff.mp hy
      obtain ⟨n, hn, rfl⟩ := Option.map_eq_some_iff.mp hk
      have hs : (s.natAbs : Int) ≤ B := by
        refine Decidable.byContradiction fun e => ?_
        rw [f2 e] at hn
        simp at hn
      obtain ⟨pl, bf, _⟩ := (f1 hs).ex
      have nm := List.mem_of_getElem? hn
      have nb := bf.bnd n nm
      have gl2 := bf.len (by omega)
      refine ⟨zr, rfl, .int B, rfl, .int n.key, rfl, zr, rows, B, n.key, rfl, hr5.same t1, by omega, by omega, by omega, by omega, by omega, fun G6 r s7 hr => ?_⟩
      rcases hr with ⟨rfl, nw⟩ | ⟨⟨p, rfl⟩, ww⟩
      · refine ⟨.non, rfl, rfl, _, rfl, iteF ⟨t1.trans s7, fun j m hj hm => ?_, _, _, rfl⟩⟩
        by_cases e : j = i
        · subst e
          rw [hn] at hm
          cases hm
          exact nw
        · exact no j m (by omega) hm
      · refine ⟨.ref p, rfl, rfl, _, rfl, iteT ?_⟩
        have s8 := t1.trans s7
        refine ⟨.ref d, rfl, .int n.key, rfl, d, rows, B, s, n.key, g, pl, n, rfl, hw5.same s8, bf, nm, rfl, by omega, fun G7 p7 s9 hp7 => ?_⟩
        refine ⟨.ref p, rfl, by show 2 ≤ sizeLine; decide, fun r nr => q _ _ (((s6.trans s8).trans s9).trans (same_new nr)) (.inr ⟨⟨_, rfl⟩, hs, n.key, n.word, ?_⟩)⟩
        obtain ⟨w2, w3, w4⟩ := ww
        exact ⟨w2, bf.word' nm, w3, w4⟩
    · obtain ⟨t1, no, z6, z7, rfl⟩ := pp
      refine q _ _ (s6.trans t1) (.inl ⟨rfl, fun ⟨hs, x, w2, w3, h1, h2, h3⟩ => ?_⟩)
      obtain ⟨n, hn, hk⟩ := List.mem_map.mp ((f1 hs).none h1)
      obtain ⟨j, hj, ej⟩ := List.getElem_of_mem hn
      refine no j n ?_ (by rw [List.getElem?_eq_getElem hj, ej]) ⟨w3, h2, hk.symm ▸ h3⟩
      rw [List.length_map, List.length_map]
      exact hj
end
end K86

/-! K86Doing: the numbers along a row. -/
namespace K86
open PySem PySem.Spec PyProof.Rows L2 SW
theorem sc_product_of : FnScope ["row", "found", "step"] ["row"] (defScope (topS 55)) := ⟨rfl, rfl, rfl, by decide +kernel, rfl, by decide +kernel, by decide +kernel⟩
theorem sc_check_degree : FnScope ["degree"] ["degree"] (defScope (topS 56)) := ⟨rfl, rfl, rfl, by decide +kernel, rfl, by decide +kernel, by decide +kernel⟩
theorem sc_numbers_along : FnScope ["row", "start", "here", "found", "step"] ["row", "start"] (defScope (topS 57)) := ⟨rfl, rfl, rfl, by decide +kernel, rfl, by decide +kernel, by decide +kernel⟩
/-- the numbers ls behind x, step by step -/
def Alg (rows : List (List Int)) (x : Int) (ls : List Int) : Prop := ls.length = rows.length ∧ ∀ (i : Nat) (row : List Int) (y : Int), rows[i]? = some row → (x :: ls)[i]? = some y → ls[i]? = some (ledI row y)
def sp_product_of : Sp := fun vs H Q _ => ∃ (v : V) (rows : List (List Int)), vs = [v] ∧ Sts H v rows ∧ rows.length ≤ 4 ∧ (∀ row ∈ rows, ∃ b, Good row b) ∧ ∀ n : Int, n ≤ 81 → Q (.int n) H
def sp_check_degree : Sp := fun vs H Q _ => ∃ n : Int, vs = [.int n] ∧ n ≤ 81 ∧ Q .non H
def sp_numbers_along : Sp := fun vs H Q _ => ∃ (v u : V) (rows : List (List Int)) (x : Int) (ls : List Int), vs = [v, u] ∧ Sts H v rows ∧ 1 ≤ rows.length ∧ rows.length ≤ 4 ∧ (∀ row ∈ rows, ∃ b, Good row b) ∧ Pr H u x ∧
  (∀ y ∈ x :: ls, -1000 ≤ y ∧ y ≤ 1000) ∧ Alg rows x ls ∧ ∀ G r, Same H G → Stp G r ls → Q r G
section
variable {P : Program} {w : World} {K : PySem.W.Frag} {mg : Str → Option Value} {base : Heap}
theorem ok_product_of (T : Txt mg) {f : Addr} {fd : FuncData} (D : Df K mg "product_of" (topS 55) ["row"] f fd)  : Has P w K mg base "product_of" 1 ["row"] sp_product_of := by
  refine D.has sc_product_of (fun vs H Q E h => ?_) (fun cdv A outer s H vs Q E hr h => ?_)
  · obtain ⟨v, rows, rfl, _⟩ := h
    rfl
  · obtain ⟨v, rows, rfl, ⟨a, vs, rfl, ha, al⟩, r4, gd, q⟩ := h
    refine ⟨_, (pss_cons (ps_set (i := 1) sc_product_of.nd rfl (.inl rfl) pe_int)
      (pss_cons (ps_for PassesOwn.never rfl (pi_tup (pv 0)) (pg_name (i := 2) sc_product_of.nd rfl (.inl rfl)) (pss_one (ps_set (i := 1) sc_product_of.nd rfl (.inl rfl) (pe_op op_mul (pv 1) (pe_op op_sub (pe_callB call_len_seq (by rfl) T.len bt_len (pa_cons (pv 2) pa_nil)) pe_int)))))
      (pss_one (ps_ret (pv 1))))), ?_⟩
    refine ⟨.ref a, rfl, a, rfl, ⟨_, .of ha⟩, for_it walk_tup (fun i σ J => J = H ∧ ∃ (n : Int) (z : Option V), σ = [some (.ref a), some (.int n), z] ∧ 0 ≤ n ∧ n ≤ 3 ^ i) ⟨rfl, 1, none, rfl, by decide, by decide⟩ (fun i σ J _ pp => by rw [pp.1]; exact .of ha) (fun i x σ J J2 hi pp y => ?_) (fun σ J pp => ?_)⟩
    · obtain ⟨rfl, hx⟩ := y
      obtain ⟨rfl, n, z, rfl, n0, n1⟩ := pp
      obtain ⟨row, hrow, b, bs, rfl, hb, bl⟩ := al.of hx
      obtain ⟨c, g⟩ := gd row (List.mem_of_getElem? hrow)
      have l2 := g.len2
      have l4 := g.len4
      have hl := bl.len
      refine ⟨.int n, rfl, .ref b, rfl, b, bs, rfl, .inr (.of hb), bs.length, 1, rfl, rfl, _, _, rfl, rfl, .inr ⟨by omega, by omega⟩, rfl, _, _, rfl, ?_, ?_⟩
      · exact Int.mul_nonneg n0 (by omega)
      · rw [Int.pow_succ]
        exact Int.le_trans (Int.mul_le_mul_of_nonneg_left (show (bs.length : Int) - 1 ≤ 3 by omega) n0) (Int.mul_le_mul_of_nonneg_right n1 (by decide))
    · obtain ⟨rfl, n, z, rfl, n0, n1⟩ := pp
      refine ⟨.int n, rfl, q n ?_⟩
      have hl := al.len
      have h81 : ∀ k, k ≤ 4 → (3 : Int) ^ k ≤ 81 := by decide
      exact Int.le_trans n1 (h81 _ (by omega))
theorem ok_check_degree (T : Txt mg) {f : Addr} {fd : FuncData} (D : Df K mg "check_degree" (topS 56) ["degree"] f fd)  : Has P w K mg base "check_degree" 1 ["degree"] sp_check_degree := by
  refine D.has sc_check_degree (fun vs H Q E h => ?_) (fun cdv A outer s H vs Q E hr h => ?_)
  · obtain ⟨n, rfl, _⟩ := h
    rfl
  · obtain ⟨n, rfl, hn, q⟩ := h
    refine ⟨_, (pss_one (ps_if (pt_cmpR op_gt (pv 0) (pe_cst T.whole (by rfl)) (nomark _)) (pss_one ps_never) pss_nil)), ?_⟩
    refine ⟨.int n, rfl, n, 256, rfl, rfl, _, rfl, ?_⟩
    rw [decide_eq_false (by omega)]
    exact iteF q
theorem ok_numbers_along (T : Txt mg) {f : Addr} {fd : FuncData} (D : Df K mg "numbers_along" (topS 57) ["row", "start"] f fd) (h_need_row : Has P w K mg base "need_row" 4 ["value"] sp_need_row) (h_need_number : Has P w K mg base "need_number" 3 ["value"] sp_need_number) (h_check_degree : Has P w K mg base "check_degree" 1 ["degree"] sp_check_degree) (h_product_of : Has P w K mg base "product_of" 1 ["row"] sp_product_of) (h_value_of : Has P w K mg base "value_of" 2 ["poly", "number"] sp_value_of) (h_as_poly : Has P w K mg base "as_poly" 2 ["step"] sp_as_poly) : Has P w K mg base "numbers_along" 5 ["row", "start"] sp_numbers_along := by
  refine D.has sc_numbers_along (fun vs H Q E h => ?_) (fun cdv A outer s H vs Q E hr h => ?_)
  · obtain ⟨v, u, rows, x, ls, rfl, _⟩ := h
    rfl
  · obtain ⟨v, u, rows, x, ls, rfl, hv, r1, r4, gd, hu, hbd, ag, q⟩ := h
    refine ⟨_, (pss_cons (ps_expr (pe_has h_need_row (hr.mono (by decide)) (by rfl) (pa_cons (pv 0) pa_nil)))
      (pss_cons (ps_set (i := 2) sc_numbers_along.nd rfl (.inl rfl) (pe_has h_need_number (hr.mono (by decide)) (by rfl) (pa_cons (pv 1) pa_nil)))
      (pss_cons (ps_expr (pe_has h_check_degree (hr.mono (by decide)) (by rfl) (pa_cons (pe_has h_product_of (hr.mono (by decide)) (by rfl) (pa_cons (pv 0) pa_nil)) pa_nil)))
      (pss_cons (ps_set (i := 3) sc_numbers_along.nd rfl (.inl rfl) (pe_lst pa_nil))
      (pss_cons (ps_for PassesOwn.never rfl (pi_tup (pv 0)) (pg_name (i := 4) sc_numbers_along.nd rfl (.inl rfl)) (pss_cons (ps_set (i := 2) sc_numbers_along.nd rfl (.inl rfl) (pe_has h_value_of (hr.mono (by decide)) (by rfl) (pa_cons (pe_has h_as_poly (hr.mono (by decide)) (by rfl) (pa_cons (pv 4) pa_nil)) (pa_cons (pv 2) pa_nil))))
      (pss_one (ps_expr (pe_bm PySem.F.plainAttrs_list PySem.F.slot_list_append PySem.F.type_list_append mt_append (pv 3) (pa_cons (pv 2) pa_nil))))))
      (pss_one (ps_ret (pe_callTy call_tuple_of (by rfl) T.tuple bt_tuple (pa_cons (pv 3) pa_nil))))))))), ?_⟩
    have xb := hbd x List.mem_cons_self
    refine ⟨v, rfl, v, rows, rfl, hv, by omega, by omega, gd, fun G1 s1 => ?_⟩
    have hv1 := hv.tk (tk_of s1)
    refine ⟨u, rfl, u, x, rfl, hu.tk (tk_of s1), by omega, by omega, ?_⟩
    refine ⟨v, rfl, v, rows, rfl, hv1, r4, gd, fun n hn => ⟨n, rfl, hn, ?_⟩⟩
    refine ⟨by show 0 ≤ sizeLine; decide, fun l nl => ?_⟩
    obtain ⟨a, vs, rfl, ha, al⟩ := hv1
    refine ⟨.ref a, rfl, a, rfl, ⟨_, .of (same_new nl _ _ ha)⟩, for_it walk_tup (fun i σ J => Same G1 J ∧ ∃ us z y4 y, σ = [some (.ref a), some u, some z, some (.ref l), y4] ∧ J l = some (.lst us) ∧ Al (Pr J) us (ls.take i) ∧ (x :: ls)[i]? = some y ∧ Pr J z y) ⟨same_new nl, [], u, none, x, rfl, upd_same, Al.nil, rfl, hu.tk (tk_of (s1.trans (same_new nl)))⟩ (fun i σ J _ pp => .of (pp.1 _ _ ha)) (fun i w σ J J2 hi pp yy => ?_) (fun σ J pp => ?_)⟩
    · obtain ⟨rfl, hw⟩ := yy
      obtain ⟨t1, us, z, y4, y, rfl, hl, alu, hy, hz⟩ := pp
      obtain ⟨row, hrow, hst⟩ := al.of hw
      obtain ⟨c, g⟩ := gd row (List.mem_of_getElem? hrow)
      have l2 := g.len2
      have l4 := g.len4
      have hn := ag.2 i row y hrow hy
      have yb := hbd y (List.mem_of_getElem? hy)
      refine ⟨w, rfl, w, row, c, rfl, hst.tk (tk_of t1), g, fun v1 G2 s2 hp => ?_⟩
      refine ⟨z, rfl, v1, z, row, y, rfl, hp, hz.tk (tk_of s2), by omega, by omega, by omega, by omega, fun v2 G3 s3 hp3 => ?_⟩
      have hl3 := s3 _ _ (s2 _ _ hl)
      have ui : us.length ≤ i := by
        rw [alu.len, List.length_take]
        exact Nat.min_le_left _ _
      have vl := al.len
      have tk : Tk G3 (upd G3 l (.lst (us ++ [v2]))) := fun b xs hb => by
        rw [upd_ne (ne_of hb hl3 (by intro z; cases z))]
        exact hb
      refine ⟨.ref l, rfl, .inl ⟨rfl, _, .of hl3⟩, v2, rfl, l, us, v2, rfl, rfl, hl3, small1000 (by omega), same_put ((t1.trans s2).trans s3) nl, us ++ [v2], v2, _, _, rfl, upd_same, ?_, hn, hp3.tk tk⟩
      rw [List.take_add_one, hn]
      exact (alu.mono fun x y h => h.tk (fun b xs hb => tk _ _ (s3 _ _ (s2 _ _ hb)))).snoc (hp3.tk tk)
    · obtain ⟨t1, us, z, y4, y, rfl, hl, alu, hy, hz⟩ := pp
      rw [al.len, ← ag.1, List.take_length] at alu
      refine ⟨.ref l, rfl, l, us, rfl, .inl ⟨.of hl, fun r nr => ?_⟩⟩
      have sr := same_new (o := .tup us) nr
      exact q _ _ ((s1.trans t1).trans sr) ⟨r, us, rfl, upd_same, alu.mono fun x y h => h.tk (tk_of sr)⟩
end
end K86

/-! K86Law1: the draws, the integers over 1, repr. -/
namespace K86
open PySem PySem.Spec PyProof.Rows L2 SW
theorem sc__law_mixed : FnScope ["_law_cell", "_law_k"] ["_law_cell", "_law_k"] (defScope (topS 59)) := ⟨rfl, rfl, rfl, by decide +kernel, rfl, by decide +kernel, by decide +kernel⟩
theorem sc__law_begin : FnScope ["_law_script", "_law_cells_so", "_law_lefts", "_law_cell"] ["_law_script"] (defScope (topS 60)) := ⟨rfl, rfl, rfl, by decide +kernel, rfl, by decide +kernel, by decide +kernel⟩
theorem sc__law_draw : FnScope ["_law_state", "_law_limit", "_law_at", "_law_place", "_law_left", "_law_number"] ["_law_state", "_law_limit"] (defScope (topS 61)) := ⟨rfl, rfl, rfl, by decide +kernel, rfl, by decide +kernel, by decide +kernel⟩
theorem sc__law_of : FnScope ["_law_state", "_law_some"] ["_law_state", "_law_some"] (defScope (topS 62)) := ⟨rfl, rfl, rfl, by decide +kernel, rfl, by decide +kernel, by decide +kernel⟩
theorem sc__law_divisor : FnScope ["_law_one", "_law_other"] ["_law_one", "_law_other"] (defScope (topS 63)) := ⟨rfl, rfl, rfl, by decide +kernel, rfl, by decide +kernel, by decide +kernel⟩
theorem sc__law_frac : FnScope ["_law_above", "_law_below", "_law_shared"] ["_law_above", "_law_below"] (defScope (topS 64)) := ⟨rfl, rfl, rfl, by decide +kernel, rfl, by decide +kernel, by decide +kernel⟩
theorem sc__law_add : FnScope ["_law_one", "_law_other"] ["_law_one", "_law_other"] (defScope (topS 65)) := ⟨rfl, rfl, rfl, by decide +kernel, rfl, by decide +kernel, by decide +kernel⟩
theorem sc__law_mul : FnScope ["_law_one", "_law_other"] ["_law_one", "_law_other"] (defScope (topS 66)) := ⟨rfl, rfl, rfl, by decide +kernel, rfl, by decide +kernel, by decide +kernel⟩
theorem sc__law_power : FnScope ["_law_worth", "_law_many_so", "_law_found", "_law_turn"] ["_law_worth", "_law_many_so"] (defScope (topS 67)) := ⟨rfl, rfl, rfl, by decide +kernel, rfl, by decide +kernel, by decide +kernel⟩
theorem sc__law_less : FnScope ["_law_one", "_law_other"] ["_law_one", "_law_other"] (defScope (topS 68)) := ⟨rfl, rfl, rfl, by decide +kernel, rfl, by decide +kernel, by decide +kernel⟩
theorem sc__law_like : FnScope ["_law_got", "_law_due"] ["_law_got", "_law_due"] (defScope (topS 69)) := ⟨rfl, rfl, rfl, by decide +kernel, rfl, by decide +kernel, by decide +kernel⟩
/-- the state's dict -/
def stD (c l : Addr) (n : Nat) : List (Key × V) := [(.inr "cells", .ref c), (.inr "lefts", .ref l), (.inr "at", .int (n : Nat))]
/-- the state: dict d of the cells c and what is left of them l; n draws so far -/
structure StA (H : Hp) (d c l : Addr) (n : Nat) : Prop where
  dict : H d = some (.dK (stD c l n))
  apart : c ≠ l
  lists : ∃ cs ls : List Int, H c = some (.lst (cs.map V.int)) ∧ H l = some (.lst (ls.map V.int)) ∧ cs.length = ls.length ∧ cs ≠ []
theorem ixN_at {n j : Nat} (hj : j < n) : ixN n (j : Int) = some j := by
  unfold ixN
  rw [if_pos (by omega), if_pos (by omega), Int.toNat_natCast]
/-- all but the state stays -/
def Sd (d l : Addr) (H G : Hp) : Prop := ∀ a o, a ≠ d → a ≠ l → H a = some o → G a = some o
theorem Sd.refl (d l : Addr) (H : Hp) : Sd d l H H := fun _ _ _ _ h => h
theorem Sd.trans {d l : Addr} {H G J : Hp} (a : Sd d l H G) (b : Sd d l G J) : Sd d l H J := fun x o h1 h2 h => b x o h1 h2 (a x o h1 h2 h)
theorem Sd.of {d l : Addr} {H G : Hp} (s : Same H G) : Sd d l H G := fun x o _ _ h => s x o h
theorem StA.same {H G : Hp} {d c l : Addr} {n : Nat} (h : StA H d c l n) (s : Same H G) : StA G d c l n := by
  obtain ⟨h1, h0, cs, ls, h2, h3, h4⟩ := h
  exact ⟨s _ _ h1, h0, cs, ls, s _ _ h2, s _ _ h3, h4⟩
theorem Sd.tk {d c l : Addr} {n : Nat} {H G : Hp} (s : Sd d l H G) (h : StA H d c l n) : Tk H G := by
  obtain ⟨h1, _, cs, ls, h2, h3, h4⟩ := h
  intro a xs ha
  exact s a _ (ne_of ha h1 (by intro z; cases z)) (ne_of ha h3 (by intro z; cases z)) ha
theorem Sd.lst {d c l a : Addr} {n : Nat} {H G : Hp} {xs : List V} (s : Sd d l H G) (h : StA H d c l n) (hal : a ≠ l) (ha : H a = some (.lst xs)) : G a = some (.lst xs) :=
  s a _ (ne_of ha h.dict (by intro z; cases z)) hal ha
theorem StA.put {H : Hp} {d c l a : Addr} {n : Nat} {o : HO} (h : StA H d c l n) (h1 : a ≠ d) (h2 : a ≠ l) (h3 : a ≠ c) : StA (upd H a o) d c l n := by
  obtain ⟨e1, e0, cs, ls, e2, e3, e4⟩ := h
  exact ⟨by rw [upd_ne h1.symm]; exact e1, e0, cs, ls, by rw [upd_ne h3.symm]; exact e2, by rw [upd_ne h2.symm]; exact e3, e4⟩
theorem ite_both {b : Bool} {p q : Prop} (h1 : p) (h2 : q) : if b = true then p else q := by
  cases b with
  | true => exact h1
  | false => exact h2
theorem begin_pick {t1 t2 : TE} {σ : L2.St} {H : Hp} {Q : VK} {b : Bool} (h1 : b = true → (∀ l1 G (cs : List Int), cs ≠ [] → cs.length ≤ sizeLine → G l1 = some (.lst (cs.map V.int)) → Q (.ref l1) G) → t1 σ H Q)
    (h2 : b = false → (∀ l1 G (cs : List Int), cs ≠ [] → cs.length ≤ sizeLine → G l1 = some (.lst (cs.map V.int)) → Q (.ref l1) G) → t2 σ H Q)
    (q : ∀ l1 G (cs : List Int), cs ≠ [] → cs.length ≤ sizeLine → G l1 = some (.lst (cs.map V.int)) → Q (.ref l1) G) : if b = true then t1 σ H Q else t2 σ H Q := by
  cases b with
  | true => exact h1 rfl q
  | false => exact h2 rfl q
def sp_law_mixed : Sp := fun vs H Q _ => ∃ c k : Int, vs = [.int c, .int k] ∧ 0 ≤ k ∧ k ≤ 2000 ∧ ∀ v : Int, 0 ≤ v → v < 2147483648 → Q (.int v) H
def sp_law_begin (K : PySem.W.Frag) : Sp := fun vs H Q _ => ∃ (a : Addr) (ns : List Int), vs = [.ref a] ∧ SqL K H a (ns.map V.int) ∧ ns.length ≤ sizeLine ∧ ∀ G d c l, StA G d c l 0 → Q (.ref d) G
def sp_law_draw : Sp := fun vs H Q _ => ∃ (d c l : Addr) (n : Nat) (m : Int), vs = [.ref d, .int m] ∧ StA H d c l n ∧ n ≤ 1000 ∧ 0 < m ∧ m ≤ 1000 ∧ ∀ G (v : Int), Sd d l H G → StA G d c l (n + 1) → 0 ≤ v → v < m → Q (.int v) G
def sp_law_of : Sp := fun vs H Q _ => ∃ (d c l p : Addr) (n : Nat) (xs : List V), vs = [.ref d, .ref p] ∧ StA H d c l n ∧ n ≤ 1000 ∧ H p = some (.lst xs) ∧ p ≠ l ∧ xs ≠ [] ∧ xs.length ≤ 1000 ∧
  ∀ G (i : Nat) x, Sd d l H G → StA G d c l (n + 1) → xs[i]? = some x → Q x G
def sp_law_divisor : Sp := fun vs H Q _ => ∃ a : Int, vs = [.int a, .int 1] ∧ Q (.int 1) H
def sp_law_frac : Sp := fun vs H Q _ => ∃ a : Int, vs = [.int a, .int 1] ∧ ∀ G r, Same H G → Pr G r a → Q r G
def sp_law_add : Sp := fun vs H Q _ => ∃ (x y : V) (a b : Int), vs = [x, y] ∧ Pr H x a ∧ Pr H y b ∧ ∀ G r, Same H G → Pr G r (a + b) → Q r G
def sp_law_mul : Sp := fun vs H Q _ => ∃ (x y : V) (a b : Int), vs = [x, y] ∧ Pr H x a ∧ Pr H y b ∧ -1000000 ≤ b ∧ b ≤ 1000000 ∧ ∀ G r, Same H G → Pr G r (a * b) → Q r G
def sp_law_power : Sp := fun vs H Q _ => ∃ (x : V) (a : Int) (k : Nat), vs = [x, .int (k : Nat)] ∧ Pr H x a ∧ 0 ≤ a ∧ a ≤ 8 ∧ k ≤ 4 ∧ ∀ G r, Same H G → Pr G r (a ^ k) → Q r G
def sp_law_less : Sp := fun vs H Q _ => ∃ (x y : V) (a b : Int), vs = [x, y] ∧ Pr H x a ∧ Pr H y b ∧ Q (.bl (decide (a < b))) H
def sp_law_like : Sp := fun vs H Q _ => ∃ (x y : V) (d : PyData), vs = [x, y] ∧ (∀ K, Dp K H x d) ∧ (∀ K, Dp K H y d) ∧ Shw d ∧ Q (.bl true) H
section
variable {P : Program} {w : World} {K : PySem.W.Frag} {mg : Str → Option Value} {base : Heap}
theorem ok_law_mixed (T : Txt mg) {f : Addr} {fd : FuncData} (D : Df K mg "_law_mixed" (topS 59) ["_law_cell", "_law_k"] f fd)  : Has P w K mg base "_law_mixed" 1 ["_law_cell", "_law_k"] sp_law_mixed := by
  refine D.has sc__law_mixed (fun vs H Q E h => ?_) (fun cdv A outer s H vs Q E hr h => ?_)
  · obtain ⟨c, k, rfl, _⟩ := h
    rfl
  · obtain ⟨c, k, rfl, k0, k1, q⟩ := h
    refine ⟨_, (pss_cons (ps_set (i := 0) sc__law_mixed.nd rfl (.inl rfl) (pe_op op_mod (pe_callTy call_int1 (by rfl) T.int bt_int (pa_cons (pv 0) pa_nil)) pe_int))
      (pss_one (ps_ret (pe_op op_mod (pe_op op_mul (pe_op op_mod (pe_op op_add (pe_op op_add (pe_op op_mul (pv 0) (pe_op op_add pe_int (pe_op op_mul (pe_op op_mul pe_int (pv 1)) (pv 1)))) (pe_op op_mul pe_int (pv 1))) pe_int) pe_int) pe_int) pe_int)))), ?_⟩
    refine ⟨.int c, rfl, .inl ⟨c, rfl, c, 2147483647, rfl, rfl, Int.lt_of_sub_pos (by decide), ?_⟩⟩
    refine ⟨_, rfl, .int k, rfl, 2, k, rfl, rfl, .inl ⟨by decide, by decide⟩, .int k, rfl, _, k, rfl, rfl, .inr ⟨by omega, by omega⟩, _, _, rfl, rfl, _, _, rfl, rfl, .inl ⟨by omega, by omega⟩, ?_⟩
    refine ⟨.int k, rfl, _, _, rfl, rfl, .inl ⟨by decide, by decide⟩, _, _, rfl, rfl, _, _, rfl, rfl, _, _, rfl, rfl, Int.lt_of_sub_pos (by decide), _, _, rfl, rfl, .inr ⟨by decide, by decide⟩, _, _, rfl, rfl, Int.lt_of_sub_pos (by decide), ?_⟩
    refine q _ (Int.emod_nonneg _ (by decide)) (Int.lt_trans (Int.emod_lt_of_pos _ (by decide)) (by decide))
theorem ok_law_begin (T : Txt mg) {f : Addr} {fd : FuncData} (D : Df K mg "_law_begin" (topS 60) ["_law_script"] f fd)  : Has P w K mg base "_law_begin" 1 ["_law_script"] (sp_law_begin K) := by
  refine D.has sc__law_begin (fun vs H Q E h => ?_) (fun cdv A outer s H vs Q E hr h => ?_)
  · obtain ⟨a, ns, rfl, _⟩ := h
    rfl
  · obtain ⟨a, ns, rfl, hs, hl, q⟩ := h
    refine ⟨_, (pss_cons (ps_set (i := 1) sc__law_begin.nd rfl (.inl rfl) (pe_ifExp (pt_cmpR (op_neD hr.units) (pv 0) (pe_lst pa_nil) (nomark _)) (pe_callTy call_list_of (by rfl) T.list bt_list (pa_cons (pv 0) pa_nil)) (pe_lst (pa_cons pe_int pa_nil))))
      (pss_cons (ps_setLc (i := 2) (own := [("_law_cell", 3)]) rfl sc__law_begin.nd rfl rfl (sw_true rfl rfl rfl (by decide +kernel)) (pi_list (pv 1)) (blkOk_by (own := [("_law_cell", 3)]) (N := ["_law_script", "_law_cells_so", "_law_lefts", "_law_cell"]) (sc := defScope (topS 60)) (by decide +kernel)) (fun _ _ _ _ _ => (pg_name (i := 3) sc__law_begin.nd rfl (.inl rfl))) (fun _ _ _ _ _ => pts_nil) (fun _ _ _ _ _ => (pe_ifExp (pt_cmpR op_ge (pv 3) (pe_op op_pow pe_int pe_int) (nomark _)) (pv 3) pe_int)))
      (pss_one (ps_ret (pe_disp (pps_cons pe_str (pv 1) (pps_cons pe_str (pv 2) (pps_cons pe_str pe_int pps_nil))) (by rfl) (by rfl) (fun z => by cases z) (by decide)))))), ?_⟩
    refine ⟨.ref a, rfl, Nat.zero_le _, fun e ne => ?_⟩
    have s1 := same_new (o := .lst []) ne
    refine ⟨.list (ns.map PyData.int), .list [], .lst (s1.seq hs) ?_, .lst (.of upd_same) .nil, ints_shapedL ns, ints_shapedL [], _, rfl, ?_⟩
    · clear q hs hl
      induction ns with
      | nil => exact .nil
      | cons c ns ih => exact .cons (.int c) ih
    have s1s := s1.seq hs
    generalize upd H e (.lst []) = G0 at *
    refine begin_pick (fun e q => ?_) (fun e q => ?_) (fun l1 G cs cne cl hl1 => ?_)
    · refine ⟨.ref a, rfl, a, ns.map V.int, rfl, .inl s1s, fun l1 nl1 => q _ _ ns ?_ hl upd_same⟩
      rintro rfl
      simp [PyData.eqv, PyData.eqvAll] at e
    · exact ⟨by show 1 ≤ sizeLine; decide, fun l1 nl1 => q _ _ [0] (List.cons_ne_nil _ _) (by decide) upd_same⟩
    · refine ⟨.ref l1, rfl, l1, rfl, ⟨_, .of hl1⟩, fun E nE => ?_⟩
      have nel : E ≠ l1 := fun z => by
        rw [z, hl1] at nE
        cases nE
      refine lc_it walk_list (fun i J => Same G J ∧ ∃ ls : List Int, J E = some (.lst (ls.map V.int)) ∧ ls.length = i) ⟨same_new nE, [], upd_same, rfl⟩ (fun i J _ pp => .of (pp.1 _ _ hl1)) (fun i x J J2 hi pp y => ?_) (fun J pp => ?_)
      · obtain ⟨rfl, hx⟩ := y
        obtain ⟨t1, ls, t2, rfl⟩ := pp
        rw [List.getElem?_map] at hx
        obtain ⟨n, hn, rfl⟩ := Option.map_eq_some_iff.mp hx
        have put : ∀ m : Int, ∃ acc, J2 E = some (.lst acc) ∧ acc.length < sizeLine ∧ Same G (upd J2 E (.lst (acc ++ [.int m]))) ∧ ∃ ls2 : List Int, (upd J2 E (.lst (acc ++ [.int m]))) E = some (.lst (ls2.map V.int)) ∧ ls2.length = ls.length + 1 := by
          intro m
          rw [List.length_map] at hi
          refine ⟨_, t2, by rw [List.length_map]; omega, same_put t1 nE, ls ++ [m], ?_, by rw [List.length_append, List.length_singleton]⟩
          rw [upd_same, List.map_append]
          rfl
        refine ⟨rfl, .int n, rfl, 10, 18, rfl, rfl, ⟨by decide, by decide, by decide⟩, n, _, rfl, rfl, _, rfl, ?_⟩
        exact ite_both ⟨.int n, rfl, put n⟩ (put 0)
      · obtain ⟨t1, ls, t2, t3⟩ := pp
        rw [List.length_map] at t3
        intro d nd
        have hl2 := t1 _ _ hl1
        refine ⟨.ref l1, rfl, .ref E, rfl, upd_same, stD l1 E 0, rfl, (show 3 ≤ 15 by decide), ?_⟩
        rw [upd_upd]
        have e3 : mergeK [] (stD l1 E 0) = stD l1 E 0 := rfl
        rw [e3]
        refine q _ d l1 E ⟨upd_same, nel.symm, cs, ls, ?_, ?_, t3.symm, cne⟩
        · rw [upd_ne (ne_of_none hl2 nd)]
          exact hl2
        · rw [upd_ne (ne_of_none t2 nd)]
          exact t2
theorem ok_law_draw (T : Txt mg) {f : Addr} {fd : FuncData} (D : Df K mg "_law_draw" (topS 61) ["_law_state", "_law_limit"] f fd) (h_law_mixed : Has P w K mg base "_law_mixed" 1 ["_law_cell", "_law_k"] sp_law_mixed) : Has P w K mg base "_law_draw" 2 ["_law_state", "_law_limit"] sp_law_draw := by
  refine D.has sc__law_draw (fun vs H Q E h => ?_) (fun cdv A outer s H vs Q E hr h => ?_)
  · obtain ⟨d, c, l, n, m, rfl, _⟩ := h
    rfl
  · obtain ⟨d, c, l, n, m, rfl, st, n1, m0, m1, q⟩ := h
    refine ⟨_, (pss_cons (ps_set (i := 2) sc__law_draw.nd rfl (.inl rfl) (pe_dget (hu_of hr) (pv 0) pe_str (fun _ _ => rfl)))
      (pss_cons (ps_dput (hu_of hr) (pv 0) pe_str (pe_op op_add (pv 2) pe_int) rfl)
      (pss_cons (ps_set (i := 3) sc__law_draw.nd rfl (.inl rfl) (pe_op op_mod (pe_callTy call_int1 (by rfl) T.int bt_int (pa_cons (pv 2) pa_nil)) (pe_callB call_len_seq (by rfl) T.len bt_len (pa_cons (pe_dget (hu_of hr) (pv 0) pe_str (fun _ _ => rfl)) pa_nil))))
      (pss_cons (ps_set (i := 4) sc__law_draw.nd rfl (.inl rfl) (pe_ix ix_list (pe_dget (hu_of hr) (pv 0) pe_str (fun _ _ => rfl)) (pv 3) (fun _ _ => rfl)))
      (pss_cons (ps_if (pt_cmpR op_gt (pv 4) pe_int (nomark _)) (pss_cons (ps_asg (pe_op op_fdiv (pv 4) (pv 1)) (pg_sub (pe_dget (hu_of hr) (pv 0) pe_str (fun _ _ => rfl)) (pv 3) set_list))
      (pss_one (ps_ret (pe_op op_mod (pe_callTy call_int1 (by rfl) T.int bt_int (pa_cons (pv 4) pa_nil)) (pv 1))))) pss_nil)
      (pss_cons (ps_set (i := 5) sc__law_draw.nd rfl (.inl rfl) (pe_has h_law_mixed (hr.mono (by decide)) (by rfl) (pa_cons (pe_has h_law_mixed (hr.mono (by decide)) (by rfl) (pa_cons (pe_ix ix_list (pe_dget (hu_of hr) (pv 0) pe_str (fun _ _ => rfl)) (pv 3) (fun _ _ => rfl)) (pa_cons (pv 2) pa_nil))) (pa_cons (pe_op op_add pe_int (pv 2)) pa_nil))))
      (pss_one (ps_ret (pe_op op_mod (pe_op op_fdiv (pe_callTy call_int1 (by rfl) T.int bt_int (pa_cons (pe_op op_add (pe_op op_mul (pv 5) pe_int) (pe_has h_law_mixed (hr.mono (by decide)) (by rfl) (pa_cons (pv 5) (pa_cons (pe_op op_add pe_int (pv 2)) pa_nil)))) pa_nil)) pe_int) (pv 1)))))))))), ?_⟩
    obtain ⟨hd, ncl, cs, ls, hc, hl, hlen, hne⟩ := st
    have c0 : 0 < cs.length := List.length_pos_iff.mpr hne
    have v0 : valV (stD c l n) (.inr "at") = some (.int (n : Nat)) := rfl
    have v1 : ∀ n, valV (stD c l n) (.inr "cells") = some (.ref c) := fun _ => rfl
    have v2 : ∀ n, valV (stD c l n) (.inr "lefts") = some (.ref l) := fun _ => rfl
    have p0 : putK (stD c l n) (.inr "at") (.int ((n : Nat) + 1)) = stD c l (n + 1) := rfl
    have dc : d ≠ c := ne_of hd hc (by intro z; cases z)
    have dl : d ≠ l := ne_of hd hl (by intro z; cases z)
    refine ⟨.ref d, rfl, d, .int (n : Nat), rfl, v0 ▸ DGet.k (k := .inr "at") hd, .int (n : Nat), rfl, (n : Nat), 1, rfl, rfl, .ref d, rfl, d, _, rfl, DPut.k (k := .inr "at") hd (small1000 (show 3 ≤ 1000 by decide)), ?_⟩
    rw [p0]
    have gd : (upd H d (.dK (stD c l (n + 1)))) d = some (.dK (stD c l (n + 1))) := upd_same
    have gc : (upd H d (.dK (stD c l (n + 1)))) c = some (.lst (cs.map V.int)) := by
      rw [upd_ne dc.symm]
      exact hc
    have gl : (upd H d (.dK (stD c l (n + 1)))) l = some (.lst (ls.map V.int)) := by
      rw [upd_ne dl.symm]
      exact hl
    have sd : Sd d l H (upd H d (.dK (stD c l (n + 1)))) := fun a o a1 a2 ha => by
      rw [upd_ne a1]
      exact ha
    generalize upd H d (.dK (stD c l (n + 1))) = G at *
    have cl := v1 (n + 1) ▸ DGet.k (k := .inr "cells") gd
    have ll := v2 (n + 1) ▸ DGet.k (k := .inr "lefts") gd
    have ip : n % cs.length < cs.length := Nat.mod_lt _ c0
    have cm : (cs.map V.int).length = cs.length := List.length_map _
    refine ⟨.int (n : Nat), rfl, .inl ⟨(n : Nat), rfl, .ref d, rfl, d, .ref c, rfl, cl, c, _, rfl, .inl (.of gc), (n : Nat), ((cs.map V.int).length : Nat), rfl, rfl, by rw [cm]; exact Int.natCast_pos.mpr c0, ?_⟩⟩
    rw [cm]
    obtain ⟨x, hx⟩ : ∃ x, ls[n % cs.length]? = some x := ⟨_, List.getElem?_eq_getElem (hlen ▸ ip)⟩
    obtain ⟨y, hy⟩ : ∃ y, cs[n % cs.length]? = some y := ⟨_, List.getElem?_eq_getElem ip⟩
    refine ⟨.ref d, rfl, d, .ref l, rfl, ll, .int ((n % cs.length : Nat) : Int), rfl, l, _, ((n % cs.length : Nat) : Int), .int x, rfl, rfl, .of gl, atI_nat (ints_get hx), ?_⟩
    refine ⟨.int x, rfl, x, 0, rfl, rfl, _, rfl, ?_⟩
    by_cases cx : 0 < x
    · rw [decide_eq_true cx]
      refine iteT ⟨.int x, rfl, .int m, rfl, x, m, rfl, rfl, ⟨m0, by omega⟩, .ref d, rfl, d, .ref l, rfl, ll, .int ((n % cs.length : Nat) : Int), rfl, l, _, ((n % cs.length : Nat) : Int), n % cs.length, rfl, rfl, gl, ixN_at (by rw [List.length_map, ← hlen]; exact ip), ?_⟩
      refine ⟨.int x, rfl, .inl ⟨x, rfl, .int m, rfl, x, m, rfl, rfl, m0, q _ _ (fun a o a1 a2 ha => ?_) ⟨?_, ncl, cs, ls.set (n % cs.length) (x / m), ?_, ?_, ?_, hne⟩ (Int.emod_nonneg _ (by omega)) (Int.emod_lt_of_pos _ m0)⟩⟩
      · rw [upd_ne a2]
        exact sd a o a1 a2 ha
      · rw [upd_ne dl]
        exact gd
      · rw [upd_ne ncl]
        exact gc
      · rw [upd_same, List.map_set]
      · rw [List.length_set, hlen]
    · rw [decide_eq_false cx]
      refine iteF ?_
      refine ⟨.ref d, rfl, d, .ref c, rfl, cl, .int ((n % cs.length : Nat) : Int), rfl, c, _, ((n % cs.length : Nat) : Int), .int y, rfl, rfl, .of gc, atI_nat (ints_get hy), .int (n : Nat), rfl, y, (n : Nat), rfl, by omega, by omega, fun v hv0 hv1 => ?_⟩
      refine ⟨.int (n : Nat), rfl, 40, (n : Nat), rfl, rfl, v, 40 + (n : Nat), rfl, by omega, by omega, fun v2 hw0 hw1 => ?_⟩
      refine ⟨.int v2, rfl, v2, 2147483647, rfl, rfl, .inr ⟨by decide, by decide⟩, .int v2, rfl, .int (n : Nat), rfl, 7, (n : Nat), rfl, rfl, v2, 7 + (n : Nat), rfl, by omega, by omega, fun v3 hx0 hx1 => ?_⟩
      refine ⟨_, v3, rfl, rfl, .inl ⟨_, rfl, _, 64, rfl, rfl, ⟨Int.lt_of_sub_pos (by decide), Int.lt_of_sub_pos (by decide)⟩, .int m, rfl, _, m, rfl, rfl, m0, ?_⟩⟩
      exact q _ _ sd ⟨gd, ncl, cs, ls, gc, gl, hlen, hne⟩ (Int.emod_nonneg _ (by omega)) (Int.emod_lt_of_pos _ m0)
theorem ok_law_of (T : Txt mg) {f : Addr} {fd : FuncData} (D : Df K mg "_law_of" (topS 62) ["_law_state", "_law_some"] f fd) (h_law_draw : Has P w K mg base "_law_draw" 2 ["_law_state", "_law_limit"] sp_law_draw) : Has P w K mg base "_law_of" 3 ["_law_state", "_law_some"] sp_law_of := by
  refine D.has sc__law_of (fun vs H Q E h => ?_) (fun cdv A outer s H vs Q E hr h => ?_)
  · obtain ⟨d, c, l, p, n, xs, rfl, _⟩ := h
    rfl
  · obtain ⟨d, c, l, p, n, xs, rfl, st, n1, hp, pl, xne, xl, q⟩ := h
    refine ⟨_, (pss_one (ps_ret (pe_ix ix_list (pv 1) (pe_has h_law_draw (hr.mono (by decide)) (by rfl) (pa_cons (pv 0) (pa_cons (pe_callB call_len_seq (by rfl) T.len bt_len (pa_cons (pv 1) pa_nil)) pa_nil))) (fun _ _ => rfl)))), ?_⟩
    have x0 : 0 < xs.length := List.length_pos_iff.mpr xne
    refine ⟨.ref p, rfl, .ref d, rfl, .ref p, rfl, p, xs, rfl, .inl (.of hp), d, c, l, n, _, rfl, st, n1, Int.natCast_pos.mpr x0, by omega, fun G v sd st2 v0 v1 => ?_⟩
    obtain ⟨i, rfl⟩ := Int.eq_ofNat_of_zero_le v0
    have hi : i < xs.length := by omega
    have hx := List.getElem?_eq_getElem hi
    exact ⟨p, xs, (i : Nat), xs[i], rfl, rfl, .of (sd.lst st pl hp), atI_nat hx, q G i _ sd st2 hx⟩
theorem ok_law_divisor (T : Txt mg) {f : Addr} {fd : FuncData} (D : Df K mg "_law_divisor" (topS 63) ["_law_one", "_law_other"] f fd)  : Has P w K mg base "_law_divisor" 1 ["_law_one", "_law_other"] sp_law_divisor := by
  refine D.has sc__law_divisor (fun vs H Q E h => ?_) (fun cdv A outer s H vs Q E hr h => ?_)
  · obtain ⟨a, rfl, _⟩ := h
    rfl
  · obtain ⟨a, rfl, q⟩ := h
    refine ⟨_, (pss_cons (ps_par (i := 0) (j := 1) (by rfl) sc__law_divisor.nd rfl rfl (by decide) rfl rfl (pa_cons (pe_callB (call_max2 rfl) (by rfl) T.max bt_max (pa_cons (pv 0) (pa_cons (pe_un un_neg (pv 0)) pa_nil))) (pa_cons (pe_callB (call_max2 rfl) (by rfl) T.max bt_max (pa_cons (pv 1) (pa_cons (pe_un un_neg (pv 1)) pa_nil))) pa_nil)) (by rfl))
      (pss_cons (ps_while PassesOwn.never (pt_cmpR op_gt (pv 1) pe_int (nomark _)) (pss_one (ps_par (i := 0) (j := 1) (by rfl) sc__law_divisor.nd rfl rfl (by decide) rfl rfl (pa_cons (pv 1) (pa_cons (pe_op op_mod (pv 0) (pv 1)) pa_nil)) (by rfl))))
      (pss_one (ps_ret (pv 0))))), ?_⟩
    refine ⟨.int a, rfl, .int a, rfl, a, rfl, a, -a, rfl, .int 1, rfl, .int 1, rfl, 1, rfl, 1, -1, rfl, _, _, rfl, ?_⟩
    refine ⟨fun m σ G => G = H ∧ ((m = 1 ∧ ∃ A : Int, σ = [some (.int A), some (.int 1)]) ∨ (m = 0 ∧ σ = [some (.int 1), some (.int 0)])), ⟨1, rfl, .inl ⟨rfl, _, rfl⟩⟩, ?_⟩
    rintro m σ G ⟨rfl, ⟨rfl, A, rfl⟩ | ⟨rfl, rfl⟩⟩
    · refine ⟨.int 1, rfl, 1, 0, rfl, rfl, _, rfl, iteT ⟨fun σ J => J = G ∧ σ = [some (.int 1), some (.int 0)], fun σ J x => ⟨0, by decide, x.1, .inr ⟨rfl, x.2⟩⟩, ?_⟩⟩
      refine ⟨.int 1, rfl, .int A, rfl, .int 1, rfl, A, 1, rfl, rfl, Int.lt_of_sub_pos (by decide), _, _, rfl, rfl, ?_⟩
      show [some (V.int 1), some (V.int (A % 1))] = _
      rw [Int.emod_one]
    · exact ⟨.int 0, rfl, 0, 0, rfl, rfl, _, rfl, iteF ⟨.int 1, rfl, q⟩⟩
theorem ok_law_frac (T : Txt mg) {f : Addr} {fd : FuncData} (D : Df K mg "_law_frac" (topS 64) ["_law_above", "_law_below"] f fd) (h_law_divisor : Has P w K mg base "_law_divisor" 1 ["_law_one", "_law_other"] sp_law_divisor) : Has P w K mg base "_law_frac" 2 ["_law_above", "_law_below"] sp_law_frac := by
  refine D.has sc__law_frac (fun vs H Q E h => ?_) (fun cdv A outer s H vs Q E hr h => ?_)
  · obtain ⟨a, rfl, _⟩ := h
    rfl
  · obtain ⟨a, rfl, q⟩ := h
    refine ⟨_, (pss_cons (ps_set (i := 2) sc__law_frac.nd rfl (.inl rfl) (pe_has h_law_divisor (hr.mono (by decide)) (by rfl) (pa_cons (pv 0) (pa_cons (pv 1) pa_nil))))
      (pss_cons (ps_if (pt_cmpR op_lt (pv 1) pe_int (nomark _)) (pss_one (ps_set (i := 2) sc__law_frac.nd rfl (.inl rfl) (pe_un un_neg (pv 2)))) pss_nil)
      (pss_one (ps_ret (pe_tup (pa_cons (pe_op op_fdiv (pv 0) (pv 2)) (pa_cons (pe_op op_fdiv (pv 1) (pv 2)) pa_nil))))))), ?_⟩
    refine ⟨.int a, rfl, .int 1, rfl, a, rfl, .int 1, rfl, 1, 0, rfl, rfl, _, rfl, iteF ?_⟩
    refine ⟨.int a, rfl, .int 1, rfl, a, 1, rfl, rfl, div_one, .int 1, rfl, .int 1, rfl, 1, 1, rfl, rfl, div_one, by show 2 ≤ sizeLine; decide, fun r nr => ?_⟩
    refine q _ _ (same_new nr) ⟨r, rfl, ?_⟩
    rw [upd_same]
    show some (HO.tup [V.int (a / 1), V.int (1 / 1)]) = _
    rw [Int.ediv_one]
    rfl
theorem ok_law_add (T : Txt mg) {f : Addr} {fd : FuncData} (D : Df K mg "_law_add" (topS 65) ["_law_one", "_law_other"] f fd) (h_law_frac : Has P w K mg base "_law_frac" 2 ["_law_above", "_law_below"] sp_law_frac) : Has P w K mg base "_law_add" 3 ["_law_one", "_law_other"] sp_law_add := by
  refine D.has sc__law_add (fun vs H Q E h => ?_) (fun cdv A outer s H vs Q E hr h => ?_)
  · obtain ⟨x, y, a, b, rfl, _⟩ := h
    rfl
  · obtain ⟨x, y, a, b, rfl, ⟨p, rfl, hp⟩, ⟨u, rfl, hu⟩, q⟩ := h
    refine ⟨_, (pss_one (ps_ret (pe_has h_law_frac (hr.mono (by decide)) (by rfl) (pa_cons (pe_op op_add (pe_op op_mul (pe_ix ix_tup (pv 0) pe_int (fun _ _ => rfl)) (pe_ix ix_tup (pv 1) pe_int (fun _ _ => rfl))) (pe_op op_mul (pe_ix ix_tup (pv 1) pe_int (fun _ _ => rfl)) (pe_ix ix_tup (pv 0) pe_int (fun _ _ => rfl)))) (pa_cons (pe_op op_mul (pe_ix ix_tup (pv 0) pe_int (fun _ _ => rfl)) (pe_ix ix_tup (pv 1) pe_int (fun _ _ => rfl))) pa_nil))))), ?_⟩
    have sp0 : SqT K H p [.int a, .int 1] := .of hp
    have su0 : SqT K H u [.int b, .int 1] := .of hu
    refine ⟨.ref p, rfl, p, _, 0, .int a, rfl, rfl, sp0, atI_nat (j := 0) rfl, .ref u, rfl, u, _, 1, .int 1, rfl, rfl, su0, atI_nat (j := 1) rfl, a, 1, rfl, rfl, .inr ⟨by decide, by decide⟩, ?_⟩
    refine ⟨.ref u, rfl, u, _, 0, .int b, rfl, rfl, su0, atI_nat (j := 0) rfl, .ref p, rfl, p, _, 1, .int 1, rfl, rfl, sp0, atI_nat (j := 1) rfl, b, 1, rfl, rfl, .inr ⟨by decide, by decide⟩, _, _, rfl, rfl, ?_⟩
    refine ⟨.ref p, rfl, p, _, 1, .int 1, rfl, rfl, sp0, atI_nat (j := 1) rfl, .ref u, rfl, u, _, 1, .int 1, rfl, rfl, su0, atI_nat (j := 1) rfl, 1, 1, rfl, rfl, .inr ⟨by decide, by decide⟩, a + b, ?_, q⟩
    show [V.int (a * 1 + b * 1), V.int (1 * 1)] = _
    rw [Int.mul_one, Int.mul_one]
    rfl
theorem ok_law_mul (T : Txt mg) {f : Addr} {fd : FuncData} (D : Df K mg "_law_mul" (topS 66) ["_law_one", "_law_other"] f fd) (h_law_frac : Has P w K mg base "_law_frac" 2 ["_law_above", "_law_below"] sp_law_frac) : Has P w K mg base "_law_mul" 3 ["_law_one", "_law_other"] sp_law_mul := by
  refine D.has sc__law_mul (fun vs H Q E h => ?_) (fun cdv A outer s H vs Q E hr h => ?_)
  · obtain ⟨x, y, a, b, rfl, _⟩ := h
    rfl
  · obtain ⟨x, y, a, b, rfl, ⟨p, rfl, hp⟩, ⟨u, rfl, hu⟩, b0, b1, q⟩ := h
    refine ⟨_, (pss_one (ps_ret (pe_has h_law_frac (hr.mono (by decide)) (by rfl) (pa_cons (pe_op op_mul (pe_ix ix_tup (pv 0) pe_int (fun _ _ => rfl)) (pe_ix ix_tup (pv 1) pe_int (fun _ _ => rfl))) (pa_cons (pe_op op_mul (pe_ix ix_tup (pv 0) pe_int (fun _ _ => rfl)) (pe_ix ix_tup (pv 1) pe_int (fun _ _ => rfl))) pa_nil))))), ?_⟩
    have sp0 : SqT K H p [.int a, .int 1] := .of hp
    have su0 : SqT K H u [.int b, .int 1] := .of hu
    refine ⟨.ref p, rfl, p, _, 0, .int a, rfl, rfl, sp0, atI_nat (j := 0) rfl, .ref u, rfl, u, _, 0, .int b, rfl, rfl, su0, atI_nat (j := 0) rfl, a, b, rfl, rfl, .inr ⟨by omega, by omega⟩, ?_⟩
    refine ⟨.ref p, rfl, p, _, 1, .int 1, rfl, rfl, sp0, atI_nat (j := 1) rfl, .ref u, rfl, u, _, 1, .int 1, rfl, rfl, su0, atI_nat (j := 1) rfl, 1, 1, rfl, rfl, .inr ⟨by decide, by decide⟩, a * b, rfl, q⟩
theorem ok_law_power (T : Txt mg) {f : Addr} {fd : FuncData} (D : Df K mg "_law_power" (topS 67) ["_law_worth", "_law_many_so"] f fd) (h_law_mul : Has P w K mg base "_law_mul" 3 ["_law_one", "_law_other"] sp_law_mul) : Has P w K mg base "_law_power" 4 ["_law_worth", "_law_many_so"] sp_law_power := by
  refine D.has sc__law_power (fun vs H Q E h => ?_) (fun cdv A outer s H vs Q E hr h => ?_)
  · obtain ⟨x, a, k, rfl, _⟩ := h
    rfl
  · obtain ⟨x, a, k, rfl, hx, a0, a1, k4, q⟩ := h
    refine ⟨_, (pss_cons (ps_set (i := 2) sc__law_power.nd rfl (.inl rfl) (pe_tup (pa_cons pe_int (pa_cons pe_int pa_nil))))
      (pss_cons (ps_for PassesOwn.never rfl (pi_range1 (by rfl) T.range (pa_cons (pv 1) pa_nil)) (pg_name (i := 3) sc__law_power.nd rfl (.inl rfl)) (pss_one (ps_set (i := 2) sc__law_power.nd rfl (.inl rfl) (pe_has h_law_mul (hr.mono (by decide)) (by rfl) (pa_cons (pv 2) (pa_cons (pv 0) pa_nil))))))
      (pss_one (ps_ret (pv 2))))), ?_⟩
    refine ⟨by show 2 ≤ sizeLine; decide, fun p np => ?_⟩
    have sp0 := same_new (o := .tup [.int 1, .int 1]) np
    have hp : Pr (upd H p (.tup [.int 1, .int 1])) (.ref p) 1 := ⟨p, rfl, upd_same⟩
    generalize upd H p (.tup [.int 1, .int 1]) = G at *
    refine ⟨.int (k : Nat), rfl, (k : Nat), rfl, by omega, by omega, ?_⟩
    rw [Int.toNat_natCast]
    refine for_range (n := k) (fun i σ J => Same G J ∧ ∃ z y, σ = [some x, some (.int (k : Nat)), some z, y] ∧ Pr J z (a ^ i)) ⟨Same.refl _, _, _, rfl, by rw [Int.pow_zero]; exact hp⟩ (fun i σ J hi pp => ?_) (fun σ J pp => ?_)
    · obtain ⟨t1, z, y, rfl, hz⟩ := pp
      refine ⟨z, rfl, x, rfl, z, x, a ^ i, a, rfl, hz, hx.tk (tk_of (sp0.trans t1)), by omega, by omega, fun J2 r s2 hr2 => ⟨t1.trans s2, r, _, rfl, ?_⟩⟩
      rw [Int.pow_succ]
      exact hr2
    · obtain ⟨t1, z, y, rfl, hz⟩ := pp
      exact ⟨z, rfl, q _ _ (sp0.trans t1) hz⟩
theorem ok_law_less (T : Txt mg) {f : Addr} {fd : FuncData} (D : Df K mg "_law_less" (topS 68) ["_law_one", "_law_other"] f fd)  : Has P w K mg base "_law_less" 1 ["_law_one", "_law_other"] sp_law_less := by
  refine D.has sc__law_less (fun vs H Q E h => ?_) (fun cdv A outer s H vs Q E hr h => ?_)
  · obtain ⟨x, y, a, b, rfl, _⟩ := h
    rfl
  · obtain ⟨x, y, a, b, rfl, ⟨p, rfl, hp⟩, ⟨u, rfl, hu⟩, q⟩ := h
    refine ⟨_, (pss_one (ps_ret (pe_cmpR op_lt (pe_op op_mul (pe_ix ix_tup (pv 0) pe_int (fun _ _ => rfl)) (pe_ix ix_tup (pv 1) pe_int (fun _ _ => rfl))) (pe_op op_mul (pe_ix ix_tup (pv 1) pe_int (fun _ _ => rfl)) (pe_ix ix_tup (pv 0) pe_int (fun _ _ => rfl))) (nomark _)))), ?_⟩
    have sp0 : SqT K H p [.int a, .int 1] := .of hp
    have su0 : SqT K H u [.int b, .int 1] := .of hu
    refine ⟨.ref p, rfl, p, _, 0, .int a, rfl, rfl, sp0, atI_nat (j := 0) rfl, .ref u, rfl, u, _, 1, .int 1, rfl, rfl, su0, atI_nat (j := 1) rfl, a, 1, rfl, rfl, .inr ⟨by decide, by decide⟩, ?_⟩
    refine ⟨.ref u, rfl, u, _, 0, .int b, rfl, rfl, su0, atI_nat (j := 0) rfl, .ref p, rfl, p, _, 1, .int 1, rfl, rfl, sp0, atI_nat (j := 1) rfl, b, 1, rfl, rfl, .inr ⟨by decide, by decide⟩, a, b, ?_, ?_, q⟩
    · show V.int (a * 1) = _
      rw [Int.mul_one]
    · show V.int (b * 1) = _
      rw [Int.mul_one]
theorem ok_law_like (T : Txt mg) {f : Addr} {fd : FuncData} (D : Df K mg "_law_like" (topS 69) ["_law_got", "_law_due"] f fd)  : HasG P w K mg base "_law_like" 1 ["_law_got", "_law_due"] sp_law_like := by
  refine D.hasG sc__law_like (fun vs H Q E h => ?_) (fun cdv A outer s H vs Q E gA hr h => ?_)
  · obtain ⟨x, y, d, rfl, _⟩ := h
    rfl
  · obtain ⟨x, y, d, rfl, hx, hy, sh, q⟩ := h
    refine ⟨_, (pss_one (ps_ret (pe_cmpR op_eq (pe_callB (cr_repr gA hr.units) (by rfl) T.repr bt_repr (pa_cons (pv 0) pa_nil)) (pe_callB (cr_repr gA hr.units) (by rfl) T.repr bt_repr (pa_cons (pv 1) pa_nil)) (nomark _)))), ?_⟩
    refine ⟨x, rfl, x, d, rfl, hx K, sh.able, sh.nodict, sh.depth, sh.len, sh.nstr, y, rfl, y, d, rfl, hy K, sh.able, sh.nodict, sh.depth, sh.len, sh.nstr, rfl, ?_⟩
    rw [decide_eq_true rfl]
    exact q
end
end K86

/-! K86Law2: the law's own sizes, bounds and words. -/
namespace K86
open PySem PySem.Spec PyProof.Rows L2 SW
theorem sc__law_size_at : FnScope ["_law_told", "_law_wide", "_law_low", "_law_size", "_law_power_here", "_law_worth", "_law_head"] ["_law_told", "_law_wide"] (defScope (topS 70)) := ⟨rfl, rfl, rfl, by decide +kernel, rfl, by decide +kernel, by decide +kernel⟩
theorem sc__law_led_to : FnScope ["_law_told", "_law_here", "_law_found", "_law_worth"] ["_law_told", "_law_here"] (defScope (topS 72)) := ⟨rfl, rfl, rfl, by decide +kernel, rfl, by decide +kernel, by decide +kernel⟩
theorem sc__law_most : FnScope ["_law_steps_so", "_law_most_here", "_law_told", "_law_wide", "_law_high", "_law_low"] ["_law_steps_so"] (defScope (topS 73)) := ⟨rfl, rfl, rfl, by decide +kernel, rfl, by decide +kernel, by decide +kernel⟩
theorem sc__law_words : FnScope ["_law_steps_so", "_law_first", "_law_most_here", "_law_found", "_law_line", "_law_at", "_law_here", "_law_index", "_law_told", "_law_there"] ["_law_steps_so", "_law_first", "_law_most_here"] (defScope (topS 74)) := ⟨rfl, rfl, rfl, by decide +kernel, rfl, by decide +kernel, by decide +kernel⟩
def sp_law_size_at : Sp := fun vs H Q _ => ∃ (v : V) (row : List Int) (b w : Nat), vs = [v, .int (w : Nat)] ∧ Stp H v row ∧ Good row b ∧ 1 ≤ w ∧ w ≤ 8 ∧
  ∀ G p x y (hi lo : Int), Same H G → G p = some (.tup [x, y]) → Pr G x hi → Pr G y lo → holdsI row (w : Nat) = decide (lo ≤ hi) → Q (.ref p) G
def sp_law_led_to : Sp := fun vs H Q _ => ∃ (v : V) (row : List Int) (x : Int), vs = [v, .int x] ∧ Stp H v row ∧ -1000 ≤ x ∧ x ≤ 1000 ∧ ∀ G, Same H G → Q (.int (ledI row x)) G
def sp_law_most : Sp := fun vs H Q _ => ∃ (v : V) (rows : List (List Int)) (B : Nat), vs = [v] ∧ Sts H v rows ∧ Gds rows B ∧ ∀ G, Same H G → Q (.int (B : Nat)) G
def sp_law_words : Sp := fun vs H Q _ => ∃ (v : V) (rows : List (List Int)) (B : Nat) (s : Int), vs = [v, .int s, .int (B : Nat)] ∧ Sts H v rows ∧ Gds rows B ∧ -20 ≤ s ∧ s ≤ 20 ∧
  ∀ G d kvs (ks : List Int), Same H G → G d = some (.dK kvs) → kvs.map (·.1) = ks.map Sum.inl → ks.Nodup → (∀ x, x ∈ ks ↔ ((s.natAbs : Int) ≤ B ∧ ∃ w, Word rows B s w x)) → ks.length ≤ 41 → Q (.ref d) G
theorem pw_le {w i : Nat} (hw : w ≤ 8) (hi : i ≤ 4) : (0 : Int) ≤ (w : Int) ^ i ∧ (w : Int) ^ i ≤ 4096 := by
  have h : ∀ w, w ≤ 8 → ∀ i, i ≤ 4 → w ^ i ≤ 4096 := by decide
  rw [← Int.natCast_pow]
  exact ⟨Int.natCast_nonneg _, Int.ofNat_le.mpr (h w hw i hi)⟩
theorem catA_one {K : PySem.W.Frag} {H : Hp} {Q : VK} {a t : Addr} {xs : List V} {z : V} (ha : SqT K H a xs) (ht : H t = some (.tup [z])) (hx : H a = some (.tup xs)) (hl : xs.length + 1 ≤ sizeLine)
    (q : ∀ r G, Same H G → G r = some (.tup (xs ++ [z])) → Q (.ref r) G) : rCatA K (.ref a) (.ref t) H Q := by
  refine ⟨a, t, xs, [z], rfl, rfl, ha, .of ht, hl, fun e => ?_, fun _ e => absurd e (List.cons_ne_nil _ _), fun _ _ r nr => q r _ (same_new nr) upd_same⟩
  subst e
  exact q t H (Same.refl _) ht
theorem via {R : L2.St → Hp → Prop} (C : L2.St → Hp → Prop) (tail : ∀ σ J, C σ J → R σ J) {p : Prop} (h : (∀ σ J, C σ J → R σ J) → p) : p := h tail
/-- an entry of the law's own dict of words -/
def EntT (H : Hp) (kv : Key × V) (n : Nd) : Prop := kv.1 = .inl n.key ∧ ∃ a, kv.2 = .ref a ∧ H a = some (.tup (n.word.map fun i : Nat => V.int i))
def WaysT (H : Hp) (d : Addr) (g : List Nd) : Prop := ∃ kvs, H d = some (.dK kvs) ∧ Al (EntT H) kvs g
theorem EntT.tk {H G : Hp} {kv : Key × V} {n : Nd} (e : EntT H kv n) (t : Tk H G) : EntT G kv n := by
  obtain ⟨e1, a, e2, e3⟩ := e
  exact ⟨e1, a, e2, t _ _ e3⟩
theorem WaysT.same {H G : Hp} {d : Addr} {g : List Nd} (h : WaysT H d g) (s : Same H G) : WaysT G d g := by
  obtain ⟨kvs, h1, h2⟩ := h
  exact ⟨kvs, s _ _ h1, h2.mono fun x y e => e.tk (tk_of s)⟩
theorem entT_keys {H : Hp} {kvs : List (Key × V)} {g : List Nd} (a : Al (EntT H) kvs g) : kvs.map (·.1) = (g.map (·.key)).map Sum.inl := by
  refine List.ext_getElem? fun i => ?_
  rw [List.getElem?_map, List.getElem?_map, List.getElem?_map]
  by_cases hi : i < kvs.length
  · obtain ⟨n, hn, e, _⟩ := a.of (List.getElem?_eq_getElem hi)
    rw [List.getElem?_eq_getElem hi, hn]
    exact congrArg some e
  · rw [List.getElem?_eq_none (by omega), List.getElem?_eq_none (by rw [← a.len]; omega)]
    rfl
section
variable {P : Program} {w : World} {K : PySem.W.Frag} {mg : Str → Option Value} {base : Heap}
theorem ok_law_size_at (T : Txt mg) {f : Addr} {fd : FuncData} (D : Df K mg "_law_size_at" (topS 70) ["_law_told", "_law_wide"] f fd) (h_law_add : Has P w K mg base "_law_add" 3 ["_law_one", "_law_other"] sp_law_add) (h_law_mul : Has P w K mg base "_law_mul" 3 ["_law_one", "_law_other"] sp_law_mul) (h_law_power : Has P w K mg base "_law_power" 4 ["_law_worth", "_law_many_so"] sp_law_power) : Has P w K mg base "_law_size_at" 5 ["_law_told", "_law_wide"] sp_law_size_at := by
  refine D.has sc__law_size_at (fun vs H Q E h => ?_) (fun cdv A outer s H vs Q E hr h => ?_)
  · obtain ⟨v, row, b, w, rfl, _⟩ := h
    rfl
  · obtain ⟨v, row, b, w, rfl, ⟨a, vs, rfl, ha, al⟩, g, w1, w8, q⟩ := h
    refine ⟨_, (pss_cons (ps_par (i := 2) (j := 3) (by rfl) sc__law_size_at.nd rfl rfl (by decide) rfl rfl (pa_cons (pe_tup (pa_cons (pv 1) (pa_cons pe_int pa_nil))) (pa_cons (pe_op op_sub (pe_callB call_len_seq (by rfl) T.len bt_len (pa_cons (pv 0) pa_nil)) pe_int) pa_nil)) (by rfl))
      (pss_cons (ps_for PassesOwn.never rfl (pi_range1 (by rfl) T.range (pa_cons (pv 3) pa_nil)) (pg_name (i := 4) sc__law_size_at.nd rfl (.inl rfl)) (pss_cons (ps_set (i := 5) sc__law_size_at.nd rfl (.inl rfl) (pe_tup (pa_cons (pe_callB call_abs (by rfl) T.abs bt_abs (pa_cons (pe_ix ix_tup (pe_ix ix_tup (pv 0) (pv 4) (fun _ _ => rfl)) pe_int (fun _ _ => rfl)) pa_nil)) (pa_cons (pe_ix ix_tup (pe_ix ix_tup (pv 0) (pv 4) (fun _ _ => rfl)) pe_int (fun _ _ => rfl)) pa_nil))))
      (pss_one (ps_set (i := 2) sc__law_size_at.nd rfl (.inl rfl) (pe_has h_law_add (hr.mono (by decide)) (by rfl) (pa_cons (pv 2) (pa_cons (pe_has h_law_mul (hr.mono (by decide)) (by rfl) (pa_cons (pv 5) (pa_cons (pe_has h_law_power (hr.mono (by decide)) (by rfl) (pa_cons (pe_tup (pa_cons (pv 1) (pa_cons pe_int pa_nil))) (pa_cons (pv 4) pa_nil))) pa_nil))) pa_nil)))))))
      (pss_cons (ps_set (i := 6) sc__law_size_at.nd rfl (.inl rfl) (pe_tup (pa_cons (pe_callB call_abs (by rfl) T.abs bt_abs (pa_cons (pe_ix ix_tup (pe_ix ix_tup (pv 0) (pe_un un_neg pe_int) (fun _ _ => rfl)) pe_int (fun _ _ => rfl)) pa_nil)) (pa_cons (pe_ix ix_tup (pe_ix ix_tup (pv 0) (pe_un un_neg pe_int) (fun _ _ => rfl)) pe_int (fun _ _ => rfl)) pa_nil))))
      (pss_one (ps_ret (pe_tup (pa_cons (pe_has h_law_mul (hr.mono (by decide)) (by rfl) (pa_cons (pv 6) (pa_cons (pe_has h_law_power (hr.mono (by decide)) (by rfl) (pa_cons (pe_tup (pa_cons (pv 1) (pa_cons pe_int pa_nil))) (pa_cons (pv 3) pa_nil))) pa_nil))) (pa_cons (pv 2) pa_nil)))))))), ?_⟩
    have l2 := g.len2
    have l4 := g.len4
    have vl := al.len
    have sl : (sizesOf row).length = row.length := List.length_map _
    refine ⟨.int (w : Nat), rfl, by show 2 ≤ sizeLine; decide, fun p np => ⟨.ref a, rfl, a, vs, rfl, .inr (.of (same_new np _ _ ha)), (vs.length : Int), 1, rfl, rfl, _, _, rfl, ?_⟩⟩
    have s1 := same_new (o := .tup [.int (w : Nat), .int 1]) np
    have hp : Pr (upd H p (.tup [.int (w : Nat), .int 1])) (.ref p) (w : Nat) := ⟨p, rfl, upd_same⟩
    generalize upd H p (.tup [.int (w : Nat), .int 1]) = G1 at *
    have en : ((vs.length : Int) - 1).toNat = row.length - 1 := by omega
    have ek : (vs.length : Int) - 1 = ((row.length - 1 : Nat) : Int) := by omega
    refine ⟨.int ((vs.length : Int) - 1), rfl, (vs.length : Int) - 1, rfl, by omega, by omega, ?_⟩
    rw [en]
    have ha1 := s1 _ _ ha
    -- one part of the sums
    have part : ∀ (J : Hp) (t : Addr) (c : Int) (i : Nat), i ≤ 3 → True := fun _ _ _ _ _ => trivial
    refine for_range (n := row.length - 1) (fun i σ J => Same G1 J ∧ ∃ z y4 y5, σ = [some (.ref a), some (.int (w : Nat)), some z, some (.int ((vs.length : Int) - 1)), y4, y5, none] ∧ Pr J z (sumsAt (sizesOf row) (w : Nat) i).1) ⟨Same.refl _, _, _, _, rfl, hp⟩ (fun i σ J hi pp => ?_) (fun σ J pp => ?_)
    · obtain ⟨t1, z, y4, y5, rfl, hz⟩ := pp
      have hir : i < row.length := by omega
      have hrow := List.getElem?_eq_getElem hir
      obtain ⟨x, hx, pr, rfl, hpr⟩ := al.to hrow
      have haJ := t1 _ _ ha1
      have hprJ := t1 _ _ (s1 _ _ hpr)
      have sq : SqT K J a vs := .of haJ
      refine ⟨.ref a, rfl, .int (0 + (i : Nat)), rfl, a, vs, 0 + (i : Nat), .ref pr, rfl, rfl, sq, at_of (j := i) (by omega) hx, pr, _, 0, .int row[i], rfl, rfl, .of hprJ, atI_nat (j := 0) rfl, row[i], rfl, ?_⟩
      refine ⟨.ref a, rfl, .int (0 + (i : Nat)), rfl, a, vs, 0 + (i : Nat), .ref pr, rfl, rfl, sq, at_of (j := i) (by omega) hx, pr, _, 1, .int 1, rfl, rfl, .of hprJ, atI_nat (j := 1) rfl, by show 2 ≤ sizeLine; decide, fun t nt => ?_⟩
      rw [abs_nat]
      have s2 := same_new (o := .tup [.int (row[i].natAbs : Nat), .int 1]) nt
      have ht : Pr (upd J t (.tup [.int (row[i].natAbs : Nat), .int 1])) (.ref t) (row[i].natAbs : Nat) := ⟨t, rfl, upd_same⟩
      generalize upd J t (.tup [.int (row[i].natAbs : Nat), .int 1]) = J2 at *
      refine ⟨z, rfl, .ref t, rfl, .int (w : Nat), rfl, by show 2 ≤ sizeLine; decide, fun u nu => ?_⟩
      have s3 := same_new (o := .tup [.int (w : Nat), .int 1]) nu
      have hu : Pr (upd J2 u (.tup [.int (w : Nat), .int 1])) (.ref u) (w : Nat) := ⟨u, rfl, upd_same⟩
      generalize upd J2 u (.tup [.int (w : Nat), .int 1]) = J3 at *
      obtain ⟨p0, p1⟩ := pw_le (w := w) (i := i) w8 (by omega)
      refine ⟨.int (0 + (i : Nat)), rfl, .ref u, (w : Nat), i, by rw [Int.zero_add]; rfl, hu, by omega, by omega, by omega, fun J4 r1 s4 h4 => ?_⟩
      refine ⟨.ref t, r1, _, _, rfl, ht.tk (tk_of (s3.trans s4)), h4, by omega, by omega, fun J5 r2 s5 h5 => ?_⟩
      have s6 := ((s2.trans s3).trans s4).trans s5
      refine ⟨z, r2, _, _, rfl, hz.tk (tk_of s6), h5, fun J6 r3 s7 h7 => ⟨t1.trans (s6.trans s7), r3, _, _, rfl, ?_⟩⟩
      have e : (sizesOf row)[i]? = some (row[i].natAbs : Int) := sizes_get hrow
      rw [sumsAt_succ e]
      show Pr J6 r3 ((sumsAt (sizesOf row) (w : Nat) i).1 + (row[i].natAbs : Int) * (sumsAt (sizesOf row) (w : Nat) i).2)
      rw [sumsAt_pow (by omega)]
      exact h7
    · obtain ⟨t1, z, y4, y5, rfl, hz⟩ := pp
      have hir : row.length - 1 < row.length := by omega
      have hrow := List.getElem?_eq_getElem hir
      obtain ⟨x, hx, pr, rfl, hpr⟩ := al.to hrow
      have haJ := t1 _ _ ha1
      have hprJ := t1 _ _ (s1 _ _ hpr)
      have sq : SqT K J a vs := .of haJ
      have hx2 : vs[vs.length - 1]? = some (.ref pr) := by
        rw [vl]
        exact hx
      generalize hc : row[row.length - 1] = c at *
      refine ⟨.ref a, rfl, 1, rfl, a, vs, -1, .ref pr, rfl, rfl, sq, at_end hx2, pr, _, 0, .int c, rfl, rfl, .of hprJ, atI_nat (j := 0) rfl, c, rfl, ?_⟩
      refine ⟨.ref a, rfl, 1, rfl, a, vs, -1, .ref pr, rfl, rfl, sq, at_end hx2, pr, _, 1, .int 1, rfl, rfl, .of hprJ, atI_nat (j := 1) rfl, by show 2 ≤ sizeLine; decide, fun t nt => ?_⟩
      rw [abs_nat]
      have s2 := same_new (o := .tup [.int (c.natAbs : Nat), .int 1]) nt
      have ht : Pr (upd J t (.tup [.int (c.natAbs : Nat), .int 1])) (.ref t) (c.natAbs : Nat) := ⟨t, rfl, upd_same⟩
      generalize upd J t (.tup [.int (c.natAbs : Nat), .int 1]) = J2 at *
      refine ⟨.ref t, rfl, .int (w : Nat), rfl, by show 2 ≤ sizeLine; decide, fun u nu => ?_⟩
      have s3 := same_new (o := .tup [.int (w : Nat), .int 1]) nu
      have hu : Pr (upd J2 u (.tup [.int (w : Nat), .int 1])) (.ref u) (w : Nat) := ⟨u, rfl, upd_same⟩
      generalize upd J2 u (.tup [.int (w : Nat), .int 1]) = J3 at *
      obtain ⟨p0, p1⟩ := pw_le (w := w) (i := row.length - 1) w8 (by omega)
      refine ⟨.int ((vs.length : Int) - 1), rfl, .ref u, (w : Nat), row.length - 1, by rw [ek]; rfl, hu, by omega, by omega, by omega, fun J4 r1 s4 h4 => ?_⟩
      refine ⟨.ref t, r1, _, _, rfl, ht.tk (tk_of (s3.trans s4)), h4, by omega, by omega, fun J5 r2 s5 h5 => ?_⟩
      have s6 := ((s2.trans s3).trans s4).trans s5
      refine ⟨z, rfl, by show 2 ≤ sizeLine; decide, fun r nr => ?_⟩
      have s7 := s6.trans (same_new (o := .tup [r2, z]) nr)
      refine q _ r r2 z _ _ (s1.trans (t1.trans s7)) upd_same (h5.tk (tk_of (same_new nr))) (hz.tk (tk_of s7)) ?_
      unfold holdsI
      rw [List.getD_eq_getElem?_getD, sizes_get hrow, sumsAt_pow (by omega)]
      rfl
theorem ok_law_led_to (T : Txt mg) {f : Addr} {fd : FuncData} (D : Df K mg "_law_led_to" (topS 72) ["_law_told", "_law_here"] f fd)  : Has P w K mg base "_law_led_to" 1 ["_law_told", "_law_here"] sp_law_led_to := by
  refine D.has sc__law_led_to (fun vs H Q E h => ?_) (fun cdv A outer s H vs Q E hr h => ?_)
  · obtain ⟨v, row, x, rfl, _⟩ := h
    rfl
  · obtain ⟨v, row, x, rfl, ⟨a, vs, rfl, ha, al⟩, x0, x1, q⟩ := h
    refine ⟨_, (pss_cons (ps_set (i := 2) sc__law_led_to.nd rfl (.inl rfl) pe_int)
      (pss_cons (ps_for PassesOwn.never rfl (pi_tup (pe_revT (pv 0))) (pg_name (i := 3) sc__law_led_to.nd rfl (.inl rfl)) (pss_one (ps_set (i := 2) sc__law_led_to.nd rfl (.inl rfl) (pe_op op_add (pe_op op_mul (pv 2) (pv 1)) (pe_ix ix_tup (pv 3) pe_int (fun _ _ => rfl))))))
      (pss_one (ps_ret (pv 2))))), ?_⟩
    refine ⟨.ref a, rfl, a, vs, rfl, .of ha, fun p np => ?_⟩
    have s1 := same_new (o := .tup vs.reverse) np
    have hp : (upd H p (.tup vs.reverse)) p = some (.tup vs.reverse) := upd_same
    generalize upd H p (.tup vs.reverse) = G at *
    refine ⟨p, rfl, ⟨_, .of hp⟩, for_it walk_tup (fun i σ J => (∃ z, σ = [some (.ref a), some (.int x), some (.int (ledI (row.drop (row.length - i)) x)), z]) ∧ J = G) ⟨⟨none, ?_⟩, rfl⟩ (fun i σ J _ pp => by rw [pp.2]; exact .of hp) (fun i y σ J J2 hi pp yy => ?_) (fun σ J pp => ?_)⟩
    · rw [Nat.sub_zero, List.drop_length]
      rfl
    · obtain ⟨⟨z, rfl⟩, rfl⟩ := pp
      obtain ⟨rfl, hy⟩ := yy
      rw [List.length_reverse, al.len] at hi
      rw [List.getElem?_reverse (by rw [al.len]; exact hi), al.len] at hy
      obtain ⟨c, hc, pr, rfl, hpr⟩ := al.of hy
      refine ⟨.int _, rfl, .int x, rfl, _, x, rfl, rfl, .inr ⟨by omega, by omega⟩, .ref pr, rfl, pr, _, 0, .int c, rfl, rfl, .of (s1 _ _ hpr), atI_nat (j := 0) rfl, _, c, rfl, rfl, ⟨some (.ref pr), ?_⟩, rfl⟩
      rw [← led_step hi hc]
      rfl
    · obtain ⟨⟨z, rfl⟩, rfl⟩ := pp
      rw [List.length_reverse, al.len, Nat.sub_self, List.drop_zero]
      exact ⟨.int _, rfl, q _ s1⟩
theorem ok_law_most (T : Txt mg) {f : Addr} {fd : FuncData} (D : Df K mg "_law_most" (topS 73) ["_law_steps_so"] f fd) (h_law_size_at : Has P w K mg base "_law_size_at" 5 ["_law_told", "_law_wide"] sp_law_size_at) (h_law_less : Has P w K mg base "_law_less" 1 ["_law_one", "_law_other"] sp_law_less) : Has P w K mg base "_law_most" 6 ["_law_steps_so"] sp_law_most := by
  refine D.has sc__law_most (fun vs H Q E h => ?_) (fun cdv A outer s H vs Q E hr h => ?_)
  · obtain ⟨v, rows, B, rfl, _⟩ := h
    rfl
  · obtain ⟨v, rows, B, rfl, ⟨a, vs, rfl, ha, al⟩, gd, q⟩ := h
    refine ⟨_, (pss_cons (ps_set (i := 1) sc__law_most.nd rfl (.inl rfl) pe_int)
      (pss_cons (ps_for PassesOwn.never rfl (pi_tup (pv 0)) (pg_name (i := 2) sc__law_most.nd rfl (.inl rfl)) (pss_cons (ps_set (i := 3) sc__law_most.nd rfl (.inl rfl) pe_int)
      (pss_cons (ps_asg (pe_has h_law_size_at (hr.mono (by decide)) (by rfl) (pa_cons (pv 2) (pa_cons (pv 3) pa_nil))) (pg_tup rfl (pgs_cons (pg_name (i := 4) sc__law_most.nd rfl (.inl rfl)) (pgs_cons (pg_name (i := 5) sc__law_most.nd rfl (.inl rfl)) pgs_nil))))
      (pss_cons (ps_while PassesOwn.never (pt_val (pe_has h_law_less (hr.mono (by decide)) (by rfl) (pa_cons (pv 4) (pa_cons (pv 5) pa_nil)))) (pss_cons (ps_set (i := 3) sc__law_most.nd rfl (.inl rfl) (pe_op op_add (pv 3) pe_int))
      (pss_one (ps_asg (pe_has h_law_size_at (hr.mono (by decide)) (by rfl) (pa_cons (pv 2) (pa_cons (pv 3) pa_nil))) (pg_tup rfl (pgs_cons (pg_name (i := 4) sc__law_most.nd rfl (.inl rfl)) (pgs_cons (pg_name (i := 5) sc__law_most.nd rfl (.inl rfl)) pgs_nil)))))))
      (pss_one (ps_set (i := 1) sc__law_most.nd rfl (.inl rfl) (pe_callB (call_max2 rfl) (by rfl) T.max bt_max (pa_cons (pv 1) (pa_cons (pv 3) pa_nil)))))))))
      (pss_one (ps_ret (pv 1))))), ?_⟩
    have gb := gds_b gd
    have gl := gds_len gd
    refine ⟨.ref a, rfl, a, rfl, ⟨_, .of ha⟩, for_it walk_tup (fun i σ J => Same H J ∧ ∃ (m : Nat) (z2 z3 z4 z5 : Option V), σ = [some (.ref a), some (.int (m : Nat)), z2, z3, z4, z5] ∧ 1 ≤ m ∧ m ≤ B ∧ ∀ (j : Nat) (row : List Int) (b : Nat), j < i → rows[j]? = some row → Good row b → b ≤ m) ⟨Same.refl _, 1, _, _, _, _, rfl, Nat.le_refl _, gb.1, fun j _ _ hj => absurd hj (Nat.not_lt_zero _)⟩ (fun i σ J _ pp => .of (pp.1 _ _ ha)) (fun i x σ J J2 hi pp y => ?_) (fun σ J pp => ?_)⟩
    · obtain ⟨rfl, hx⟩ := y
      obtain ⟨t1, m, z2, z3, z4, z5, rfl, m1, mB, hm⟩ := pp
      obtain ⟨row, hrow, hst⟩ := al.of hx
      obtain ⟨b, hg, hb⟩ := gds_row gd hrow
      have hst2 := hst.tk (tk_of t1)
      have b1 := hg.b1
      have b5 := hg.b5
      refine ⟨x, rfl, .int 1, rfl, x, row, b, 1, rfl, hst2, hg, by decide, by decide, fun G3 p3 x3 y3 hi3 lo3 s3 hp3 hx3 hy3 e3 => ?_⟩
      refine ⟨p3, _, rfl, .of hp3, rfl, x3, [y3], rfl, y3, [], rfl, rfl, ?_⟩
      refine ⟨fun k σ G => Same J2 G ∧ ∃ (wd : Nat) (z4 z5 : V) (h4 l4 : Int), σ = [some (.ref a), some (.int (m : Nat)), some x, some (.int (wd : Nat)), some z4, some z5] ∧ 1 ≤ wd ∧ wd ≤ b ∧ k = b - wd ∧ Pr G z4 h4 ∧ Pr G z5 l4 ∧ holdsI row (wd : Nat) = decide (l4 ≤ h4), ⟨b - 1, s3, 1, x3, y3, hi3, lo3, rfl, by decide, b1, rfl, hx3, hy3, e3⟩, ?_⟩
      rintro k σ G ⟨u1, wd, z4, z5, h4, l4, rfl, w1, w2, rfl, p4, p5, e4⟩
      rw [hg.holds w1 (by omega)] at e4
      refine ⟨z4, rfl, z5, rfl, z4, z5, h4, l4, rfl, p4, p5, _, rfl, ?_⟩
      by_cases c : h4 < l4
      · rw [decide_eq_true c]
        rw [decide_eq_false (show ¬ l4 ≤ h4 by omega)] at e4
        have c2 := of_decide_eq_false e4
        refine iteT ⟨fun σ G2 => Same J2 G2 ∧ ∃ (z4 z5 : V) (h4 l4 : Int), σ = [some (.ref a), some (.int (m : Nat)), some x, some (.int ((wd + 1 : Nat) : Int)), some z4, some z5] ∧ Pr G2 z4 h4 ∧ Pr G2 z5 l4 ∧ holdsI row ((wd + 1 : Nat) : Int) = decide (l4 ≤ h4), fun σ G2 n => ?_, ?_⟩
        · obtain ⟨n1, z4, z5, h4, l4, n2, n3, n4, n5⟩ := n
          exact ⟨b - (wd + 1), by omega, n1, wd + 1, z4, z5, h4, l4, n2, by omega, by omega, rfl, n3, n4, n5⟩
        · refine ⟨.int (wd : Nat), rfl, (wd : Nat), 1, rfl, rfl, ?_⟩
          refine ⟨x, rfl, .int ((wd : Nat) + 1), rfl, x, row, b, wd + 1, rfl, hst2.tk (tk_of u1), hg, by omega, by omega, fun G4 p4 x4 y4 hi4 lo4 s4 hp4 hx4 hy4 e5 => ?_⟩
          exact ⟨p4, _, rfl, .of hp4, rfl, x4, [y4], rfl, y4, [], rfl, rfl, u1.trans s4, x4, y4, hi4, lo4, rfl, hx4, hy4, e5⟩
      · rw [decide_eq_false c]
        rw [decide_eq_true (show l4 ≤ h4 by omega)] at e4
        have c2 := of_decide_eq_true e4
        have c3 : wd = b := by omega
        subst c3
        refine iteF ⟨.int (m : Nat), rfl, .int (wd : Nat), rfl, (m : Nat), (wd : Nat), rfl, t1.trans u1, if wd > m then wd else m, some x, some (.int (wd : Nat)), some z4, some z5, ?_, ?_, ?_, fun j row2 b2 hj hr2 hg2 => ?_⟩
        · by_cases c : wd > m
          · rw [if_pos c]
            show [some (V.ref a), some (.int (if (wd : Int) > (m : Int) then (wd : Int) else (m : Int))), some x, some (.int (wd : Nat)), some z4, some z5] = _
            rw [if_pos (by omega)]
          · rw [if_neg c]
            show [some (V.ref a), some (.int (if (wd : Int) > (m : Int) then (wd : Int) else (m : Int))), some x, some (.int (wd : Nat)), some z4, some z5] = _
            rw [if_neg (by omega)]
        · split <;> omega
        · split <;> omega
        · by_cases e : j = i
          · subst e
            rw [hrow] at hr2
            cases hr2
            have := hg2.uniq hg
            split <;> omega
          · have := hm j row2 b2 (by omega) hr2 hg2
            split <;> omega
    · obtain ⟨t1, m, z2, z3, z4, z5, rfl, m1, mB, hm⟩ := pp
      obtain ⟨row, hr, hg⟩ := gd.2.2.2
      obtain ⟨j, hj, e⟩ := List.getElem_of_mem hr
      have := hm j row B (by rw [al.len]; exact hj) (by rw [List.getElem?_eq_getElem hj, e]) hg
      have e2 : m = B := by omega
      subst e2
      exact ⟨_, rfl, q _ t1⟩
theorem ok_law_words (T : Txt mg) {f : Addr} {fd : FuncData} (D : Df K mg "_law_words" (topS 74) ["_law_steps_so", "_law_first", "_law_most_here"] f fd) (h_law_led_to : Has P w K mg base "_law_led_to" 1 ["_law_told", "_law_here"] sp_law_led_to) : Has P w K mg base "_law_words" 2 ["_law_steps_so", "_law_first", "_law_most_here"] sp_law_words := by
  refine D.has sc__law_words (fun vs H Q E h => ?_) (fun cdv A outer s H vs Q E hr h => ?_)
  · obtain ⟨v, rows, B, s, rfl, _⟩ := h
    rfl
  · obtain ⟨v, rows, B, s, rfl, ⟨a, vs, rfl, ha, al⟩, gd, a1, a2, q⟩ := h
    refine ⟨_, (pss_cons (ps_par (i := 3) (j := 4) (by rfl) sc__law_words.nd rfl rfl (by decide) rfl rfl (pa_cons pe_dnewK (pa_cons (pe_lst pa_nil) pa_nil)) (by rfl))
      (pss_cons (ps_if (pt_cmpR op_le (pe_callB call_abs (by rfl) T.abs bt_abs (pa_cons (pv 1) pa_nil)) (pv 2) (nomark _)) (pss_cons (ps_dput (hu_of hr) (pv 3) (pv 1) (pe_tup pa_nil) rfl)
      (pss_one (ps_expr (pe_bm PySem.F.plainAttrs_list PySem.F.slot_list_append PySem.F.type_list_append mt_append (pv 4) (pa_cons (pv 1) pa_nil))))) pss_nil)
      (pss_cons (ps_for PassesOwn.never rfl (pi_range1 (by rfl) T.range (pa_cons (pe_op op_add (pe_op op_mul pe_int (pv 2)) pe_int) pa_nil)) (pg_name (i := 5) sc__law_words.nd rfl (.inl rfl)) (pss_one (ps_if (pt_cmpR op_lt (pv 5) (pe_callB call_len_seq (by rfl) T.len bt_len (pa_cons (pv 4) pa_nil)) (nomark _)) (pss_cons (ps_set (i := 6) sc__law_words.nd rfl (.inl rfl) (pe_ix ix_list (pv 4) (pv 5) (fun _ _ => rfl)))
      (pss_one (ps_for PassesOwn.never rfl (pi_enumT (by rfl) T.enumerate (pa_cons (pv 0) pa_nil)) (pg_tup rfl (pgs_cons (pg_name (i := 7) sc__law_words.nd rfl (.inl rfl)) (pgs_cons (pg_name (i := 8) sc__law_words.nd rfl (.inl rfl)) pgs_nil))) (pss_cons (ps_set (i := 9) sc__law_words.nd rfl (.inl rfl) (pe_has h_law_led_to (hr.mono (by decide)) (by rfl) (pa_cons (pv 8) (pa_cons (pv 6) pa_nil))))
      (pss_one (ps_if (PW.pt (pw_and (pt_cmpR op_le (pe_callB call_abs (by rfl) T.abs bt_abs (pa_cons (pv 9) pa_nil)) (pv 2) (nomark _)) (pw_and1 (pt_cmp (pc_dnotin (hu_of hr) (pv 9) (pv 3)))))) (pss_cons (ps_dput (hu_of hr) (pv 3) (pv 9) (pe_op op_catA (pe_dget (hu_of hr) (pv 3) (pv 6) (fun _ _ => rfl)) (pe_tup (pa_cons (pv 7) pa_nil))) rfl)
      (pss_one (ps_expr (pe_bm PySem.F.plainAttrs_list PySem.F.slot_list_append PySem.F.type_list_append mt_append (pv 4) (pa_cons (pv 9) pa_nil))))) pss_nil)))))) pss_nil)))
      (pss_one (ps_ret (pv 3)))))), ?_⟩
    have gb := gds_b gd
    have gl := gds_len gd
    have hst : Sts H (.ref a) rows := ⟨a, vs, rfl, ha, al⟩
    intro d nd
    refine ⟨Nat.zero_le _, fun ln nl => ⟨_, _, rfl, ?_⟩⟩
    have ndl : ln ≠ d := fun e => by
      rw [e, upd_same] at nl
      cases nl
    have nlH : H ln = none := by
      rw [upd_ne ndl] at nl
      exact nl
    have s1 : Same H (upd (upd H d (.dK [])) ln (.lst [])) := same_put (same_new nd) nlH
    have hd1 : (upd (upd H d (.dK [])) ln (.lst [])) d = some (.dK []) := by rw [upd_ne ndl.symm, upd_same]
    have hl1 : (upd (upd H d (.dK [])) ln (.lst [])) ln = some (.lst []) := upd_same
    generalize upd (upd H d (.dK [])) ln (.lst []) = G1 at *
    refine ⟨.int s, rfl, s, rfl, .int B, rfl, _, (B : Int), rfl, rfl, _, rfl, ?_⟩
    rw [abs_nat]
    apply via (C := fun σ J => Same H J ∧ ∃ g, (∃ z5 z6 z7 z8 z9, σ = [some (.ref a), some (.int s), some (.int B), some (.ref d), some (.ref ln), z5, z6, z7, z8, z9]) ∧ WaysT J d g ∧ J ln = some (.lst ((g.map (·.key)).map V.int)) ∧ ((s.natAbs : Int) ≤ B → Bf rows B s g 0 0) ∧ (¬ (s.natAbs : Int) ≤ B → g = []))
    case h =>
      intro q
      by_cases c : (s.natAbs : Int) ≤ B
      · rw [decide_eq_true c]
        refine iteT ⟨Nat.zero_le _, fun t nt => ?_⟩
        have s2 := same_new (o := .tup []) nt
        have hd2 := s2 _ _ hd1
        have hl2 := s2 _ _ hl1
        have ht : (upd G1 t (.tup [])) t = some (.tup []) := upd_same
        have s3 := s1.trans s2
        generalize upd G1 t (.tup []) = G2 at *
        refine ⟨.ref d, rfl, .int s, rfl, d, _, rfl, DPut.k (k := .inl s) hd2 (small1000 (show 0 ≤ 1000 by decide)), ?_⟩
        rw [putK_new _ rfl]
        have hl3 : (upd G2 d (.dK ([] ++ [(.inl s, .ref t)]))) ln = some (.lst []) := by
          rw [upd_ne ndl]
          exact hl2
        have td : t ≠ d := ne_of ht hd2 (by intro z; cases z)
        have tl : t ≠ ln := ne_of ht hl2 (by intro z; cases z)
        refine ⟨.ref ln, rfl, .inl ⟨rfl, _, .of hl3⟩, .int s, rfl, ln, [], .int s, rfl, rfl, hl3, small1000 (show 0 ≤ 1000 by decide), q _ _ ⟨same_put (same_put s3 nd) nlH, [⟨s, none, []⟩], ⟨none, none, none, none, none, rfl⟩, ⟨[(.inl s, .ref t)], ?_, Al.one ⟨rfl, t, rfl, ?_⟩⟩, upd_same, fun _ => Bf.start c, fun z => absurd c z⟩⟩
        · rw [upd_ne ndl.symm, upd_same]
          rfl
        · rw [upd_ne tl, upd_ne td]
          exact ht
      · rw [decide_eq_false c]
        refine iteF (q _ _ ⟨s1, [], ⟨none, none, none, none, none, rfl⟩, ⟨[], hd1, Al.nil⟩, hl1, fun z => absurd z c, fun _ => rfl⟩)
    case tail =>
      rintro σ J ⟨t1, g0, ⟨z5, z6, z7, z8, z9, rfl⟩, hw, hl, f1, f2⟩
      refine ⟨.int B, rfl, 2, (B : Int), rfl, rfl, .inl ⟨by decide, by decide⟩, _, 2, rfl, rfl, 2 * (B : Int) + 2, rfl, by omega, by omega, ?_⟩
      have en : (2 * (B : Int) + 2).toNat = 2 * B + 2 := by omega
      rw [en]
      refine for_range (n := 2 * B + 2) (fun i σ J => Same H J ∧ ∃ g, (∃ z5 z6 z7 z8 z9, σ = [some (.ref a), some (.int s), some (.int B), some (.ref d), some (.ref ln), z5, z6, z7, z8, z9]) ∧ WaysT J d g ∧ J ln = some (.lst ((g.map (·.key)).map V.int)) ∧ ((s.natAbs : Int) ≤ B → ∃ pl, Bf rows B s g pl 0 ∧ (pl = i ∨ (g.length ≤ pl ∧ pl ≤ i))) ∧ (¬ (s.natAbs : Int) ≤ B → g = [])) ⟨t1, g0, ⟨_, _, _, _, _, rfl⟩, hw, hl, fun z => ⟨0, f1 z, .inl rfl⟩, f2⟩ (fun i σ J hi pp => ?_) (fun σ J pp => ?_)
      · obtain ⟨t1, g, ⟨z5, z6, z7, z8, z9, rfl⟩, hw, hl, f1, f2⟩ := pp
        refine ⟨.int (0 + (i : Nat)), rfl, .ref ln, rfl, ln, _, rfl, .inl (.of hl), _, _, rfl, rfl, _, rfl, ?_⟩
        rw [List.length_map, List.length_map]
        by_cases c : (0 : Int) + (i : Nat) < (g.length : Nat)
        · rw [decide_eq_true c]
          have hs : (s.natAbs : Int) ≤ B := by
            refine Decidable.byContradiction fun e => ?_
            rw [f2 e] at c
            simp at c
            omega
          obtain ⟨pl, bf, hpl⟩ := f1 hs
          have e : pl = i := by omega
          subst e
          have hpg : pl < g.length := by omega
          have hp := List.getElem?_eq_getElem hpg
          generalize hpe : g[pl] = p at hp
          have hkp : (g.map (·.key))[pl]? = some p.key := by
            rw [List.getElem?_map, hp]
            rfl
          have pb := bf.bnd p (List.mem_of_getElem? hp)
          refine iteT ⟨.ref ln, rfl, .int (0 + (pl : Nat)), rfl, ln, _, 0 + (pl : Nat), .int p.key, rfl, rfl, .of hl, at_of (j := pl) (by omega) (ints_get hkp), ?_⟩
          refine ⟨.ref a, rfl, a, vs, rfl, .of (t1 _ _ ha), for_it walk_enumT (fun i σ J => ∃ g, Bf rows B s g pl i ∧ g[pl]? = some p ∧ (∃ z7 z8 z9, σ = [some (.ref a), some (.int s), some (.int B), some (.ref d), some (.ref ln), some (.int (0 + (pl : Nat))), some (.int p.key), z7, z8, z9]) ∧ Same H J ∧ WaysT J d g ∧ J ln = some (.lst ((g.map (·.key)).map V.int)))
              ⟨g, bf, hp, ⟨_, _, _, rfl⟩, t1, hw, hl⟩ (fun i σ J _ pp => by obtain ⟨_, _, _, _, s2, _⟩ := pp; exact .of (s2 _ _ ha)) (fun i x σ J J2 hi pp y => ?_) (fun σ J pp => ?_)⟩
          · obtain ⟨g2, b2, hp2, ⟨y8, y9, y10, rfl⟩, s2, hw2, hl2⟩ := pp
            obtain ⟨Tp, x1, x2, rfl, nT, rfl, e1, e2⟩ := y
            cases e1
            obtain ⟨row, hrow, hst⟩ := al.of e2
            have sT := same_new (o := .tup [.int (i : Nat), x2]) nT
            have s3 := s2.trans sT
            have hw3 := hw2.same sT
            have hl3 := sT _ _ hl2
            refine ⟨Tp, _, rfl, .of upd_same, rfl, .int (i : Nat), [x2], rfl, x2, [], rfl, rfl, ?_⟩
            generalize upd J Tp (.tup [.int (i : Nat), x2]) = J3 at *
            refine ⟨x2, rfl, .int p.key, rfl, x2, row, p.key, rfl, hst.tk (tk_of s3), by omega, by omega, fun J5 s5 => ?_⟩
            have s3 := s3.trans s5
            have hw3 := hw3.same s5
            have hl3 := s5 _ _ hl3
            obtain ⟨kv3, hd3, ae3⟩ := hw3
            have hk3 := entT_keys ae3
            have gl3 := b2.len (by omega)
            refine ⟨.int (ledI row p.key), rfl, _, rfl, .int B, rfl, _, (B : Int), rfl, rfl, _, rfl, ?_⟩
            rw [abs_nat]
            by_cases cb : ((ledI row p.key).natAbs : Int) ≤ B
            · rw [decide_eq_true cb]
              refine iteT ⟨.int (ledI row p.key), rfl, .ref d, rfl, d, _, rfl, DGet.k (k := .inl (ledI row p.key)) hd3, _, rfl, ?_⟩
              rw [val_some hk3]
              by_cases cm : ledI row p.key ∈ g2.map (·.key)
              · rw [decide_eq_true cm]
                exact iteF ⟨g2, b2.skip hp2 hrow (.inr cm), hp2, ⟨_, _, _, rfl⟩, s3, ⟨kv3, hd3, ae3⟩, hl3⟩
              · rw [decide_eq_false cm]
                obtain ⟨kv, hkv, ek, wa, ev, hwa⟩ := ae3.to hp2
                have hnd3 : (kv3.map (·.1)).Nodup := by
                  rw [hk3]
                  exact nodup_inl b2.nodup
                have hkv' : kv3[pl]? = some (.inl p.key, .ref wa) := by
                  rw [hkv, ← ek, ← ev]
                have hv := val_at hnd3 hkv'
                have wl : p.word.length ≤ 100 := by
                  have := Bf.wlen b2 pl pl p (Nat.le_refl _) hp2
                  have := (List.getElem?_eq_some_iff.mp hp2).1
                  omega
                refine iteT ⟨.ref d, rfl, .int p.key, rfl, d, .ref wa, rfl, hv ▸ DGet.k (k := .inl p.key) hd3, .int (i : Nat), rfl, by show 1 ≤ sizeLine; decide, fun t nt => ?_⟩
                have st := same_new (o := .tup [.int (i : Nat)]) nt
                have hwt := st _ _ hwa
                refine catA_one (.of hwt) upd_same hwt (by rw [List.length_map]; exact small1000 (by omega)) fun r J4 s4 hr4 => ?_
                have s6 := st.trans s4
                have hdE := s6 _ _ hd3
                have hlE := s6 _ _ hl3
                have aeE := ae3.mono fun x y z => z.tk (tk_of s6)
                have sHE := s3.trans s6
                have nld : ln ≠ d := ndl
                have kl : kv3.length = g2.length := ae3.len
                refine ⟨.ref d, rfl, .int (ledI row p.key), rfl, d, _, rfl, DPut.k (k := .inl (ledI row p.key)) hdE (small1000 (by omega)), ?_⟩
                rw [putK_new _ (val_none hk3 cm)]
                have hl5 : (upd J4 d (.dK (kv3 ++ [(.inl (ledI row p.key), .ref r)]))) ln = some (.lst ((g2.map (·.key)).map V.int)) := by
                  rw [upd_ne nld]
                  exact hlE
                refine ⟨.ref ln, rfl, .inl ⟨rfl, _, .of hl5⟩, .int (ledI row p.key), rfl, ln, _, .int (ledI row p.key), rfl, rfl, hl5, ?_, ?_⟩
                · rw [List.length_map, List.length_map]
                  exact small1000 (by omega)
                · refine ⟨_, b2.grow hp2 hrow cb cm, ?_, ⟨_, _, _, rfl⟩, same_put (same_put sHE nd) nlH, ⟨_, by rw [upd_ne nld.symm, upd_same], ?_⟩, ?_⟩
                  · rw [List.getElem?_append_left (List.getElem?_eq_some_iff.mp hp2).1]
                    exact hp2
                  · refine (aeE.mono fun x y z => ?_).snoc ⟨rfl, r, rfl, ?_⟩
                    · refine z.tk fun a xs ha => ?_
                      rw [upd_ne (ne_of ha hlE (by intro z; cases z)), upd_ne (ne_of ha hdE (by intro z; cases z))]
                      exact ha
                    · rw [upd_ne (ne_of hr4 hlE (by intro z; cases z)), upd_ne (ne_of hr4 hdE (by intro z; cases z)), hr4, List.map_append]
                      rfl
                  · rw [upd_same, List.map_append, List.map_append]
                    rfl
            · rw [decide_eq_false cb]
              exact iteF (iteF ⟨g2, b2.skip hp2 hrow (.inl cb), hp2, ⟨_, _, _, rfl⟩, s3, ⟨kv3, hd3, ae3⟩, hl3⟩)
          · obtain ⟨g2, b2, hp2, ⟨y8, y9, y10, rfl⟩, s2, hw2, hl2⟩ := pp
            rw [al.len] at b2
            have hlt := (List.getElem?_eq_some_iff.mp hp2).1
            exact ⟨s2, g2, ⟨_, _, _, _, _, rfl⟩, hw2, hl2, fun _ => ⟨pl + 1, b2.next hlt, .inl rfl⟩, fun z => absurd hs z⟩
        · rw [decide_eq_false c]
          refine iteF ⟨t1, g, ⟨_, _, _, _, _, rfl⟩, hw, hl, fun z => ?_, f2⟩
          obtain ⟨pl, bf, hpl⟩ := f1 z
          exact ⟨pl, bf, by omega⟩
      · obtain ⟨t1, g, ⟨z5, z6, z7, z8, z9, rfl⟩, ⟨kvs, hd, ae⟩, hl, f1, f2⟩ := pp
        have kn : (g.map (·.key)).Nodup ∧ g.length ≤ 41 ∧ ∀ x, x ∈ g.map (·.key) ↔ ((s.natAbs : Int) ≤ B ∧ ∃ w, Word rows B s w x) := by
          by_cases hs : (s.natAbs : Int) ≤ B
          · obtain ⟨pl, bf, hf⟩ := f1 hs
            have gl2 := bf.len (by omega)
            refine ⟨bf.nodup, by omega, fun x => ⟨fun hx => ⟨hs, ?_⟩, fun ⟨_, w, hx⟩ => bf.all (by omega) hx bf.root_mem⟩⟩
            obtain ⟨n, hn, hk⟩ := List.mem_map.mp hx
            exact ⟨n.word, hk ▸ bf.word' hn⟩
          · rw [f2 hs]
            exact ⟨List.nodup_nil, by decide, fun x => ⟨fun hx => absurd hx List.not_mem_nil, fun hx => absurd hx.1 hs⟩⟩
        exact ⟨.ref d, rfl, q J d kvs _ t1 hd (entT_keys ae) kn.1 kn.2.2 (by rw [List.length_map]; exact kn.2.1)⟩
end
end K86

/-! K86Law3: the drawn rows of steps. -/
namespace K86
open PySem PySem.Spec PyProof.Rows L2 SW
theorem sc__law_choices : FnScope ["_law_state", "_law_found", "_law_turn", "_law_pick", "_law_head", "_law_told"] ["_law_state"] (defScope (topS 71)) := ⟨rfl, rfl, rfl, by decide +kernel, rfl, by decide +kernel, by decide +kernel⟩
def sp_law_choices : Sp := fun vs H Q _ => ∃ (d c l : Addr) (n : Nat), vs = [.ref d] ∧ StA H d c l n ∧ n ≤ 900 ∧
  ∀ G r rows B n', Sd d l H G → StA G d c l n' → n' ≤ n + 20 → Sts G r rows → Gds rows B → Q r G
theorem gds_max : ∀ {rows : List (List Int)}, rows ≠ [] → (∀ row ∈ rows, ∃ b, Good row b) → ∃ B, (∀ row ∈ rows, ∃ b, Good row b ∧ b ≤ B) ∧ ∃ row ∈ rows, Good row B
  | [], h, _ => absurd rfl h
  | [r], _, h => by
    obtain ⟨b, hb⟩ := h r List.mem_cons_self
    refine ⟨b, fun row hr => ?_, r, List.mem_cons_self, hb⟩
    rw [List.mem_singleton.mp hr]
    exact ⟨b, hb, Nat.le_refl _⟩
  | r :: r2 :: rs, _, h => by
    obtain ⟨b, hb⟩ := h r List.mem_cons_self
    obtain ⟨B, h1, row, h2, h3⟩ := gds_max (rows := r2 :: rs) (List.cons_ne_nil _ _) fun row hr => h row (List.mem_cons_of_mem _ hr)
    by_cases c : b ≤ B
    · refine ⟨B, fun row hr => ?_, row, List.mem_cons_of_mem _ h2, h3⟩
      rcases List.mem_cons.mp hr with e | e
      · rw [e]
        exact ⟨b, hb, c⟩
      · exact h1 row e
    · refine ⟨b, fun row hr => ?_, r, List.mem_cons_self, hb⟩
      rcases List.mem_cons.mp hr with e | e
      · rw [e]
        exact ⟨b, hb, Nat.le_refl _⟩
      · obtain ⟨b2, h4, h5⟩ := h1 row e
        exact ⟨b2, h4, by omega⟩
theorem Sd.fresh {d c l p : Addr} {n : Nat} {H G : Hp} (s : Sd d l H G) (st : StA G d c l n) (hp : G p = none) : H p = none := by
  cases e : H p with
  | none => rfl
  | some o =>
    obtain ⟨hd, _, cs, ls, hc, hl, _⟩ := st
    have := s p o (ne_of_none hd hp).symm (ne_of_none hl hp).symm e
    rw [hp] at this
    cases this
theorem StA.ne_l {d c l p : Addr} {n : Nat} {H : Hp} (st : StA H d c l n) (hp : H p = none) : p ≠ l := by
  obtain ⟨hd, _, cs, ls, hc, hl, _⟩ := st
  exact (ne_of_none hl hp).symm
theorem StA.ne_dc {d c l p : Addr} {n : Nat} {H : Hp} (st : StA H d c l n) (hp : H p = none) : p ≠ d ∧ p ≠ c := by
  obtain ⟨hd, _, cs, ls, hc, hl, _⟩ := st
  exact ⟨(ne_of_none hd hp).symm, (ne_of_none hc hp).symm⟩
theorem mem_ints {ns : List Int} {i : Nat} {x : V} (h : (ns.map V.int)[i]? = some x) : ∃ n, x = .int n ∧ n ∈ ns := by
  rw [List.getElem?_map] at h
  obtain ⟨n, hn, e⟩ := Option.map_eq_some_iff.mp h
  exact ⟨n, e.symm, List.mem_of_getElem? hn⟩
theorem Sd.put {d l p : Addr} {H G : Hp} {o : HO} (s : Sd d l H G) (hp : H p = none) : Sd d l H (upd G p o) := fun a u a1 a2 ha => by
  rw [upd_ne (ne_of_none ha hp)]
  exact s a u a1 a2 ha
theorem StA.new {d c l p : Addr} {n : Nat} {H G : Hp} {o : HO} (st : StA G d c l n) (s : Same H G) (sh : StA H d c l n) (hp : H p = none) : StA (upd G p o) d c l n := by
  obtain ⟨hd, _, cs, ls, hc, hl, _⟩ := sh
  exact st.put (ne_of_none hd hp).symm (ne_of_none hl hp).symm (ne_of_none hc hp).symm
section
variable {P : Program} {w : World} {K : PySem.W.Frag} {mg : Str → Option Value} {base : Heap}
theorem ok_law_choices (T : Txt mg) {f : Addr} {fd : FuncData} (D : Df K mg "_law_choices" (topS 71) ["_law_state"] f fd) (h_law_draw : Has P w K mg base "_law_draw" 2 ["_law_state", "_law_limit"] sp_law_draw) (h_law_of : Has P w K mg base "_law_of" 3 ["_law_state", "_law_some"] sp_law_of) : Has P w K mg base "_law_choices" 4 ["_law_state"] sp_law_choices := by
  refine D.has sc__law_choices (fun vs H Q E h => ?_) (fun cdv A outer s H vs Q E hr h => ?_)
  · obtain ⟨d, c, l, n, rfl, _⟩ := h
    rfl
  · obtain ⟨d, c, l, n, rfl, st, n9, q⟩ := h
    refine ⟨_, (pss_cons (ps_set (i := 1) sc__law_choices.nd rfl (.inl rfl) (pe_tup pa_nil))
      (pss_cons (ps_for PassesOwn.never rfl (pi_range1 (by rfl) T.range (pa_cons (pe_op op_add pe_int (pe_has h_law_draw (hr.mono (by decide)) (by rfl) (pa_cons (pv 0) (pa_cons pe_int pa_nil)))) pa_nil)) (pg_name (i := 2) sc__law_choices.nd rfl (.inl rfl)) (pss_cons (ps_set (i := 3) sc__law_choices.nd rfl (.inl rfl) (pe_has h_law_draw (hr.mono (by decide)) (by rfl) (pa_cons (pv 0) (pa_cons pe_int pa_nil))))
      (pss_cons (ps_set (i := 4) sc__law_choices.nd rfl (.inl rfl) (pe_has h_law_of (hr.mono (by decide)) (by rfl) (pa_cons (pv 0) (pa_cons (pe_ifExp (pt_cmpR op_gt (pv 3) pe_int (nomark _)) (pe_lst (pa_cons pe_int (pa_cons (pe_un un_neg pe_int) (pa_cons pe_int pa_nil)))) (pe_lst (pa_cons pe_int (pa_cons (pe_un un_neg pe_int) (pa_cons pe_int (pa_cons (pe_un un_neg pe_int) pa_nil)))))) pa_nil))))
      (pss_cons (ps_set (i := 5) sc__law_choices.nd rfl (.inl rfl) (pe_lst (pa_cons (pe_tup (pa_cons (pe_op op_sub (pe_has h_law_draw (hr.mono (by decide)) (by rfl) (pa_cons (pv 0) (pa_cons pe_int pa_nil))) pe_int) (pa_cons pe_int pa_nil))) pa_nil)))
      (pss_cons (ps_if (pt_cmpR op_gt (pv 3) pe_int (nomark _)) (pss_one (ps_expr (pe_bm PySem.F.plainAttrs_list PySem.F.slot_list_append PySem.F.type_list_append mt_append (pv 5) (pa_cons (pe_tup (pa_cons (pe_op op_sub (pe_has h_law_draw (hr.mono (by decide)) (by rfl) (pa_cons (pv 0) (pa_cons pe_int pa_nil))) pe_int) (pa_cons pe_int pa_nil))) pa_nil)))) pss_nil)
      (pss_cons (ps_if (pt_cmpR op_eq (pv 3) pe_int (nomark _)) (pss_one (ps_expr (pe_bm PySem.F.plainAttrs_list PySem.F.slot_list_append PySem.F.type_list_append mt_append (pv 5) (pa_cons (pe_tup (pa_cons pe_int (pa_cons pe_int pa_nil))) pa_nil)))) pss_nil)
      (pss_one (ps_set (i := 1) sc__law_choices.nd rfl (.inl rfl) (pe_op op_catA (pv 1) (pe_tup (pa_cons (pe_callTy call_tuple_of (by rfl) T.tuple bt_tuple (pa_cons (pe_op op_cat (pv 5) (pe_lst (pa_cons (pe_tup (pa_cons (pv 4) (pa_cons pe_int pa_nil))) pa_nil))) pa_nil)) pa_nil)))))))))))
      (pss_one (ps_ret (pv 1))))), ?_⟩
    refine ⟨Nat.zero_le _, fun fa nf => ?_⟩
    have s1 := same_new (o := .tup []) nf
    have hf : (upd H fa (.tup [])) fa = some (.tup []) := upd_same
    have st1 := st.same s1
    generalize upd H fa (.tup []) = G1 at *
    refine ⟨.ref d, rfl, d, c, l, n, 3, rfl, st1, by omega, by decide, by decide, fun G2 v sd2 st2 v0 v1 => ?_⟩
    have hf2 := sd2.tk st1 _ _ hf
    have sd2 : Sd d l H G2 := (Sd.of s1).trans sd2
    refine ⟨1, v, rfl, rfl, 1 + v, rfl, by omega, by omega, ?_⟩
    refine for_range (n := (1 + v).toNat) (fun i σ J => Sd d l H J ∧ ∃ n' fa vs rows z2 z3 z4 z5, σ = [some (.ref d), some (.ref fa), z2, z3, z4, z5] ∧ StA J d c l n' ∧ n' ≤ n + 1 + 5 * i ∧ J fa = some (.tup vs) ∧ Al (Stp J) vs rows ∧ rows.length = i ∧ ∀ row ∈ rows, ∃ b, Good row b)
      ⟨sd2, n + 1, fa, [], [], _, _, _, _, rfl, st2, by omega, hf2, Al.nil, rfl, fun row hr => absurd hr List.not_mem_nil⟩ (fun i σ J hi pp => ?_) (fun σ J pp => ?_)
    · obtain ⟨sdJ, n', fa, vs, rows, z2, z3, z4, z5, rfl, stJ, hn', hfa, al, rl, gd⟩ := pp
      refine ⟨.ref d, rfl, d, c, l, n', 5, rfl, stJ, by omega, by decide, by decide, fun J1 pk sd1 st1 p0 p1 => ?_⟩
      -- the last row of the turn, from the list of numbers and the head
      apply via (C := fun σ J2 => ∃ (n2 : Nat) (tl : Addr) (us : List V) (ns : List Int) (hh : Int), σ = [some (.ref d), some (.ref fa), some (.int (0 + (i : Nat))), some (.int pk), some (.int hh), some (.ref tl)] ∧ Sd d l J1 J2 ∧ StA J2 d c l n2 ∧ n2 ≤ n' + 4 ∧ J2 tl = some (.lst us) ∧ Al (Pr J2) us ns ∧ ns.length ≤ 4 ∧ ∃ b, Good (ns ++ [hh]) b)
      case h =>
        intro q2
        by_cases cp : 1 < pk
        · refine ⟨.ref d, rfl, .int pk, rfl, pk, 1, rfl, rfl, _, rfl, ?_⟩
          rw [decide_eq_true cp]
          refine iteT ⟨1, rfl, by show 3 ≤ sizeLine; decide, fun p np => ?_⟩
          have sp1 := same_new (o := .lst [.int 1, .int (-1), .int 2]) np
          refine ⟨d, c, l, p, n' + 1, _, rfl, st1.same sp1, by omega, upd_same, st1.ne_l np, List.cons_ne_nil _ _, (show 3 ≤ 1000 by decide), fun J2 ix x sd2 st2 hx => ?_⟩
          obtain ⟨hh, rfl, hhm⟩ := mem_ints (ns := [1, -1, 2]) hx
          have sd2 := (Sd.of sp1).trans sd2
          refine ⟨.ref d, rfl, d, c, l, n' + 2, 7, rfl, st2, by omega, by decide, by decide, fun J3 v sd3 st3 v0 v1 => ⟨v, 3, rfl, rfl, by show 2 ≤ sizeLine; decide, fun t nt => ?_⟩⟩
          have sd3 := sd2.trans sd3
          have sT := same_new (o := .tup [.int (v - 3), .int 1]) nt
          have hT : Pr (upd J3 t (.tup [.int (v - 3), .int 1])) (.ref t) (v - 3) := ⟨t, rfl, upd_same⟩
          refine ⟨by show 1 ≤ sizeLine; decide, fun tl nl => ?_⟩
          have st4 := st3.same sT
          have sd4 := sd3.trans (Sd.of sT)
          generalize upd J3 t (.tup [.int (v - 3), .int 1]) = J4 at *
          have sl := same_new (o := .lst [.ref t]) nl
          have htl : (upd J4 tl (.lst [.ref t])) tl = some (.lst [.ref t]) := upd_same
          have st5 := st4.same sl
          have sd5 := sd4.trans (Sd.of sl)
          have nl1 := sd4.fresh st4 nl
          have tll := st4.ne_l nl
          have hT5 := hT.tk (tk_of sl)
          have ntd : tl ≠ d ∧ tl ≠ c := st4.ne_dc nl
          generalize upd J4 tl (.lst [.ref t]) = J5 at *
          refine ⟨.int pk, rfl, pk, 1, rfl, rfl, _, rfl, ?_⟩
          rw [decide_eq_true cp]
          refine iteT ⟨.ref tl, rfl, .inl ⟨rfl, _, .of htl⟩, .ref d, rfl, d, c, l, n' + 3, 5, rfl, st5, by omega, by decide, by decide, fun J6 v2 sd6 st6 v20 v21 => ⟨v2, 2, rfl, rfl, by show 2 ≤ sizeLine; decide, fun t2 nt2 => ?_⟩⟩
          have htl6 := sd6.lst st5 tll htl
          have hT6 := hT5.tk (sd6.tk st5)
          have sd7 := sd5.trans sd6
          have s7 := same_new (o := .tup [.int (v2 - 2), .int 1]) nt2
          have hU : Pr (upd J6 t2 (.tup [.int (v2 - 2), .int 1])) (.ref t2) (v2 - 2) := ⟨t2, rfl, upd_same⟩
          have st7 := st6.same s7
          have sd7 := sd7.trans (Sd.of s7)
          have htl7 := s7 _ _ htl6
          have hT7 := hT6.tk (tk_of s7)
          generalize upd J6 t2 (.tup [.int (v2 - 2), .int 1]) = J7 at *
          refine ⟨tl, _, .ref t2, rfl, rfl, htl7, small1000 (show 1 ≤ 1000 by decide), ?_⟩
          have tk8 : Tk J7 (upd J7 tl (.lst ([.ref t] ++ [.ref t2]))) := fun b xs hb => by
            rw [upd_ne (ne_of hb htl7 (by intro z; cases z))]
            exact hb
          have st8 : StA (upd J7 tl (.lst ([.ref t] ++ [.ref t2]))) d c l (n' + 4) := st7.put ntd.1 tll ntd.2
          have sd8 : Sd d l J1 (upd J7 tl (.lst ([.ref t] ++ [.ref t2]))) := sd7.put nl1
          have htl8 : (upd J7 tl (.lst ([.ref t] ++ [.ref t2]))) tl = some (.lst [.ref t, .ref t2]) := upd_same
          have al8 : Al (Pr (upd J7 tl (.lst ([.ref t] ++ [.ref t2])))) [.ref t, .ref t2] [v - 3, v2 - 2] := Al.two (hT7.tk tk8) (hU.tk tk8)
          generalize upd J7 tl (.lst ([.ref t] ++ [.ref t2])) = J8 at *
          refine ⟨.int pk, rfl, rfl, _, rfl, ?_⟩
          by_cases c4 : pk = 4
          · rw [decide_eq_true (congrArg V.int c4)]
            refine iteT ⟨.ref tl, rfl, .inl ⟨rfl, _, .of htl8⟩, by show 2 ≤ sizeLine; decide, fun t3 nt3 => ?_⟩
            have s9 := same_new (o := .tup [.int 0, .int 1]) nt3
            have hV : Pr (upd J8 t3 (.tup [.int 0, .int 1])) (.ref t3) 0 := ⟨t3, rfl, upd_same⟩
            have st9 := st8.same s9
            have sd9 := sd8.trans (Sd.of s9)
            have htl9 := s9 _ _ htl8
            have al9 := al8.mono fun x y h => h.tk (tk_of s9)
            generalize upd J8 t3 (.tup [.int 0, .int 1]) = J9 at *
            refine ⟨tl, _, .ref t3, rfl, rfl, htl9, small1000 (show 2 ≤ 1000 by decide), ?_⟩
            have tk10 : Tk J9 (upd J9 tl (.lst ([.ref t, .ref t2] ++ [.ref t3]))) := fun b xs hb => by
              rw [upd_ne (ne_of hb htl9 (by intro z; cases z))]
              exact hb
            dsimp only
            exact q2 _ _ ⟨n' + 4, tl, _, [v - 3, v2 - 2] ++ [0], hh, rfl, sd9.put nl1, st9.put ntd.1 tll ntd.2, by omega, upd_same, (al9.mono fun x y h => h.tk tk10).snoc (hV.tk tk10), (show 3 ≤ 4 by decide), _, good3 hhm (by omega) (by omega) (by omega) (by omega)⟩
          · rw [decide_eq_false fun z => c4 (V.int.inj z)]
            refine iteF ?_
            exact q2 _ _ ⟨n' + 4, tl, _, [v - 3, v2 - 2], hh, rfl, sd8, st8, by omega, htl8, al8, (show 2 ≤ 4 by decide), _, good2 hhm (by omega) (by omega) (by omega) (by omega)⟩
        · refine ⟨.ref d, rfl, .int pk, rfl, pk, 1, rfl, rfl, _, rfl, ?_⟩
          rw [decide_eq_false cp]
          refine iteF ⟨2, rfl, 3, rfl, by show 4 ≤ sizeLine; decide, fun p np => ?_⟩
          have sp1 := same_new (o := .lst [.int 2, .int (-2), .int 3, .int (-3)]) np
          refine ⟨d, c, l, p, n' + 1, _, rfl, st1.same sp1, by omega, upd_same, st1.ne_l np, List.cons_ne_nil _ _, (show 4 ≤ 1000 by decide), fun J2 ix x sd2 st2 hx => ?_⟩
          obtain ⟨hh, rfl, hhm⟩ := mem_ints (ns := [2, -2, 3, -3]) hx
          have sd2 := (Sd.of sp1).trans sd2
          refine ⟨.ref d, rfl, d, c, l, n' + 2, 7, rfl, st2, by omega, by decide, by decide, fun J3 v sd3 st3 v0 v1 => ⟨v, 3, rfl, rfl, by show 2 ≤ sizeLine; decide, fun t nt => ?_⟩⟩
          have sd3 := sd2.trans sd3
          have sT := same_new (o := .tup [.int (v - 3), .int 1]) nt
          have hT : Pr (upd J3 t (.tup [.int (v - 3), .int 1])) (.ref t) (v - 3) := ⟨t, rfl, upd_same⟩
          refine ⟨by show 1 ≤ sizeLine; decide, fun tl nl => ?_⟩
          have st4 := st3.same sT
          have sd4 := sd3.trans (Sd.of sT)
          generalize upd J3 t (.tup [.int (v - 3), .int 1]) = J4 at *
          have sl := same_new (o := .lst [.ref t]) nl
          have htl : (upd J4 tl (.lst [.ref t])) tl = some (.lst [.ref t]) := upd_same
          have st5 := st4.same sl
          have sd5 := sd4.trans (Sd.of sl)
          have hT5 := hT.tk (tk_of sl)
          generalize upd J4 tl (.lst [.ref t]) = J5 at *
          refine ⟨.int pk, rfl, pk, 1, rfl, rfl, _, rfl, ?_⟩
          rw [decide_eq_false cp]
          refine iteF ⟨.int pk, rfl, rfl, _, rfl, ?_⟩
          rw [decide_eq_false fun z => by have := V.int.inj z; omega]
          exact iteF (q2 _ _ ⟨n' + 3, tl, _, [v - 3], hh, rfl, sd5, st5, by omega, htl, Al.one hT5, (show 1 ≤ 4 by decide), _, good1 hhm (by omega) (by omega)⟩)
      case tail =>
        rintro σ J2 ⟨n2, tl, us, ns, hh, rfl, sd2, st2, hn2, htl, alu, nl, b, hgb⟩
        have sd02 := sd1.trans sd2
        have hfa2 := (sd02.tk stJ) _ _ hfa
        refine ⟨.ref fa, rfl, .ref tl, rfl, .int hh, rfl, by show 2 ≤ sizeLine; decide, fun t nt => ⟨by show 1 ≤ sizeLine; decide, fun lb nlb => ?_⟩⟩
        have s3 := same_new (o := .tup [.int hh, .int 1]) nt
        have hT : Pr (upd J2 t (.tup [.int hh, .int 1])) (.ref t) hh := ⟨t, rfl, upd_same⟩
        generalize upd J2 t (.tup [.int hh, .int 1]) = J3 at *
        have s4 := same_new (o := .lst [.ref t]) nlb
        have hlb : (upd J3 lb (.lst [.ref t])) lb = some (.lst [.ref t]) := upd_same
        generalize upd J3 lb (.lst [.ref t]) = J4 at *
        have htl4 := s4 _ _ (s3 _ _ htl)
        have ul := alu.len
        refine ⟨tl, lb, us, [.ref t], rfl, rfl, htl4, hlb, by rw [ul, List.length_singleton]; exact Nat.le_of_lt (small1000 (by omega)), fun lc nlc => ?_⟩
        have s5 := same_new (o := .lst (us ++ [.ref t])) nlc
        have hlc : (upd J4 lc (.lst (us ++ [.ref t]))) lc = some (.lst (us ++ [.ref t])) := upd_same
        generalize upd J4 lc (.lst (us ++ [.ref t])) = J5 at *
        refine ⟨lc, _, rfl, .inl ⟨.of hlc, fun tp ntp => ?_⟩⟩
        have s6 := same_new (o := .tup (us ++ [.ref t])) ntp
        have htp : (upd J5 tp (.tup (us ++ [.ref t]))) tp = some (.tup (us ++ [.ref t])) := upd_same
        generalize upd J5 tp (.tup (us ++ [.ref t])) = J6 at *
        have s36 := (s4.trans s5).trans s6
        have s26 := s3.trans s36
        have stp : Stp J6 (.ref tp) (ns ++ [hh]) := ⟨tp, _, rfl, htp, (alu.mono fun x y h => h.tk (tk_of s26)).snoc (hT.tk (tk_of s36))⟩
        refine ⟨by show 1 ≤ sizeLine; decide, fun t1 nt1 => ?_⟩
        have s7 := same_new (o := .tup [.ref tp]) nt1
        have hfa7 := s7 _ _ (s26 _ _ hfa2)
        have vl := al.len
        refine catA_one (.of hfa7) upd_same hfa7 (by rw [vl, rl]; exact Nat.le_of_lt (small1000 (by omega))) fun r J8 s8 hr8 => ?_
        have s28 := (s26.trans s7).trans s8
        have tk8 : Tk J J8 := fun x xs hx => s28 _ _ (sd02.tk stJ _ _ hx)
        refine ⟨(sdJ.trans sd02).trans (Sd.of s28), n2, r, _, rows ++ [ns ++ [hh]], _, _, _, _, rfl, st2.same s28, by omega, hr8, (al.mono fun x y h => h.tk tk8).snoc (stp.tk (tk_of (s7.trans s8))), ?_, fun row hr => ?_⟩
        · rw [List.length_append, rl, List.length_singleton]
        · rcases List.mem_append.mp hr with e | e
          · exact gd row e
          · rw [List.mem_singleton.mp e]
            exact ⟨b, hgb⟩
    · obtain ⟨sdJ, n', fa, vs, rows, z2, z3, z4, z5, rfl, stJ, hn', hfa, al, rl, gd⟩ := pp
      have rne : rows ≠ [] := fun e => by
        rw [e] at rl
        have : (0 : Nat) = (1 + v).toNat := rl
        omega
      obtain ⟨B, g1, g2⟩ := gds_max rne gd
      exact ⟨.ref fa, rfl, q J _ rows B n' sdJ stJ (by omega) ⟨fa, vs, rfl, hfa, al⟩ ⟨rne, by omega, g1, g2⟩⟩
end
end K86

/-! K86Law4: single steps are right. -/
namespace K86
open PySem PySem.Spec PyProof.Rows L2 SW
theorem sc__law_single_right : FnScope ["_law_state", "_law_head", "_law_told", "_law_most_here", "_law_first", "_law_round_so", "_law_walk", "_law_at", "_law_worth", "_law_outside"] ["_law_state"] (defScope (topS 75)) := ⟨rfl, rfl, rfl, by decide +kernel, rfl, by decide +kernel, by decide +kernel⟩
def sp_law_single_right : Sp := fun vs H Q _ => ∃ (d c l : Addr) (n : Nat), vs = [.ref d] ∧ StA H d c l n ∧ n ≤ 900 ∧ ∀ G n', StA G d c l n' → n' ≤ n + 30 → Q (.bl true) G
/-- t + u, tuples -/
theorem catA_all {K : PySem.W.Frag} {H : Hp} {Q : VK} {a t : Addr} {xs ys : List V} (hx : H a = some (.tup xs)) (hy : H t = some (.tup ys)) (hl : xs.length + ys.length ≤ sizeLine)
    (q : ∀ r G, Same H G → G r = some (.tup (xs ++ ys)) → Q (.ref r) G) : rCatA K (.ref a) (.ref t) H Q := by
  refine ⟨a, t, xs, ys, rfl, rfl, .of hx, .of hy, hl, fun e => ?_, fun _ e => ?_, fun _ _ r nr => q r _ (same_new nr) upd_same⟩
  · subst e
    exact q t H (Same.refl _) hy
  · subst e
    exact q a H (Same.refl _) (by rw [List.append_nil]; exact hx)
theorem mulT_to {K : PySem.W.Frag} {H : Hp} {Q : VK} {a : Addr} {v : V} {k : Nat} (h : H a = some (.tup [v])) (hk : k ≤ 1000) (q : ∀ r G, Same H G → G r = some (.tup (List.replicate k v)) → Q (.ref r) G) : rMulT K (.ref a) (.int (k : Nat)) H Q := by
  refine ⟨a, k, v, rfl, rfl, .of h, hk, fun e => ?_, fun _ r nr => q r _ (same_new nr) upd_same⟩
  subst e
  exact q a H (Same.refl _) h
/-- the pair that stands behind a reference -/
def prOf : Option HO → Int × Int
  | some (.tup [.int i, .int j]) => (i, j)
  | _ => (0, 0)
def prAt (H : Hp) : V → Int × Int
  | .ref t => prOf (H t)
  | _ => (0, 0)
theorem prAt_of {H : Hp} {x : V} {n : Int} (h : Pr H x n) : prAt H x = (n, 1) := by
  obtain ⟨t, rfl, ht⟩ := h
  show prOf (H t) = _
  rw [ht]
  rfl
theorem one_sts {H : Hp} {t : Addr} {v : V} {row : List Int} (h : H t = some (.tup [v])) (hs : Stp H v row) : Sts H (.ref t) [row] := ⟨t, [v], rfl, h, Al.one hs⟩
theorem one_gds {row : List Int} {b : Nat} (g : Good row b) : Gds [row] b := by
  refine ⟨List.cons_ne_nil _ _, (show 1 ≤ 3 by decide), fun r hr => ?_, row, List.mem_cons_self, g⟩
  rw [List.mem_singleton.mp hr]
  exact ⟨b, g, Nat.le_refl _⟩
theorem Stp.dp {K : PySem.W.Frag} {H : Hp} {v : V} {ns : List Int} (h : Stp H v ns) : Dp K H v (.tuple (ns.map prI)) := by
  obtain ⟨a, vs, rfl, ha, al⟩ := h
  exact .tup (.of ha) (prs_dp al)
theorem ints_dp {K : PySem.W.Frag} {H : Hp} : ∀ ns : List Int, DpAll K H (ns.map V.int) (ns.map PyData.int)
  | [] => .nil
  | n :: ns => .cons (.int n) (ints_dp ns)
/-- sorted pairs -/
theorem sorted_prs {H : Hp} {xs ys : List V} {ns ms : List Int} (al : Al (Pr H) xs ns) (sy : SrtO.Srtd (ltP (prAt H)) ys) (pm : ys.Perm xs) (hms : ms.Pairwise (· ≤ ·)) (hp : ms.Perm ns) : Al (Pr H) ys ms := by
  have f : ∀ x ∈ xs, ∃ n, Pr H x n := fun x hx => by
    obtain ⟨i, hi, e⟩ := List.getElem_of_mem hx
    obtain ⟨n, _, h⟩ := al.of (List.getElem?_eq_getElem hi)
    exact ⟨n, e ▸ h⟩
  have fy : ∀ y ∈ ys, ∃ n, Pr H y n := fun y hy => f y (pm.mem_iff.mp hy)
  have e1 : xs.map (fun x => (prAt H x).1) = ns := by
    refine List.ext_getElem? fun i => ?_
    rw [List.getElem?_map]
    by_cases hi : i < xs.length
    · obtain ⟨n, hn, h⟩ := al.of (List.getElem?_eq_getElem hi)
      rw [List.getElem?_eq_getElem hi, hn]
      show some (prAt H xs[i]).1 = some n
      rw [prAt_of h]
    · rw [List.getElem?_eq_none (by omega), List.getElem?_eq_none (by rw [← al.len]; omega)]
      rfl
  have e2 : ys.map (fun x => (prAt H x).1) = ms := by
    refine sorted_eq ?_ ?_ hms
    · refine (pm.map _).trans ?_
      rw [e1]
      exact hp.symm
    · refine List.pairwise_map.mpr (List.Pairwise.imp_of_mem (fun {a b} ha hb h => ?_) sy)
      obtain ⟨n, hn⟩ := fy a ha
      obtain ⟨m, hm⟩ := fy b hb
      have h : SrtO.lexB (prAt H b) (prAt H a) = false := h
      rw [prAt_of hn, prAt_of hm] at h
      rw [prAt_of hn, prAt_of hm]
      show n ≤ m
      unfold SrtO.lexB at h
      refine Decidable.byContradiction fun c => ?_
      rw [if_neg (show ¬ m = n by omega), decide_eq_true (show m < n by omega)] at h
      cases h
  subst e2
  refine ⟨(List.length_map _).symm, fun i x y h1 h2 => ?_⟩
  rw [List.getElem?_map, h1] at h2
  obtain ⟨n, hn⟩ := fy x (List.mem_of_getElem? h1)
  have h2 : (prAt H x).1 = y := Option.some.inj h2
  rw [prAt_of hn] at h2
  subst h2
  exact hn
section
variable {P : Program} {w : World} {K : PySem.W.Frag} {mg : Str → Option Value} {base : Heap}
theorem ok_law_single_right (T : Txt mg) {f : Addr} {fd : FuncData} (D : Df K mg "_law_single_right" (topS 75) ["_law_state"] f fd) (h_law_of : Has P w K mg base "_law_of" 3 ["_law_state", "_law_some"] sp_law_of) (h_choice_bound : Has P w K mg base "choice_bound" 6 ["steps"] sp_choice_bound) (h_comes_round : Has P w K mg base "comes_round" 6 ["step", "start"] sp_comes_round) (h_law_like : HasG P w K mg base "_law_like" 1 ["_law_got", "_law_due"] sp_law_like) (h_law_draw : Has P w K mg base "_law_draw" 2 ["_law_state", "_law_limit"] sp_law_draw) (h_closed_list : Has P w K mg base "closed_list" 7 ["steps", "start", "goal"] sp_closed_list) (h_stays : Has P w K mg base "stays" 6 ["steps", "start"] sp_stays) (h_reach : Has P w K mg base "reach" 7 ["steps", "start", "goal"] sp_reach) : HasG P w K mg base "_law_single_right" 8 ["_law_state"] sp_law_single_right := by
  refine D.hasG sc__law_single_right (fun vs H Q E h => ?_) (fun cdv A outer s H vs Q E gA hr h => ?_)
  · obtain ⟨d, c, l, n, rfl, _⟩ := h
    rfl
  · obtain ⟨d, c, l, n, rfl, st, n9, q⟩ := h
    refine ⟨_, (pss_cons (ps_set (i := 1) sc__law_single_right.nd rfl (.inl rfl) (pe_has h_law_of (hr.mono (by decide)) (by rfl) (pa_cons (pv 0) (pa_cons (pe_lst (pa_cons pe_int (pa_cons (pe_un un_neg pe_int) (pa_cons pe_int pa_nil)))) pa_nil))))
      (pss_cons (ps_set (i := 2) sc__law_single_right.nd rfl (.inl rfl) (pe_lst (pa_cons (pe_tup (pa_cons (pe_op op_sub (pe_has h_law_draw (hr.mono (by decide)) (by rfl) (pa_cons (pv 0) (pa_cons pe_int pa_nil))) pe_int) (pa_cons pe_int pa_nil))) (pa_cons (pe_tup (pa_cons (pe_op op_sub (pe_has h_law_draw (hr.mono (by decide)) (by rfl) (pa_cons (pv 0) (pa_cons pe_int pa_nil))) pe_int) (pa_cons pe_int pa_nil))) (pa_cons (pe_tup (pa_cons (pv 1) (pa_cons pe_int pa_nil))) pa_nil)))))
      (pss_cons (ps_if (pt_cmpR op_eq (pe_has h_law_draw (hr.mono (by decide)) (by rfl) (pa_cons (pv 0) (pa_cons pe_int pa_nil))) pe_int (nomark _)) (pss_one (ps_set (i := 2) sc__law_single_right.nd rfl (.inl rfl) (pe_op op_cat (pe_slice sl_list (pv 2) po_none (po_some pe_int)) (pe_lst (pa_cons (pe_tup (pa_cons pe_int (pa_cons pe_int pa_nil))) (pa_cons (pe_tup (pa_cons (pv 1) (pa_cons pe_int pa_nil))) pa_nil)))))) pss_nil)
      (pss_cons (ps_set (i := 2) sc__law_single_right.nd rfl (.inl rfl) (pe_callTy call_tuple_of (by rfl) T.tuple bt_tuple (pa_cons (pv 2) pa_nil)))
      (pss_cons (ps_set (i := 3) sc__law_single_right.nd rfl (.inl rfl) (pe_has h_choice_bound (hr.mono (by decide)) (by rfl) (pa_cons (pe_tup (pa_cons (pv 2) pa_nil)) pa_nil)))
      (pss_cons (ps_set (i := 4) sc__law_single_right.nd rfl (.inl rfl) (pe_op op_sub (pe_op op_sub (pe_has h_law_draw (hr.mono (by decide)) (by rfl) (pa_cons (pv 0) (pa_cons (pe_op op_add (pe_op op_mul pe_int (pv 3)) pe_int) pa_nil))) (pv 3)) pe_int))
      (pss_cons (ps_set (i := 5) sc__law_single_right.nd rfl (.inl rfl) (pe_has h_comes_round (hr.mono (by decide)) (by rfl) (pa_cons (pv 2) (pa_cons (pe_tup (pa_cons (pv 4) (pa_cons pe_int pa_nil))) pa_nil))))
      (pss_cons (ps_if (pt_cmpR op_ne (pe_cmpR op_isN (pe_has h_stays (hr.mono (by decide)) (by rfl) (pa_cons (pe_tup (pa_cons (pv 2) pa_nil)) (pa_cons (pe_tup (pa_cons (pv 4) (pa_cons pe_int pa_nil))) pa_nil))) pe_non (nomark _)) (pe_cmpR op_isN (pv 5) pe_non (nomark _)) (nomark _)) (pss_one (ps_ret pe_bl)) pss_nil)
      (pss_cons (ps_if (pt_cmpR op_isN (pv 5) pe_non (nomark _)) (pss_one (ps_ret pe_bl)) pss_nil)
      (pss_cons (ps_set (i := 6) sc__law_single_right.nd rfl (.inl rfl) (pe_op op_catA (pe_ix ix_tup (pv 5) pe_int (fun _ _ => rfl)) (pe_ix ix_tup (pv 5) pe_int (fun _ _ => rfl))))
      (pss_cons (ps_for PassesOwn.never rfl (pi_enumT (by rfl) T.enumerate (pa_cons (pv 6) pa_nil)) (pg_tup rfl (pgs_cons (pg_name (i := 7) sc__law_single_right.nd rfl (.inl rfl)) (pgs_cons (pg_name (i := 8) sc__law_single_right.nd rfl (.inl rfl)) pgs_nil))) (pss_one (ps_if (pt_not (pt_val (pe_hasG h_law_like gA (hr.mono (by decide)) (by rfl) (pa_cons (pe_has h_reach (hr.mono (by decide)) (by rfl) (pa_cons (pe_tup (pa_cons (pv 2) pa_nil)) (pa_cons (pe_tup (pa_cons (pv 4) (pa_cons pe_int pa_nil))) (pa_cons (pv 8) pa_nil)))) (pa_cons (pe_op op_mulT (pe_tup (pa_cons pe_int pa_nil)) (pv 7)) pa_nil))))) (pss_one (ps_ret pe_bl)) pss_nil)))
      (pss_cons (ps_set (i := 9) sc__law_single_right.nd rfl (.inl rfl) (pe_tup (pa_cons (pe_op op_add (pv 3) pe_int) (pa_cons pe_int pa_nil))))
      (pss_one (ps_ret (pe_hasG h_law_like gA (hr.mono (by decide)) (by rfl) (pa_cons (pe_has h_closed_list (hr.mono (by decide)) (by rfl) (pa_cons (pe_tup (pa_cons (pv 2) pa_nil)) (pa_cons (pe_tup (pa_cons (pv 4) (pa_cons pe_int pa_nil))) (pa_cons (pv 9) pa_nil)))) (pa_cons (pe_callTy call_tuple_of (by rfl) T.tuple bt_tuple (pa_cons (pe_callB cr_sortT (by rfl) T.sorted bt_sorted (pa_cons (pv 6) pa_nil)) pa_nil)) pa_nil))))))))))))))))), ?_⟩
    refine ⟨.ref d, rfl, 1, rfl, by show 3 ≤ sizeLine; decide, fun p np => ?_⟩
    have sp1 := same_new (o := .lst [.int 1, .int (-1), .int 2]) np
    refine ⟨d, c, l, p, n, _, rfl, st.same sp1, by omega, upd_same, st.ne_l np, List.cons_ne_nil _ _, (show 3 ≤ 1000 by decide), fun J2 ix x sd2 st2 hx => ?_⟩
    obtain ⟨hh, rfl, hhm⟩ := mem_ints (ns := [1, -1, 2]) hx
    apply via (C := fun σ J => ∃ (n' : Nat) (tl : Addr) (us : List V) (row : List Int) (b : Nat), σ = [some (.ref d), some (.int hh), some (.ref tl), none, none, none, none, none, none, none] ∧ StA J d c l n' ∧ n' ≤ n + 4 ∧ J tl = some (.lst us) ∧ Al (Pr J) us row ∧ 3 ≤ row.length ∧ Good row b)
    case h =>
      intro q2
      refine ⟨.ref d, rfl, d, c, l, n + 1, 9, rfl, st2, by omega, by decide, by decide, fun J3 v sd3 st3 v0 v1 => ⟨v, 5, rfl, rfl, by show 2 ≤ sizeLine; decide, fun t nt => ?_⟩⟩
      have sT := same_new (o := .tup [.int (v - 5), .int 1]) nt
      have hT : Pr (upd J3 t (.tup [.int (v - 5), .int 1])) (.ref t) (v - 5) := ⟨t, rfl, upd_same⟩
      have st4 := st3.same sT
      generalize upd J3 t (.tup [.int (v - 5), .int 1]) = J4 at *
      refine ⟨.ref d, rfl, d, c, l, n + 2, 5, rfl, st4, by omega, by decide, by decide, fun J5 v2 sd5 st5 v20 v21 => ⟨v2, 2, rfl, rfl, by show 2 ≤ sizeLine; decide, fun t2 nt2 => ?_⟩⟩
      have hT := hT.tk (sd5.tk st4)
      have sU := same_new (o := .tup [.int (v2 - 2), .int 1]) nt2
      have hU : Pr (upd J5 t2 (.tup [.int (v2 - 2), .int 1])) (.ref t2) (v2 - 2) := ⟨t2, rfl, upd_same⟩
      have st6 := st5.same sU
      have hT := hT.tk (tk_of sU)
      generalize upd J5 t2 (.tup [.int (v2 - 2), .int 1]) = J6 at *
      refine ⟨.int hh, rfl, by show 2 ≤ sizeLine; decide, fun t3 nt3 => ⟨by show 3 ≤ sizeLine; decide, fun tl ntl => ?_⟩⟩
      have sV := same_new (o := .tup [.int hh, .int 1]) nt3
      have hV : Pr (upd J6 t3 (.tup [.int hh, .int 1])) (.ref t3) hh := ⟨t3, rfl, upd_same⟩
      have st7 := st6.same sV
      have hT := hT.tk (tk_of sV)
      have hU := hU.tk (tk_of sV)
      generalize upd J6 t3 (.tup [.int hh, .int 1]) = J7 at *
      have sL := same_new (o := .lst [.ref t, .ref t2, .ref t3]) ntl
      have htl : (upd J7 tl (.lst [.ref t, .ref t2, .ref t3])) tl = some (.lst [.ref t, .ref t2, .ref t3]) := upd_same
      have st8 := st7.same sL
      have tll := st7.ne_l ntl
      have al8 : Al (Pr (upd J7 tl (.lst [.ref t, .ref t2, .ref t3]))) [.ref t, .ref t2, .ref t3] [v - 5, v2 - 2, hh] := ((Al.two hU hV).cons hT).mono fun x y h => h.tk (tk_of sL)
      generalize upd J7 tl (.lst [.ref t, .ref t2, .ref t3]) = J8 at *
      refine ⟨.ref d, rfl, d, c, l, n + 3, 3, rfl, st8, by omega, by decide, by decide, fun J9 v3 sd9 st9 v30 v31 => ⟨rfl, _, rfl, ?_⟩⟩
      have htl9 := sd9.lst st8 tll htl
      have al9 := al8.mono fun x y h => h.tk (sd9.tk st8)
      by_cases c3 : ¬ V.int v3 = V.int 0
      · rw [decide_eq_false c3]
        refine iteF ?_
        exact q2 _ _ ⟨n + 4, tl, _, [v - 5, v2 - 2, hh], _, rfl, st9, by omega, htl9, al9, (show 3 ≤ 3 by decide), good2s hhm (by omega) (by omega) (by omega) (by omega)⟩
      · rw [decide_eq_true (Decidable.not_not.mp c3)]
        refine iteT ⟨.ref tl, rfl, 2, rfl, tl, _, rfl, .of htl9, fun ta nta => ?_⟩
        have e2 : cutV [V.ref t, V.ref t2, V.ref t3] none (some 2) = [.ref t, .ref t2] := cut_to (j := 2) (show 2 ≤ 3 by decide)
        rw [e2]
        have sA := same_new (o := .lst [.ref t, .ref t2]) nta
        have hta : (upd J9 ta (.lst [.ref t, .ref t2])) ta = some (.lst [.ref t, .ref t2]) := upd_same
        have al10 : Al (Pr (upd J9 ta (.lst [.ref t, .ref t2]))) [.ref t, .ref t2] [v - 5, v2 - 2] := (al9.take 2).mono fun x y h => h.tk (tk_of sA)
        generalize upd J9 ta (.lst [.ref t, .ref t2]) = K1 at *
        refine ⟨by show 2 ≤ sizeLine; decide, fun z1 nz1 => ?_⟩
        have sB := same_new (o := .tup [.int 0, .int 1]) nz1
        have hz1 : Pr (upd K1 z1 (.tup [.int 0, .int 1])) (.ref z1) 0 := ⟨z1, rfl, upd_same⟩
        generalize upd K1 z1 (.tup [.int 0, .int 1]) = K2 at *
        refine ⟨.int hh, rfl, by show 2 ≤ sizeLine; decide, fun z2 nz2 => ?_⟩
        have sC := same_new (o := .tup [.int hh, .int 1]) nz2
        have hz2 : Pr (upd K2 z2 (.tup [.int hh, .int 1])) (.ref z2) hh := ⟨z2, rfl, upd_same⟩
        generalize upd K2 z2 (.tup [.int hh, .int 1]) = K3 at *
        refine ⟨by show 2 ≤ sizeLine; decide, fun tb ntb => ?_⟩
        have sD := same_new (o := .lst [.ref z1, .ref z2]) ntb
        have htb : (upd K3 tb (.lst [.ref z1, .ref z2])) tb = some (.lst [.ref z1, .ref z2]) := upd_same
        generalize upd K3 tb (.lst [.ref z1, .ref z2]) = K4 at *
        have s14 := (sB.trans sC).trans sD
        refine ⟨ta, tb, _, _, rfl, rfl, s14 _ _ hta, htb, (show 4 ≤ sizeLine by decide), fun tc ntc => ?_⟩
        have sE := same_new (o := .lst ([V.ref t, V.ref t2] ++ [.ref z1, .ref z2])) ntc
        have al11 : Al (Pr (upd K4 tc (.lst ([V.ref t, V.ref t2] ++ [.ref z1, .ref z2])))) ([V.ref t, V.ref t2] ++ [.ref z1, .ref z2]) ([v - 5, v2 - 2] ++ [0, hh]) :=
          (al10.mono fun x y h => h.tk (tk_of (s14.trans sE))).append (Al.two (hz1.tk (tk_of ((sC.trans sD).trans sE))) (hz2.tk (tk_of (sD.trans sE))))
        exact q2 _ _ ⟨n + 4, tc, _, [v - 5, v2 - 2, 0, hh], _, rfl, st9.same ((sA.trans s14).trans sE), by omega, upd_same, al11, (show 3 ≤ 4 by decide), good3s hhm (by omega) (by omega) (by omega) (by omega)⟩
    case tail =>
      rintro σ J ⟨n', tl, us, row, b, rfl, st3, hn', htl, alu, r3, hg⟩
      have b1 := hg.b1
      have b5 := hg.b5
      have gds := one_gds hg
      refine ⟨.ref tl, rfl, tl, us, rfl, .inl ⟨.of htl, fun tp ntp => ?_⟩⟩
      have sA := same_new (o := .tup us) ntp
      have stp : Stp (upd J tp (.tup us)) (.ref tp) row := ⟨tp, us, rfl, upd_same, alu.mono fun x y h => h.tk (tk_of sA)⟩
      have st4 := st3.same sA
      generalize upd J tp (.tup us) = J1 at *
      refine ⟨.ref tp, rfl, by show 1 ≤ sizeLine; decide, fun t1 nt1 => ?_⟩
      have sB := same_new (o := .tup [.ref tp]) nt1
      have ht1 := one_sts (upd_same (H := J1) (a := t1) (o := .tup [.ref tp])) (stp.tk (tk_of sB))
      have st5 := st4.same sB
      have stp2 := stp.tk (tk_of sB)
      generalize upd J1 t1 (.tup [.ref tp]) = J2 at *
      refine ⟨.ref t1, [row], b, rfl, ht1, gds, fun J3 sC => ?_⟩
      have st6 := st5.same sC
      have stp3 := stp2.tk (tk_of sC)
      refine ⟨.ref d, rfl, .int b, rfl, 2, (b : Int), rfl, rfl, .inl ⟨by decide, by decide⟩, _, 3, rfl, rfl, d, c, l, n', 2 * (b : Int) + 3, rfl, st6, by omega, by omega, by omega, fun J4 v sd4 st7 v0 v1 => ?_⟩
      have stp4 := stp3.tk (sd4.tk st6)
      refine ⟨.int b, rfl, v, (b : Int), rfl, rfl, _, 1, rfl, rfl, ?_⟩
      obtain ⟨s, hs⟩ : ∃ s : Int, s = v - b - 1 := ⟨_, rfl⟩
      have sb : -(b : Int) - 1 ≤ s ∧ s ≤ b + 1 := by omega
      dsimp only
      rw [← hs]
      refine ⟨.ref tp, rfl, .int s, rfl, by show 2 ≤ sizeLine; decide, fun u1 nu1 => ?_⟩
      have sD := same_new (o := .tup [.int s, .int 1]) nu1
      have hu1 : Pr (upd J4 u1 (.tup [.int s, .int 1])) (.ref u1) s := ⟨u1, rfl, upd_same⟩
      have stp5 := stp4.tk (tk_of sD)
      have st8 := st7.same sD
      generalize upd J4 u1 (.tup [.int s, .int 1]) = J5 at *
      refine ⟨.ref tp, .ref u1, row, b, s, rfl, stp5, hg, r3, hu1, by omega, by omega, fun J6 z sE rnd => ?_⟩
      have stp6 := stp5.tk (tk_of sE)
      have st9 := st8.same sE
      -- the steps and the start anew, for each call
      have again : True := trivial
      refine ⟨.ref tp, rfl, by show 1 ≤ sizeLine; decide, fun t2 nt2 => ?_⟩
      have sF := same_new (o := .tup [.ref tp]) nt2
      have ht2 := one_sts (upd_same (H := J6) (a := t2) (o := .tup [.ref tp])) (stp6.tk (tk_of sF))
      generalize upd J6 t2 (.tup [.ref tp]) = J7 at *
      refine ⟨.int s, rfl, by show 2 ≤ sizeLine; decide, fun u2 nu2 => ?_⟩
      have sG := same_new (o := .tup [.int s, .int 1]) nu2
      have hu2 : Pr (upd J7 u2 (.tup [.int s, .int 1])) (.ref u2) s := ⟨u2, rfl, upd_same⟩
      have ht2 := ht2.tk (tk_of sG)
      generalize upd J7 u2 (.tup [.int s, .int 1]) = J8 at *
      refine ⟨.ref t2, .ref u2, [row], b, s, rfl, ht2, gds, hu2, by omega, by omega, fun J9 r sH hr2 => ?_⟩
      have s69 := (sF.trans sG).trans sH
      have stp9 := stp6.tk (tk_of s69)
      have st10 := st9.same s69
      obtain ⟨ls, nx, wk, hex, hz⟩ := rnd
      have hst := wk.stays hex
      have rz : decide (r = V.non) = decide (z = V.non) := by
        rcases hr2 with ⟨rfl, h1⟩ | ⟨⟨p, rfl⟩, h1⟩
        · rcases hz with ⟨rfl, h2⟩ | ⟨h2, _⟩
          · rfl
          · exact absurd (hst.mpr h2) h1
        · rcases hz with ⟨rfl, h2⟩ | ⟨h2, p2, t, r, tail, ring, rfl, _⟩
          · exact absurd (hst.mp h1) h2
          · rfl
      refine ⟨rfl, z, rfl, rfl, rfl, _, rfl, ?_⟩
      rw [rz, decide_eq_true rfl]
      refine iteF ?_
      rcases hz with ⟨rfl, h2⟩ | ⟨h2, p2, t, r, tail, ring, rfl, hp2, ht, hring, rne, alw⟩
      · exact ⟨.non, rfl, rfl, _, rfl, iteT (q _ _ st10 (by omega))⟩
      · refine ⟨.ref p2, rfl, rfl, _, rfl, iteF ?_⟩
        have hp9 := s69 _ _ hp2
        refine ⟨.ref p2, rfl, p2, _, 0, .ref t, rfl, rfl, .of hp9, atI_nat (j := 0) rfl, .ref p2, rfl, p2, _, 1, .ref r, rfl, rfl, .of hp9, atI_nat (j := 1) rfl, ?_⟩
        have hs0 : (s.natAbs : Int) ≤ b := wk.bnd _ (by have := wk.all h2 0; exact this)
        have ln := wk.len (by omega)
        have alen := alw.len
        refine catA_all (s69 _ _ ht) (s69 _ _ hring) (by rw [← List.length_append, alen]; exact Nat.le_of_lt (small1000 (by omega))) fun W K0 sI hW => ?_
        have stp10 := stp9.tk (tk_of sI)
        have st11 := st10.same sI
        have alW : Al (Pr K0) (tail ++ ring) ls := alw.mono fun x y h => h.tk (tk_of (s69.trans sI))
        generalize tail ++ ring = xs at *
        refine ⟨.ref W, rfl, W, xs, rfl, .of hW, for_it walk_enumT (fun i σ J => Same K0 J ∧ ∃ z7 z8, σ = [some (.ref d), some (.int hh), some (.ref tp), some (.int (b : Nat)), some (.int s), some (.ref p2), some (.ref W), z7, z8, none]) ⟨Same.refl _, none, none, rfl⟩ (fun i σ J _ pp => .of (pp.1 _ _ hW)) (fun i x σ J J2 hi pp y => ?_) (fun σ J pp => ?_)⟩
        · obtain ⟨u1, z7, z8, rfl⟩ := pp
          obtain ⟨Tp, y1, y2, rfl, nT, rfl, e1, e2⟩ := y
          cases e1
          obtain ⟨m, hm, hy2⟩ := alW.of e2
          have sT := same_new (o := .tup [.int (i : Nat), y2]) nT
          have s3 := u1.trans sT
          refine ⟨Tp, _, rfl, .of upd_same, rfl, .int (i : Nat), [y2], rfl, y2, [], rfl, rfl, ?_⟩
          generalize upd J Tp (.tup [.int (i : Nat), y2]) = J3 at *
          refine ⟨.ref tp, rfl, by show 1 ≤ sizeLine; decide, fun t3 nt3 => ?_⟩
          have sF := same_new (o := .tup [.ref tp]) nt3
          have ht3 := one_sts (upd_same (H := J3) (a := t3) (o := .tup [.ref tp])) ((stp10.tk (tk_of s3)).tk (tk_of sF))
          have hy3 := (hy2.tk (tk_of s3)).tk (tk_of sF)
          have s4 := s3.trans sF
          generalize upd J3 t3 (.tup [.ref tp]) = J4 at *
          refine ⟨.int s, rfl, by show 2 ≤ sizeLine; decide, fun u3 nu3 => ?_⟩
          have sG := same_new (o := .tup [.int s, .int 1]) nu3
          have hu3 : Pr (upd J4 u3 (.tup [.int s, .int 1])) (.ref u3) s := ⟨u3, rfl, upd_same⟩
          have ht3 := ht3.tk (tk_of sG)
          have hy3 := hy3.tk (tk_of sG)
          have s5 := s4.trans sG
          generalize upd J4 u3 (.tup [.int s, .int 1]) = J5 at *
          have mb := wk.bnd m (List.mem_of_getElem? hm)
          refine ⟨y2, rfl, .ref t3, .ref u3, y2, [row], b, s, m, rfl, ht3, gds, hu3, hy3, by omega, by omega, by omega, by omega, fun J6 v6 s6 hr6 => ?_⟩
          rw [bdOf_in mb] at hr6
          rcases hr6 with ⟨rfl, h6⟩ | ⟨p6, w6, rfl, hp6, h61, h62, h63⟩
          · exact absurd ⟨hs0, wk.word (Int.le_refl _) (List.mem_of_getElem? hm)⟩ h6
          · have ew := wk.reach (Int.le_refl _) hm h62 h63
            subst ew
            refine ⟨by show 1 ≤ sizeLine; decide, fun z1 nz1 => ?_⟩
            have sZ := same_new (o := .tup [.int 0]) nz1
            have hz1 : (upd J6 z1 (.tup [.int 0])) z1 = some (.tup [.int 0]) := upd_same
            have hp7 := sZ _ _ hp6
            have s7 := (s5.trans s6).trans sZ
            generalize upd J6 z1 (.tup [.int 0]) = J7 at *
            have il : i ≤ 100 := by
              have := (List.getElem?_eq_some_iff.mp hm).1
              omega
            have e0 : (List.replicate i 0).map (fun k : Nat => V.int k) = ((List.replicate i (0 : Int)).map V.int) := by
              rw [List.map_replicate, List.map_replicate]
              rfl
            rw [e0] at hp7
            refine ⟨.int (i : Nat), rfl, mulT_to hz1 (by omega) fun rr K8 s8 hr8 => ?_⟩
            have rp : ∀ K, Dp K K8 (.ref rr) (.tuple ((List.replicate i (0 : Int)).map PyData.int)) := fun K => by
              refine .tup (xs := (List.replicate i (0 : Int)).map V.int) (.of ?_) (ints_dp _)
              rw [hr8, List.map_replicate]
            refine ⟨_, _, .tuple ((List.replicate i (0 : Int)).map PyData.int), rfl, fun K => .tup (.of (s8 _ _ hp7)) (ints_dp _), rp, Shw.ints (fun n hn => ?_) (by rw [List.length_replicate]; omega), true, rfl, iteF ⟨s7.trans s8, _, _, rfl⟩⟩
            have := List.eq_of_mem_replicate hn
            omega
        · obtain ⟨u1, z7, z8, rfl⟩ := pp
          have st12 := st11.same u1
          have stp11 := stp10.tk (tk_of u1)
          have alJ := alW.mono fun x y h => h.tk (tk_of u1)
          have hWJ := u1 _ _ hW
          refine ⟨.int b, rfl, (b : Int), 1, rfl, rfl, by show 2 ≤ sizeLine; decide, fun o no => ?_⟩
          have sO := same_new (o := .tup [.int ((b : Int) + 1), .int 1]) no
          have ho : Pr (upd J o (.tup [.int ((b : Int) + 1), .int 1])) (.ref o) ((b : Int) + 1) := ⟨o, rfl, upd_same⟩
          have st13 := st12.same sO
          have stp12 := stp11.tk (tk_of sO)
          have al12 := alJ.mono fun x y h => h.tk (tk_of sO)
          have hW12 := sO _ _ hWJ
          dsimp only
          generalize upd J o (.tup [.int ((b : Int) + 1), .int 1]) = J1 at *
          refine ⟨.ref tp, rfl, by show 1 ≤ sizeLine; decide, fun t3 nt3 => ?_⟩
          have sF := same_new (o := .tup [.ref tp]) nt3
          have ht3 := one_sts (upd_same (H := J1) (a := t3) (o := .tup [.ref tp])) (stp12.tk (tk_of sF))
          generalize upd J1 t3 (.tup [.ref tp]) = J2 at *
          refine ⟨.int s, rfl, by show 2 ≤ sizeLine; decide, fun u3 nu3 => ?_⟩
          have sG := same_new (o := .tup [.int s, .int 1]) nu3
          have hu3 : Pr (upd J2 u3 (.tup [.int s, .int 1])) (.ref u3) s := ⟨u3, rfl, upd_same⟩
          have ht3 := ht3.tk (tk_of sG)
          generalize upd J2 u3 (.tup [.int s, .int 1]) = J3 at *
          have s13 := sF.trans sG
          have ho3 := ho.tk (tk_of s13)
          have eb : bdOf b ((b : Int) + 1) = (b : Int) + 1 := by
            unfold bdOf
            rw [if_pos (by omega)]
            omega
          refine ⟨.ref o, rfl, .ref t3, .ref u3, .ref o, [row], b, s, (b : Int) + 1, rfl, ht3, gds, hu3, ho3, by omega, by omega, by omega, by omega, ?_, fun J4 v4 ns s4 hv4 hn4 hs4 hm4 => ?_⟩
          · rw [eb]
            rintro ⟨_, w2, hw2⟩
            have := wk.bnd _ (wk.closed h2 hw2)
            omega
          · rw [eb] at hm4
            have s14 := s13.trans s4
            have al14 := al12.mono fun x y h => h.tk (tk_of s14)
            have pm4 : ns.Perm ls := perm_of_nodup_mem hn4 wk.nodup fun x => by
              rw [hm4]
              exact ⟨fun ⟨_, w2, hw2⟩ => wk.closed h2 hw2, fun hx => ⟨by omega, wk.word (by omega) hx⟩⟩
            refine ⟨.ref W, rfl, W, xs, prAt J4, rfl, .of (s14 _ _ hW12), fun x hx => ?_, fun ys p7 sy pm np => ?_⟩
            · obtain ⟨i, hi, e⟩ := List.getElem_of_mem hx
              obtain ⟨m, _, hpm⟩ := al14.of (List.getElem?_eq_getElem hi)
              rw [e] at hpm
              rw [prAt_of hpm]
              exact hpm
            · have als := sorted_prs al14 sy pm hs4 pm4
              have sP := same_new (o := .lst ys) np
              have hp7 : (upd J4 p7 (.lst ys)) p7 = some (.lst ys) := upd_same
              generalize upd J4 p7 (.lst ys) = J5 at *
              refine ⟨p7, ys, rfl, .inl ⟨.of hp7, fun r8 nr8 => ?_⟩⟩
              have sQ := same_new (o := .tup ys) nr8
              have s46 := sP.trans sQ
              have stF : Stp (upd J5 r8 (.tup ys)) (.ref r8) ns := ⟨r8, ys, rfl, upd_same, als.mono fun x y h => h.tk (tk_of s46)⟩
              have stG := hv4.tk (tk_of s46)
              refine ⟨_, _, .tuple (ns.map prI), rfl, fun K => stG.dp, fun K => stF.dp, Shw.prs (fun m hm => ?_) ?_, q _ _ (st13.same (s14.trans s46)) (by omega)⟩
              · have := wk.bnd m (pm4.mem_iff.mp hm)
                omega
              · rw [pm4.length_eq]
                omega
end
end K86

/-! K86Law5: words and lists are right; the law. -/
namespace K86
open PySem PySem.Spec PyProof.Rows L2 SW
theorem sc__law_words_right : FnScope ["_law_state", "_law_steps_so", "_law_most_here", "_law_first", "_law_found", "_law_middle", "_law_last", "_law_near", "_law_far", "_law_whole_so", "_law_here", "_law_due", "_law_index", "_law_rows_so"] ["_law_state"] (defScope (topS 76)) := ⟨rfl, rfl, rfl, by decide +kernel, rfl, by decide +kernel, by decide +kernel⟩
theorem sc__law_lists_right : FnScope ["_law_state", "_law_steps_so", "_law_most_here", "_law_first", "_law_found", "_law_last", "_law_due", "_law_here"] ["_law_state"] (defScope (topS 77)) := ⟨rfl, rfl, rfl, by decide +kernel, rfl, by decide +kernel, by decide +kernel⟩
theorem sc_law : FnScope ["_law_script", "_law_state", "_law_lap"] ["_law_script"] (defScope (topS 78)) := ⟨rfl, rfl, rfl, by decide +kernel, rfl, by decide +kernel, by decide +kernel⟩
def sp_law_words_right : Sp := fun vs H Q _ => ∃ (d c l : Addr) (n : Nat), vs = [.ref d] ∧ StA H d c l n ∧ n ≤ 800 ∧ ∀ G n', StA G d c l n' → n' ≤ n + 30 → Q (.bl true) G
def sp_law_lists_right : Sp := fun vs H Q _ => ∃ (d c l : Addr) (n : Nat), vs = [.ref d] ∧ StA H d c l n ∧ n ≤ 800 ∧ ∀ G n', StA G d c l n' → n' ≤ n + 30 → Q (.bl true) G
def sp_law (K : PySem.W.Frag) : Sp := fun vs H Q _ => ∃ (a : Addr) (ns : List Int), vs = [.ref a] ∧ SqL K H a (ns.map V.int) ∧ ns.length ≤ sizeLine ∧ ∀ G, Q (.bl true) G
/-- the steps and the numbers of a word -/
theorem word_path {rows : List (List Int)} {B s m : Int} {w : List Nat} (h : Word rows B s w m) : ∃ (rs : List (List Int)) (ls : List Int), rs.length = w.length ∧ (∀ (i k : Nat), w[i]? = some k → ∃ row, rows[k]? = some row ∧ rs[i]? = some row) ∧ Alg rs s ls ∧ ∀ y ∈ ls, (y.natAbs : Int) ≤ B := by
  induction h with
  | nil x => exact ⟨[], [], rfl, fun i k h => by simp at h, ⟨rfl, fun i row y h => by simp at h⟩, fun y hy => absurd hy List.not_mem_nil⟩
  | @cons x y z i row w hr hy hb h ih =>
    obtain ⟨rs, ls, h1, h2, h3, h4⟩ := ih
    refine ⟨row :: rs, y :: ls, by rw [List.length_cons, List.length_cons, h1], fun j k hj => ?_, ⟨by rw [List.length_cons, List.length_cons, h3.1], fun j r u hj hu => ?_⟩, fun u hu => ?_⟩
    · cases j with
      | zero =>
        cases hj
        exact ⟨row, hr, rfl⟩
      | succ j => exact h2 j k hj
    · cases j with
      | zero =>
        cases hj
        cases hu
        show some y = _
        rw [hy]
      | succ j => exact h3.2 j r u hj hu
    · rcases List.mem_cons.mp hu with e | e
      · rw [e]
        exact hb
      · exact h4 u e
theorem keys_ints {kvs : List (Key × V)} {ks : List Int} (h : kvs.map (·.1) = ks.map Sum.inl) : kvs.map (fun kv => kV kv.1) = ks.map V.int := by
  have := congrArg (List.map kV) h
  rw [List.map_map, List.map_map] at this
  exact this
section
variable {P : Program} {w : World} {K : PySem.W.Frag} {mg : Str → Option Value} {base : Heap}
theorem ok_law_words_right (T : Txt mg) {f : Addr} {fd : FuncData} (D : Df K mg "_law_words_right" (topS 76) ["_law_state"] f fd) (h_law_choices : Has P w K mg base "_law_choices" 4 ["_law_state"] sp_law_choices) (h_law_most : Has P w K mg base "_law_most" 6 ["_law_steps_so"] sp_law_most) (h_law_of : Has P w K mg base "_law_of" 3 ["_law_state", "_law_some"] sp_law_of) (h_reach : Has P w K mg base "reach" 7 ["steps", "start", "goal"] sp_reach) (h_law_like : HasG P w K mg base "_law_like" 1 ["_law_got", "_law_due"] sp_law_like) (h_law_draw : Has P w K mg base "_law_draw" 2 ["_law_state", "_law_limit"] sp_law_draw) (h_law_words : Has P w K mg base "_law_words" 2 ["_law_steps_so", "_law_first", "_law_most_here"] sp_law_words) (h_law_led_to : Has P w K mg base "_law_led_to" 1 ["_law_told", "_law_here"] sp_law_led_to) (h_numbers_along : Has P w K mg base "numbers_along" 5 ["row", "start"] sp_numbers_along) : HasG P w K mg base "_law_words_right" 8 ["_law_state"] sp_law_words_right := by
  refine D.hasG sc__law_words_right (fun vs H Q E h => ?_) (fun cdv A outer s H vs Q E gA hr h => ?_)
  · obtain ⟨d, c, l, n, rfl, _⟩ := h
    rfl
  · obtain ⟨d, c, l, n, rfl, st, n9, q⟩ := h
    refine ⟨_, (pss_cons (ps_set (i := 1) sc__law_words_right.nd rfl (.inr rfl) (pe_has h_law_choices (hr.mono (by decide)) (by rfl) (pa_cons (pv 0) pa_nil)))
      (pss_cons (ps_set (i := 2) sc__law_words_right.nd rfl (.inl rfl) (pe_has h_law_most (hr.mono (by decide)) (by rfl) (pa_cons (pv 1) pa_nil)))
      (pss_cons (ps_set (i := 3) sc__law_words_right.nd rfl (.inl rfl) (pe_op op_sub (pe_has h_law_draw (hr.mono (by decide)) (by rfl) (pa_cons (pv 0) (pa_cons (pe_op op_add (pe_op op_mul pe_int (pv 2)) pe_int) pa_nil))) (pv 2)))
      (pss_cons (ps_set (i := 4) sc__law_words_right.nd rfl (.inl rfl) (pe_callTy (call_listD rfl) (by rfl) T.list bt_list (pa_cons (pe_has h_law_words (hr.mono (by decide)) (by rfl) (pa_cons (pv 1) (pa_cons (pv 3) (pa_cons (pv 2) pa_nil)))) pa_nil)))
      (pss_cons (ps_set (i := 5) sc__law_words_right.nd rfl (.inl rfl) (pe_has h_law_of (hr.mono (by decide)) (by rfl) (pa_cons (pv 0) (pa_cons (pv 4) pa_nil))))
      (pss_cons (ps_set (i := 6) sc__law_words_right.nd rfl (.inl rfl) (pe_has h_law_of (hr.mono (by decide)) (by rfl) (pa_cons (pv 0) (pa_cons (pe_callTy (call_listD rfl) (by rfl) T.list bt_list (pa_cons (pe_has h_law_words (hr.mono (by decide)) (by rfl) (pa_cons (pv 1) (pa_cons (pv 5) (pa_cons (pv 2) pa_nil)))) pa_nil)) pa_nil))))
      (pss_cons (ps_set (i := 7) sc__law_words_right.nd rfl (.inl rfl) (pe_has h_reach (hr.mono (by decide)) (by rfl) (pa_cons (pv 1) (pa_cons (pe_tup (pa_cons (pv 3) (pa_cons pe_int pa_nil))) (pa_cons (pe_tup (pa_cons (pv 5) (pa_cons pe_int pa_nil))) pa_nil)))))
      (pss_cons (ps_set (i := 8) sc__law_words_right.nd rfl (.inl rfl) (pe_has h_reach (hr.mono (by decide)) (by rfl) (pa_cons (pv 1) (pa_cons (pe_tup (pa_cons (pv 5) (pa_cons pe_int pa_nil))) (pa_cons (pe_tup (pa_cons (pv 6) (pa_cons pe_int pa_nil))) pa_nil)))))
      (pss_cons (ps_set (i := 9) sc__law_words_right.nd rfl (.inl rfl) (pe_has h_reach (hr.mono (by decide)) (by rfl) (pa_cons (pv 1) (pa_cons (pe_tup (pa_cons (pv 3) (pa_cons pe_int pa_nil))) (pa_cons (pe_tup (pa_cons (pv 6) (pa_cons pe_int pa_nil))) pa_nil)))))
      (pss_cons (ps_if (PW.pt (pw_or (pt_cmpR op_isN (pv 7) pe_non (nomark _)) (pw_or (pt_cmpR op_isN (pv 8) pe_non (nomark _)) (pw_or1 (pt_cmpR op_isN (pv 9) pe_non (nomark _)))))) (pss_one (ps_ret pe_bl)) pss_nil)
      (pss_cons (ps_if (pt_cmpR op_gt (pe_callB call_len_seq (by rfl) T.len bt_len (pa_cons (pv 9) pa_nil)) (pe_op op_add (pe_callB call_len_seq (by rfl) T.len bt_len (pa_cons (pv 7) pa_nil)) (pe_callB call_len_seq (by rfl) T.len bt_len (pa_cons (pv 8) pa_nil))) (nomark _)) (pss_one (ps_ret pe_bl)) pss_nil)
      (pss_cons (ps_if (PW.pt (pw_or (pt_cmpR (op_eqD hr.units) (pv 7) (pe_tup pa_nil) (nomark _)) (pw_or1 (pt_cmpR op_gt (pe_callB call_len_seq (by rfl) T.len bt_len (pa_cons (pv 7) pa_nil)) pe_int (nomark _))))) (pss_one (ps_ret pe_bl)) pss_nil)
      (pss_cons (ps_set (i := 10) sc__law_words_right.nd rfl (.inl rfl) (pv 3))
      (pss_cons (ps_set (i := 11) sc__law_words_right.nd rfl (.inl rfl) (pe_lst pa_nil))
      (pss_cons (ps_for PassesOwn.never rfl (pi_tup (pv 7)) (pg_name (i := 12) sc__law_words_right.nd rfl (.inl rfl)) (pss_cons (ps_set (i := 10) sc__law_words_right.nd rfl (.inl rfl) (pe_has h_law_led_to (hr.mono (by decide)) (by rfl) (pa_cons (pe_ix ix_tup (pv 1) (pv 12) (fun _ _ => rfl)) (pa_cons (pv 10) pa_nil))))
      (pss_one (ps_expr (pe_bm PySem.F.plainAttrs_list PySem.F.slot_list_append PySem.F.type_list_append mt_append (pv 11) (pa_cons (pe_tup (pa_cons (pv 10) (pa_cons pe_int pa_nil))) pa_nil))))))
      (pss_cons (ps_set (i := 13) sc__law_words_right.nd rfl (.inl rfl) (pe_callTy call_tuple_of (by rfl) T.tuple bt_tuple (pa_cons (pe_lc (own := [("_law_index", 12)]) rfl sc__law_words_right.nd (pi_tup (pv 7)) (blkOk_by (own := [("_law_index", 12)]) (N := ["_law_state", "_law_steps_so", "_law_most_here", "_law_first", "_law_found", "_law_middle", "_law_last", "_law_near", "_law_far", "_law_whole_so", "_law_here", "_law_due", "_law_index", "_law_rows_so"]) (sc := defScope (topS 76)) (by decide +kernel)) (fun _ _ _ _ _ => (pg_name (i := 12) sc__law_words_right.nd rfl (.inl rfl))) (fun _ _ _ _ _ => pts_nil) (fun _ _ _ _ _ => (pe_ix (show IxR _ (rIxT K) from ix_tup) (pv 1) (pv 12) (fun _ _ => rfl)))) pa_nil)))
      (pss_one (ps_ret (pe_hasG h_law_like gA (hr.mono (by decide)) (by rfl) (pa_cons (pe_has h_numbers_along (hr.mono (by decide)) (by rfl) (pa_cons (pv 13) (pa_cons (pe_tup (pa_cons (pv 3) (pa_cons pe_int pa_nil))) pa_nil))) (pa_cons (pe_callTy call_tuple_of (by rfl) T.tuple bt_tuple (pa_cons (pv 11) pa_nil)) pa_nil))))))))))))))))))))), ?_⟩
    refine ⟨.ref d, rfl, d, c, l, n, rfl, st, by omega, fun G1 v rows B n1 sd1 st1 hn1 hv gd => ?_⟩
    have gb := gds_b gd
    have gl := gds_len gd
    obtain ⟨a, vs, rfl, ha, al⟩ := hv
    have hv : Sts G1 (.ref a) rows := ⟨a, vs, rfl, ha, al⟩
    refine ⟨.ref a, rfl, .ref a, rows, B, rfl, hv, gd, fun G2 s2 => ?_⟩
    have st2 := st1.same s2
    have tk := tk_of s2
    refine ⟨.ref d, rfl, .int B, rfl, 2, (B : Int), rfl, rfl, .inl ⟨by decide, by decide⟩, _, 1, rfl, rfl, d, c, l, n1, 2 * (B : Int) + 1, rfl, st2, by omega, by omega, by omega, fun G3 x sd3 st3 x0 x1 => ?_⟩
    have tk := tk.trans (sd3.tk st2)
    refine ⟨.int B, rfl, x, (B : Int), rfl, rfl, ?_⟩
    obtain ⟨s, hs⟩ : ∃ s : Int, s = x - B := ⟨_, rfl⟩
    have sb : (s.natAbs : Int) ≤ B := by omega
    dsimp only
    rw [← hs]
    refine ⟨.ref a, rfl, .int s, rfl, .int B, rfl, .ref a, rows, B, s, rfl, hv.tk tk, gd, by omega, by omega, fun G4 dd kvs ks s4 hd hk hkn hkm hkl => ⟨dd, kvs, rfl, .inl hd, fun p4 np4 => ?_⟩⟩
    rw [keys_ints hk]
    have s5 := same_new (o := .lst (ks.map V.int)) np4
    have hp4 : (upd G4 p4 (.lst (ks.map V.int))) p4 = some (.lst (ks.map V.int)) := upd_same
    have st4 := st3.same s4
    have p4l := st4.ne_l np4
    have st5 := st4.same s5
    have tk := tk.trans (tk_of (s4.trans s5))
    generalize upd G4 p4 (.lst (ks.map V.int)) = G5 at *
    have smem : s ∈ ks := (hkm s).mpr ⟨sb, [], .nil s⟩
    refine ⟨.ref d, rfl, .ref p4, rfl, d, c, l, p4, n1 + 1, _, rfl, st5, by omega, hp4, p4l, fun e => ?_, by rw [List.length_map]; omega, fun G6 ix y sd6 st6 hy => ?_⟩
    · have := congrArg List.length e
      rw [List.length_map] at this
      rw [List.eq_nil_of_length_eq_zero this] at smem
      exact absurd smem List.not_mem_nil
    obtain ⟨m, rfl, hm⟩ := mem_ints hy
    obtain ⟨_, w1, hw1⟩ := (hkm m).mp hm
    have mb := hw1.bound sb
    have tk := tk.trans (sd6.tk st5)
    refine ⟨.ref d, rfl, .ref a, rfl, .int m, rfl, .int B, rfl, .ref a, rows, B, m, rfl, hv.tk tk, gd, by omega, by omega, fun G7 d7 kvs7 ks7 s7 hd7 hk7 hkn7 hkm7 hkl7 => ⟨d7, kvs7, rfl, .inl hd7, fun p7 np7 => ?_⟩⟩
    rw [keys_ints hk7]
    have s8 := same_new (o := .lst (ks7.map V.int)) np7
    have hp7 : (upd G7 p7 (.lst (ks7.map V.int))) p7 = some (.lst (ks7.map V.int)) := upd_same
    have st7 := st6.same s7
    have p7l := st7.ne_l np7
    have st8 := st7.same s8
    have tk := tk.trans (tk_of (s7.trans s8))
    generalize upd G7 p7 (.lst (ks7.map V.int)) = G8 at *
    have mmem : m ∈ ks7 := (hkm7 m).mpr ⟨mb, [], .nil m⟩
    refine ⟨d, c, l, p7, n1 + 2, _, rfl, st8, by omega, hp7, p7l, fun e => ?_, by rw [List.length_map]; omega, fun G9 ix2 y2 sd9 st9 hy2 => ?_⟩
    · have := congrArg List.length e
      rw [List.length_map] at this
      rw [List.eq_nil_of_length_eq_zero this] at mmem
      exact absurd mmem List.not_mem_nil
    obtain ⟨e, rfl, he⟩ := mem_ints hy2
    obtain ⟨_, w2, hw2⟩ := (hkm7 e).mp he
    have eb := hw2.bound mb
    have tk := tk.trans (sd9.tk st8)
    have hv9 := hv.tk tk
    -- near
    refine ⟨.ref a, rfl, .int s, rfl, by show 2 ≤ sizeLine; decide, fun u1 nu1 => ?_⟩
    have t1 := same_new (o := .tup [.int s, .int 1]) nu1
    have hu1 : Pr (upd G9 u1 (.tup [.int s, .int 1])) (.ref u1) s := ⟨u1, rfl, upd_same⟩
    have st10 := st9.same t1
    have hv10 := hv9.tk (tk_of t1)
    generalize upd G9 u1 (.tup [.int s, .int 1]) = J1 at *
    refine ⟨.int m, rfl, by show 2 ≤ sizeLine; decide, fun u2 nu2 => ?_⟩
    have t2 := same_new (o := .tup [.int m, .int 1]) nu2
    have hu2 : Pr (upd J1 u2 (.tup [.int m, .int 1])) (.ref u2) m := ⟨u2, rfl, upd_same⟩
    have st11 := st10.same t2
    have hv11 := hv10.tk (tk_of t2)
    have hu1 := hu1.tk (tk_of t2)
    generalize upd J1 u2 (.tup [.int m, .int 1]) = J2 at *
    refine ⟨.ref a, .ref u1, .ref u2, rows, B, s, m, rfl, hv11, gd, hu1, hu2, by omega, by omega, by omega, by omega, fun J3 r1 t3 hr1 => ?_⟩
    rw [bdOf_in mb] at hr1
    rcases hr1 with ⟨rfl, hno⟩ | ⟨pn, wn, rfl, hpn, _, hwn, hln⟩
    · exact absurd ⟨sb, w1, hw1⟩ hno
    have st12 := st11.same t3
    have hv12 := hv11.tk (tk_of t3)
    -- far
    refine ⟨.ref a, rfl, .int m, rfl, by show 2 ≤ sizeLine; decide, fun u3 nu3 => ?_⟩
    have t4 := same_new (o := .tup [.int m, .int 1]) nu3
    have hu3 : Pr (upd J3 u3 (.tup [.int m, .int 1])) (.ref u3) m := ⟨u3, rfl, upd_same⟩
    have st13 := st12.same t4
    have hv13 := hv12.tk (tk_of t4)
    have hpn := t4 _ _ hpn
    generalize upd J3 u3 (.tup [.int m, .int 1]) = J4 at *
    refine ⟨.int e, rfl, by show 2 ≤ sizeLine; decide, fun u4 nu4 => ?_⟩
    have t5 := same_new (o := .tup [.int e, .int 1]) nu4
    have hu4 : Pr (upd J4 u4 (.tup [.int e, .int 1])) (.ref u4) e := ⟨u4, rfl, upd_same⟩
    have st14 := st13.same t5
    have hv14 := hv13.tk (tk_of t5)
    have hpn := t5 _ _ hpn
    have hu3 := hu3.tk (tk_of t5)
    generalize upd J4 u4 (.tup [.int e, .int 1]) = J5 at *
    refine ⟨.ref a, .ref u3, .ref u4, rows, B, m, e, rfl, hv14, gd, hu3, hu4, by omega, by omega, by omega, by omega, fun J6 r2 t6 hr2 => ?_⟩
    rw [bdOf_in eb] at hr2
    rcases hr2 with ⟨rfl, hno⟩ | ⟨pf, wf, rfl, hpf, _, hwf, hlf⟩
    · exact absurd ⟨mb, w2, hw2⟩ hno
    have st15 := st14.same t6
    have hv15 := hv14.tk (tk_of t6)
    have hpn := t6 _ _ hpn
    -- the whole
    refine ⟨.ref a, rfl, .int s, rfl, by show 2 ≤ sizeLine; decide, fun u5 nu5 => ?_⟩
    have t7 := same_new (o := .tup [.int s, .int 1]) nu5
    have hu5 : Pr (upd J6 u5 (.tup [.int s, .int 1])) (.ref u5) s := ⟨u5, rfl, upd_same⟩
    have st16 := st15.same t7
    have hv16 := hv15.tk (tk_of t7)
    have hpn := t7 _ _ hpn
    have hpf := t7 _ _ hpf
    generalize upd J6 u5 (.tup [.int s, .int 1]) = J7 at *
    refine ⟨.int e, rfl, by show 2 ≤ sizeLine; decide, fun u6 nu6 => ?_⟩
    have t8 := same_new (o := .tup [.int e, .int 1]) nu6
    have hu6 : Pr (upd J7 u6 (.tup [.int e, .int 1])) (.ref u6) e := ⟨u6, rfl, upd_same⟩
    have st17 := st16.same t8
    have hv17 := hv16.tk (tk_of t8)
    have hpn := t8 _ _ hpn
    have hpf := t8 _ _ hpf
    have hu5 := hu5.tk (tk_of t8)
    generalize upd J7 u6 (.tup [.int e, .int 1]) = J8 at *
    refine ⟨.ref a, .ref u5, .ref u6, rows, B, s, e, rfl, hv17, gd, hu5, hu6, by omega, by omega, by omega, by omega, fun J9 r3 t9 hr3 => ?_⟩
    rw [bdOf_in eb] at hr3
    rcases hr3 with ⟨rfl, hno⟩ | ⟨pw, ww, rfl, hpw, _, hww, hlw⟩
    · exact absurd ⟨sb, _, hw1.append hw2⟩ hno
    have st18 := st17.same t9
    have hv18 := hv17.tk (tk_of t9)
    have hpn := t9 _ _ hpn
    have hpf := t9 _ _ hpf
    have hle := hlw _ (hwn.append hwf)
    rw [List.length_append] at hle
    refine ⟨.ref pn, rfl, rfl, _, rfl, iteF ⟨.ref pf, rfl, rfl, _, rfl, iteF ⟨.ref pw, rfl, rfl, _, rfl, iteF ?_⟩⟩⟩
    refine ⟨.ref pw, rfl, pw, _, rfl, .inr (.of hpw), .ref pn, rfl, pn, _, rfl, .inr (.of hpn), .ref pf, rfl, pf, _, rfl, .inr (.of hpf), _, _, rfl, rfl, _, _, rfl, rfl, _, rfl, ?_⟩
    rw [List.length_map, List.length_map, List.length_map, decide_eq_false (by omega)]
    refine iteF ⟨.ref pn, rfl, Nat.zero_le _, fun em nem => ?_⟩
    have t10 := same_new (o := .tup []) nem
    have em2 : (upd J9 em (.tup [])) em = some (.tup []) := upd_same
    have st19 := st18.same t10
    have hv19 := hv18.tk (tk_of t10)
    have hpn := t10 _ _ hpn
    generalize upd J9 em (.tup []) = J10 at *
    have dpn : ∀ K, Dp K J10 (.ref pn) (.tuple ((wn.map fun i : Nat => (i : Int)).map PyData.int)) := fun K => by
      refine .tup (xs := (wn.map fun i : Nat => (i : Int)).map V.int) (.of ?_) (ints_dp _)
      rw [hpn, List.map_map]
      rfl
    refine ⟨_, .tuple [], dpn K, .tup (.of em2) .nil, ints_shapedT _, ints_shapedT [], _, rfl, ?_⟩
    by_cases cw : wn = []
    · subst cw
      exact iteT (iteT (q _ _ st19 (by omega)))
    have ev : PyData.eqv (.tuple ((wn.map fun i : Nat => (i : Int)).map PyData.int)) (.tuple []) = false := by
      cases wn with
      | nil => exact absurd rfl cw
      | cons k wn => simp [PyData.eqv, PyData.eqvAll]
    rw [ev]
    refine iteF ⟨.ref pn, rfl, pn, _, rfl, .inr (.of hpn), _, 4, rfl, rfl, _, rfl, ?_⟩
    rw [List.length_map]
    by_cases c4 : (4 : Int) < (wn.length : Nat)
    · rw [decide_eq_true c4]
      exact iteT (q _ _ st19 (by omega))
    rw [decide_eq_false c4]
    refine iteF ⟨.int s, rfl, Nat.zero_le _, fun tl ntl => ?_⟩
    obtain ⟨rs, ls, hrl, hrs, hag, hlb⟩ := word_path hwn
    have hl0 := hag.1
    have t11 := same_new (o := .lst []) ntl
    have htl0 : (upd J10 tl (.lst [])) tl = some (.lst []) := upd_same
    have tlH := ntl
    have stL := st19
    refine ⟨.ref pn, rfl, pn, rfl, ⟨_, .of (t11 _ _ hpn)⟩, for_it walk_tup (fun i σ J => Same J10 J ∧ ∃ (y : Int) (us : List V) (z12 : Option V), σ = [some (.ref d), some (.ref a), some (.int B), some (.int s), some (.ref p4), some (.int m), some (.int e), some (.ref pn), some (.ref pf), some (.ref pw), some (.int y), some (.ref tl), z12, none] ∧ (s :: ls)[i]? = some y ∧ J tl = some (.lst us) ∧ Al (Pr J) us (ls.take i))
      ⟨t11, s, [], none, rfl, rfl, htl0, Al.nil⟩ (fun i σ J _ pp => .of (pp.1 _ _ hpn)) (fun i x σ J JJ hi pp yy => ?_) (fun σ J pp => ?_)⟩
    · obtain ⟨rfl, hx⟩ := yy
      obtain ⟨u1, y, us, z12, rfl, hy, htl, alu⟩ := pp
      rw [List.getElem?_map] at hx
      obtain ⟨k, hk, rfl⟩ := Option.map_eq_some_iff.mp hx
      obtain ⟨row, hrow, hrsi⟩ := hrs i k hk
      obtain ⟨aa, vss, ea, haa, alv⟩ := hv19.tk (tk_of u1)
      cases ea
      obtain ⟨xv, hxv, hst⟩ := alv.to hrow
      have yb : (y.natAbs : Int) ≤ B := by
        cases i with
        | zero =>
          cases hy
          exact sb
        | succ i => exact hlb y (List.mem_of_getElem? hy)
      have hyi := hag.2 i row y hrsi hy
      refine ⟨.ref a, rfl, .int (k : Nat), rfl, a, vss, (k : Nat), xv, rfl, rfl, .of haa, atI_nat hxv, .int y, rfl, xv, row, y, rfl, hst, by omega, by omega, fun J2 u2 => ?_⟩
      have htl2 := u2 _ _ htl
      refine ⟨.ref tl, rfl, .inl ⟨rfl, _, .of htl2⟩, .int (ledI row y), rfl, by show 2 ≤ sizeLine; decide, fun t nt => ?_⟩
      have u3 := same_new (o := .tup [.int (ledI row y), .int 1]) nt
      have hT : Pr (upd J2 t (.tup [.int (ledI row y), .int 1])) (.ref t) (ledI row y) := ⟨t, rfl, upd_same⟩
      have htl3 := u3 _ _ htl2
      generalize upd J2 t (.tup [.int (ledI row y), .int 1]) = J3 at *
      have ui : us.length ≤ i := by
        rw [alu.len, List.length_take]
        exact Nat.min_le_left _ _
      rw [List.length_map] at hi
      have u13 := (u1.trans u2).trans u3
      have tk4 : Tk J3 (upd J3 tl (.lst (us ++ [.ref t]))) := fun b xs hb => by
        rw [upd_ne (ne_of hb htl3 (by intro z; cases z))]
        exact hb
      refine ⟨tl, us, .ref t, rfl, rfl, htl3, small1000 (by omega), same_put u13 tlH, ledI row y, us ++ [.ref t], _, rfl, hyi, upd_same, ?_⟩
      rw [List.take_add_one, hyi]
      exact (alu.mono fun x y h => h.tk (fun b xs hb => tk4 _ _ (u3 _ _ (u2 _ _ hb)))).snoc (hT.tk tk4)
    · obtain ⟨u1, y, us, z12, rfl, hy, htl, alu⟩ := pp
      rw [List.length_map, ← hrl, ← hl0, List.take_length] at alu
      have st20 := st19.same u1
      have hpnJ := u1 _ _ hpn
      have hvJ := hv19.tk (tk_of u1)
      refine ⟨.ref pn, rfl, pn, rfl, ⟨_, .of hpnJ⟩, fun E nE => ?_⟩
      refine lc_it walk_tup (fun i J2 => Same J J2 ∧ ∃ us2 : List V, J2 E = some (.lst us2) ∧ Al (Stp J2) us2 (rs.take i)) ⟨same_new nE, [], upd_same, Al.nil⟩ (fun i J2 _ pp => .of (pp.1 _ _ hpnJ)) (fun i x J2 JJ hi pp yy => ?_) (fun J2 pp => ?_)
      · obtain ⟨rfl, hx⟩ := yy
        obtain ⟨v1, us2, hE, al2⟩ := pp
        rw [List.getElem?_map] at hx
        obtain ⟨k, hk, rfl⟩ := Option.map_eq_some_iff.mp hx
        obtain ⟨row, hrow, hrsi⟩ := hrs i k hk
        obtain ⟨aa, vss, ea, haa, alv⟩ := hvJ.tk (tk_of v1)
        cases ea
        obtain ⟨xv, hxv, hst⟩ := alv.to hrow
        rw [List.length_map] at hi
        have ui : us2.length ≤ i := by
          rw [al2.len, List.length_take]
          exact Nat.min_le_left _ _
        have tk4 : Tk JJ (upd JJ E (.lst (us2 ++ [xv]))) := fun b xs hb => by
          rw [upd_ne (ne_of hb hE (by intro z; cases z))]
          exact hb
        refine ⟨rfl, .ref a, rfl, .int (k : Nat), rfl, a, vss, (k : Nat), xv, rfl, rfl, .of haa, atI_nat hxv, us2, hE, small1000 (by omega), same_put v1 nE, us2 ++ [xv], upd_same, ?_⟩
        rw [List.take_add_one, hrsi]
        exact (al2.mono fun x y h => h.tk tk4).snoc (hst.tk tk4)
      · obtain ⟨v1, us2, hE, al2⟩ := pp
        rw [List.length_map, ← hrl, List.take_length] at al2
        refine ⟨E, us2, rfl, .inl ⟨.of hE, fun rp nrp => ?_⟩⟩
        have v2 := same_new (o := .tup us2) nrp
        have hso : Sts (upd J2 rp (.tup us2)) (.ref rp) rs := ⟨rp, us2, rfl, upd_same, al2.mono fun x y h => h.tk (tk_of v2)⟩
        have v12 := v1.trans v2
        generalize upd J2 rp (.tup us2) = J3 at *
        refine ⟨.ref rp, rfl, .int s, rfl, by show 2 ≤ sizeLine; decide, fun u nu => ?_⟩
        have v3 := same_new (o := .tup [.int s, .int 1]) nu
        have hu : Pr (upd J3 u (.tup [.int s, .int 1])) (.ref u) s := ⟨u, rfl, upd_same⟩
        have hso := hso.tk (tk_of v3)
        have v13 := v12.trans v3
        generalize upd J3 u (.tup [.int s, .int 1]) = J4 at *
        have wpos := List.length_pos_iff.mpr cw
        refine ⟨.ref rp, .ref u, rs, s, ls, rfl, hso, by omega, by omega, fun row hr => ?_, hu, fun y hy => ?_, hag, fun J5 r v5 hr5 => ?_⟩
        · obtain ⟨i, hi, ei⟩ := List.getElem_of_mem hr
          obtain ⟨row2, hrow2, hrs2⟩ := hrs i _ (List.getElem?_eq_getElem (hrl ▸ hi))
          rw [List.getElem?_eq_getElem hi, ei] at hrs2
          cases hrs2
          obtain ⟨b, hb, _⟩ := gds_row gd hrow2
          exact ⟨b, hb⟩
        · rcases List.mem_cons.mp hy with e1 | e1
          · omega
          · have := hlb y e1
            omega
        · have v15 := v13.trans v5
          refine ⟨.ref tl, rfl, tl, us, rfl, .inl ⟨.of (v15 _ _ htl), fun r8 nr8 => ?_⟩⟩
          have v6 := same_new (o := .tup us) nr8
          have hf : Stp (upd J5 r8 (.tup us)) (.ref r8) ls := ⟨r8, us, rfl, upd_same, alu.mono fun x y h => h.tk (tk_of (v15.trans v6))⟩
          have hg := hr5.tk (tk_of v6)
          refine ⟨_, _, .tuple (ls.map prI), rfl, fun K => hg.dp, fun K => hf.dp, Shw.prs (fun y hy => ?_) (by omega), q _ _ (st20.same (v15.trans v6)) (by omega)⟩
          have := hlb y hy
          omega
theorem ok_law_lists_right (T : Txt mg) {f : Addr} {fd : FuncData} (D : Df K mg "_law_lists_right" (topS 77) ["_law_state"] f fd) (h_law_choices : Has P w K mg base "_law_choices" 4 ["_law_state"] sp_law_choices) (h_law_most : Has P w K mg base "_law_most" 6 ["_law_steps_so"] sp_law_most) (h_law_draw : Has P w K mg base "_law_draw" 2 ["_law_state", "_law_limit"] sp_law_draw) (h_law_like : HasG P w K mg base "_law_like" 1 ["_law_got", "_law_due"] sp_law_like) (h_is_closed : Has P w K mg base "is_closed" 7 ["steps", "start", "goal", "value"] sp_is_closed) (h_law_words : Has P w K mg base "_law_words" 2 ["_law_steps_so", "_law_first", "_law_most_here"] sp_law_words) : HasG P w K mg base "_law_lists_right" 8 ["_law_state"] sp_law_lists_right := by
  refine D.hasG sc__law_lists_right (fun vs H Q E h => ?_) (fun cdv A outer s H vs Q E gA hr h => ?_)
  · obtain ⟨d, c, l, n, rfl, _⟩ := h
    rfl
  · obtain ⟨d, c, l, n, rfl, st, n9, q⟩ := h
    refine ⟨_, (pss_cons (ps_set (i := 1) sc__law_lists_right.nd rfl (.inl rfl) (pe_has h_law_choices (hr.mono (by decide)) (by rfl) (pa_cons (pv 0) pa_nil)))
      (pss_cons (ps_set (i := 2) sc__law_lists_right.nd rfl (.inl rfl) (pe_has h_law_most (hr.mono (by decide)) (by rfl) (pa_cons (pv 1) pa_nil)))
      (pss_cons (ps_set (i := 3) sc__law_lists_right.nd rfl (.inl rfl) (pe_op op_sub (pe_has h_law_draw (hr.mono (by decide)) (by rfl) (pa_cons (pv 0) (pa_cons (pe_op op_add (pe_op op_mul pe_int (pv 2)) pe_int) pa_nil))) (pv 2)))
      (pss_cons (ps_set (i := 4) sc__law_lists_right.nd rfl (.inl rfl) (pe_callTy call_tuple_of (by rfl) T.tuple bt_tuple (pa_cons (pe_lc (own := [("_law_here", 7)]) rfl sc__law_lists_right.nd (pi_list (pe_callB cr_sortedI (by rfl) T.sorted bt_sorted (pa_cons (pe_callTy (call_listD rfl) (by rfl) T.list bt_list (pa_cons (pe_has h_law_words (hr.mono (by decide)) (by rfl) (pa_cons (pv 1) (pa_cons (pv 3) (pa_cons (pv 2) pa_nil)))) pa_nil)) pa_nil))) (blkOk_by (own := [("_law_here", 7)]) (N := ["_law_state", "_law_steps_so", "_law_most_here", "_law_first", "_law_found", "_law_last", "_law_due", "_law_here"]) (sc := defScope (topS 77)) (by decide +kernel)) (fun _ _ _ _ _ => (pg_name (i := 7) sc__law_lists_right.nd rfl (.inl rfl))) (fun _ _ _ _ _ => pts_nil) (fun _ _ _ _ _ => (pe_tup (pa_cons (pv 7) (pa_cons pe_int pa_nil))))) pa_nil)))
      (pss_cons (ps_for PassesOwn.never rfl (pi_range2 (by rfl) T.range (pa_cons (pe_un un_neg (pv 2)) (pa_cons (pe_op op_add (pv 2) pe_int) pa_nil))) (pg_name (i := 5) sc__law_lists_right.nd rfl (.inl rfl)) (pss_cons (ps_set (i := 6) sc__law_lists_right.nd rfl (.inl rfl) (pe_cmpR (op_notInT (K86.hu65 hr)) (pe_tup (pa_cons (pv 5) (pa_cons pe_int pa_nil))) (pv 4) (by rfl)))
      (pss_one (ps_if (pt_not (pt_val (pe_hasG h_law_like gA (hr.mono (by decide)) (by rfl) (pa_cons (pe_has h_is_closed (hr.mono (by decide)) (by rfl) (pa_cons (pv 1) (pa_cons (pe_tup (pa_cons (pv 3) (pa_cons pe_int pa_nil))) (pa_cons (pe_tup (pa_cons (pv 5) (pa_cons pe_int pa_nil))) (pa_cons (pv 4) pa_nil))))) (pa_cons (pv 6) pa_nil))))) (pss_one (ps_ret pe_bl)) pss_nil))))
      (pss_one (ps_ret pe_bl))))))), ?_⟩
    refine ⟨.ref d, rfl, d, c, l, n, rfl, st, by omega, fun G1 v rows B n1 sd1 st1 hn1 hv gd => ?_⟩
    have gb := gds_b gd
    have gl := gds_len gd
    refine ⟨v, rfl, v, rows, B, rfl, hv, gd, fun G2 s2 => ?_⟩
    have st2 := st1.same s2
    have hv2 := hv.tk (tk_of s2)
    refine ⟨.ref d, rfl, .int B, rfl, 2, (B : Int), rfl, rfl, .inl ⟨by decide, by decide⟩, _, 1, rfl, rfl, d, c, l, n1, 2 * (B : Int) + 1, rfl, st2, by omega, by omega, by omega, fun G3 x sd3 st3 x0 x1 => ?_⟩
    have hv3 := hv2.tk (sd3.tk st2)
    refine ⟨.int B, rfl, x, (B : Int), rfl, rfl, ?_⟩
    obtain ⟨s, hs⟩ : ∃ s : Int, s = x - B := ⟨_, rfl⟩
    have sb : (s.natAbs : Int) ≤ B := by omega
    dsimp only
    rw [← hs]
    refine ⟨v, rfl, .int s, rfl, .int B, rfl, v, rows, B, s, rfl, hv3, gd, by omega, by omega, fun G4 dd kvs ks s4 hd hk hkn hkm hkl => ⟨dd, kvs, rfl, .inl hd, fun p4 np4 => ?_⟩⟩
    rw [keys_ints hk]
    have s5 := same_new (o := .lst (ks.map V.int)) np4
    have hp4 : (upd G4 p4 (.lst (ks.map V.int))) p4 = some (.lst (ks.map V.int)) := upd_same
    have st5 := (st3.same s4).same s5
    have hv5 := hv3.tk (tk_of (s4.trans s5))
    generalize upd G4 p4 (.lst (ks.map V.int)) = G5 at *
    refine ⟨p4, ks, rfl, .of hp4, fun ys p6 pm pw np6 => ?_⟩
    have s6 := same_new (o := .lst (ys.map V.int)) np6
    have hp6 : (upd G5 p6 (.lst (ys.map V.int))) p6 = some (.lst (ys.map V.int)) := upd_same
    have st6 := st5.same s6
    have hv6 := hv5.tk (tk_of s6)
    generalize upd G5 p6 (.lst (ys.map V.int)) = G6 at *
    have yl : ys.length ≤ 41 := by
      rw [pm.length_eq]
      exact hkl
    have ynd : ys.Nodup := pm.nodup_iff.mpr hkn
    have ymem : ∀ x, x ∈ ys ↔ ((s.natAbs : Int) ≤ B ∧ ∃ w, Word rows B s w x) := fun x => by
      rw [pm.mem_iff]
      exact hkm x
    refine ⟨p6, rfl, ⟨_, .of hp6⟩, fun E nE => ?_⟩
    refine lc_it walk_list (fun i J => Same G6 J ∧ ∃ us : List V, J E = some (.lst us) ∧ Al (Pr J) us (ys.take i)) ⟨same_new nE, [], upd_same, Al.nil⟩ (fun i J _ pp => .of (pp.1 _ _ hp6)) (fun i x J J2 hi pp y => ?_) (fun J pp => ?_)
    · obtain ⟨rfl, hx⟩ := y
      obtain ⟨t1, us, t2, t3⟩ := pp
      rw [List.getElem?_map] at hx
      obtain ⟨k, hk, rfl⟩ := Option.map_eq_some_iff.mp hx
      refine ⟨rfl, .int k, rfl, by show 2 ≤ sizeLine; decide, fun r nr => ?_⟩
      have sr := same_new (o := .tup [.int k, .int 1]) nr
      have neE : r ≠ E := fun e => by
        rw [e, t2] at nr
        cases nr
      refine ⟨_, sr _ _ t2, ?_, same_put (t1.trans sr) nE, us ++ [.ref r], upd_same, ?_⟩
      · rw [t3.len, List.length_take]
        exact Nat.lt_of_le_of_lt (Nat.min_le_right _ _) (small1000 (by omega))
      · rw [List.take_add_one, hk]
        have tk : Tk J2 (upd (upd J2 r (.tup [.int k, .int 1])) E (.lst (us ++ [.ref r]))) := fun a xs ha => by
          rw [upd_ne (ne_of ha t2 (by intro z; cases z))]
          exact sr _ _ ha
        refine (t3.mono fun x y h => h.tk tk).snoc ⟨r, rfl, ?_⟩
        rw [upd_ne neE, upd_same]
    · obtain ⟨t1, us, t2, t3⟩ := pp
      rw [List.length_map, List.take_length] at t3
      refine ⟨E, us, rfl, .inl ⟨.of t2, fun r nr => ?_⟩⟩
      have sr := same_new (o := .tup us) nr
      have hf : Stp (upd J r (.tup us)) (.ref r) ys := ⟨r, us, rfl, upd_same, t3.mono fun x y h => h.tk (tk_of sr)⟩
      have st7 := (st6.same t1).same sr
      have hv7 := hv6.tk (tk_of (t1.trans sr))
      generalize upd J r (.tup us) = G7 at *
      have ylt : ys.Pairwise (· < ·) := by
        have h2 : ys.Pairwise (· ≠ ·) := ynd
        exact (pw.and h2).imp fun h => by omega
      refine ⟨.int B, rfl, (B : Int), rfl, .int B, rfl, (B : Int), 1, rfl, rfl, -(B : Int), (B : Int) + 1, rfl, by omega, ?_⟩
      refine for_range (n := ((B : Int) + 1 - -(B : Int)).toNat) (fun i σ J => Same G7 J ∧ ∃ z5 z6, σ = [some (.ref d), some v, some (.int B), some (.int s), some (.ref r), z5, z6, none]) ⟨Same.refl _, none, none, rfl⟩ (fun i σ J hi pp => ?_) (fun σ J pp => ?_)
      · obtain ⟨u1, z5, z6, rfl⟩ := pp
        obtain ⟨t, ht⟩ : ∃ t : Int, t = -(B : Int) + (i : Nat) := ⟨_, rfl⟩
        have tb : (t.natAbs : Int) ≤ B := by omega
        rw [← ht]
        refine ⟨.int t, rfl, by show 2 ≤ sizeLine; decide, fun u nu => ?_⟩
        have s8 := same_new (o := .tup [.int t, .int 1]) nu
        have hu : Pr (upd J u (.tup [.int t, .int 1])) (.ref u) t := ⟨u, rfl, upd_same⟩
        have u2 := u1.trans s8
        generalize upd J u (.tup [.int t, .int 1]) = J1 at *
        have hf1 := hf.tk (tk_of u2)
        refine ⟨.ref r, rfl, prI t, ys.map prI, hu.dp, hf1.dp, prI_shaped t, prIs_shapedT ys, ?_⟩
        rw [prIs_any]
        refine ⟨v, rfl, .int s, rfl, by show 2 ≤ sizeLine; decide, fun u3 nu3 => ?_⟩
        have s9 := same_new (o := .tup [.int s, .int 1]) nu3
        have hu3 : Pr (upd J1 u3 (.tup [.int s, .int 1])) (.ref u3) s := ⟨u3, rfl, upd_same⟩
        have u3' := u2.trans s9
        generalize upd J1 u3 (.tup [.int s, .int 1]) = J2 at *
        refine ⟨.int t, rfl, by show 2 ≤ sizeLine; decide, fun u4 nu4 => ?_⟩
        have s10 := same_new (o := .tup [.int t, .int 1]) nu4
        have hu4 : Pr (upd J2 u4 (.tup [.int t, .int 1])) (.ref u4) t := ⟨u4, rfl, upd_same⟩
        have u4' := u3'.trans s10
        have hu3 := hu3.tk (tk_of s10)
        generalize upd J2 u4 (.tup [.int t, .int 1]) = J3 at *
        refine ⟨.ref r, rfl, v, .ref u3, .ref u4, .ref r, rows, B, s, t, ys, rfl, hv7.tk (tk_of u4'), gd, hu3, hu4, sb, tb, hf.tk (tk_of u4'), by omega, fun x hx => ?_, ylt, (ymem s).mpr ⟨sb, [], .nil s⟩, fun x hx row hr hb => ?_, fun J4 s11 => ?_⟩
        · obtain ⟨_, w2, hw2⟩ := (ymem x).mp hx
          exact hw2.bound sb
        · obtain ⟨_, w2, hw2⟩ := (ymem x).mp hx
          obtain ⟨i2, hi2, e2⟩ := List.getElem_of_mem hr
          exact (ymem _).mpr ⟨sb, _, hw2.snoc (i := i2) (row := row) (by rw [List.getElem?_eq_getElem hi2, e2]) rfl hb⟩
        · refine ⟨_, rfl, _, _, .bool (!decide (t ∈ ys)), rfl, fun K => .bl _, fun K => .bl _, Shw.bl _, true, rfl, iteF ⟨u4'.trans s11, _, _, rfl⟩⟩
      · obtain ⟨u1, z5, z6, rfl⟩ := pp
        exact q _ _ (st7.same u1) (by omega)
theorem ok_law (T : Txt mg) {f : Addr} {fd : FuncData} (D : Df K mg "law" (topS 78) ["_law_script"] f fd) (h_law_begin : Has P w K mg base "_law_begin" 1 ["_law_script"] (sp_law_begin K)) (h_law_lists_right : HasG P w K mg base "_law_lists_right" 8 ["_law_state"] sp_law_lists_right) (h_law_single_right : HasG P w K mg base "_law_single_right" 8 ["_law_state"] sp_law_single_right) (h_law_words_right : HasG P w K mg base "_law_words_right" 8 ["_law_state"] sp_law_words_right) : HasG P w K mg base "law" 9 ["_law_script"] (sp_law K) := by
  refine D.hasG sc_law (fun vs H Q E h => ?_) (fun cdv A outer s H vs Q E gA hr h => ?_)
  · obtain ⟨a, ns, rfl, _⟩ := h
    rfl
  · obtain ⟨a, ns, rfl, hs, hl, q⟩ := h
    refine ⟨_, (pss_cons (ps_set (i := 1) sc_law.nd rfl (.inl rfl) (pe_has h_law_begin (hr.mono (by decide)) (by rfl) (pa_cons (pv 0) pa_nil)))
      (pss_cons (ps_for PassesOwn.never rfl (pi_range1 (by rfl) T.range (pa_cons pe_int pa_nil)) (pg_name (i := 2) sc_law.nd rfl (.inl rfl)) (pss_cons (ps_if (PW.pt (pw_or (pt_not (pt_val (pe_hasG h_law_single_right gA (hr.mono (by decide)) (by rfl) (pa_cons (pv 1) pa_nil)))) (pw_or1 (pt_not (pt_val (pe_hasG h_law_words_right gA (hr.mono (by decide)) (by rfl) (pa_cons (pv 1) pa_nil))))))) (pss_one (ps_ret pe_bl)) pss_nil)
      (pss_one (ps_if (pt_not (pt_val (pe_hasG h_law_lists_right gA (hr.mono (by decide)) (by rfl) (pa_cons (pv 1) pa_nil)))) (pss_one (ps_ret pe_bl)) pss_nil))))
      (pss_one (ps_ret pe_bl)))), ?_⟩
    refine ⟨.ref a, rfl, a, ns, rfl, hs, hl, fun G d c l st => ?_⟩
    refine ⟨3, rfl, by decide, by decide, ?_⟩
    refine for_range (n := 3) (fun i σ J => ∃ n z, σ = [some (.ref a), some (.ref d), z] ∧ StA J d c l n ∧ n ≤ 90 * i) ⟨0, none, rfl, st, by decide⟩ (fun i σ J hi pp => ?_) (fun σ J pp => ?_)
    · obtain ⟨n, z, rfl, st1, hn⟩ := pp
      refine ⟨.ref d, rfl, d, c, l, n, rfl, st1, by omega, fun G1 n1 st2 h1 => ⟨true, rfl, iteF ?_⟩⟩
      refine ⟨.ref d, rfl, d, c, l, n1, rfl, st2, by omega, fun G2 n2 st3 h2 => ⟨true, rfl, iteF ?_⟩⟩
      refine ⟨.ref d, rfl, d, c, l, n2, rfl, st3, by omega, fun G3 n3 st4 h3 => ⟨true, rfl, iteF ⟨n3, _, rfl, st4, by omega⟩⟩⟩
    · obtain ⟨n, z, rfl, st1, hn⟩ := pp
      exact q J
end
end K86

/-! K86All: all defs together, from what the top has left. -/
namespace K86
open PySem PySem.Spec PyProof.Rows L2 SW
/-- a def as the top's namespace has it -/
def AtD (K : PySem.W.Frag) (x : Str) (st : Stmt) : Prop := ∃ f fd, PySem.W.nsIn K mainGlobals x = some (some (.ref f)) ∧ Fun K x x st f fd
theorem at_mk {K : PySem.W.Frag} {x : Str} {st : Stmt} {f : Addr} {oc : Value} {od an : Option Addr} {osl : Array (Option Value)} {kV doc pm cdv ct : Value} (a1 : PySem.W.nsIn K mainGlobals x = some (some (.ref f)))
    (l1 : K.lookup f = some ⟨oc, od, .func (PySem.W.fnOf x x (defArgs st) (defBody st) (defScope st) .none kV doc pm an cdv ct), osl⟩) (c1 : PySem.W.codeIn K cdv x = true) (k1 : PySem.W.keepIn K (.ref f) = true) : AtD K x st := ⟨f, _, a1, fun_mk l1 c1 k1⟩
theorem AtD.df {K : PySem.W.Frag} {h : Heap} {mg : Str → Option Value} {x : Str} {st : Stmt} {ps : List Str} (X : K.In h) (G : h.Ns mainGlobals mg) (D : AtD K x st)
    (hb : ∀ (kV doc pm : Value) (an : Option Addr) (cdv ct : Value) (us : List Value), us.length = ps.length → bindArgs (PySem.W.fnOf x x (defArgs st) (defBody st) (defScope st) .none kV doc pm an cdv ct) ⟨us, []⟩ = pure (ps.zip us)) : ∃ f fd, Df K mg x st ps f fd := by
  obtain ⟨f, fd, a1, F⟩ := D
  exact ⟨f, fd, F, PySem.W.mg_of X G a1, F.binds hb⟩
def IntK (K : PySem.W.Frag) (x : Str) (i : Int) : Prop := ∃ t, PySem.W.nsIn K mainGlobals x = some (some (.int i t))
theorem int_mk {K : PySem.W.Frag} {x : Str} {i : Int} {t : Nat} (e : PySem.W.nsIn K mainGlobals x = some (some (.int i t))) : IntK K x i := ⟨t, e⟩
theorem IntK.cst {K : PySem.W.Frag} {h : Heap} {mg : Str → Option Value} {x : Str} {i : Int} (X : K.In h) (G : h.Ns mainGlobals mg) (e : IntK K x i) : CstI mg x i := by
  obtain ⟨t, e⟩ := e
  exact ⟨t, PySem.W.mg_of X G e⟩
/-- what the top's namespace tells beside the defs -/
structure TxtK (K : PySem.W.Frag) : Prop where
  len : PySem.W.nsIn K mainGlobals "len" = some none
  isinstance : PySem.W.nsIn K mainGlobals "isinstance" = some none
  range : PySem.W.nsIn K mainGlobals "range" = some none
  enumerate : PySem.W.nsIn K mainGlobals "enumerate" = some none
  zip : PySem.W.nsIn K mainGlobals "zip" = some none
  sorted : PySem.W.nsIn K mainGlobals "sorted" = some none
  reversed : PySem.W.nsIn K mainGlobals "reversed" = some none
  max : PySem.W.nsIn K mainGlobals "max" = some none
  abs : PySem.W.nsIn K mainGlobals "abs" = some none
  int : PySem.W.nsIn K mainGlobals "int" = some none
  bool : PySem.W.nsIn K mainGlobals "bool" = some none
  list : PySem.W.nsIn K mainGlobals "list" = some none
  tuple : PySem.W.nsIn K mainGlobals "tuple" = some none
  repr : PySem.W.nsIn K mainGlobals "repr" = some none
  gcd : PySem.W.nsIn K mainGlobals "gcd" = some (some (.builtin "math.gcd"))
  degree : IntK K "MOST_DEGREE" 64
  row : IntK K "MOST_ROW" 8
  lookS : IntK K "MOST_LOOKED_AT_starts" 2000
  lookT : IntK K "MOST_LOOKED_AT_twostarts" 2000
  whole : IntK K "MOST_WHOLE" 256
theorem TxtK.txt {K : PySem.W.Frag} {h : Heap} {mg : Str → Option Value} (X : K.In h) (G : h.Ns mainGlobals mg) (t : TxtK K) (part : CstI mg "MOST_PART" (10 ^ 60)) : Txt mg :=
  ⟨PySem.W.mg_none_of X G t.len, PySem.W.mg_none_of X G t.isinstance, PySem.W.mg_none_of X G t.range, PySem.W.mg_none_of X G t.enumerate, PySem.W.mg_none_of X G t.zip, PySem.W.mg_none_of X G t.sorted, PySem.W.mg_none_of X G t.reversed, PySem.W.mg_none_of X G t.max, PySem.W.mg_none_of X G t.abs, PySem.W.mg_none_of X G t.int, PySem.W.mg_none_of X G t.bool, PySem.W.mg_none_of X G t.list, PySem.W.mg_none_of X G t.tuple, PySem.W.mg_none_of X G t.repr, PySem.W.mg_of X G t.gcd, part, t.degree.cst X G, t.row.cst X G, t.lookS.cst X G, t.lookT.cst X G, t.whole.cst X G⟩
/-- the defs as the namespace has them -/
structure DefsK (K : PySem.W.Frag) : Prop where
  d_is_from : AtD K "is_from" (topS 13)
  d_number_of : AtD K "number_of" (topS 19)
  d_reduced : AtD K "reduced" (topS 20)
  d_holds_bound : AtD K "holds_bound" (topS 26)
  d_is_within : AtD K "is_within" (topS 29)
  d_led : AtD K "led" (topS 36)
  d_check_few : AtD K "check_few" (topS 37)
  d_is_growing : AtD K "is_growing" (topS 39)
  d_whole_numbers : AtD K "whole_numbers" (topS 43)
  d_word_to : AtD K "word_to" (topS 46)
  d_product_of : AtD K "product_of" (topS 55)
  d_check_degree : AtD K "check_degree" (topS 56)
  d_law_mixed : AtD K "_law_mixed" (topS 59)
  d_law_begin : AtD K "_law_begin" (topS 60)
  d_law_divisor : AtD K "_law_divisor" (topS 63)
  d_law_less : AtD K "_law_less" (topS 68)
  d_law_like : AtD K "_law_like" (topS 69)
  d_law_led_to : AtD K "_law_led_to" (topS 72)
  d_is_number : AtD K "is_number" (topS 14)
  d_as_poly : AtD K "as_poly" (topS 21)
  d_value_of : AtD K "value_of" (topS 22)
  d_least_bound : AtD K "least_bound" (topS 27)
  d_ways_from : AtD K "ways_from" (topS 45)
  d_is_list_within : AtD K "is_list_within" (topS 49)
  d_law_draw : AtD K "_law_draw" (topS 61)
  d_law_frac : AtD K "_law_frac" (topS 64)
  d_law_words : AtD K "_law_words" (topS 74)
  d_is_step : AtD K "is_step" (topS 15)
  d_need_number : AtD K "need_number" (topS 16)
  d_bounds_so : AtD K "bounds_so" (topS 28)
  d_walk_so : AtD K "walk_so" (topS 30)
  d_bound_of : AtD K "bound_of" (topS 41)
  d_round_from : AtD K "round_from" (topS 51)
  d_law_of : AtD K "_law_of" (topS 62)
  d_law_add : AtD K "_law_add" (topS 65)
  d_law_mul : AtD K "_law_mul" (topS 66)
  d_need_step : AtD K "need_step" (topS 17)
  d_need_row : AtD K "need_row" (topS 18)
  d_round_so : AtD K "round_so" (topS 31)
  d_need_whole : AtD K "need_whole" (topS 35)
  d_law_power : AtD K "_law_power" (topS 67)
  d_law_choices : AtD K "_law_choices" (topS 71)
  d_need_bent : AtD K "need_bent" (topS 25)
  d_need_choices : AtD K "need_choices" (topS 40)
  d_numbers_along : AtD K "numbers_along" (topS 57)
  d_law_size_at : AtD K "_law_size_at" (topS 70)
  d_comes_round : AtD K "comes_round" (topS 32)
  d_choice_bound : AtD K "choice_bound" (topS 42)
  d_asked_of : AtD K "asked_of" (topS 44)
  d_stays : AtD K "stays" (topS 52)
  d_law_most : AtD K "_law_most" (topS 73)
  d_reach : AtD K "reach" (topS 47)
  d_closed_list : AtD K "closed_list" (topS 48)
  d_is_closed : AtD K "is_closed" (topS 50)
  d_law_single_right : AtD K "_law_single_right" (topS 75)
  d_law_words_right : AtD K "_law_words_right" (topS 76)
  d_law_lists_right : AtD K "_law_lists_right" (topS 77)
  d_law : AtD K "law" (topS 78)
section
variable {P : Program} {w : World} {K : PySem.W.Frag} {mg : Str → Option Value} {base : Heap}
theorem all_ok {h : Heap} (X : K.In h) (G : h.Ns mainGlobals mg) (T : Txt mg) (S : DefsK K) : HasG P w K mg base "law" 9 ["_law_script"] (sp_law K) := by
  obtain ⟨f_is_from, fd_is_from, D_is_from⟩ := S.d_is_from.df (ps := ["value", "low", "high"]) X G fun _ _ _ _ _ _ us hl => match us, hl with | [_, _, _], _ => rfl
  have h_is_from := ok_is_from (P := P) (w := w) (base := base) T D_is_from 
  obtain ⟨f_number_of, fd_number_of, D_number_of⟩ := S.d_number_of.df (ps := ["above", "below"]) X G fun _ _ _ _ _ _ us hl => match us, hl with | [_, _], _ => rfl
  have h_number_of := ok_number_of (P := P) (w := w) (base := base) T D_number_of 
  obtain ⟨f_reduced, fd_reduced, D_reduced⟩ := S.d_reduced.df (ps := ["numbers", "below"]) X G fun _ _ _ _ _ _ us hl => match us, hl with | [_, _], _ => rfl
  have h_reduced := ok_reduced (P := P) (w := w) (base := base) T D_reduced 
  obtain ⟨f_holds_bound, fd_holds_bound, D_holds_bound⟩ := S.d_holds_bound.df (ps := ["sizes", "beneath", "bound"]) X G fun _ _ _ _ _ _ us hl => match us, hl with | [_, _, _], _ => rfl
  have h_holds_bound := ok_holds_bound (P := P) (w := w) (base := base) T D_holds_bound 
  obtain ⟨f_is_within, fd_is_within, D_is_within⟩ := S.d_is_within.df (ps := ["bounds", "number"]) X G fun _ _ _ _ _ _ us hl => match us, hl with | [_, _], _ => rfl
  have h_is_within := ok_is_within (P := P) (w := w) (base := base) T D_is_within 
  obtain ⟨f_led, fd_led, D_led⟩ := S.d_led.df (ps := ["numbers", "here"]) X G fun _ _ _ _ _ _ us hl => match us, hl with | [_, _], _ => rfl
  have h_led := ok_led (P := P) (w := w) (base := base) T D_led 
  obtain ⟨f_check_few, fd_check_few, D_check_few⟩ := S.d_check_few.df (ps := ["bound"]) X G fun _ _ _ _ _ _ us hl => match us, hl with | [_], _ => rfl
  have h_check_few := ok_check_few (P := P) (w := w) (base := base) T D_check_few 
  obtain ⟨f_is_growing, fd_is_growing, D_is_growing⟩ := S.d_is_growing.df (ps := ["step"]) X G fun _ _ _ _ _ _ us hl => match us, hl with | [_], _ => rfl
  have h_is_growing := ok_is_growing (P := P) (w := w) (base := base) T D_is_growing 
  obtain ⟨f_whole_numbers, fd_whole_numbers, D_whole_numbers⟩ := S.d_whole_numbers.df (ps := ["steps"]) X G fun _ _ _ _ _ _ us hl => match us, hl with | [_], _ => rfl
  have h_whole_numbers := ok_whole_numbers (P := P) (w := w) (base := base) T D_whole_numbers 
  obtain ⟨f_word_to, fd_word_to, D_word_to⟩ := S.d_word_to.df (ps := ["ways", "goal"]) X G fun _ _ _ _ _ _ us hl => match us, hl with | [_, _], _ => rfl
  have h_word_to := ok_word_to (P := P) (w := w) (base := base) T D_word_to 
  obtain ⟨f_product_of, fd_product_of, D_product_of⟩ := S.d_product_of.df (ps := ["row"]) X G fun _ _ _ _ _ _ us hl => match us, hl with | [_], _ => rfl
  have h_product_of := ok_product_of (P := P) (w := w) (base := base) T D_product_of 
  obtain ⟨f_check_degree, fd_check_degree, D_check_degree⟩ := S.d_check_degree.df (ps := ["degree"]) X G fun _ _ _ _ _ _ us hl => match us, hl with | [_], _ => rfl
  have h_check_degree := ok_check_degree (P := P) (w := w) (base := base) T D_check_degree 
  obtain ⟨f_law_mixed, fd_law_mixed, D_law_mixed⟩ := S.d_law_mixed.df (ps := ["_law_cell", "_law_k"]) X G fun _ _ _ _ _ _ us hl => match us, hl with | [_, _], _ => rfl
  have h_law_mixed := ok_law_mixed (P := P) (w := w) (base := base) T D_law_mixed 
  obtain ⟨f_law_begin, fd_law_begin, D_law_begin⟩ := S.d_law_begin.df (ps := ["_law_script"]) X G fun _ _ _ _ _ _ us hl => match us, hl with | [_], _ => rfl
  have h_law_begin := ok_law_begin (P := P) (w := w) (base := base) T D_law_begin 
  obtain ⟨f_law_divisor, fd_law_divisor, D_law_divisor⟩ := S.d_law_divisor.df (ps := ["_law_one", "_law_other"]) X G fun _ _ _ _ _ _ us hl => match us, hl with | [_, _], _ => rfl
  have h_law_divisor := ok_law_divisor (P := P) (w := w) (base := base) T D_law_divisor 
  obtain ⟨f_law_less, fd_law_less, D_law_less⟩ := S.d_law_less.df (ps := ["_law_one", "_law_other"]) X G fun _ _ _ _ _ _ us hl => match us, hl with | [_, _], _ => rfl
  have h_law_less := ok_law_less (P := P) (w := w) (base := base) T D_law_less 
  obtain ⟨f_law_like, fd_law_like, D_law_like⟩ := S.d_law_like.df (ps := ["_law_got", "_law_due"]) X G fun _ _ _ _ _ _ us hl => match us, hl with | [_, _], _ => rfl
  have h_law_like := ok_law_like (P := P) (w := w) (base := base) T D_law_like 
  obtain ⟨f_law_led_to, fd_law_led_to, D_law_led_to⟩ := S.d_law_led_to.df (ps := ["_law_told", "_law_here"]) X G fun _ _ _ _ _ _ us hl => match us, hl with | [_, _], _ => rfl
  have h_law_led_to := ok_law_led_to (P := P) (w := w) (base := base) T D_law_led_to 
  obtain ⟨f_is_number, fd_is_number, D_is_number⟩ := S.d_is_number.df (ps := ["value"]) X G fun _ _ _ _ _ _ us hl => match us, hl with | [_], _ => rfl
  have h_is_number := ok_is_number (P := P) (w := w) (base := base) T D_is_number h_is_from
  obtain ⟨f_as_poly, fd_as_poly, D_as_poly⟩ := S.d_as_poly.df (ps := ["step"]) X G fun _ _ _ _ _ _ us hl => match us, hl with | [_], _ => rfl
  have h_as_poly := ok_as_poly (P := P) (w := w) (base := base) T D_as_poly h_reduced
  obtain ⟨f_value_of, fd_value_of, D_value_of⟩ := S.d_value_of.df (ps := ["poly", "number"]) X G fun _ _ _ _ _ _ us hl => match us, hl with | [_, _], _ => rfl
  have h_value_of := ok_value_of (P := P) (w := w) (base := base) T D_value_of h_number_of
  obtain ⟨f_least_bound, fd_least_bound, D_least_bound⟩ := S.d_least_bound.df (ps := ["poly"]) X G fun _ _ _ _ _ _ us hl => match us, hl with | [_], _ => rfl
  have h_least_bound := ok_least_bound (P := P) (w := w) (base := base) T D_least_bound h_holds_bound
  obtain ⟨f_ways_from, fd_ways_from, D_ways_from⟩ := S.d_ways_from.df (ps := ["rows", "bound", "start", "goal"]) X G fun _ _ _ _ _ _ us hl => match us, hl with | [_, _, _, _], _ => rfl
  have h_ways_from := ok_ways_from (P := P) (w := w) (base := base) T D_ways_from h_led
  obtain ⟨f_is_list_within, fd_is_list_within, D_is_list_within⟩ := S.d_is_list_within.df (ps := ["value", "bound"]) X G fun _ _ _ _ _ _ us hl => match us, hl with | [_, _], _ => rfl
  have h_is_list_within := ok_is_list_within (P := P) (w := w) (base := base) T D_is_list_within h_is_from
  obtain ⟨f_law_draw, fd_law_draw, D_law_draw⟩ := S.d_law_draw.df (ps := ["_law_state", "_law_limit"]) X G fun _ _ _ _ _ _ us hl => match us, hl with | [_, _], _ => rfl
  have h_law_draw := ok_law_draw (P := P) (w := w) (base := base) T D_law_draw h_law_mixed
  obtain ⟨f_law_frac, fd_law_frac, D_law_frac⟩ := S.d_law_frac.df (ps := ["_law_above", "_law_below"]) X G fun _ _ _ _ _ _ us hl => match us, hl with | [_, _], _ => rfl
  have h_law_frac := ok_law_frac (P := P) (w := w) (base := base) T D_law_frac h_law_divisor
  obtain ⟨f_law_words, fd_law_words, D_law_words⟩ := S.d_law_words.df (ps := ["_law_steps_so", "_law_first", "_law_most_here"]) X G fun _ _ _ _ _ _ us hl => match us, hl with | [_, _, _], _ => rfl
  have h_law_words := ok_law_words (P := P) (w := w) (base := base) T D_law_words h_law_led_to
  obtain ⟨f_is_step, fd_is_step, D_is_step⟩ := S.d_is_step.df (ps := ["value"]) X G fun _ _ _ _ _ _ us hl => match us, hl with | [_], _ => rfl
  have h_is_step := ok_is_step (P := P) (w := w) (base := base) T D_is_step h_is_number
  obtain ⟨f_need_number, fd_need_number, D_need_number⟩ := S.d_need_number.df (ps := ["value"]) X G fun _ _ _ _ _ _ us hl => match us, hl with | [_], _ => rfl
  have h_need_number := ok_need_number (P := P) (w := w) (base := base) T D_need_number h_is_number
  obtain ⟨f_bounds_so, fd_bounds_so, D_bounds_so⟩ := S.d_bounds_so.df (ps := ["poly"]) X G fun _ _ _ _ _ _ us hl => match us, hl with | [_], _ => rfl
  have h_bounds_so := ok_bounds_so (P := P) (w := w) (base := base) T D_bounds_so h_least_bound
  obtain ⟨f_walk_so, fd_walk_so, D_walk_so⟩ := S.d_walk_so.df (ps := ["poly", "bounds", "start"]) X G fun _ _ _ _ _ _ us hl => match us, hl with | [_, _, _], _ => rfl
  have h_walk_so := ok_walk_so (P := P) (w := w) (base := base) T D_walk_so h_is_within h_value_of
  obtain ⟨f_bound_of, fd_bound_of, D_bound_of⟩ := S.d_bound_of.df (ps := ["steps"]) X G fun _ _ _ _ _ _ us hl => match us, hl with | [_], _ => rfl
  have h_bound_of := ok_bound_of (P := P) (w := w) (base := base) T D_bound_of h_least_bound h_as_poly
  obtain ⟨f_round_from, fd_round_from, D_round_from⟩ := S.d_round_from.df (ps := ["rows", "bound", "start"]) X G fun _ _ _ _ _ _ us hl => match us, hl with | [_, _, _], _ => rfl
  have h_round_from := ok_round_from (P := P) (w := w) (base := base) T D_round_from h_led h_ways_from h_word_to
  obtain ⟨f_law_of, fd_law_of, D_law_of⟩ := S.d_law_of.df (ps := ["_law_state", "_law_some"]) X G fun _ _ _ _ _ _ us hl => match us, hl with | [_, _], _ => rfl
  have h_law_of := ok_law_of (P := P) (w := w) (base := base) T D_law_of h_law_draw
  obtain ⟨f_law_add, fd_law_add, D_law_add⟩ := S.d_law_add.df (ps := ["_law_one", "_law_other"]) X G fun _ _ _ _ _ _ us hl => match us, hl with | [_, _], _ => rfl
  have h_law_add := ok_law_add (P := P) (w := w) (base := base) T D_law_add h_law_frac
  obtain ⟨f_law_mul, fd_law_mul, D_law_mul⟩ := S.d_law_mul.df (ps := ["_law_one", "_law_other"]) X G fun _ _ _ _ _ _ us hl => match us, hl with | [_, _], _ => rfl
  have h_law_mul := ok_law_mul (P := P) (w := w) (base := base) T D_law_mul h_law_frac
  obtain ⟨f_need_step, fd_need_step, D_need_step⟩ := S.d_need_step.df (ps := ["value"]) X G fun _ _ _ _ _ _ us hl => match us, hl with | [_], _ => rfl
  have h_need_step := ok_need_step (P := P) (w := w) (base := base) T D_need_step h_is_step
  obtain ⟨f_need_row, fd_need_row, D_need_row⟩ := S.d_need_row.df (ps := ["value"]) X G fun _ _ _ _ _ _ us hl => match us, hl with | [_], _ => rfl
  have h_need_row := ok_need_row (P := P) (w := w) (base := base) T D_need_row h_is_step
  obtain ⟨f_round_so, fd_round_so, D_round_so⟩ := S.d_round_so.df (ps := ["poly", "bounds", "start"]) X G fun _ _ _ _ _ _ us hl => match us, hl with | [_, _, _], _ => rfl
  have h_round_so := ok_round_so (P := P) (w := w) (base := base) T D_round_so h_walk_so
  obtain ⟨f_need_whole, fd_need_whole, D_need_whole⟩ := S.d_need_whole.df (ps := ["number"]) X G fun _ _ _ _ _ _ us hl => match us, hl with | [_], _ => rfl
  have h_need_whole := ok_need_whole (P := P) (w := w) (base := base) T D_need_whole h_need_number
  obtain ⟨f_law_power, fd_law_power, D_law_power⟩ := S.d_law_power.df (ps := ["_law_worth", "_law_many_so"]) X G fun _ _ _ _ _ _ us hl => match us, hl with | [_, _], _ => rfl
  have h_law_power := ok_law_power (P := P) (w := w) (base := base) T D_law_power h_law_mul
  obtain ⟨f_law_choices, fd_law_choices, D_law_choices⟩ := S.d_law_choices.df (ps := ["_law_state"]) X G fun _ _ _ _ _ _ us hl => match us, hl with | [_], _ => rfl
  have h_law_choices := ok_law_choices (P := P) (w := w) (base := base) T D_law_choices h_law_draw h_law_of
  obtain ⟨f_need_bent, fd_need_bent, D_need_bent⟩ := S.d_need_bent.df (ps := ["step"]) X G fun _ _ _ _ _ _ us hl => match us, hl with | [_], _ => rfl
  have h_need_bent := ok_need_bent (P := P) (w := w) (base := base) T D_need_bent h_need_step
  obtain ⟨f_need_choices, fd_need_choices, D_need_choices⟩ := S.d_need_choices.df (ps := ["steps"]) X G fun _ _ _ _ _ _ us hl => match us, hl with | [_], _ => rfl
  have h_need_choices := ok_need_choices (P := P) (w := w) (base := base) T D_need_choices h_need_row h_is_growing
  obtain ⟨f_numbers_along, fd_numbers_along, D_numbers_along⟩ := S.d_numbers_along.df (ps := ["row", "start"]) X G fun _ _ _ _ _ _ us hl => match us, hl with | [_, _], _ => rfl
  have h_numbers_along := ok_numbers_along (P := P) (w := w) (base := base) T D_numbers_along h_need_row h_need_number h_check_degree h_product_of h_value_of h_as_poly
  obtain ⟨f_law_size_at, fd_law_size_at, D_law_size_at⟩ := S.d_law_size_at.df (ps := ["_law_told", "_law_wide"]) X G fun _ _ _ _ _ _ us hl => match us, hl with | [_, _], _ => rfl
  have h_law_size_at := ok_law_size_at (P := P) (w := w) (base := base) T D_law_size_at h_law_add h_law_mul h_law_power
  obtain ⟨f_comes_round, fd_comes_round, D_comes_round⟩ := S.d_comes_round.df (ps := ["step", "start"]) X G fun _ _ _ _ _ _ us hl => match us, hl with | [_, _], _ => rfl
  have h_comes_round := ok_comes_round (P := P) (w := w) (base := base) T D_comes_round h_as_poly h_round_so h_need_bent h_bounds_so h_need_number
  obtain ⟨f_choice_bound, fd_choice_bound, D_choice_bound⟩ := S.d_choice_bound.df (ps := ["steps"]) X G fun _ _ _ _ _ _ us hl => match us, hl with | [_], _ => rfl
  have h_choice_bound := ok_choice_bound (P := P) (w := w) (base := base) T D_choice_bound h_bound_of h_need_choices
  obtain ⟨f_asked_of, fd_asked_of, D_asked_of⟩ := S.d_asked_of.df (ps := ["steps", "start", "goal"]) X G fun _ _ _ _ _ _ us hl => match us, hl with | [_, _, _], _ => rfl
  have h_asked_of := ok_asked_of (P := P) (w := w) (base := base) T D_asked_of h_need_choices h_need_whole h_whole_numbers h_bound_of
  obtain ⟨f_stays, fd_stays, D_stays⟩ := S.d_stays.df (ps := ["steps", "start"]) X G fun _ _ _ _ _ _ us hl => match us, hl with | [_, _], _ => rfl
  have h_stays := ok_stays (P := P) (w := w) (base := base) T D_stays h_need_choices h_need_whole h_bound_of h_check_few h_whole_numbers h_ways_from h_round_from h_word_to
  obtain ⟨f_law_most, fd_law_most, D_law_most⟩ := S.d_law_most.df (ps := ["_law_steps_so"]) X G fun _ _ _ _ _ _ us hl => match us, hl with | [_], _ => rfl
  have h_law_most := ok_law_most (P := P) (w := w) (base := base) T D_law_most h_law_size_at h_law_less
  obtain ⟨f_reach, fd_reach, D_reach⟩ := S.d_reach.df (ps := ["steps", "start", "goal"]) X G fun _ _ _ _ _ _ us hl => match us, hl with | [_, _, _], _ => rfl
  have h_reach := ok_reach (P := P) (w := w) (base := base) T D_reach h_asked_of h_check_few h_ways_from h_word_to
  obtain ⟨f_closed_list, fd_closed_list, D_closed_list⟩ := S.d_closed_list.df (ps := ["steps", "start", "goal"]) X G fun _ _ _ _ _ _ us hl => match us, hl with | [_, _, _], _ => rfl
  have h_closed_list := ok_closed_list (P := P) (w := w) (base := base) T D_closed_list h_asked_of h_check_few h_ways_from
  obtain ⟨f_is_closed, fd_is_closed, D_is_closed⟩ := S.d_is_closed.df (ps := ["steps", "start", "goal", "value"]) X G fun _ _ _ _ _ _ us hl => match us, hl with | [_, _, _, _], _ => rfl
  have h_is_closed := ok_is_closed (P := P) (w := w) (base := base) T D_is_closed h_asked_of h_check_few h_is_list_within h_led
  obtain ⟨f_law_single_right, fd_law_single_right, D_law_single_right⟩ := S.d_law_single_right.df (ps := ["_law_state"]) X G fun _ _ _ _ _ _ us hl => match us, hl with | [_], _ => rfl
  have h_law_single_right := ok_law_single_right (P := P) (w := w) (base := base) T D_law_single_right h_law_of h_choice_bound h_comes_round h_law_like h_law_draw h_closed_list h_stays h_reach
  obtain ⟨f_law_words_right, fd_law_words_right, D_law_words_right⟩ := S.d_law_words_right.df (ps := ["_law_state"]) X G fun _ _ _ _ _ _ us hl => match us, hl with | [_], _ => rfl
  have h_law_words_right := ok_law_words_right (P := P) (w := w) (base := base) T D_law_words_right h_law_choices h_law_most h_law_of h_reach h_law_like h_law_draw h_law_words h_law_led_to h_numbers_along
  obtain ⟨f_law_lists_right, fd_law_lists_right, D_law_lists_right⟩ := S.d_law_lists_right.df (ps := ["_law_state"]) X G fun _ _ _ _ _ _ us hl => match us, hl with | [_], _ => rfl
  have h_law_lists_right := ok_law_lists_right (P := P) (w := w) (base := base) T D_law_lists_right h_law_choices h_law_most h_law_draw h_law_like h_is_closed h_law_words
  obtain ⟨f_law, fd_law, D_law⟩ := S.d_law.df (ps := ["_law_script"]) X G fun _ _ _ _ _ _ us hl => match us, hl with | [_], _ => rfl
  have h_law := ok_law (P := P) (w := w) (base := base) T D_law h_law_begin h_law_lists_right h_law_single_right h_law_words_right
  exact h_law
theorem end_ok {fa : Addr} {h : Heap} (X : K.In h) (G : h.Ns mainGlobals mg) (part : CstI mg "MOST_PART" (10 ^ 60)) (hfa : mg "law" = some (.ref fa)) (T : TxtK K) (S : DefsK K) :
    ∃ fd : FuncData, (∀ (s : Shared) (u : Value), BindsTo s fd ⟨[u], []⟩ [("_law_script", u)]) ∧ ∀ base : Heap, K.In base → base.Ns mainGlobals mg → FnG P w K mg base 9 fa fd ["_law_script"] (sp_law K) := by
  have Tx := T.txt X G part
  obtain ⟨f, fd, a1, F⟩ := S.d_law
  have e := hfa.symm.trans (PySem.W.mg_of X G a1)
  cases e
  obtain ⟨oc, od, kV, doc, pm, an, cdv, ct, osl, rfl, lk, hcd⟩ := F.ex
  refine ⟨PySem.W.fnOf "law" "law" (defArgs (topS 78)) (defBody (topS 78)) (defScope (topS 78)) .none kV doc pm an cdv ct, fun s u => .of_eq rfl, fun base _ _ => ?_⟩
  obtain ⟨f2, fd2, e1, e2, e3, e4, oc2, od2, osl2, e5⟩ := all_ok (P := P) (w := w) (base := base) X G Tx S
  have e6 := hfa.symm.trans e1
  cases e6
  rw [lk] at e5
  cases e5
  exact e4
end
end K86

open PySem PySem.W PyProof.Rows
set_option maxHeartbeats 0 in
theorem PySem.Challenge.cw_stepswithin_k86_whole_choices_and_single_holds : PySem.Challenge.rw_stepswithin_k86_whole_choices_and_single.Holds := by
  w_on; o_law; k_head; (case hw => w_witness2)
  k_fill
  refine K86.walkG (l := PySem.Challenge.rw_stepswithin_k86_whole_choices_and_single) (n := 63) (k := 9) (x := "_law_script") (sp := fun w => K86.sp_law _) rfl (by decide) rfl ⟨rfl, by decide, by decide⟩ (fun w h Y => PySem.W.kIn_of Y) ?F (fun _ _ a ns hl _ hS => ⟨a, ns, rfl, hS, Nat.le_trans hl (by decide), fun _ => rfl⟩)
  case F =>
    intro w mg fa h KX G XP hmg
    have part : K86.CstI mg "MOST_PART" (10 ^ 60) := by
      obtain ⟨v, e1, e2⟩ := XP.2.val _ List.mem_cons_self
      cases e2
      exact ⟨_, e1⟩
    refine K86.end_ok KX G part hmg ?T ?S
    case T =>
      refine' ⟨?z_len, ?z_isinstance, ?z_range, ?z_enumerate, ?z_zip, ?z_sorted, ?z_reversed, ?z_max, ?z_abs, ?z_int, ?z_bool, ?z_list, ?z_tuple, ?z_repr, ?z_gcd, K86.int_mk ?i_degree, K86.int_mk ?i_row, K86.int_mk ?i_lookS, K86.int_mk ?i_lookT, K86.int_mk ?i_whole⟩
      (case z_len => k_is)
      (case z_isinstance => k_is)
      (case z_range => k_is)
      (case z_enumerate => k_is)
      (case z_zip => k_is)
      (case z_sorted => k_is)
      (case z_reversed => k_is)
      (case z_max => k_is)
      (case z_abs => k_is)
      (case z_int => k_is)
      (case z_bool => k_is)
      (case z_list => k_is)
      (case z_tuple => k_is)
      (case z_repr => k_is)
      (case z_gcd => k_is)
      (case i_degree => k_is)
      (case i_row => k_is)
      (case i_lookS => k_is)
      (case i_lookT => k_is)
      (case i_whole => k_is)
    case S =>
      refine' ⟨K86.at_mk ?a_is_from ?l_is_from ?c_is_from ?k_is_from, K86.at_mk ?a_number_of ?l_number_of ?c_number_of ?k_number_of, K86.at_mk ?a_reduced ?l_reduced ?c_reduced ?k_reduced, K86.at_mk ?a_holds_bound ?l_holds_bound ?c_holds_bound ?k_holds_bound, K86.at_mk ?a_is_within ?l_is_within ?c_is_within ?k_is_within, K86.at_mk ?a_led ?l_led ?c_led ?k_led, K86.at_mk ?a_check_few ?l_check_few ?c_check_few ?k_check_few, K86.at_mk ?a_is_growing ?l_is_growing ?c_is_growing ?k_is_growing, K86.at_mk ?a_whole_numbers ?l_whole_numbers ?c_whole_numbers ?k_whole_numbers, K86.at_mk ?a_word_to ?l_word_to ?c_word_to ?k_word_to, K86.at_mk ?a_product_of ?l_product_of ?c_product_of ?k_product_of, K86.at_mk ?a_check_degree ?l_check_degree ?c_check_degree ?k_check_degree, K86.at_mk ?a_law_mixed ?l_law_mixed ?c_law_mixed ?k_law_mixed, K86.at_mk ?a_law_begin ?l_law_begin ?c_law_begin ?k_law_begin, K86.at_mk ?a_law_divisor ?l_law_divisor ?c_law_divisor ?k_law_divisor, K86.at_mk ?a_law_less ?l_law_less ?c_law_less ?k_law_less, K86.at_mk ?a_law_like ?l_law_like ?c_law_like ?k_law_like, K86.at_mk ?a_law_led_to ?l_law_led_to ?c_law_led_to ?k_law_led_to, K86.at_mk ?a_is_number ?l_is_number ?c_is_number ?k_is_number, K86.at_mk ?a_as_poly ?l_as_poly ?c_as_poly ?k_as_poly, K86.at_mk ?a_value_of ?l_value_of ?c_value_of ?k_value_of, K86.at_mk ?a_least_bound ?l_least_bound ?c_least_bound ?k_least_bound, K86.at_mk ?a_ways_from ?l_ways_from ?c_ways_from ?k_ways_from, K86.at_mk ?a_is_list_within ?l_is_list_within ?c_is_list_within ?k_is_list_within, K86.at_mk ?a_law_draw ?l_law_draw ?c_law_draw ?k_law_draw, K86.at_mk ?a_law_frac ?l_law_frac ?c_law_frac ?k_law_frac, K86.at_mk ?a_law_words ?l_law_words ?c_law_words ?k_law_words, K86.at_mk ?a_is_step ?l_is_step ?c_is_step ?k_is_step, K86.at_mk ?a_need_number ?l_need_number ?c_need_number ?k_need_number, K86.at_mk ?a_bounds_so ?l_bounds_so ?c_bounds_so ?k_bounds_so, K86.at_mk ?a_walk_so ?l_walk_so ?c_walk_so ?k_walk_so, K86.at_mk ?a_bound_of ?l_bound_of ?c_bound_of ?k_bound_of, K86.at_mk ?a_round_from ?l_round_from ?c_round_from ?k_round_from, K86.at_mk ?a_law_of ?l_law_of ?c_law_of ?k_law_of, K86.at_mk ?a_law_add ?l_law_add ?c_law_add ?k_law_add, K86.at_mk ?a_law_mul ?l_law_mul ?c_law_mul ?k_law_mul, K86.at_mk ?a_need_step ?l_need_step ?c_need_step ?k_need_step, K86.at_mk ?a_need_row ?l_need_row ?c_need_row ?k_need_row, K86.at_mk ?a_round_so ?l_round_so ?c_round_so ?k_round_so, K86.at_mk ?a_need_whole ?l_need_whole ?c_need_whole ?k_need_whole, K86.at_mk ?a_law_power ?l_law_power ?c_law_power ?k_law_power, K86.at_mk ?a_law_choices ?l_law_choices ?c_law_choices ?k_law_choices, K86.at_mk ?a_need_bent ?l_need_bent ?c_need_bent ?k_need_bent, K86.at_mk ?a_need_choices ?l_need_choices ?c_need_choices ?k_need_choices, K86.at_mk ?a_numbers_along ?l_numbers_along ?c_numbers_along ?k_numbers_along, K86.at_mk ?a_law_size_at ?l_law_size_at ?c_law_size_at ?k_law_size_at, K86.at_mk ?a_comes_round ?l_comes_round ?c_comes_round ?k_comes_round, K86.at_mk ?a_choice_bound ?l_choice_bound ?c_choice_bound ?k_choice_bound, K86.at_mk ?a_asked_of ?l_asked_of ?c_asked_of ?k_asked_of, K86.at_mk ?a_stays ?l_stays ?c_stays ?k_stays, K86.at_mk ?a_law_most ?l_law_most ?c_law_most ?k_law_most, K86.at_mk ?a_reach ?l_reach ?c_reach ?k_reach, K86.at_mk ?a_closed_list ?l_closed_list ?c_closed_list ?k_closed_list, K86.at_mk ?a_is_closed ?l_is_closed ?c_is_closed ?k_is_closed, K86.at_mk ?a_law_single_right ?l_law_single_right ?c_law_single_right ?k_law_single_right, K86.at_mk ?a_law_words_right ?l_law_words_right ?c_law_words_right ?k_law_words_right, K86.at_mk ?a_law_lists_right ?l_law_lists_right ?c_law_lists_right ?k_law_lists_right, K86.at_mk ?a_law ?l_law ?c_law ?k_law⟩
      (case a_is_from => k_is); (case l_is_from => k_is); (case c_is_from => k_is); (case k_is_from => k_is)
      (case a_number_of => k_is); (case l_number_of => k_is); (case c_number_of => k_is); (case k_number_of => k_is)
      (case a_reduced => k_is); (case l_reduced => k_is); (case c_reduced => k_is); (case k_reduced => k_is)
      (case a_holds_bound => k_is); (case l_holds_bound => k_is); (case c_holds_bound => k_is); (case k_holds_bound => k_is)
      (case a_is_within => k_is); (case l_is_within => k_is); (case c_is_within => k_is); (case k_is_within => k_is)
      (case a_led => k_is); (case l_led => k_is); (case c_led => k_is); (case k_led => k_is)
      (case a_check_few => k_is); (case l_check_few => k_is); (case c_check_few => k_is); (case k_check_few => k_is)
      (case a_is_growing => k_is); (case l_is_growing => k_is); (case c_is_growing => k_is); (case k_is_growing => k_is)
      (case a_whole_numbers => k_is); (case l_whole_numbers => k_is); (case c_whole_numbers => k_is); (case k_whole_numbers => k_is)
      (case a_word_to => k_is); (case l_word_to => k_is); (case c_word_to => k_is); (case k_word_to => k_is)
      (case a_product_of => k_is); (case l_product_of => k_is); (case c_product_of => k_is); (case k_product_of => k_is)
      (case a_check_degree => k_is); (case l_check_degree => k_is); (case c_check_degree => k_is); (case k_check_degree => k_is)
      (case a_law_mixed => k_is); (case l_law_mixed => k_is); (case c_law_mixed => k_is); (case k_law_mixed => k_is)
      (case a_law_begin => k_is); (case l_law_begin => k_is); (case c_law_begin => k_is); (case k_law_begin => k_is)
      (case a_law_divisor => k_is); (case l_law_divisor => k_is); (case c_law_divisor => k_is); (case k_law_divisor => k_is)
      (case a_law_less => k_is); (case l_law_less => k_is); (case c_law_less => k_is); (case k_law_less => k_is)
      (case a_law_like => k_is); (case l_law_like => k_is); (case c_law_like => k_is); (case k_law_like => k_is)
      (case a_law_led_to => k_is); (case l_law_led_to => k_is); (case c_law_led_to => k_is); (case k_law_led_to => k_is)
      (case a_is_number => k_is); (case l_is_number => k_is); (case c_is_number => k_is); (case k_is_number => k_is)
      (case a_as_poly => k_is); (case l_as_poly => k_is); (case c_as_poly => k_is); (case k_as_poly => k_is)
      (case a_value_of => k_is); (case l_value_of => k_is); (case c_value_of => k_is); (case k_value_of => k_is)
      (case a_least_bound => k_is); (case l_least_bound => k_is); (case c_least_bound => k_is); (case k_least_bound => k_is)
      (case a_ways_from => k_is); (case l_ways_from => k_is); (case c_ways_from => k_is); (case k_ways_from => k_is)
      (case a_is_list_within => k_is); (case l_is_list_within => k_is); (case c_is_list_within => k_is); (case k_is_list_within => k_is)
      (case a_law_draw => k_is); (case l_law_draw => k_is); (case c_law_draw => k_is); (case k_law_draw => k_is)
      (case a_law_frac => k_is); (case l_law_frac => k_is); (case c_law_frac => k_is); (case k_law_frac => k_is)
      (case a_law_words => k_is); (case l_law_words => k_is); (case c_law_words => k_is); (case k_law_words => k_is)
      (case a_is_step => k_is); (case l_is_step => k_is); (case c_is_step => k_is); (case k_is_step => k_is)
      (case a_need_number => k_is); (case l_need_number => k_is); (case c_need_number => k_is); (case k_need_number => k_is)
      (case a_bounds_so => k_is); (case l_bounds_so => k_is); (case c_bounds_so => k_is); (case k_bounds_so => k_is)
      (case a_walk_so => k_is); (case l_walk_so => k_is); (case c_walk_so => k_is); (case k_walk_so => k_is)
      (case a_bound_of => k_is); (case l_bound_of => k_is); (case c_bound_of => k_is); (case k_bound_of => k_is)
      (case a_round_from => k_is); (case l_round_from => k_is); (case c_round_from => k_is); (case k_round_from => k_is)
      (case a_law_of => k_is); (case l_law_of => k_is); (case c_law_of => k_is); (case k_law_of => k_is)
      (case a_law_add => k_is); (case l_law_add => k_is); (case c_law_add => k_is); (case k_law_add => k_is)
      (case a_law_mul => k_is); (case l_law_mul => k_is); (case c_law_mul => k_is); (case k_law_mul => k_is)
      (case a_need_step => k_is); (case l_need_step => k_is); (case c_need_step => k_is); (case k_need_step => k_is)
      (case a_need_row => k_is); (case l_need_row => k_is); (case c_need_row => k_is); (case k_need_row => k_is)
      (case a_round_so => k_is); (case l_round_so => k_is); (case c_round_so => k_is); (case k_round_so => k_is)
      (case a_need_whole => k_is); (case l_need_whole => k_is); (case c_need_whole => k_is); (case k_need_whole => k_is)
      (case a_law_power => k_is); (case l_law_power => k_is); (case c_law_power => k_is); (case k_law_power => k_is)
      (case a_law_choices => k_is); (case l_law_choices => k_is); (case c_law_choices => k_is); (case k_law_choices => k_is)
      (case a_need_bent => k_is); (case l_need_bent => k_is); (case c_need_bent => k_is); (case k_need_bent => k_is)
      (case a_need_choices => k_is); (case l_need_choices => k_is); (case c_need_choices => k_is); (case k_need_choices => k_is)
      (case a_numbers_along => k_is); (case l_numbers_along => k_is); (case c_numbers_along => k_is); (case k_numbers_along => k_is)
      (case a_law_size_at => k_is); (case l_law_size_at => k_is); (case c_law_size_at => k_is); (case k_law_size_at => k_is)
      (case a_comes_round => k_is); (case l_comes_round => k_is); (case c_comes_round => k_is); (case k_comes_round => k_is)
      (case a_choice_bound => k_is); (case l_choice_bound => k_is); (case c_choice_bound => k_is); (case k_choice_bound => k_is)
      (case a_asked_of => k_is); (case l_asked_of => k_is); (case c_asked_of => k_is); (case k_asked_of => k_is)
      (case a_stays => k_is); (case l_stays => k_is); (case c_stays => k_is); (case k_stays => k_is)
      (case a_law_most => k_is); (case l_law_most => k_is); (case c_law_most => k_is); (case k_law_most => k_is)
      (case a_reach => k_is); (case l_reach => k_is); (case c_reach => k_is); (case k_reach => k_is)
      (case a_closed_list => k_is); (case l_closed_list => k_is); (case c_closed_list => k_is); (case k_closed_list => k_is)
      (case a_is_closed => k_is); (case l_is_closed => k_is); (case c_is_closed => k_is); (case k_is_closed => k_is)
      (case a_law_single_right => k_is); (case l_law_single_right => k_is); (case c_law_single_right => k_is); (case k_law_single_right => k_is)
      (case a_law_words_right => k_is); (case l_law_words_right => k_is); (case c_law_words_right => k_is); (case k_law_words_right => k_is)
      (case a_law_lists_right => k_is); (case l_law_lists_right => k_is); (case c_law_lists_right => k_is); (case k_law_lists_right => k_is)
      (case a_law => k_is); (case l_law => k_is); (case c_law => k_is); (case k_law => k_is)
