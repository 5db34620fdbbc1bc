/-
  Lemmas of this proof, several texts one behind the other; no condition beyond what each says.
-/
import Derived.Test.YtmpclgepoemneaaDoorProg
import Derived.Test.YtmpclgepoemneaaDoorMa
/-
  The data of the layer: cries, books, their cells; what is asked of the program's types.
-/
namespace Go.Proofs.YtmpclgepoemneaaDoor
open Go.Hu Go.RowKit

abbrev iv (n : Int) : Value := .int .i64 n
structure Cry where
  h : Int
  m : Int
  k : Int
  fa : Int
  fo : Int
  ta : Int
  tO : Int
structure Bk where
  wide : Int
  high : Int
  land : List Int
  h0 : Int
  h1 : Int
  swim : Int
  cries : List Cry
abbrev cyL (c : Cry) : List Value := [iv c.h, iv c.m, iv c.k, iv c.fa, iv c.fo, iv c.ta, iv c.tO]
abbrev bkL (b : Bk) (la : Option Addr) (lc : Nat) (ca : Option Addr) (cc : Nat) : List Value := [iv b.wide, iv b.high, .slice la b.land.length lc, iv b.h0, iv b.h1, iv b.swim, .slice ca b.cries.length cc]
abbrev bayL (b : Bk) (la : Option Addr) (lc : Nat) (ca : Option Addr) (cc : Nat) (mp : Nat) : List Value := [iv b.wide, iv b.high, .slice la b.land.length lc, iv b.h0, iv b.h1, iv b.swim, .slice ca b.cries.length cc, .map (some mp)]
/-- A slice of whole numbers. -/
def Ints (w : World) (a : Option Addr) (c : Nat) (l : List Int) : Prop := Rd w (.slice a l.length c) l.length 1 (l.map iv)
def Cries (w : World) (a : Option Addr) (c : Nat) (l : List Cry) : Prop := Rd w (.slice a l.length c) l.length 7 (l.flatMap cyL)
theorem ints_at {l : List Int} {j : Nat} {x : Int} (hx : l[j]? = some x) : (l.map iv)[((j : Int)).toNat * 1 + 0]? = some (iv x) := by simp [hx]
theorem cries_at {l : List Cry} {j : Nat} {c : Cry} (hx : l[j]? = some c) : rdL (l.flatMap cyL) (((j : Int)).toNat * 7 + 0) 7 = some (cyL c) := by
  have := rdL_flat (f := cyL) (s := 7) (fun _ => rfl) hx; simpa using this
/-- Where a number stands in a list: its first place, or -1. -/
def ix (l : List Int) (v : Int) : Int := if v ∈ l then (l.idxOf v : Int) else -1
theorem ix_nonneg (l : List Int) (v : Int) : 0 ≤ ix l v ↔ v ∈ l := by unfold ix; split <;> simp_all
theorem ix_lt (l : List Int) (v : Int) : ix l v < 0 ↔ v ∉ l := by rw [← ix_nonneg]; omega
theorem ix_at : ∀ {l : List Int} {j : Nat} {v : Int}, l[j]? = some v → (∀ i, i < j → l[i]? ≠ some v) → ix l v = j := by
  intro l j v h hn
  have hm : v ∈ l := List.mem_of_getElem? h
  unfold ix; rw [if_pos hm]
  congr 1
  induction l generalizing j with
  | nil => simp at h
  | cons x l ih =>
    cases j with
    | zero => simp at h; subst h; simp
    | succ j =>
      have hx : x ≠ v := fun e => hn 0 (by omega) (by simp [e])
      have h1 := ih (j := j) (by simpa using h) (fun i hi => by have := hn (i + 1) (by omega); simpa using this) (List.mem_of_getElem? (by simpa using h))
      have hb : (x == v) = false := by simpa using hx
      rw [List.idxOf_cons, hb]; simp [h1]
theorem ix_none {l : List Int} {v : Int} (hn : ∀ i, i < l.length → l[i]? ≠ some v) : ix l v = -1 := by
  unfold ix; rw [if_neg]; intro hm
  obtain ⟨i, hi, h⟩ := List.mem_iff_getElem.1 hm
  exact hn i hi (by rw [List.getElem?_eq_getElem hi, h])
theorem snoc_lt {p : Nat → Prop} {j : Nat} (h : ∀ i, i < j → p i) (hj : p j) : ∀ i, i < j + 1 → p i := fun i hi => by
  rcases Nat.lt_succ_iff_lt_or_eq.1 hi with h' | h'
  · exact h i h'
  · rw [h']; exact hj
theorem mem_snoc {α : Type} {p : α → Prop} {l : List α} {x : α} (h : ∀ v ∈ l, p v) (hx : p x) : ∀ v ∈ l ++ [x], p v := fun v hv => by
  rcases List.mem_append.1 hv with h' | h'
  · exact h v h'
  · rw [List.mem_singleton.1 h']; exact hx
theorem get_some {α : Type} {l : List α} {j : Nat} (h : j < l.length) : ∃ x, l[j]? = some x := ⟨_, List.getElem?_eq_getElem h⟩
theorem mixed : Tryd.prog.follows .mixedOrders = true := by kernel_rfl

/-- A direction is one. -/
abbrev PtOk (a o : Int) : Prop := (-9 ≤ a ∧ a ≤ 9) ∧ (1 ≤ o ∧ o ≤ 9)
abbrev CryOk (c : Cry) : Prop := (0 ≤ c.h ∧ c.h ≤ 1) ∧ (0 ≤ c.m ∧ c.m ≤ 30) ∧ (0 ≤ c.k ∧ c.k ≤ 1) ∧ PtOk c.fa c.fo ∧ PtOk c.ta c.tO ∧ c.fo * c.ta ≤ c.fa * c.tO
/-- The numbers of a book are between their limits. -/
abbrev Num (b : Bk) : Prop := (1 ≤ b.wide ∧ b.wide ≤ 10) ∧ (1 ≤ b.high ∧ b.high ≤ 8) ∧ (-5 ≤ b.h0 ∧ b.h0 ≤ 15) ∧ (-5 ≤ b.h1 ∧ b.h1 ≤ 15) ∧ (0 ≤ b.swim ∧ b.swim ≤ 3)
def hd (b : Bk) (h : Int) : Int := if h = 0 then b.h0 else b.h1
theorem hdB {b : Bk} (hb : Num b) (h : Int) : -5 ≤ hd b h ∧ hd b h ≤ 15 := by unfold hd; obtain ⟨_, _, h0, h1, _⟩ := hb; split <;> omega
theorem divB {s w : Int} (h0 : 0 ≤ s) (hw : 0 < w) : (0 ≤ s % w ∧ s % w < w) ∧ (0 ≤ s / w ∧ s / w ≤ s) :=
  ⟨⟨Int.emod_nonneg _ (by omega), Int.emod_lt_of_pos _ hw⟩, Int.ediv_nonneg h0 (by omega), Int.ediv_le_self _ h0⟩
/-- A place is between the directions of a cry. -/
abbrev Btw (b : Bk) (c : Cry) (x y : Int) : Prop := c.fo * (x - hd b c.h) ≤ c.fa * (y + 1) ∧ (y + 1) * c.ta ≤ (x - hd b c.h) * c.tO
abbrev NearP (w s t k : Int) : Prop := (-k ≤ s % w - t % w ∧ s % w - t % w ≤ k) ∧ (-k ≤ s / w - t / w ∧ s / w - t / w ≤ k)
abbrev HoldsP (w a wide high s : Int) : Prop := (0 ≤ s % w - a % w ∧ s % w - a % w ≤ wide - 1) ∧ (0 ≤ s / w - a / w ∧ s / w - a / w ≤ high - 1)
def falses : List Value := List.replicate 80 (.bool false)
theorem falses_len : falses.length = 80 := by decide
end Go.Proofs.YtmpclgepoemneaaDoor

/-
  What the layer comes to, in plain terms: squares, water, what is forbidden, what is near; rows of squares, minute by minute.
-/
namespace Go.Proofs.YtmpclgepoemneaaDoor
open Go.Hu Go.RowKit

def sq (b : Bk) : Nat := (b.wide * b.high).toNat
theorem sq_le {b : Bk} (hb : Num b) : sq b ≤ 80 ∧ ((sq b : Nat) : Int) = b.wide * b.high ∧ 0 < sq b := by
  obtain ⟨⟨h1, h2⟩, ⟨h3, h4⟩, _⟩ := hb
  unfold sq
  have hp : 1 ≤ b.wide * b.high := by have := Int.mul_le_mul h1 h3 (by omega) (by omega); omega
  have hq : b.wide * b.high ≤ 10 * 8 := Int.mul_le_mul h2 h4 (by omega) (by omega)
  omega
/-- A square's column and row, and back. -/
theorem sq_xy {b : Bk} (hb : Num b) {n : Nat} (hn : n < sq b) : (0 ≤ (n : Int) % b.wide ∧ (n : Int) % b.wide < b.wide) ∧ (0 ≤ (n : Int) / b.wide ∧ (n : Int) / b.wide < b.high) ∧ ((n : Int) / b.wide) * b.wide + (n : Int) % b.wide = n := by
  obtain ⟨h1, h2, _⟩ := sq_le hb
  obtain ⟨⟨w1, w2⟩, ⟨w3, w4⟩, _⟩ := hb
  have hd := divB (s := (n : Int)) (by omega) (show 0 < b.wide by omega)
  refine ⟨hd.1, ⟨hd.2.1, Int.ediv_lt_of_lt_mul (by omega) (by rw [Int.mul_comm]; omega)⟩, ?_⟩
  have := Int.mul_ediv_add_emod (n : Int) b.wide
  rw [Int.mul_comm] at this
  exact this
theorem xy_sq {b : Bk} (hb : Num b) {x y : Int} (hx : 0 ≤ x ∧ x < b.wide) (hy : 0 ≤ y ∧ y < b.high) : 0 ≤ y * b.wide + x ∧ (y * b.wide + x).toNat < sq b ∧ (y * b.wide + x) % b.wide = x ∧ (y * b.wide + x) / b.wide = y := by
  obtain ⟨h1, h2, _⟩ := sq_le hb
  obtain ⟨⟨w1, w2⟩, ⟨w3, w4⟩, _⟩ := hb
  have e1 : 0 ≤ y * b.wide := Int.mul_nonneg hy.1 (by omega)
  have e2 : y * b.wide + b.wide ≤ b.wide * b.high := by
    have h5 : (y + 1) * b.wide ≤ b.high * b.wide := Int.mul_le_mul_of_nonneg_right (by omega) (by omega)
    rw [Int.add_mul, Int.one_mul, Int.mul_comm b.high] at h5
    exact h5
  refine ⟨by omega, by omega, ?_, ?_⟩
  · rw [Int.add_comm, Int.add_mul_emod_self_right]; exact Int.emod_eq_of_lt hx.1 hx.2
  · rw [Int.add_comm, Int.add_mul_ediv_right _ _ (by omega), Int.ediv_eq_zero_of_lt hx.1 hx.2]; omega

/-- The squares of water, as far as N. -/
def wtU (b : Bk) (N : Nat) : List Nat := (List.range N).filter fun n => decide (¬ (n : Int) ∈ b.land)
def wtr (b : Bk) : List Nat := wtU b (sq b)
def ent (b : Bk) (n : Nat) : Int × Int × Int := ((n : Int) % b.wide, (n : Int) / b.wide, (n : Int))
theorem wtU_succ (b : Bk) (N : Nat) : wtU b (N + 1) = if (N : Int) ∈ b.land then wtU b N else wtU b N ++ [N] := by
  unfold wtU
  rw [List.range_succ, List.filter_append]
  by_cases h : (N : Int) ∈ b.land <;> simp [h]
theorem wtU_mem {b : Bk} {N n : Nat} : n ∈ wtU b N ↔ n < N ∧ ¬ (n : Int) ∈ b.land := by unfold wtU; simp
theorem wtr_mem {b : Bk} {n : Nat} : n ∈ wtr b ↔ n < sq b ∧ ¬ (n : Int) ∈ b.land := wtU_mem
theorem wtU_get {b : Bk} {N n : Nat} (hn : n < N) (hw : ¬ (n : Int) ∈ b.land) : (wtU b N)[(wtU b n).length]? = some n := by
  induction N with
  | zero => omega
  | succ N ih =>
    rw [wtU_succ]
    by_cases h : n = N
    · subst h; rw [if_neg hw]; simp
    · have h1 := ih (by omega)
      split
      · exact h1
      · rw [List.getElem?_append_left (by have := List.getElem?_eq_some_iff.1 h1; exact this.1)]; exact h1
/-- Two squares with the same column and row are the same. -/
theorem ent_inj {b : Bk} (hb : Num b) {n m : Nat} (hn : n < sq b) (hm : m < sq b) (h1 : (ent b n).1 = (ent b m).1) (h2 : (ent b n).2.1 = (ent b m).2.1) : n = m := by
  have a1 := (sq_xy hb hn).2.2
  have a2 := (sq_xy hb hm).2.2
  simp only [ent] at h1 h2
  rw [h1, h2] at a1
  omega
theorem ent_has {b : Bk} (hb : Num b) {n : Nat} (hn : n < sq b) : (∃ p ∈ (wtr b).map (ent b), p.1 = (n : Int) % b.wide ∧ p.2.1 = (n : Int) / b.wide) ↔ ¬ (n : Int) ∈ b.land := by
  constructor
  · rintro ⟨p, hp, h1, h2⟩
    obtain ⟨m, hm, rfl⟩ := List.mem_map.1 hp
    have hm' := wtr_mem.1 hm
    have := ent_inj hb hm'.1 hn h1 h2
    rw [← this]; exact hm'.2
  · intro h
    exact ⟨ent b n, List.mem_map.2 ⟨n, wtr_mem.2 ⟨hn, h⟩, rfl⟩, rfl, rfl⟩
theorem ent_new {b : Bk} (hb : Num b) {n : Nat} (hn : n < sq b) : ∀ p ∈ (wtU b n).map (ent b), ¬ (p.1 = (n : Int) % b.wide ∧ p.2.1 = (n : Int) / b.wide) := by
  rintro p hp ⟨h1, h2⟩
  obtain ⟨m, hm, rfl⟩ := List.mem_map.1 hp
  have hm' := wtU_mem.1 hm
  have := ent_inj hb (show m < sq b by omega) hn h1 h2
  omega
/-- The map of a bay's water. -/
def MapAt (w : World) (mp : Nat) (b : Bk) : Prop := ∃ es c, w.heap[mp]? = some (.map es c) ∧ MapIs es ((wtr b).map (ent b))
theorem MapAt.ext {w w' : World} {mp : Nat} {b : Bk} (h : MapAt w mp b) (E : Ext w w') : MapAt w' mp b :=
  let ⟨es, c, h1, h2⟩ := h; ⟨es, c, (E.block mp (lt_of_some h1) id).trans h1, h2⟩
/-- The table of the kinds of cries. -/
def kindsL : List Value := [.func (.func 132) #[] #[], .func (.func 133) #[] #[]]
def Kinds (w : World) : Prop := ∃ E fr, w.heap[0]? = some (.cells kindsL.toArray E fr)
theorem Kinds.ext {w w' : World} (h : Kinds w) (E : Ext w w') : Kinds w' := let ⟨a, b, h1⟩ := h; ⟨a, b, (E.block 0 (lt_of_some h1) id).trans h1⟩

/-- A cry is against a place: seen from it, and not cried, or the other way. -/
def against (b : Bk) (c : Cry) (x y : Int) : Bool := decide (Btw b c x y) != decide (c.k = 0)
def frb (b : Bk) (m x y : Int) : Bool := b.cries.any fun c => decide (c.m = m) && against b c x y
def nearXY (b : Bk) (f : List Bool) (x y : Int) : Bool := (List.range (sq b)).any fun t => f.getD t false && decide ((-b.swim ≤ (t : Int) % b.wide - x ∧ (t : Int) % b.wide - x ≤ b.swim) ∧ (-b.swim ≤ (t : Int) / b.wide - y ∧ (t : Int) / b.wide - y ≤ b.swim))
/-- A square from which a place can be reached. -/
def Nr (b : Bk) (f : List Bool) (x y x' y' : Int) : Prop := (0 ≤ x' ∧ x' < b.wide) ∧ (0 ≤ y' ∧ y' < b.high) ∧ (-b.swim ≤ x' - x ∧ x' - x ≤ b.swim) ∧ (-b.swim ≤ y' - y ∧ y' - y ≤ b.swim) ∧ f.getD (y' * b.wide + x').toNat false = true
theorem near_iff {b : Bk} (hb : Num b) {f : List Bool} {x y : Int} : nearXY b f x y = true ↔ ∃ x' y', Nr b f x y x' y' := by
  unfold nearXY
  rw [List.any_eq_true]
  constructor
  · rintro ⟨t, ht, h⟩
    rw [Bool.and_eq_true, decide_eq_true_eq] at h
    have hs := sq_xy hb (List.mem_range.1 ht)
    refine ⟨(t : Int) % b.wide, (t : Int) / b.wide, hs.1, hs.2.1, h.2.1, h.2.2, ?_⟩
    rw [hs.2.2]; simpa using h.1
  · rintro ⟨x', y', hx, hy, h1, h2, h3⟩
    have hs := xy_sq hb hx hy
    refine ⟨(y' * b.wide + x').toNat, List.mem_range.2 hs.2.1, ?_⟩
    have e : (((y' * b.wide + x').toNat : Nat) : Int) = y' * b.wide + x' := Int.toNat_of_nonneg hs.1
    rw [Bool.and_eq_true, decide_eq_true_eq, e, hs.2.2.1, hs.2.2.2]
    exact ⟨h3, h1, h2⟩

/-! ### Rows of squares -/
def fls : List Bool := List.replicate 80 false
theorem fls_len : fls.length = 80 := by decide
theorem falses_eq : falses = fls.map Value.bool := by simp [falses, fls]
/-- Where the shoal can be in a minute: of its first one, or of one whose row before is 'prev'. -/
def alw (b : Bk) (m : Int) (n : Nat) : Bool := decide (n < sq b) && (decide (¬ (n : Int) ∈ b.land) && !frb b m ((n : Int) % b.wide) ((n : Int) / b.wide))
def row (b : Bk) (m : Int) (first : Bool) (prev : List Bool) : List Bool := (List.range 80).map fun n => alw b m n && (first || nearXY b prev ((n : Int) % b.wide) ((n : Int) / b.wide))
theorem row_len (b : Bk) (m : Int) (first : Bool) (prev : List Bool) : (row b m first prev).length = 80 := by simp [row]
def ordI (on : Bool) (k : Nat) : Int := if on then (k : Int) else 30 - (k : Int)
def ordN (on : Bool) (k : Nat) : Nat := if on then k else 30 - k
theorem ordN_ord (on : Bool) {k : Nat} (hk : k ≤ 30) : ordN on (ordN on k) = k := by unfold ordN; cases on <;> simp <;> omega
theorem ordI_N (on : Bool) {k : Nat} (hk : k ≤ 30) : ordI on k = (ordN on k : Nat) := by unfold ordI ordN; cases on <;> simp <;> omega
theorem ordN_le (on : Bool) {k : Nat} (hk : k ≤ 30) : ordN on k ≤ 30 := by unfold ordN; cases on <;> simp <;> omega
/-- The k-th row that is come to. -/
def G (b : Bk) (on : Bool) : Nat → List Bool
  | 0 => row b (ordI on 0) true fls
  | k + 1 => row b (ordI on (k + 1)) false (G b on k)
theorem G_len (b : Bk) (on : Bool) (k : Nat) : (G b on k).length = 80 := by cases k <;> exact row_len ..
def frm (b : Bk) (on : Bool) : Nat → List Bool
  | 0 => fls
  | k + 1 => G b on k
theorem frm_len (b : Bk) (on : Bool) (k : Nat) : (frm b on k).length = 80 := by
  cases k
  · exact fls_len
  · exact G_len ..
theorem G_eq (b : Bk) (on : Bool) (k : Nat) : G b on k = row b (ordI on k) (decide (k = 0)) (frm b on k) := by cases k <;> rfl
/-- The rows, k of them come to; and the whole. -/
def Rk (b : Bk) (on : Bool) (k : Nat) (i : Nat) : List Bool := if ordN on i < k then G b on (ordN on i) else fls
theorem Rk_len (b : Bk) (on : Bool) (k i : Nat) : (Rk b on k i).length = 80 := by
  unfold Rk; split
  · exact G_len ..
  · exact fls_len
def rowsC (R : Nat → List Bool) : List Value := (List.range 31).flatMap fun i => (R i).map Value.bool
theorem frb_none {b : Bk} {m x y : Int} (h : ∀ i, i < b.cries.length → ∀ c, b.cries[i]? = some c → (decide (c.m = m) && against b c x y) = false) : frb b m x y = false := by
  unfold frb
  rw [List.any_eq_false]
  intro c hc
  obtain ⟨i, hi, h1⟩ := List.mem_iff_getElem.1 hc
  rw [h i hi c (by rw [List.getElem?_eq_getElem hi, h1])]; simp
theorem near_fls {b : Bk} {f : List Bool} {x y : Int} (h : f = fls) : nearXY b f x y = false := by
  subst h
  unfold nearXY
  rw [List.any_eq_false]
  intro t _
  have : fls.getD t false = false := by
    unfold fls
    rw [List.getD_eq_getElem?_getD, List.getElem?_replicate]
    split <;> rfl
  rw [this]; simp
theorem flat_congr {f g : Nat → List Value} : ∀ (l : List Nat), (∀ x ∈ l, f x = g x) → l.flatMap f = l.flatMap g
  | [], _ => rfl
  | y :: l, h => by rw [List.flatMap_cons, List.flatMap_cons, h y (by simp), flat_congr l fun x hx => h x (by simp [hx])]
theorem flat_set {f g : Nat → List Value} {s n x : Nat} {v : Value} (hs : ∀ x, (f x).length = s) (hn : n < s) (hg : g x = (f x).set n v) (ho : ∀ y, y ≠ x → f y = g y) : ∀ (l : List Nat) (i : Nat), l.Nodup → l[i]? = some x → (l.flatMap f).set (i * s + n) v = l.flatMap g
  | [], i, _, h => by simp at h
  | y :: l, 0, hd, h => by
    simp at h; subst h
    rw [List.flatMap_cons, List.flatMap_cons, Nat.zero_mul, Nat.zero_add, List.set_append_left _ _ (by rw [hs]; exact hn), hg]
    congr 1
    exact flat_congr l fun z hz => ho z fun e => (List.nodup_cons.1 hd).1 (e ▸ hz)
  | y :: l, i + 1, hd, h => by
    have hx : y ≠ x := fun e => (List.nodup_cons.1 hd).1 (by rw [e]; exact List.mem_of_getElem? (by simpa using h))
    have e1 : (i + 1) * s + n = s + (i * s + n) := by rw [Nat.succ_mul]; omega
    rw [List.flatMap_cons, List.flatMap_cons, e1, List.set_append_right _ _ (by rw [hs]; omega), hs, Nat.add_sub_cancel_left, flat_set hs hn hg ho l i (List.nodup_cons.1 hd).2 (by simpa using h), ho y hx]
theorem rowsC_len {R : Nat → List Bool} (hR : ∀ i, (R i).length = 80) : (rowsC R).length = 2480 := by
  unfold rowsC; rw [flat_len (s := 80) (fun x => by simp [hR])]; simp
theorem rowsC_row {R : Nat → List Bool} (hR : ∀ i, (R i).length = 80) {m : Nat} (hm : m ≤ 30) : rdL (rowsC R) (m * 80) 80 = some ((R m).map Value.bool) :=
  rdL_flat (f := fun i => (R i).map Value.bool) (fun x => by simp [hR]) (by rw [List.getElem?_range (by omega)])
theorem rowsC_get {R : Nat → List Bool} (hR : ∀ i, (R i).length = 80) {m n : Nat} (hm : m ≤ 30) {v : Bool} (hv : (R m)[n]? = some v) : (rowsC R)[m * 80 + n]? = some (.bool v) := by
  obtain ⟨_, h⟩ := rdL_spec (rowsC_row hR hm)
  have hn : n < 80 := by have := (List.getElem?_eq_some_iff.1 hv).1; rw [hR] at this; exact this
  rw [h n hn]; simp [hv]
theorem rowsC_put {R : Nat → List Bool} (hR : ∀ i, (R i).length = 80) {m n : Nat} (hm : m ≤ 30) (hn : n < 80) {r : List Bool} (hr : r.length = 80) (v : Bool) : (rowsC (upd R m r)).set (m * 80 + n) (.bool v) = rowsC (upd R m (r.set n v)) := by
  unfold rowsC
  refine flat_set (s := 80) (x := m) (fun x => ?_) hn ?_ (fun y hy => ?_) _ m List.nodup_range (by rw [List.getElem?_range (by omega)])
  · simp only [List.length_map, upd_apply]; split
    · exact hr
    · exact hR x
  · simp only [upd_same, List.map_set]
  · simp only [upd_ne _ _ hy]
theorem upd_len {R : Nat → List Bool} (hR : ∀ i, (R i).length = 80) {r : List Bool} (hr : r.length = 80) (m i : Nat) : (upd R m r i).length = 80 := by
  rw [upd_apply]; split
  · exact hr
  · exact hR i
theorem rowsC_congr {R R' : Nat → List Bool} (h : ∀ i, i ≤ 30 → R i = R' i) : rowsC R = rowsC R' := flat_congr _ fun x hx => by
  have := List.mem_range.1 hx
  show (R x).map Value.bool = _
  rw [h x (by omega)]
/-- A row, the squares of water come to as far as i. -/
def rowI (b : Bk) (m : Int) (first : Bool) (prev : List Bool) (i : Nat) : List Bool := (List.range 80).map fun n => decide (n ∈ (wtr b).take i) && (!frb b m ((n : Int) % b.wide) ((n : Int) / b.wide) && (first || nearXY b prev ((n : Int) % b.wide) ((n : Int) / b.wide)))
theorem rowI_len (b : Bk) (m : Int) (first : Bool) (prev : List Bool) (i : Nat) : (rowI b m first prev i).length = 80 := by simp [rowI]
theorem rowI_zero (b : Bk) (m : Int) (first : Bool) (prev : List Bool) : rowI b m first prev 0 = fls := by
  unfold rowI fls
  rw [List.eq_replicate_iff]
  refine ⟨by simp, fun x hx => ?_⟩
  obtain ⟨n, _, rfl⟩ := List.mem_map.1 hx
  simp
theorem rowI_all (b : Bk) (m : Int) (first : Bool) (prev : List Bool) : rowI b m first prev (wtr b).length = row b m first prev := by
  unfold rowI row
  refine List.map_congr_left fun n _ => ?_
  rw [List.take_length]
  unfold alw
  by_cases h1 : n < sq b <;> by_cases h2 : (n : Int) ∈ b.land <;> simp [wtr_mem, h1, h2]
theorem take_succ_mem {b : Bk} {i n j : Nat} (h : (wtr b)[i]? = some n) : j ∈ (wtr b).take (i + 1) ↔ j ∈ (wtr b).take i ∨ j = n := by
  rw [List.take_add_one, h]; simp
theorem rowI_skip {b : Bk} {m : Int} {first : Bool} {prev : List Bool} {i n : Nat} (h : (wtr b)[i]? = some n) (hf : frb b m ((n : Int) % b.wide) ((n : Int) / b.wide) = true) : rowI b m first prev (i + 1) = rowI b m first prev i := by
  unfold rowI
  refine List.map_congr_left fun j _ => ?_
  by_cases hj : j = n
  · subst hj; rw [hf]; simp
  · have : (j ∈ (wtr b).take (i + 1)) ↔ j ∈ (wtr b).take i := by rw [take_succ_mem h]; simp [hj]
    simp [this]
theorem rowI_set {b : Bk} {m : Int} {first : Bool} {prev : List Bool} {i n : Nat} (h : (wtr b)[i]? = some n) (hf : frb b m ((n : Int) % b.wide) ((n : Int) / b.wide) = false) {v : Bool} (hv : v = (first || nearXY b prev ((n : Int) % b.wide) ((n : Int) / b.wide))) :
    (rowI b m first prev i).set n v = rowI b m first prev (i + 1) := by
  apply List.ext_getElem?
  intro j
  rw [List.getElem?_set]
  unfold rowI
  split
  · next e =>
    subst e
    rw [List.length_map, List.length_range]
    split
    · next hlt =>
      rw [List.getElem?_map, List.getElem?_range hlt, hv]
      have : n ∈ (wtr b).take (i + 1) := (take_succ_mem h).2 (.inr rfl)
      simp [this, hf]
    · next hlt => rw [List.getElem?_map, List.getElem?_eq_none (by simpa using hlt)]; rfl
  · next e =>
    rw [List.getElem?_map, List.getElem?_map]
    by_cases hlt : j < 80
    · rw [List.getElem?_range hlt]
      have : (j ∈ (wtr b).take (i + 1)) ↔ j ∈ (wtr b).take i := by rw [take_succ_mem h]; simp [Ne.symm e]
      simp [this]
    · rw [List.getElem?_eq_none (by simpa using hlt)]; rfl
theorem Rk_start (b : Bk) (on : Bool) {k : Nat} (hk : k ≤ 30) (first : Bool) (prev : List Bool) : rowsC (Rk b on k) = rowsC (upd (Rk b on k) (ordN on k) (rowI b (ordI on k) first prev 0)) := by
  have : Rk b on k (ordN on k) = rowI b (ordI on k) first prev 0 := by rw [rowI_zero]; unfold Rk; rw [ordN_ord on hk, if_neg (by omega)]
  rw [← this, upd_self]
theorem Rk_next (b : Bk) (on : Bool) {k : Nat} (hk : k ≤ 30) : rowsC (upd (Rk b on k) (ordN on k) (G b on k)) = rowsC (Rk b on (k + 1)) := by
  refine rowsC_congr fun i hi => ?_
  rw [upd_apply]
  unfold Rk
  split
  · next e => subst e; rw [ordN_ord on hk, if_pos (by omega)]
  · next e =>
    have : ordN on i ≠ k := fun h => e (by rw [← h, ordN_ord on hi])
    by_cases h2 : ordN on i < k
    · rw [if_pos h2, if_pos (by omega)]
    · rw [if_neg h2, if_neg (by omega)]
theorem ord_first (on : Bool) (k : Nat) : decide (k = 0) = decide (ordI on k = ordI on 0) := by
  apply decide_eq_decide.2
  unfold ordI; cases on <;> simp <;> omega
theorem Rk_at (b : Bk) (on : Bool) {k : Nat} (hk : k ≤ 30) : Rk b on (k + 1) (ordN on k) = G b on k := by unfold Rk; rw [ordN_ord on hk, if_pos (by omega)]
def kf (k : Int) : Nat := if k = 0 then 132 else 133
theorem kinds_cell {w : World} (h : Kinds w) {k : Int} (hk : 0 ≤ k ∧ k ≤ 1) : w.cell? ⟨0, 0 + k.toNat * 1, none⟩ = some (.func (.func (kf k)) #[] #[]) := by
  obtain ⟨E, fr, h⟩ := h
  rw [cell_of_block h]
  have h01 : k = 0 ∨ k = 1 := by omega
  rcases h01 with rfl | rfl <;> rfl
end Go.Proofs.YtmpclgepoemneaaDoor

/-
  Where the shoal can be, in plain terms; rows of squares that lie beside each other.
-/
namespace Go.Proofs.YtmpclgepoemneaaDoor
open Go.Hu Go.RowKit
abbrev nilS : Value := .slice none 0 0
theorem rowsC_zero (b : Bk) (on : Bool) : rowsC (Rk b on 0) = List.replicate 2480 (Value.bool false) := by
  have h : rowsC (Rk b on 0) = (List.range 31).flatMap fun _ => List.replicate 80 (Value.bool false) := flat_congr _ fun x _ => by
    show (Rk b on 0 x).map Value.bool = _
    unfold Rk; rw [if_neg (by omega)]; simp [fls]
  exact h.trans (by kernel_rfl)
theorem rowsC_one (R : Nat → List Bool) : oneB (rowsC R) = true := by
  unfold oneB rowsC
  rw [List.all_eq_true]
  intro v hv
  obtain ⟨i, _, hv⟩ := List.mem_flatMap.1 hv
  obtain ⟨x, _, rfl⟩ := List.mem_map.1 hv
  rfl
def canB (b : Bk) : Bool := !(G b true 30 == fls)
theorem Rk_last (b : Bk) : Rk b true 31 30 = G b true 30 := by unfold Rk ordN; simp
/-- The shoal can be in a square at a minute. -/
def cnd (b : Bk) (m n : Nat) : Bool := (Rk b true 31 m).getD n false && (Rk b false 31 m).getD n false
def whN (b : Bk) (m j : Nat) : List Nat := (List.range j).filter fun n => cnd b m n
def whU (b : Bk) (m j : Nat) : List Int := (whN b m j).map fun (n : Nat) => (n : Int)
def whs (b : Bk) (m : Nat) : List Int := whU b m 80
theorem whU_succ (b : Bk) (m j : Nat) : whU b m (j + 1) = if cnd b m j = true then whU b m j ++ [(j : Int)] else whU b m j := by
  unfold whU whN
  rw [List.range_succ, List.filter_append]
  by_cases h : cnd b m j = true <;> simp [h]
theorem whU_len (b : Bk) (m j : Nat) : (whU b m j).length ≤ j := by
  unfold whU whN
  rw [List.length_map]
  exact Nat.le_trans (List.length_filter_le _ _) (by simp)
def IsSl (v : Value) : Prop := ∃ a n c, v = .slice a n c
theorem one_sl {vs : List Value} (h : ∀ v ∈ vs, IsSl v) : oneB vs = true := by
  unfold oneB
  rw [List.all_eq_true]
  intro v hv
  obtain ⟨a, n, c, rfl⟩ := h v hv
  rfl
def pcs (b : Bk) : Nat → List Value → List HP
  | _, [] => []
  | i, v :: vs => slc 3 1 v (whs b i).length ((whs b i).map iv) :: pcs b (i + 1) vs
theorem pcs_snoc (b : Bk) : ∀ (vs : List Value) (i : Nat) (v : Value), pcs b i (vs ++ [v]) = pcs b i vs ++ [slc 3 1 v (whs b (i + vs.length)).length ((whs b (i + vs.length)).map iv)]
  | [], i, v => rfl
  | u :: vs, i, v => by
    simp only [List.cons_append, pcs, pcs_snoc b vs (i + 1) v, List.length_cons]
    rw [show i + 1 + vs.length = i + (vs.length + 1) by omega]
theorem pcs_get (b : Bk) : ∀ (vs : List Value) (i j : Nat) (v : Value), vs[j]? = some v → (pcs b i vs)[j]? = some (slc 3 1 v (whs b (i + j)).length ((whs b (i + j)).map iv))
  | [], i, j, v, h => by simp at h
  | u :: vs, i, 0, v, h => by simp at h; subst h; rfl
  | u :: vs, i, j + 1, v, h => by
    have := pcs_get b vs (i + 1) j v (by simpa using h)
    simp only [pcs, List.getElem?_cons_succ, this]
    rw [show i + 1 + j = i + (j + 1) by omega]
theorem pcs_len (b : Bk) : ∀ (vs : List Value) (i : Nat), (pcs b i vs).length = vs.length
  | [], _ => rfl
  | _ :: vs, i => by simp [pcs, pcs_len b vs (i + 1)]
end Go.Proofs.YtmpclgepoemneaaDoor

/-
  Which books are right, in plain terms; and in the order in which each side asks.
-/
namespace Go.Proofs.YtmpclgepoemneaaDoor
open Go.Hu Go.RowKit
theorem Ints.take {w : World} {a : Option Addr} {c : Nat} {l : List Int} (h : Ints w a c l) {k : Nat} (hk : k ≤ l.length) : Ints w a c (l.take k) := by
  have := Rd.take h hk
  unfold Ints
  have e : (l.take k).length = k := by rw [List.length_take]; omega
  rw [e]
  rw [Nat.mul_one, ← List.map_take] at this
  exact this
theorem hd_at (b : Bk) {j : Nat} (hj : j < 2) : [iv b.h0, iv b.h1][((j : Nat) : Int).toNat * 1]? = some (iv (hd b j)) := by
  have h01 : j = 0 ∨ j = 1 := by omega
  rcases h01 with rfl | rfl <;> rfl
def allU (p : Nat → Bool) : Nat → Bool
  | 0 => true
  | j + 1 => allU p j && p j
theorem allU_iff {p : Nat → Bool} : ∀ {j : Nat}, allU p j = true ↔ ∀ i, i < j → p i = true
  | 0 => by simp [allU]
  | j + 1 => by
    simp only [allU, Bool.and_eq_true, allU_iff (j := j)]
    refine ⟨fun ⟨h1, h2⟩ i hi => ?_, fun h => ⟨fun i hi => h i (by omega), h j (by omega)⟩⟩
    rcases Nat.lt_succ_iff_lt_or_eq.1 hi with h | h
    · exact h1 i h
    · rw [h]; exact h2
theorem allU_down {p : Nat → Bool} {j k : Nat} (hjk : j ≤ k) (h : allU p j = false) : allU p k = false := by
  cases e : allU p k with
  | false => rfl
  | true =>
    have := allU_iff.1 e
    rw [allU_iff.2 (fun i hi => this i (by omega))] at h
    cases h
theorem and_step {x y z t : Bool} (h : (x && y) = t) : (x && (y && z)) = (t && z) := by rw [← Bool.and_assoc, h]
abbrev B0 (b : Bk) : Prop := (1 ≤ b.wide ∧ b.wide ≤ 10) ∧ (1 ≤ b.high ∧ b.high ≤ 8) ∧ b.land.length ≤ 10 ∧ (0 ≤ b.swim ∧ b.swim ≤ 3) ∧ b.cries.length ≤ 8
abbrev R0 (b : Bk) : Prop := (1 ≤ b.wide ∧ b.wide ≤ 10) ∧ (1 ≤ b.high ∧ b.high ≤ 8) ∧ b.land.length ≤ 10 ∧ (-5 ≤ b.h0 ∧ b.h0 ≤ 15) ∧ (-5 ≤ b.h1 ∧ b.h1 ≤ 15) ∧ (0 ≤ b.swim ∧ b.swim ≤ 3) ∧ b.cries.length ≤ 8
def pl (b : Bk) (i : Nat) : Bool := decide (0 ≤ b.land.getD i 0 ∧ b.land.getD i 0 ≤ b.wide * b.high - 1) && !decide (b.land.getD i 0 ∈ b.land.take i)
def ph (b : Bk) (i : Nat) : Bool := decide (-5 ≤ hd b i ∧ hd b i ≤ 15)
def pc (b : Bk) (i : Nat) : Bool := decide (CryOk (b.cries.getD i ⟨0, 0, 0, 0, 0, 0, 0⟩))
def okL (b : Bk) (j : Nat) : Bool := decide (B0 b) && allU (pl b) j
def okH (b : Bk) (j : Nat) : Bool := okL b b.land.length && allU (ph b) j
def okC (b : Bk) (j : Nat) : Bool := okH b 2 && allU (pc b) j
def okAll (b : Bk) : Bool := okC b b.cries.length
def rkL (b : Bk) (j : Nat) : Bool := decide (R0 b) && allU (pl b) j
def rkC (b : Bk) (j : Nat) : Bool := rkL b b.land.length && allU (pc b) j
theorem okL_succ (b : Bk) (j : Nat) : okL b (j + 1) = (okL b j && pl b j) := by simp [okL, allU, Bool.and_assoc]
theorem okH_succ (b : Bk) (j : Nat) : okH b (j + 1) = (okH b j && ph b j) := by simp [okH, allU, Bool.and_assoc]
theorem okC_succ (b : Bk) (j : Nat) : okC b (j + 1) = (okC b j && pc b j) := by simp [okC, allU, Bool.and_assoc]
theorem rkL_succ (b : Bk) (j : Nat) : rkL b (j + 1) = (rkL b j && pl b j) := by simp [rkL, allU, Bool.and_assoc]
theorem rkC_succ (b : Bk) (j : Nat) : rkC b (j + 1) = (rkC b j && pc b j) := by simp [rkC, allU, Bool.and_assoc]
theorem okL_zero (b : Bk) : okL b 0 = decide (B0 b) := by simp [okL, allU]
theorem okH_zero (b : Bk) : okH b 0 = okL b b.land.length := by simp [okH, allU]
theorem okC_zero (b : Bk) : okC b 0 = okH b 2 := by simp [okC, allU]
theorem rkL_zero (b : Bk) : rkL b 0 = decide (R0 b) := by simp [rkL, allU]
theorem rkC_zero (b : Bk) : rkC b 0 = rkL b b.land.length := by simp [rkC, allU]
theorem okL_B0 {b : Bk} {j : Nat} (h : okL b j = true) : B0 b := by unfold okL at h; rw [Bool.and_eq_true] at h; exact of_decide_eq_true h.1
theorem rkL_R0 {b : Bk} {j : Nat} (h : rkL b j = true) : R0 b := by unfold rkL at h; rw [Bool.and_eq_true] at h; exact of_decide_eq_true h.1
theorem rkC_R0 {b : Bk} {j : Nat} (h : rkC b j = true) : R0 b := by unfold rkC at h; rw [Bool.and_eq_true] at h; exact rkL_R0 h.1
theorem rkL_down {b : Bk} {j k : Nat} (hjk : j ≤ k) (h : rkL b j = false) : rkL b k = false := by
  unfold rkL at h ⊢
  rw [Bool.and_eq_false_iff] at h ⊢
  rcases h with h | h
  · exact .inl h
  · exact .inr (allU_down hjk h)
theorem rkC_down {b : Bk} {j k : Nat} (hjk : j ≤ k) (h : rkC b j = false) : rkC b k = false := by
  unfold rkC at h ⊢
  rw [Bool.and_eq_false_iff] at h ⊢
  rcases h with h | h
  · exact .inl h
  · exact .inr (allU_down hjk h)
theorem rk_ok (b : Bk) : rkC b b.cries.length = okAll b := by
  unfold okAll okC okH okL rkC rkL
  have e : allU (ph b) 2 = (decide (-5 ≤ b.h0 ∧ b.h0 ≤ 15) && decide (-5 ≤ b.h1 ∧ b.h1 ≤ 15)) := by simp [allU, ph, hd]
  rw [e, Bool.eq_iff_iff]
  simp only [Bool.and_eq_true, decide_eq_true_eq]
  constructor
  · rintro ⟨⟨⟨a, b, c, d, e, f, g⟩, h⟩, i⟩; exact ⟨⟨⟨⟨a, b, c, f, g⟩, h⟩, d, e⟩, i⟩
  · rintro ⟨⟨⟨⟨a, b, c, f, g⟩, h⟩, d, e⟩, i⟩; exact ⟨⟨⟨a, b, c, d, e, f, g⟩, h⟩, i⟩
theorem mapAt {B : Nat → Prop} {w0 w : World} {L : Nat → HP} {Ds : List Nat} (S : St B w0 w L Ds) {k mp : Nat} {b : Bk} (h : L k = mpP mp ((wtr b).map (ent b))) : MapAt w mp b := by
  obtain ⟨f, h1, h2, _⟩ := S.chg k
  rw [h] at h1
  obtain ⟨es, c, hes, hp⟩ := h1
  exact ⟨es, c, h2 mp _ hp.1, hes⟩
/-- A book that is one. -/
structure BookOk (b : Bk) : Prop where
  num : Num b
  ll : b.land.length ≤ 10
  lc : b.cries.length ≤ 8
  land : ∀ n ∈ b.land, 0 ≤ n ∧ n ≤ b.wide * b.high - 1
  nd : ∀ i, i < b.land.length → ¬ b.land.getD i 0 ∈ b.land.take i
  cry : ∀ c ∈ b.cries, CryOk c
theorem okAll_ok {b : Bk} (h : okAll b = true) : BookOk b := by
  unfold okAll okC okH okL at h
  simp only [Bool.and_eq_true, decide_eq_true_eq] at h
  obtain ⟨⟨⟨⟨h1, h2, h3, h4, h5⟩, h6⟩, h7⟩, h8⟩ := h
  have e : allU (ph b) 2 = (decide (-5 ≤ b.h0 ∧ b.h0 ≤ 15) && decide (-5 ≤ b.h1 ∧ b.h1 ≤ 15)) := by simp [allU, ph, hd]
  rw [e] at h7
  simp only [Bool.and_eq_true, decide_eq_true_eq] at h7
  have hl := allU_iff.1 h6
  have hc := allU_iff.1 h8
  unfold pl at hl
  unfold pc at hc
  simp only [Bool.and_eq_true, decide_eq_true_eq, Bool.not_eq_true', decide_eq_false_iff_not] at hl hc
  refine ⟨⟨h1, h2, h7.1, h7.2, h4⟩, h3, h5, fun n hn => ?_, fun i hi => (hl i hi).2, fun c hm => ?_⟩
  · obtain ⟨i, hi, rfl⟩ := List.mem_iff_getElem.1 hn
    have := (hl i hi).1
    rw [List.getD_eq_getElem?_getD, List.getElem?_eq_getElem hi] at this
    exact this
  · obtain ⟨i, hi, rfl⟩ := List.mem_iff_getElem.1 hm
    have := hc i hi
    rw [List.getD_eq_getElem?_getD, List.getElem?_eq_getElem hi] at this
    exact this
def chkV (b : Bk) : Int := if okAll b = true then 0 else 10
/-- What a question is answered with: 0, or why not. -/
def askV (b : Bk) (p : Bool) : Int := if okAll b = true then (if p = true then (if canB b = true then 0 else 12) else 11) else 10
theorem askV_zero {b : Bk} {p : Bool} (h : askV b p = 0) : okAll b = true ∧ p = true ∧ canB b = true := by
  unfold askV at h
  cases h1 : okAll b <;> cases h2 : p <;> cases h3 : canB b <;> simp [h1, h2, h3] at h ⊢
theorem chk_ok {b : Bk} (h : ¬ chkV b ≠ 0) : okAll b = true := by
  unfold chkV at h
  cases e : okAll b with
  | true => rfl
  | false => rw [e] at h; exact absurd (by decide) h
theorem chk_no {b : Bk} (h : chkV b ≠ 0) : okAll b = false := by
  unfold chkV at h
  cases e : okAll b with
  | false => rfl
  | true => rw [e] at h; exact absurd rfl h

theorem St.noneS {B : Nat → Prop} {w0 w : World} {L : Nat → HP} {Ds : List Nat} (S : St B w0 w L Ds) : St B w0 w (upd eL 0 (slc 3 1 nilS 0 [])) Ds :=
  ((S.drop 999).weak (k := 999) (i := slc 3 1 nilS 0 []) (fun f hf => by rw [upd_same] at hf; exact slc_nil 3 1 f hf)).only 999
theorem St.capS {B : Nat → Prop} {w0 w : World} {L : Nat → HP} {Ds : List Nat} (S : St B w0 w L Ds) (k : Nat) {E s n c : Nat} {a : Option Addr} {xs : List Value} (h : L k = slc E s (.slice a n c) n xs) : St B w0 w (upd eL 0 (slc E s (.slice a n n) n xs)) Ds := by
  have := (S.weak (k := k) (i := slc E s (.slice a n n) n xs) (fun f hf => slc_cap (by rw [h] at hf; exact hf))).only k
  rwa [upd_same] at this
theorem idxOf_le {v : Int} : ∀ {l : List Int} {j : Nat}, l[j]? = some v → l.idxOf v ≤ j
  | [], j, h => by simp at h
  | x :: l, 0, h => by simp at h; subst h; simp
  | x :: l, j + 1, h => by
    have := idxOf_le (l := l) (j := j) (by simpa using h)
    rw [List.idxOf_cons]
    cases x == v <;> simp <;> omega
theorem ix_take {l : List Int} {i : Nat} {n : Int} (h : l[i]? = some n) : ix l n = i ↔ ¬ n ∈ l.take i := by
  constructor
  · intro he hm
    obtain ⟨j, hj, hjn⟩ := List.mem_iff_getElem.1 hm
    rw [List.length_take] at hj
    rw [List.getElem_take] at hjn
    have hm' : n ∈ l := List.mem_of_getElem? h
    unfold ix at he
    rw [if_pos hm'] at he
    have h1 : l.idxOf n ≤ j := idxOf_le (by rw [List.getElem?_eq_getElem (by omega), hjn])
    omega
  · intro hn
    refine ix_at h fun j hj he => hn ?_
    have hjl := (List.getElem?_eq_some_iff.1 he).1
    exact List.mem_iff_getElem.2 ⟨j, by rw [List.length_take]; omega, by rw [List.getElem_take]; exact (List.getElem?_eq_some_iff.1 he).2⟩
end Go.Proofs.YtmpclgepoemneaaDoor

/-
  Rows of squares on the other side: as long as the bay has squares.
-/
namespace Go.Proofs.YtmpclgepoemneaaDoor
open Go.Hu Go.RowKit
/-- A slice of truth values. -/
def Bools (w : World) (a : Option Addr) (c : Nat) (l : List Bool) : Prop := Rd w (.slice a l.length c) l.length 1 (l.map Value.bool)
theorem bools_at {l : List Bool} {j : Nat} {x : Bool} (hx : l[j]? = some x) : (l.map Value.bool)[((j : Int)).toNat * 1 + 0]? = some (.bool x) := by simp [hx]
/-- A row of the first j squares, the rest false. -/
def part (f : Nat → Bool) (n j : Nat) : List Bool := (List.range n).map fun i => decide (i < j) && f i
theorem part_len (f : Nat → Bool) (n j : Nat) : (part f n j).length = n := by simp [part]
theorem part_zero (f : Nat → Bool) (n : Nat) : part f n 0 = List.replicate n false := by
  unfold part
  rw [List.eq_replicate_iff]
  refine ⟨by simp, fun x hx => ?_⟩
  obtain ⟨i, _, rfl⟩ := List.mem_map.1 hx
  simp
theorem part_all (f : Nat → Bool) (n : Nat) : part f n n = (List.range n).map f := by
  unfold part
  refine List.map_congr_left fun i hi => ?_
  simp [List.mem_range.1 hi]
theorem part_set (f : Nat → Bool) {n j : Nat} (hj : j < n) : (part f n j).set j (f j) = part f n (j + 1) := by
  apply List.ext_getElem?
  intro i
  rw [List.getElem?_set]
  unfold part
  by_cases hin : i < n
  · rw [List.getElem?_map, List.getElem?_map, List.getElem?_range hin, List.length_map, List.length_range]
    split
    · next e => subst e; simp
    · next e =>
      have : decide (i < j + 1) = decide (i < j) := decide_eq_decide.2 (by omega)
      simp [this]
  · rw [List.getElem?_map, List.getElem?_map, List.getElem?_eq_none (by simpa using hin)]
    split
    · next e => omega
    · rfl
theorem set_map {l : List Bool} {j : Nat} {v : Bool} : (l.map Value.bool).set j (.bool v) = (l.set j v).map Value.bool := by rw [List.map_set]
theorem set_at {l : List Bool} {j : Nat} {v : Bool} : (l.map Value.bool).set (0 + ((j : Nat) : Int).toNat * 1) (.bool v) = (l.set j v).map Value.bool := by rw [Nat.zero_add, Nat.mul_one, Int.toNat_natCast, set_map]
theorem part_at (f : Nat → Bool) {n j : Nat} (hj : j < n) : (part f n j)[j]? = some false := by unfold part; rw [List.getElem?_map, List.getElem?_range hj]; simp
theorem part_set0 (f : Nat → Bool) {n j : Nat} (hj : j < n) : (part f n j).set j false = part f n j := by
  apply List.ext_getElem?
  intro i
  rw [List.getElem?_set]
  split
  · next e => subst e; rw [part_at f hj, part_len, if_pos hj]
  · rfl
theorem get_set {l : List Bool} {j : Nat} {v : Bool} (hj : j < l.length) : ((l.set j v).map Value.bool)[0 + ((j : Nat) : Int).toNat * 1]? = some (.bool v) := by
  rw [Nat.zero_add, Nat.mul_one, Int.toNat_natCast, List.getElem?_map, List.getElem?_set, if_pos rfl, if_pos hj]; rfl
/-- The squares of a row, as far as j. -/
def trU (l : List Bool) (j : Nat) : List Int := ((List.range j).filter fun n => l.getD n false).map fun (n : Nat) => (n : Int)
def trL (l : List Bool) : List Int := trU l l.length
theorem trU_succ {l : List Bool} {j : Nat} {x : Bool} (hx : l[j]? = some x) : trU l (j + 1) = if x = true then trU l j ++ [(j : Int)] else trU l j := by
  unfold trU
  rw [List.range_succ, List.filter_append]
  have : l.getD j false = x := by rw [List.getD_eq_getElem?_getD, hx]; rfl
  cases x <;> simp [-List.getD_eq_getElem?_getD, this]
theorem trU_len (l : List Bool) (j : Nat) : (trU l j).length ≤ j := by
  unfold trU
  rw [List.length_map]
  exact Nat.le_trans (List.length_filter_le _ _) (by simp)
/-- From one of the first j squares the square t can be reached. -/
def nrU (b : Bk) (f : List Bool) (t j : Nat) : Bool := (List.range j).any fun s => f.getD s false && decide (NearP b.wide s t b.swim)
theorem nrU_all (b : Bk) (f : List Bool) (t : Nat) : nrU b f t (sq b) = nearXY b f ((t : Int) % b.wide) ((t : Int) / b.wide) := rfl
theorem nrU_succ (b : Bk) (f : List Bool) (t j : Nat) : nrU b f t (j + 1) = (nrU b f t j || (f.getD j false && decide (NearP b.wide j t b.swim))) := by simp [nrU, List.range_succ]
theorem nrU_up {b : Bk} {f : List Bool} {t j k : Nat} (hjk : j ≤ k) (h : nrU b f t j = true) : nrU b f t k = true := by
  unfold nrU at h ⊢
  rw [List.any_eq_true] at h ⊢
  obtain ⟨x, hx, hp⟩ := h
  exact ⟨x, List.mem_range.2 (by have := List.mem_range.1 hx; omega), hp⟩
def nxt (b : Bk) (m : Int) (f : List Bool) (t : Nat) : Bool := nearXY b f ((t : Int) % b.wide) ((t : Int) / b.wide) && alw b m t
def nextL (b : Bk) (m : Int) (f : List Bool) : List Bool := (List.range (sq b)).map (nxt b m f)
theorem nextL_len (b : Bk) (m : Int) (f : List Bool) : (nextL b m f).length = sq b := by simp [nextL]
/-- What the other side asks of a square: it is no land, and no cry of the minute is against it. -/
theorem alw_of (b : Bk) (m : Int) {t : Nat} (ht : t < sq b) : alw b m t = (decide (ix b.land t < 0) && !frb b m ((t : Int) % b.wide) ((t : Int) / b.wide)) := by
  unfold alw
  have : decide (ix b.land t < 0) = decide (¬ (t : Int) ∈ b.land) := decide_eq_decide.2 (ix_lt _ _)
  rw [this]; simp [ht]
end Go.Proofs.YtmpclgepoemneaaDoor

/-
  The rows of the other side, all of them.
-/
namespace Go.Proofs.YtmpclgepoemneaaDoor
open Go.Hu Go.RowKit
def fr (b : Bk) (on : Bool) : Nat → List Bool
  | 0 => List.replicate (sq b) true
  | k + 1 => nextL b (ordI on k) (fr b on k)
theorem fr_len (b : Bk) (on : Bool) (k : Nat) : (fr b on k).length = sq b := by
  cases k
  · simp [fr]
  · exact nextL_len ..
def pcsF (N : Nat) (g : Nat → List Bool) : Nat → List Value → List HP
  | _, [] => []
  | i, v :: vs => slc 4 1 v N ((g i).map Value.bool) :: pcsF N g (i + 1) vs
theorem pcsF_snoc (N : Nat) (g : Nat → List Bool) : ∀ (vs : List Value) (i : Nat) (v : Value), pcsF N g i (vs ++ [v]) = pcsF N g i vs ++ [slc 4 1 v N ((g (i + vs.length)).map Value.bool)]
  | [], i, v => rfl
  | u :: vs, i, v => by
    simp only [List.cons_append, pcsF, pcsF_snoc N g vs (i + 1) v, List.length_cons]
    rw [show i + 1 + vs.length = i + (vs.length + 1) by omega]
theorem pcsF_get (N : Nat) (g : Nat → List Bool) : ∀ (vs : List Value) (i j : Nat) (v : Value), vs[j]? = some v → (pcsF N g i vs)[j]? = some (slc 4 1 v N ((g (i + j)).map Value.bool))
  | [], i, j, v, h => by simp at h
  | u :: vs, i, 0, v, h => by simp at h; subst h; rfl
  | u :: vs, i, j + 1, v, h => by
    have := pcsF_get N g vs (i + 1) j v (by simpa using h)
    simp only [pcsF, List.getElem?_cons_succ, this]
    rw [show i + 1 + j = i + (j + 1) by omega]
theorem pcsF_len (N : Nat) (g : Nat → List Bool) : ∀ (vs : List Value) (i : Nat), (pcsF N g i vs).length = vs.length
  | [], _ => rfl
  | _ :: vs, i => by simp [pcsF, pcsF_len N g vs (i + 1)]
theorem pcsF_congr {N : Nat} {g h : Nat → List Bool} : ∀ (vs : List Value) (i k : Nat), (∀ j, j < vs.length → g (i + j) = h (k + j)) → pcsF N g i vs = pcsF N h k vs
  | [], _, _, _ => rfl
  | v :: vs, i, k, hh => by
    simp only [pcsF]
    have h0 := hh 0 (by simp)
    simp only [Nat.add_zero] at h0
    rw [h0, pcsF_congr vs (i + 1) (k + 1) fun j hj => by have := hh (j + 1) (by simpa using hj); rwa [show i + 1 + j = i + (j + 1) by omega, show k + 1 + j = k + (j + 1) by omega]]
theorem pcsF_set {N : Nat} {g : Nat → List Bool} {r : List Bool} : ∀ (vs : List Value) (i j : Nat) (v : Value), vs[j]? = some v → (pcsF N g i vs).set j (slc 4 1 v N (r.map Value.bool)) = pcsF N (upd g (i + j) r) i vs
  | [], i, j, v, h => by simp at h
  | u :: vs, i, 0, v, h => by
    simp at h; subst h
    simp only [pcsF, List.set_cons_zero, Nat.add_zero, upd_same]
    rw [pcsF_congr (g := g) (h := upd g i r) vs (i + 1) (i + 1) fun j _ => by rw [upd_ne]; omega]
  | u :: vs, i, j + 1, v, h => by
    simp only [pcsF, List.set_cons_succ]
    rw [pcsF_set vs (i + 1) j v (by simpa using h), show i + 1 + j = i + (j + 1) by omega, upd_ne _ _ (show i ≠ i + (j + 1) by omega)]
def mix (r k : List Bool) (N j : Nat) : List Bool := (List.range N).map fun s => if s < j then r.getD s false && k.getD s false else r.getD s false
theorem mix_len (r k : List Bool) (N j : Nat) : (mix r k N j).length = N := by simp [mix]
theorem mix_zero {r k : List Bool} {N : Nat} (hr : r.length = N) : mix r k N 0 = r := by
  apply List.ext_getElem?
  intro i
  unfold mix
  by_cases h : i < N
  · rw [List.getElem?_map, List.getElem?_range h, List.getElem?_eq_getElem (by omega)]
    simp [List.getD_eq_getElem?_getD, List.getElem?_eq_getElem (show i < r.length by omega)]
  · rw [List.getElem?_eq_none (by simpa using h), List.getElem?_eq_none (by omega)]
theorem mix_at {r k : List Bool} {N j : Nat} {x : Bool} (hx : r[j]? = some x) (hj : j < N) : ((mix r k N j).map Value.bool)[((j : Nat) : Int).toNat * 1]? = some (.bool x) := by
  rw [Nat.mul_one, Int.toNat_natCast, List.getElem?_map]
  unfold mix
  rw [List.getElem?_map, List.getElem?_range hj]
  simp [List.getD_eq_getElem?_getD, hx]
theorem mix_set {r k : List Bool} {N j : Nat} {x y v : Bool} (hx : r[j]? = some x) (hy : k[j]? = some y) (hj : j < N) (hv : v = (x && y)) : ((mix r k N j).map Value.bool).set (((j : Nat) : Int)).toNat (.bool v) = (mix r k N (j + 1)).map Value.bool := by
  rw [Int.toNat_natCast, set_map]
  congr 1
  apply List.ext_getElem?
  intro i
  rw [List.getElem?_set, mix_len]
  unfold mix
  by_cases hi : i < N
  · rw [List.getElem?_map, List.getElem?_map, List.getElem?_range hi]
    by_cases e : j = i
    · subst e
      simp only [if_pos hi, Option.map_some, if_pos (show j < j + 1 by omega), if_true]
      rw [hv, List.getD_eq_getElem?_getD, List.getD_eq_getElem?_getD, hx, hy]; rfl
    · rw [if_neg e]
      by_cases h1 : i < j
      · simp only [Option.map_some, if_pos h1, if_pos (show i < j + 1 by omega)]
      · simp only [Option.map_some, if_neg h1, if_neg (show ¬ i < j + 1 by omega)]
  · have hr : (List.range N)[i]? = none := List.getElem?_eq_none (by simpa using hi)
    rw [List.getElem?_map, List.getElem?_map, hr, if_neg (show ¬ j = i by omega)]
    rfl
/-- The squares of a minute: to be come to, and to be gone on from. -/
def WR (b : Bk) (m : Nat) : List Bool := mix (fr b true (m + 1)) (fr b false (31 - m)) (sq b) (sq b)
theorem WR_len (b : Bk) (m : Nat) : (WR b m).length = sq b := mix_len ..
def gk (b : Bk) : Nat → Nat → List Bool
  | 0 => fr b true
  | k + 1 => upd (gk b k) (31 - k) (WR b (30 - k))
theorem gk_front (b : Bk) : ∀ (k i : Nat), k ≤ 31 → i ≤ 31 - k → gk b k i = fr b true i
  | 0, i, _, _ => rfl
  | k + 1, i, hk, hi => by
    simp only [gk]
    rw [upd_ne _ _ (by omega)]
    exact gk_front b k i (by omega) (by omega)
theorem gk_back (b : Bk) : ∀ (k m : Nat), k ≤ 31 → 31 - k ≤ m → m ≤ 30 → gk b k (m + 1) = WR b m
  | 0, m, _, h1, h2 => by omega
  | k + 1, m, hk, h1, h2 => by
    simp only [gk]
    by_cases e : m = 30 - k
    · subst e; rw [show 31 - k = 30 - k + 1 by omega, upd_same]
    · rw [upd_ne _ _ (by omega)]
      exact gk_back b k m (by omega) (by omega) h2
/-- What the other side hands back: a slice of rows, one for each minute. -/
def WholeR (b : Bk) (u : Value) (i : HP) : Prop := ∃ (a : Option Addr) (c : Nat) (vs : List Value), u = .slice a 31 c ∧ vs.length = 31 ∧ (∀ v ∈ vs, ∃ a, v = .slice a (sq b) (sq b)) ∧ i = sep (slc 94 1 u 31 vs) (stars (pcsF (sq b) (WR b) 0 vs))
end Go.Proofs.YtmpclgepoemneaaDoor

/-
  Both sides come to the same rows; the shoal can be at the first minute just if it can be at the last one.
-/
namespace Go.Proofs.YtmpclgepoemneaaDoor
open Go.Hu Go.RowKit
theorem askV_congr {b : Bk} {p q : Bool} (h : okAll b = true → p = q) : askV b p = askV b q := by
  unfold askV
  cases e : okAll b with
  | true => rw [h e]
  | false => rfl
theorem nearXY_congr {b : Bk} {f g : List Bool} (h : ∀ t, t < sq b → f.getD t false = g.getD t false) (x y : Int) : nearXY b f x y = nearXY b g x y := by
  unfold nearXY
  rw [Bool.eq_iff_iff, List.any_eq_true, List.any_eq_true]
  constructor
  · rintro ⟨t, ht, hp⟩; exact ⟨t, ht, by rw [← h t (List.mem_range.1 ht)]; exact hp⟩
  · rintro ⟨t, ht, hp⟩; exact ⟨t, ht, by rw [h t (List.mem_range.1 ht)]; exact hp⟩
theorem row_get (b : Bk) (m : Int) (first : Bool) (prev : List Bool) {t : Nat} (ht : t < 80) : (row b m first prev).getD t false = (alw b m t && (first || nearXY b prev ((t : Int) % b.wide) ((t : Int) / b.wide))) := by
  unfold row
  rw [List.getD_eq_getElem?_getD, List.getElem?_map, List.getElem?_range ht]; rfl
theorem nextL_get (b : Bk) (m : Int) (f : List Bool) {t : Nat} (ht : t < sq b) : (nextL b m f).getD t false = nxt b m f t := by
  unfold nextL
  rw [List.getD_eq_getElem?_getD, List.getElem?_map, List.getElem?_range ht]; rfl
theorem near_all {b : Bk} (hb : Num b) {t : Nat} (ht : t < sq b) : nearXY b (List.replicate (sq b) true) ((t : Int) % b.wide) ((t : Int) / b.wide) = true := by
  unfold nearXY
  rw [List.any_eq_true]
  refine ⟨t, List.mem_range.2 ht, ?_⟩
  obtain ⟨_, _, _, _, hs⟩ := hb
  have h1 : (List.replicate (sq b) true).getD t false = true := by rw [List.getD_eq_getElem?_getD, List.getElem?_replicate, if_pos ht]; rfl
  rw [h1, Bool.true_and, decide_eq_true_eq]
  omega
/-- The k-th row of both sides. -/
theorem fr_G {b : Bk} (hb : Num b) (on : Bool) : ∀ (k t : Nat), t < sq b → (fr b on (k + 1)).getD t false = (G b on k).getD t false
  | 0, t, ht => by
    have h80 := (sq_le hb).1
    rw [fr, nextL_get b _ _ ht, G, row_get b _ _ _ (by omega)]
    unfold nxt
    rw [show fr b on 0 = List.replicate (sq b) true from rfl, near_all hb ht]; simp
  | k + 1, t, ht => by
    have h80 := (sq_le hb).1
    rw [fr, nextL_get b _ _ ht, G, row_get b _ _ _ (by omega)]
    unfold nxt
    rw [nearXY_congr (fun s hs => fr_G hb on k s hs), Bool.and_comm]
    rfl
theorem alw_out {b : Bk} {m : Int} {t : Nat} (h : ¬ t < sq b) : alw b m t = false := by unfold alw; simp [h]
theorem G_alw {b : Bk} {on : Bool} {k t : Nat} (h : (G b on k).getD t false = true) : t < sq b ∧ t < 80 ∧ alw b (ordI on k) t = true := by
  have h80 : t < 80 := by
    cases Nat.lt_or_ge t 80 with
    | inl h => exact h
    | inr hge => rw [List.getD_eq_getElem?_getD, List.getElem?_eq_none (by rw [G_len]; exact hge)] at h; cases h
  rw [G_eq, row_get b _ _ _ h80, Bool.and_eq_true] at h
  refine ⟨?_, h80, h.1⟩
  cases Nat.lt_or_ge t (sq b) with
  | inl h' => exact h'
  | inr hge => rw [alw_out (by omega)] at h; exact absurd h.1 (by simp)
theorem cnd_G (b : Bk) {m : Nat} (hm : m ≤ 30) (t : Nat) : cnd b m t = ((G b true m).getD t false && (G b false (30 - m)).getD t false) := by
  unfold cnd Rk ordN
  simp only [if_true, Bool.false_eq_true, if_false]
  rw [if_pos (by omega), if_pos (by omega)]
theorem WR_get {b : Bk} (hb : Num b) {m : Nat} (hm : m ≤ 30) {t : Nat} (ht : t < sq b) : (WR b m).getD t false = cnd b m t := by
  unfold WR mix
  rw [List.getD_eq_getElem?_getD, List.getElem?_map, List.getElem?_range ht, cnd_G b hm, ← fr_G hb true m t ht, show 31 - m = (30 - m) + 1 by omega, ← fr_G hb false (30 - m) t ht]
  simp [ht]
/-- Both sides tell the same squares. -/
theorem trL_WR {b : Bk} (hb : Num b) {m : Nat} (hm : m ≤ 30) : trL (WR b m) = whs b m := by
  unfold trL trU whs whU whN
  rw [WR_len]
  congr 1
  have h80 := (sq_le hb).1
  have e : List.range 80 = List.range (sq b) ++ (List.range (80 - sq b)).map (sq b + ·) := by rw [← List.range_add]; congr 1; omega
  rw [e, List.filter_append]
  have h2 : ((List.range (80 - sq b)).map (sq b + ·)).filter (fun n => cnd b m n) = [] := by
    rw [List.filter_eq_nil_iff]
    intro n hn hc
    obtain ⟨i, _, rfl⟩ := List.mem_map.1 hn
    rw [cnd_G b hm, Bool.and_eq_true] at hc
    have := (G_alw hc.1).1
    omega
  rw [h2, List.append_nil]
  refine List.filter_congr fun n hn => ?_
  exact WR_get hb hm (List.mem_range.1 hn)
/-! ### A way on is a way back -/
theorem near_ex {b : Bk} {f : List Bool} {t : Nat} (h : nearXY b f ((t : Int) % b.wide) ((t : Int) / b.wide) = true) : ∃ s, s < sq b ∧ f.getD s false = true ∧ NearP b.wide s t b.swim := by
  unfold nearXY at h
  rw [List.any_eq_true] at h
  obtain ⟨s, hs, hp⟩ := h
  rw [Bool.and_eq_true, decide_eq_true_eq] at hp
  exact ⟨s, List.mem_range.1 hs, hp⟩
theorem near_of {b : Bk} {f : List Bool} {s t : Nat} (hs : s < sq b) (hf : f.getD s false = true) (h : NearP b.wide s t b.swim) : nearXY b f ((t : Int) % b.wide) ((t : Int) / b.wide) = true := by
  unfold nearXY
  rw [List.any_eq_true]
  exact ⟨s, List.mem_range.2 hs, by rw [hf, Bool.true_and, decide_eq_true_eq]; exact h⟩
theorem NearP.symm {w s t k : Int} (h : NearP w s t k) : NearP w t s k := by unfold NearP at h ⊢; omega
theorem G_step {b : Bk} {on : Bool} {k t : Nat} (h : (G b on (k + 1)).getD t false = true) : ∃ s, s < sq b ∧ (G b on k).getD s false = true ∧ NearP b.wide s t b.swim := by
  have ha := G_alw h
  rw [G, row_get b _ _ _ ha.2.1, Bool.and_eq_true] at h
  exact near_ex h.2
theorem G_next {b : Bk} {on : Bool} {k s t : Nat} (hb : Num b) (hs : (G b on k).getD s false = true) (h : NearP b.wide s t b.swim) (ht : t < sq b) (ha : alw b (ordI on (k + 1)) t = true) : (G b on (k + 1)).getD t false = true := by
  have h80 := (sq_le hb).1
  rw [G, row_get b _ _ _ (by omega), ha, near_of (G_alw hs).1 hs h]; rfl
theorem ord_flip (m : Nat) (hm : m ≤ 30) : ordI false (30 - m) = ordI true m := by unfold ordI; simp; omega
theorem pass (b : Bk) (hb : Num b) {m : Nat} (hm : m < 30) : (∃ t, cnd b m t = true) ↔ ∃ t, cnd b (m + 1) t = true := by
  constructor
  · rintro ⟨t, ht⟩
    rw [cnd_G b (by omega), Bool.and_eq_true] at ht
    have h2 := ht.2
    rw [show 30 - m = (30 - (m + 1)) + 1 by omega] at h2
    obtain ⟨s, hs, hg, hn⟩ := G_step h2
    refine ⟨s, ?_⟩
    rw [cnd_G b (by omega), Bool.and_eq_true]
    refine ⟨G_next hb ht.1 hn.symm hs ?_, hg⟩
    have := (G_alw hg).2.2
    rwa [ord_flip _ (by omega)] at this
  · rintro ⟨t, ht⟩
    rw [cnd_G b (by omega), Bool.and_eq_true] at ht
    obtain ⟨s, hs, hg, hn⟩ := G_step ht.1
    refine ⟨s, ?_⟩
    rw [cnd_G b (by omega), Bool.and_eq_true]
    refine ⟨hg, ?_⟩
    rw [show 30 - m = (30 - (m + 1)) + 1 by omega]
    refine G_next hb ht.2 hn.symm hs ?_
    rw [show (30 - (m + 1)) + 1 = 30 - m by omega, ord_flip _ (by omega)]
    exact (G_alw hg).2.2
theorem pass_all (b : Bk) (hb : Num b) : ∀ {m : Nat}, m ≤ 30 → ((∃ t, cnd b 0 t = true) ↔ ∃ t, cnd b m t = true)
  | 0, _ => Iff.rfl
  | m + 1, hm => (pass_all b hb (by omega)).trans (pass b hb (by omega))
theorem fls_iff {l : List Bool} (hl : l.length = 80) : (!(l == fls)) = true ↔ ∃ t, l.getD t false = true := by
  rw [Bool.not_eq_true', beq_eq_false_iff_ne]
  constructor
  · intro h
    refine Classical.byContradiction fun hn => h ?_
    unfold fls
    rw [List.eq_replicate_iff]
    refine ⟨hl, fun x hx => ?_⟩
    obtain ⟨i, hi, rfl⟩ := List.mem_iff_getElem.1 hx
    cases e : l[i] with
    | false => rfl
    | true => exact absurd ⟨i, by rw [List.getD_eq_getElem?_getD, List.getElem?_eq_getElem hi, e]; rfl⟩ hn
  · rintro ⟨t, ht⟩ rfl
    unfold fls at ht
    rw [List.getD_eq_getElem?_getD, List.getElem?_replicate] at ht
    split at ht <;> cases ht
theorem can_iff (b : Bk) (hb : Num b) {m : Nat} (hm : m ≤ 30) : canB b = true ↔ ∃ t, cnd b m t = true := by
  unfold canB
  rw [fls_iff (G_len ..), ← pass_all b hb hm, pass_all b hb (Nat.le_refl 30)]
  constructor
  · rintro ⟨t, ht⟩
    refine ⟨t, ?_⟩
    have ha := G_alw ht
    rw [cnd_G b (Nat.le_refl _), ht, Bool.true_and, show 30 - 30 = 0 from rfl, G, row_get b _ _ _ ha.2.1]
    have := ha.2.2
    rw [show ordI true 30 = ordI false 0 from rfl] at this
    rw [this]; rfl
  · rintro ⟨t, ht⟩
    rw [cnd_G b (Nat.le_refl _), Bool.and_eq_true] at ht
    exact ⟨t, ht.1⟩
theorem whs_mem {b : Bk} {m : Nat} {n : Int} : n ∈ whs b m ↔ ∃ t : Nat, t < 80 ∧ cnd b m t = true ∧ n = t := by
  unfold whs whU whN
  simp only [List.mem_map, List.mem_filter, List.mem_range]
  constructor
  · rintro ⟨t, ⟨h1, h2⟩, rfl⟩; exact ⟨t, h1, h2, rfl⟩
  · rintro ⟨t, h1, h2, rfl⟩; exact ⟨t, ⟨h1, h2⟩, rfl⟩
theorem wr_at {b : Bk} (hb : Num b) {m : Nat} (hm : m ≤ 30) {s : Int} (hs : 0 ≤ s) {x : Bool} (hx : (WR b m)[s.toNat]? = some x) : x = decide (s ∈ whs b m) := by
  have hlt : s.toNat < sq b := by have := (List.getElem?_eq_some_iff.1 hx).1; rwa [WR_len] at this
  have h80 := (sq_le hb).1
  have h1 := WR_get hb hm hlt
  rw [List.getD_eq_getElem?_getD, hx] at h1
  have h2 : x = cnd b m s.toNat := h1
  rw [h2, Bool.eq_iff_iff, decide_eq_true_eq, whs_mem]
  constructor
  · intro h; exact ⟨s.toNat, by omega, h, by omega⟩
  · rintro ⟨t, _, h, rfl⟩; simpa using h
/-- The squares of water from which, or to which, a cry sees. -/
def seenU (b : Bk) (c : Cry) (j : Nat) : List Int := ((wtU b j).filter fun (n : Nat) => decide (Btw b c ((n : Int) % b.wide) ((n : Int) / b.wide))).map fun (n : Nat) => (n : Int)
theorem seenU_succ (b : Bk) (c : Cry) (j : Nat) : seenU b c (j + 1) = if ¬ (j : Int) ∈ b.land ∧ Btw b c ((j : Int) % b.wide) ((j : Int) / b.wide) then seenU b c j ++ [(j : Int)] else seenU b c j := by
  unfold seenU
  rw [wtU_succ]
  by_cases h1 : (j : Int) ∈ b.land
  · rw [if_pos h1, if_neg (fun h => h.1 h1)]
  · rw [if_neg h1, List.filter_append]
    by_cases h2 : Btw b c ((j : Int) % b.wide) ((j : Int) / b.wide)
    · rw [if_pos ⟨h1, h2⟩]; simp [h2]
    · rw [if_neg (fun h => h2 h.2)]; simp [h2]
theorem wtU_len (b : Bk) (j : Nat) : (wtU b j).length ≤ j := by
  unfold wtU
  exact Nat.le_trans (List.length_filter_le _ _) (by simp)
theorem seenU_len (b : Bk) (c : Cry) (j : Nat) : (seenU b c j).length ≤ j := by
  unfold seenU
  rw [List.length_map]
  exact Nat.le_trans (List.length_filter_le _ _) (wtU_len b j)
/-- .. the squares of water come to as far as i. -/
def itL (b : Bk) (c : Cry) (i : Nat) : List Int := (((wtr b).take i).filter fun (n : Nat) => decide (Btw b c ((n : Int) % b.wide) ((n : Int) / b.wide))).map fun (n : Nat) => (n : Int)
theorem itL_succ {b : Bk} {c : Cry} {i j : Nat} (h : (wtr b)[i]? = some j) : itL b c (i + 1) = if Btw b c ((j : Int) % b.wide) ((j : Int) / b.wide) then itL b c i ++ [(j : Int)] else itL b c i := by
  unfold itL
  rw [List.take_add_one, h, List.filter_append]
  by_cases h2 : Btw b c ((j : Int) % b.wide) ((j : Int) / b.wide)
  · rw [if_pos h2]; simp [h2]
  · rw [if_neg h2]; simp [h2]
theorem itL_len (b : Bk) (c : Cry) (i : Nat) : (itL b c i).length ≤ sq b := by
  unfold itL
  rw [List.length_map]
  exact Nat.le_trans (List.length_filter_le _ _) (Nat.le_trans (List.length_take_le' _ _) (wtU_len b (sq b)))
theorem itL_all (b : Bk) (c : Cry) : itL b c (wtr b).length = seenU b c (sq b) := by unfold itL seenU; rw [List.take_length]; rfl
def OutC (b8 : Nat) (l : List Int) (x : Option Addr × Nat) : HP := sep (pt b8 (.cells [Value.slice x.1 l.length x.2].toArray 22 (0, 0))) (slc 3 1 (.slice x.1 l.length x.2) l.length (l.map iv))
def grU (f : Int) (l : List Int) : Nat → Int
  | 0 => f
  | j + 1 => max (grU f l j) (l.getD j 0)
theorem grU_succ {f : Int} {l : List Int} {j : Nat} {x : Int} (hx : l[j]? = some x) : grU f l (j + 1) = max (grU f l j) x := by
  rw [grU, List.getD_eq_getElem?_getD, hx]; rfl
/-- A seine at a square incloses these squares. -/
def inc (b : Bk) (l : List Int) (wi hi : Int) (n : Nat) : Bool := l.all fun m => decide (HoldsP b.wide n wi hi m)
theorem inc_no {b : Bk} {l : List Int} {wi hi m : Int} {n i : Nat} (h : l[i]? = some m) (hn : ¬ HoldsP b.wide n wi hi m) : inc b l wi hi n = false := by
  unfold inc
  rw [List.all_eq_false]
  exact ⟨m, List.mem_of_getElem? h, by rw [decide_eq_false hn]; simp⟩
theorem inc_yes {b : Bk} {l : List Int} {wi hi : Int} {n : Nat} (h : ∀ i, i < l.length → ∀ m, l[i]? = some m → HoldsP b.wide n wi hi m) : inc b l wi hi n = true := by
  unfold inc
  rw [List.all_eq_true]
  intro m hm
  obtain ⟨i, hi, h1⟩ := List.mem_iff_getElem.1 hm
  exact decide_eq_true (h i hi m (by rw [List.getElem?_eq_getElem hi, h1]))
/-- The first number for which something holds, or -1. -/
def fstN (p : Nat → Bool) (N : Nat) : Int := match (List.range N).find? p with | some n => (n : Int) | none => -1
theorem fstN_at {p : Nat → Bool} {N n : Nat} (hn : n < N) (hp : p n = true) (h : ∀ i, i < n → p i = false) : fstN p N = n := by
  have : (List.range N).find? p = some n := by
    rw [List.find?_range_eq_some]
    exact ⟨hp, List.mem_range.2 hn, fun i hi => by rw [h i hi]; rfl⟩
  unfold fstN; rw [this]
theorem fstN_none {p : Nat → Bool} {N : Nat} (h : ∀ i, i < N → p i = false) : fstN p N = -1 := by
  have : (List.range N).find? p = none := by
    rw [List.find?_range_eq_none]
    intro i hi
    rw [h i hi]; rfl
  unfold fstN; rw [this]
def shotN (b : Bk) (l : List Int) (wi hi : Int) : Int := fstN (inc b l wi hi) (sq b)
abbrev ShotP (m x y : Int) : Prop := (0 ≤ m ∧ m ≤ 30) ∧ ((1 ≤ x ∧ x ≤ 10) ∧ (1 ≤ y ∧ y ≤ 10))
def shotE (b : Bk) (m x y : Int) : Int := if askV b (decide (ShotP m x y)) = 0 then (if 0 ≤ shotN b (whs b m.toNat) x y then 0 else 4) else askV b (decide (ShotP m x y))
def shotV (b : Bk) (m x y : Int) : Int := if shotE b m x y = 0 then shotN b (whs b m.toNat) x y else 0
abbrev SeineP (x y : Int) : Prop := (1 ≤ x ∧ x ≤ 10) ∧ (1 ≤ y ∧ y ≤ 10)
def soonM (b : Bk) (x y : Int) : Int := fstN (fun m => decide (0 ≤ shotN b (whs b m) x y)) 31
def soonE (b : Bk) (x y : Int) : Int := if askV b (decide (SeineP x y)) = 0 then (if 0 ≤ soonM b x y then 0 else 4) else askV b (decide (SeineP x y))
def soonV (b : Bk) (x y : Int) : Int := if soonE b x y = 0 then soonM b x y else 0
def soonS (b : Bk) (x y : Int) : Int := if soonE b x y = 0 then shotN b (whs b (soonM b x y).toNat) x y else 0
/-- How far squares are apart. -/
def apX (b : Bk) (x y : Int) : Int := max (x % b.wide - y % b.wide) (x / b.wide - y / b.wide)
def rowA (b : Bk) (l : List Int) (x acc : Int) : Nat → Int
  | 0 => acc
  | k + 1 => max (rowA b l x acc k) (apX b x (l.getD k 0))
def colA (b : Bk) (l : List Int) : Nat → Int
  | 0 => 0
  | i + 1 => rowA b l (l.getD i 0) (colA b l i) l.length
def apartV (b : Bk) (m : Int) : Int := if askV b (decide (0 ≤ m ∧ m ≤ 30)) = 0 then colA b (whs b m.toNat) (whs b m.toNat).length else 0
theorem rowA_succ {b : Bk} {l : List Int} {x acc y : Int} {k : Nat} (hy : l[k]? = some y) : rowA b l x acc (k + 1) = max (rowA b l x acc k) (apX b x y) := by
  rw [rowA, List.getD_eq_getElem?_getD, hy]; rfl
theorem colA_succ {b : Bk} {l : List Int} {x : Int} {i : Nat} (hx : l[i]? = some x) : colA b l (i + 1) = rowA b l x (colA b l i) l.length := by
  rw [colA, List.getD_eq_getElem?_getD, hx]; rfl
/-- The same lists, as far as k. -/
def sameU (l m : List Int) (k : Nat) : Bool := decide ((l.length : Int) = (m.length : Int)) && allU (fun i => decide (l.getD i 0 = m.getD i 0)) k
theorem sameU_zero (l m : List Int) : sameU l m 0 = decide ((l.length : Int) = (m.length : Int)) := by simp [sameU, allU]
theorem sameU_len {l m : List Int} {k : Nat} (h : sameU l m k = true) : l.length = m.length := by
  unfold sameU at h
  rw [Bool.and_eq_true, decide_eq_true_eq] at h
  have := h.1
  omega
theorem sameU_succ {l m : List Int} {k : Nat} {x y : Int} (hx : l[k]? = some x) (hy : m[k]? = some y) : sameU l m (k + 1) = (sameU l m k && decide (x = y)) := by
  unfold sameU
  rw [allU, ← Bool.and_assoc]
  congr 1
  rw [List.getD_eq_getElem?_getD, List.getD_eq_getElem?_getD, hx, hy]; rfl
theorem sameU_down {l m : List Int} {j k : Nat} (hjk : j ≤ k) (h : sameU l m j = false) : sameU l m k = false := by
  unfold sameU at h ⊢
  rw [Bool.and_eq_false_iff] at h ⊢
  rcases h with h | h
  · exact .inl h
  · exact .inr (allU_down hjk h)
theorem sameU_all (l m : List Int) : sameU l m l.length = decide (l = m) := by
  rw [Bool.eq_iff_iff, decide_eq_true_eq]
  unfold sameU
  rw [Bool.and_eq_true, decide_eq_true_eq, allU_iff]
  constructor
  · rintro ⟨h1, h2⟩
    apply List.ext_getElem?
    intro i
    by_cases hi : i < l.length
    · have := of_decide_eq_true (h2 i hi)
      rw [List.getD_eq_getElem?_getD, List.getD_eq_getElem?_getD, List.getElem?_eq_getElem hi, List.getElem?_eq_getElem (show i < m.length by omega)] at this
      rw [List.getElem?_eq_getElem hi, List.getElem?_eq_getElem (show i < m.length by omega)]
      exact congrArg some this
    · rw [List.getElem?_eq_none (by omega), List.getElem?_eq_none (by omega)]
  · rintro rfl; exact ⟨rfl, fun i _ => decide_eq_true rfl⟩
def seenE (b : Bk) (k : Int) : Int := if okAll b = true then (if 0 ≤ k ∧ k ≤ (b.cries.length : Int) - 1 then 0 else 11) else 10
def seenL (b : Bk) (k : Int) : List Int := if seenE b k = 0 then seenU b (b.cries.getD k.toNat ⟨0, 0, 0, 0, 0, 0, 0⟩) (sq b) else []
theorem whs_bd {b : Bk} {m : Nat} {n : Int} (h : n ∈ whs b m) : 0 ≤ n ∧ n < 80 := by
  obtain ⟨t, h1, _, rfl⟩ := whs_mem.1 h
  omega
theorem can_len (b : Bk) (hb : Num b) {m : Nat} (hm : m ≤ 30) : canB b = decide (0 < (whs b m).length) := by
  rw [Bool.eq_iff_iff, can_iff b hb hm, decide_eq_true_eq, List.length_pos_iff_exists_mem]
  constructor
  · rintro ⟨t, ht⟩
    have h1 := ht
    rw [cnd_G b hm, Bool.and_eq_true] at h1
    exact ⟨t, whs_mem.2 ⟨t, (G_alw h1.1).2.1, ht, rfl⟩⟩
  · rintro ⟨n, hn⟩
    obtain ⟨t, _, h, _⟩ := whs_mem.1 hn
    exact ⟨t, h⟩
end Go.Proofs.YtmpclgepoemneaaDoor

/-
  Books without some of their cries; the fewest that must be left out.
-/
namespace Go.Proofs.YtmpclgepoemneaaDoor
open Go.Hu Go.RowKit
/-- The cries that are kept, of the first j. -/
def kpU (l : List Cry) (q : Nat → Bool) (j : Nat) : List Cry := ((List.range j).filter fun i => !q i).filterMap fun i => l[i]?
theorem kpU_succ {l : List Cry} {q : Nat → Bool} {j : Nat} {c : Cry} (hc : l[j]? = some c) : kpU l q (j + 1) = if q j = true then kpU l q j else kpU l q j ++ [c] := by
  unfold kpU
  rw [List.range_succ, List.filter_append, List.filterMap_append]
  cases h : q j <;> simp [h, hc]
theorem kpU_len (l : List Cry) (q : Nat → Bool) (j : Nat) : (kpU l q j).length ≤ j := by
  unfold kpU
  refine Nat.le_trans (List.length_filterMap_le _ _) (Nat.le_trans (List.length_filter_le _ _) (by simp))
theorem kpU_mem {l : List Cry} {q : Nat → Bool} {j : Nat} {c : Cry} : c ∈ kpU l q j ↔ ∃ i, i < j ∧ q i = false ∧ l[i]? = some c := by
  unfold kpU
  rw [List.mem_filterMap]
  constructor
  · rintro ⟨i, hi, h⟩
    rw [List.mem_filter, List.mem_range] at hi
    exact ⟨i, hi.1, by simpa using hi.2, h⟩
  · rintro ⟨i, hi, hq, h⟩
    exact ⟨i, by rw [List.mem_filter, List.mem_range]; exact ⟨hi, by simpa using hq⟩, h⟩
theorem kpU_congr {l : List Cry} {q q' : Nat → Bool} {j : Nat} (h : ∀ i, i < j → q i = q' i) : kpU l q j = kpU l q' j := by
  unfold kpU
  congr 1
  exact List.filter_congr fun i hi => by rw [h i (List.mem_range.1 hi)]
def wo (b : Bk) (q : Nat → Bool) : Bk := { b with cries := kpU b.cries q b.cries.length }
theorem wo_congr {b : Bk} {q q' : Nat → Bool} (h : ∀ i, i < b.cries.length → q i = q' i) : wo b q = wo b q' := by unfold wo; rw [kpU_congr h]
theorem wo_ok {b : Bk} (h : BookOk b) (q : Nat → Bool) : BookOk (wo b q) :=
  ⟨h.num, h.ll, Nat.le_trans (kpU_len ..) h.lc, h.land, h.nd, fun c hc => by
    obtain ⟨i, _, _, hi⟩ := kpU_mem.1 hc
    exact h.cry c (List.mem_of_getElem? hi)⟩
def inQ (s : List Int) : Nat → Bool := fun i => decide ((i : Int) ∈ s)
/-- Without these the book can be true. -/
def Pw (b : Bk) (s : List Int) : Bool := canB (wo b (inQ s))

/-! ### Lists that rise -/
def Up : Int → Nat → List Int → Prop
  | _, _, [] => True
  | lo, N, x :: t => lo ≤ x ∧ x < N ∧ Up (x + 1) N t
def lst (s : List Int) : Int := match s.getLast? with | none => 0 | some x => x + 1
theorem lst_nil : lst [] = 0 := rfl
theorem lst_snoc (s : List Int) (x : Int) : lst (s ++ [x]) = x + 1 := by unfold lst; simp
theorem Up.mono {N : Nat} : ∀ {t : List Int} {lo lo' : Int}, lo' ≤ lo → Up lo N t → Up lo' N t
  | [], _, _, _, _ => trivial
  | x :: t, lo, lo', h, ⟨h1, h2, h3⟩ => ⟨by omega, h2, h3⟩
theorem Up.mem {N : Nat} : ∀ {t : List Int} {lo : Int}, Up lo N t → ∀ x ∈ t, lo ≤ x ∧ x < N
  | [], _, _, x, hx => by cases hx
  | y :: t, lo, ⟨h1, h2, h3⟩, x, hx => by
    rcases List.mem_cons.1 hx with rfl | hx
    · exact ⟨h1, h2⟩
    · have := Up.mem h3 x hx; exact ⟨by omega, this.2⟩
theorem Up.len {N : Nat} : ∀ {t : List Int} {lo : Int}, 0 ≤ lo → lo ≤ N → Up lo N t → (t.length : Int) + lo ≤ N
  | [], _, _, h0, _ => by simpa using h0
  | x :: t, lo, h, _, ⟨h1, h2, h3⟩ => by have := Up.len (by omega) (by omega) h3; simp only [List.length_cons]; omega
theorem Up.snoc {N : Nat} {x : Int} : ∀ {t : List Int} {lo : Int}, Up lo N t → (∀ y ∈ t, y < x) → lo ≤ x → x < N → Up lo N (t ++ [x])
  | [], lo, _, _, h1, h2 => ⟨h1, h2, trivial⟩
  | y :: t, lo, ⟨h1, h2, h3⟩, hy, h4, h5 => ⟨h1, h2, Up.snoc h3 (fun z hz => hy z (by simp [hz])) (by have := hy y (by simp); omega) h5⟩
/-- A list is less than another one. -/
def ltL : List Int → List Int → Bool
  | _, [] => false
  | [], _ :: _ => true
  | x :: l, y :: m => decide (x < y) || (decide (x = y) && ltL l m)
def fewL (l m : List Int) : Bool := decide (l.length < m.length) || (decide (l.length = m.length) && ltL l m)
theorem ltL_irr : ∀ l : List Int, ltL l l = false
  | [] => rfl
  | x :: l => by simp [ltL, ltL_irr l]
theorem ltL_trans : ∀ {l m k : List Int}, ltL l m = true → ltL m k = true → ltL l k = true
  | _, _, [], _, h => by rename_i m _; cases m <;> simp [ltL] at h
  | _, [], _ :: _, h, _ => by rename_i l _ _; cases l <;> simp [ltL] at h
  | [], _ :: _, _ :: _, _, _ => rfl
  | x :: l, y :: m, z :: k, h1, h2 => by
    simp only [ltL, Bool.or_eq_true, Bool.and_eq_true, decide_eq_true_eq] at h1 h2 ⊢
    rcases h1 with h1 | ⟨rfl, h1⟩ <;> rcases h2 with h2 | ⟨rfl, h2⟩
    · exact .inl (by omega)
    · exact .inl h1
    · exact .inl h2
    · exact .inr ⟨rfl, ltL_trans h1 h2⟩
theorem ltL_tri : ∀ {l m : List Int}, l.length = m.length → ltL l m = false → ltL m l = false → l = m
  | [], [], _, _, _ => rfl
  | [], _ :: _, h, _, _ => by simp at h
  | _ :: _, [], h, _, _ => by simp at h
  | x :: l, y :: m, h, h1, h2 => by
    simp only [ltL, Bool.or_eq_false_iff, Bool.and_eq_false_iff, decide_eq_false_iff_not] at h1 h2
    have e : x = y := by omega
    subst e
    rw [ltL_tri (l := l) (m := m) (by simpa using h) (h1.2.resolve_left (fun hn => hn rfl)) (h2.2.resolve_left (fun hn => hn rfl))]
theorem fewL_trans {l m k : List Int} (h1 : fewL l m = true) (h2 : fewL m k = true) : fewL l k = true := by
  simp only [fewL, Bool.or_eq_true, Bool.and_eq_true, decide_eq_true_eq] at h1 h2 ⊢
  rcases h1 with h1 | ⟨e1, h1⟩ <;> rcases h2 with h2 | ⟨e2, h2⟩
  · exact .inl (by omega)
  · exact .inl (by omega)
  · exact .inl (by omega)
  · exact .inr ⟨by omega, ltL_trans h1 h2⟩
theorem fewL_tri {l m : List Int} (h1 : fewL l m = false) (h2 : fewL m l = false) : l = m := by
  simp only [fewL, Bool.or_eq_false_iff, Bool.and_eq_false_iff, decide_eq_false_iff_not] at h1 h2
  have e : l.length = m.length := by omega
  exact ltL_tri e (h1.2.resolve_left (fun hn => hn e)) (h2.2.resolve_left (fun hn => hn e.symm))
/-- The best of all lists that rise. -/
structure Best (N : Nat) (P : List Int → Bool) (l : List Int) : Prop where
  up : Up 0 N l
  ok : P l = true
  no : ∀ m, Up 0 N m → fewL m l = true → P m = false
theorem Best.uniq {N : Nat} {P : List Int → Bool} {l m : List Int} (h : Best N P l) (k : Best N P m) : l = m := by
  refine fewL_tri ?_ ?_
  · cases e : fewL l m with
    | false => rfl
    | true => have := k.no l h.up e; rw [h.ok] at this; cases this
  · cases e : fewL m l with
    | false => rfl
    | true => have := h.no m k.up e; rw [k.ok] at this; cases this

/-! ### In the order of the program -/
def fsU {α : Type} (f : Nat → Option α) : Nat → Option α
  | 0 => none
  | n + 1 => match fsU f n with | some x => some x | none => f n
theorem fsU_none {α : Type} {f : Nat → Option α} : ∀ {n : Nat}, fsU f n = none ↔ ∀ i, i < n → f i = none
  | 0 => by simp [fsU]
  | n + 1 => by
    unfold fsU
    cases e : fsU f n with
    | some x =>
      simp only [reduceCtorEq, false_iff]
      intro h
      rw [fsU_none.2 fun i hi => h i (by omega)] at e; cases e
    | none =>
      have h1 := fsU_none.1 e
      refine ⟨fun h i hi => ?_, fun h => h n (by omega)⟩
      rcases Nat.lt_succ_iff_lt_or_eq.1 hi with h' | rfl
      · exact h1 i h'
      · exact h
theorem fsU_at {α : Type} {f : Nat → Option α} {x : α} {j : Nat} (h : ∀ i, i < j → f i = none) (hj : f j = some x) : ∀ {n : Nat}, j < n → fsU f n = some x
  | 0, hn => by omega
  | n + 1, hn => by
    unfold fsU
    by_cases e : j = n
    · subst e; rw [fsU_none.2 h]; exact hj
    · rw [fsU_at h hj (n := n) (by omega)]
theorem fsU_some {α : Type} {f : Nat → Option α} {x : α} : ∀ {n : Nat}, fsU f n = some x → ∃ j, j < n ∧ f j = some x ∧ ∀ i, i < j → f i = none
  | 0, h => by simp [fsU] at h
  | n + 1, h => by
    unfold fsU at h
    cases e : fsU f n with
    | some y =>
      rw [e] at h
      obtain ⟨j, h1, h2, h3⟩ := fsU_some (n := n) (e.trans h)
      exact ⟨j, by omega, h2, h3⟩
    | none => rw [e] at h; exact ⟨n, by omega, h, fsU_none.1 e⟩
def chL (N : Nat) (P : List Int → Bool) : Nat → List Int → Option (List Int)
  | 0, s => if P s = true then some s else none
  | r + 1, s => fsU (fun k => if lst s ≤ (k : Int) then chL N P r (s ++ [(k : Int)]) else none) N
theorem chL_none {N : Nat} {P : List Int → Bool} : ∀ {r : Nat} {s : List Int}, 0 ≤ lst s → (chL N P r s = none ↔ ∀ t, t.length = r → Up (lst s) N t → P (s ++ t) = false)
  | 0, s, _ => by
    simp only [chL]
    constructor
    · intro h t ht _
      have : t = [] := List.eq_nil_of_length_eq_zero ht
      subst this
      rw [List.append_nil]
      cases e : P s with
      | false => rfl
      | true => rw [e] at h; simp at h
    · intro h
      have := h [] rfl trivial
      rw [List.append_nil] at this
      rw [this]; rfl
  | r + 1, s, h0 => by
    simp only [chL]
    rw [fsU_none]
    constructor
    · intro h t ht hu
      cases t with
      | nil => simp at ht
      | cons x t =>
        obtain ⟨h1, h2, h3⟩ := hu
        have hk := h x.toNat (by omega)
        have ex : ((x.toNat : Nat) : Int) = x := Int.toNat_of_nonneg (by omega)
        rw [ex, if_pos h1] at hk
        have := (chL_none (r := r) (s := s ++ [x]) (by rw [lst_snoc]; omega)).1 hk t (by simpa using ht) (by rw [lst_snoc]; exact h3)
        simpa using this
    · intro h k hk
      split
      · next hl =>
        refine (chL_none (by rw [lst_snoc]; omega)).2 fun t ht hu => ?_
        rw [lst_snoc] at hu
        have := h ((k : Int) :: t) (by simp [ht]) ⟨hl, by omega, hu⟩
        simpa using this
      · rfl
theorem chL_some {N : Nat} {P : List Int → Bool} : ∀ {r : Nat} {s l : List Int}, 0 ≤ lst s → chL N P r s = some l → ∃ t, l = s ++ t ∧ t.length = r ∧ Up (lst s) N t ∧ P l = true ∧ ∀ t', t'.length = r → Up (lst s) N t' → ltL t' t = true → P (s ++ t') = false
  | 0, s, l, _, h => by
    simp only [chL] at h
    split at h
    · next hp =>
      cases h
      refine ⟨[], by simp, rfl, trivial, hp, fun t' ht' _ hl => ?_⟩
      have : t' = [] := List.eq_nil_of_length_eq_zero ht'
      subst this; simp [ltL] at hl
    · cases h
  | r + 1, s, l, h0, h => by
    simp only [chL] at h
    obtain ⟨k, hk, hf, hn⟩ := fsU_some h
    split at hf
    · next hl =>
      obtain ⟨t, rfl, ht, hu, hp, hmin⟩ := chL_some (r := r) (s := s ++ [(k : Int)]) (by rw [lst_snoc]; omega) hf
      rw [lst_snoc] at hu hmin
      refine ⟨(k : Int) :: t, by simp, by simp [ht], ⟨hl, by omega, hu⟩, hp, fun t' ht' hu' hlt => ?_⟩
      cases t' with
      | nil => simp at ht'
      | cons x t' =>
        obtain ⟨h1, h2, h3⟩ := hu'
        simp only [ltL, Bool.or_eq_true, Bool.and_eq_true, decide_eq_true_eq] at hlt
        rcases hlt with hlt | ⟨rfl, hlt⟩
        · have hx := hn x.toNat (by omega)
          have ex : ((x.toNat : Nat) : Int) = x := Int.toNat_of_nonneg (by omega)
          rw [ex, if_pos h1] at hx
          have := (chL_none (by rw [lst_snoc]; omega)).1 hx t' (by simpa using ht') (by rw [lst_snoc]; exact h3)
          simpa using this
        · have := hmin t' (by simpa using ht') h3 hlt
          simpa using this
    · cases hf
/-- The program's answer: the first of the fewest. -/
def wrO (N : Nat) (P : List Int → Bool) : Option (List Int) := fsU (fun m => chL N P m []) (N + 1)
theorem wrO_some {N : Nat} {P : List Int → Bool} {l : List Int} (h : wrO N P = some l) : Best N P l := by
  obtain ⟨r, hr, hf, hn⟩ := fsU_some h
  obtain ⟨t, rfl, ht, hu, hp, hmin⟩ := chL_some (s := []) (Int.le_refl 0) hf
  refine ⟨hu, hp, fun m hm hl => ?_⟩
  simp only [fewL, Bool.or_eq_true, Bool.and_eq_true, decide_eq_true_eq] at hl
  rcases hl with hl | ⟨he, hl⟩
  · have := (chL_none (s := []) (Int.le_refl 0)).1 (hn m.length (by omega)) m rfl hm
    simpa using this
  · have := hmin m (by omega) hm hl
    simpa using this
theorem wrO_none {N : Nat} {P : List Int → Bool} (h : wrO N P = none) {m : List Int} (hm : Up 0 N m) : P m = false := by
  have hl := Up.len (Int.le_refl 0) (by omega) hm
  have := (chL_none (s := []) (Int.le_refl 0)).1 (fsU_none.1 h m.length (by omega)) m rfl hm
  simpa using this
theorem wrO_best {N : Nat} {P : List Int → Bool} {l : List Int} (h : Best N P l) : wrO N P = some l := by
  cases e : wrO N P with
  | none => have := wrO_none e h.up; rw [h.ok] at this; cases this
  | some m => rw [(wrO_some e).uniq h]

/-! ### In the order of the other side: all sets -/
def btU (s N : Nat) : List Int := ((List.range N).filter fun n => s.testBit n).map fun (n : Nat) => (n : Int)
theorem btU_succ (s N : Nat) : btU s (N + 1) = if s.testBit N = true then btU s N ++ [(N : Int)] else btU s N := by
  unfold btU
  rw [List.range_succ, List.filter_append]
  cases h : s.testBit N <;> simp [h]
theorem btU_mem {s N : Nat} {x : Int} : x ∈ btU s N ↔ ∃ n : Nat, x = n ∧ n < N ∧ s.testBit n = true := by
  unfold btU
  rw [List.mem_map]
  constructor
  · rintro ⟨n, hn, rfl⟩; rw [List.mem_filter, List.mem_range] at hn; exact ⟨n, rfl, hn⟩
  · rintro ⟨n, rfl, hn⟩; exact ⟨n, by rw [List.mem_filter, List.mem_range]; exact hn, rfl⟩
theorem btU_up (s : Nat) : ∀ {M N : Nat}, M ≤ N → Up 0 N (btU s M)
  | 0, _, _ => trivial
  | M + 1, N, h => by
    rw [btU_succ]
    split
    · refine Up.snoc (btU_up s (by omega)) (fun y hy => ?_) (by omega) (by omega)
      obtain ⟨n, rfl, hn, _⟩ := btU_mem.1 hy
      omega
    · exact btU_up s (by omega)
theorem btU_len (s N : Nat) : (btU s N).length ≤ N := by
  unfold btU; rw [List.length_map]; exact Nat.le_trans (List.length_filter_le _ _) (by simp)
theorem Up.range {N : Nat} : ∀ {K : Nat} {lo : Nat} {m : List Int}, N = lo + K → Up lo N m → m = ((List.range' lo K).filter fun (n : Nat) => decide ((n : Int) ∈ m)).map fun (n : Nat) => (n : Int)
  | 0, lo, m, hN, hu => by
    cases m with
    | nil => rfl
    | cons x t => obtain ⟨h1, h2, _⟩ := hu; omega
  | K + 1, lo, m, hN, hu => by
    rw [List.range'_succ]
    cases m with
    | nil => simp
    | cons x t =>
      obtain ⟨h1, h2, h3⟩ := hu
      by_cases he : x = lo
      · subst he
        have hr := Up.range (N := N) (K := K) (lo := lo + 1) (m := t) (by omega) (by simpa using h3)
        rw [List.filter_cons_of_pos (by simp), List.map_cons]
        congr 1
        refine hr.trans ?_
        congr 1
        refine List.filter_congr fun n hn => ?_
        rw [List.mem_range'_1] at hn
        have : ¬ ((n : Int) = lo) := by omega
        simp [this]
      · have hlo : ¬ ((lo : Nat) : Int) ∈ x :: t := by
          intro hm
          rcases List.mem_cons.1 hm with h | h
          · exact he h.symm
          · have := Up.mem h3 _ h; omega
        rw [List.filter_cons_of_neg (by simpa using hlo)]
        exact Up.range (N := N) (K := K) (lo := lo + 1) (m := x :: t) (by omega) ⟨by omega, h2, h3⟩
def stU : List Int → Nat
  | [] => 0
  | x :: l => stU l ||| 2 ^ x.toNat
theorem stU_bit {l : List Int} (h : ∀ x ∈ l, 0 ≤ x) (n : Nat) : (stU l).testBit n = decide ((n : Int) ∈ l) := by
  induction l with
  | nil => simp [stU]
  | cons x l ih =>
    have hx := h x (by simp)
    have e : decide (x.toNat = n) = decide ((n : Int) = x) := decide_eq_decide.2 (by omega)
    rw [stU, Nat.testBit_or, ih (fun y hy => h y (by simp [hy])), Nat.testBit_two_pow, e]
    simp only [List.mem_cons, Bool.decide_or]
    exact Bool.or_comm _ _
theorem stU_lt {N : Nat} {l : List Int} (h : ∀ x ∈ l, 0 ≤ x ∧ x < N) : stU l < 2 ^ N := by
  induction l with
  | nil => exact Nat.two_pow_pos N
  | cons x l ih =>
    have hx := h x (by simp)
    exact Nat.or_lt_two_pow (ih fun y hy => h y (by simp [hy])) (Nat.pow_lt_pow_right (by omega) (by omega))
theorem btU_st {N : Nat} {m : List Int} (h : Up 0 N m) : btU (stU m) N = m := by
  have h0 := Up.mem h
  refine Eq.trans ?_ (Up.range (N := N) (K := N) (lo := 0) (by omega) (by simpa using h)).symm
  unfold btU
  rw [List.range_eq_range']
  congr 1
  exact List.filter_congr fun n _ => stU_bit (fun x hx => (h0 x hx).1) n
def rfU (N : Nat) (P : List Int → Bool) : Nat → List Int
  | 0 => btU (2 ^ N - 1) N
  | j + 1 => if fewL (btU j N) (rfU N P j) = true ∧ P (btU j N) = true then btU j N else rfU N P j
theorem rfU_best {N : Nat} {P : List Int → Bool} (hall : P (btU (2 ^ N - 1) N) = true) : ∀ j, Up 0 N (rfU N P j) ∧ P (rfU N P j) = true ∧ ∀ s, s < j → fewL (btU s N) (rfU N P j) = true → P (btU s N) = false
  | 0 => ⟨btU_up _ (Nat.le_refl _), hall, fun _ h => by omega⟩
  | j + 1 => by
    obtain ⟨h1, h2, h3⟩ := rfU_best hall j
    unfold rfU
    split
    · next h =>
      refine ⟨btU_up _ (Nat.le_refl _), h.2, fun s hs hl => ?_⟩
      rcases Nat.lt_succ_iff_lt_or_eq.1 hs with h' | rfl
      · exact h3 s h' (fewL_trans hl h.1)
      · simp [fewL, ltL_irr] at hl
    · next h =>
      refine ⟨h1, h2, fun s hs hl => ?_⟩
      rcases Nat.lt_succ_iff_lt_or_eq.1 hs with h' | rfl
      · exact h3 s h' hl
      · cases e : P (btU s N) with
        | false => rfl
        | true => exact absurd ⟨hl, e⟩ h
/-- Both orders come to the same. -/
theorem rfU_wrO {N : Nat} {P : List Int → Bool} (hall : P (btU (2 ^ N - 1) N) = true) : wrO N P = some (rfU N P (2 ^ N)) := by
  obtain ⟨h1, h2, h3⟩ := rfU_best hall (2 ^ N)
  refine wrO_best ⟨h1, h2, fun m hm hl => ?_⟩
  have hlt := stU_lt (N := N) (l := m) fun x hx => (Up.mem hm x hx)
  have e := btU_st hm
  rw [← e] at hl ⊢
  exact h3 _ hlt hl
theorem wrO_all {N : Nat} {P : List Int → Bool} (hall : P (btU (2 ^ N - 1) N) = false) (hmono : ∀ m, Up 0 N m → P m = true → P (btU (2 ^ N - 1) N) = true) : wrO N P = none := by
  cases e : wrO N P with
  | none => rfl
  | some l => have h := wrO_some e; rw [hmono l h.up h.ok] at hall; cases hall
/-! ### What is answered -/
def wrongO (b : Bk) : Option (List Int) := wrO b.cries.length (Pw b)
def wrongL (b : Bk) : List Int := if okAll b = true then (wrongO b).getD [] else []
def wrongE (b : Bk) : Int := if okAll b = true then (if (wrongO b).isSome = true then 0 else 12) else 10
theorem inQ_bt {b : Bk} (s : Nat) : wo b (inQ (btU s b.cries.length)) = wo b (fun i => s.testBit i) := wo_congr fun i hi => by
  unfold inQ
  rw [Bool.eq_iff_iff, decide_eq_true_eq, btU_mem]
  constructor
  · rintro ⟨n, hn, _, h⟩; have : i = n := by omega
    rw [this]; exact h
  · intro h; exact ⟨i, rfl, hi, h⟩
end Go.Proofs.YtmpclgepoemneaaDoor

/-
  Fewer cries leave more squares; a book with a cry more; slices of cries.
-/
namespace Go.Proofs.YtmpclgepoemneaaDoor
open Go.Hu Go.RowKit
/-- The same bay, and no cry that is not in the other book. -/
structure Les (b b' : Bk) : Prop where
  wide : b'.wide = b.wide
  high : b'.high = b.high
  land : b'.land = b.land
  h0 : b'.h0 = b.h0
  h1 : b'.h1 = b.h1
  swim : b'.swim = b.swim
  sub : ∀ c ∈ b'.cries, c ∈ b.cries
theorem Les.sq {b b' : Bk} (h : Les b b') : _root_.Go.Proofs.YtmpclgepoemneaaDoor.sq b' = _root_.Go.Proofs.YtmpclgepoemneaaDoor.sq b := by unfold _root_.Go.Proofs.YtmpclgepoemneaaDoor.sq; rw [h.wide, h.high]
theorem Les.hd {b b' : Bk} (h : Les b b') (k : Int) : _root_.Go.Proofs.YtmpclgepoemneaaDoor.hd b' k = _root_.Go.Proofs.YtmpclgepoemneaaDoor.hd b k := by unfold _root_.Go.Proofs.YtmpclgepoemneaaDoor.hd; rw [h.h0, h.h1]
theorem Les.frb {b b' : Bk} (h : Les b b') {m x y : Int} (hf : _root_.Go.Proofs.YtmpclgepoemneaaDoor.frb b' m x y = true) : _root_.Go.Proofs.YtmpclgepoemneaaDoor.frb b m x y = true := by
  unfold _root_.Go.Proofs.YtmpclgepoemneaaDoor.frb at hf ⊢
  rw [List.any_eq_true] at hf ⊢
  obtain ⟨c, hc, hp⟩ := hf
  refine ⟨c, h.sub c hc, ?_⟩
  have e : decide (Btw b' c x y) = decide (Btw b c x y) := decide_eq_decide.2 (by simp only [Btw, h.hd])
  unfold against at hp ⊢
  rw [e] at hp
  exact hp
theorem Les.alw {b b' : Bk} (h : Les b b') {m : Int} {t : Nat} (ha : _root_.Go.Proofs.YtmpclgepoemneaaDoor.alw b m t = true) : _root_.Go.Proofs.YtmpclgepoemneaaDoor.alw b' m t = true := by
  unfold _root_.Go.Proofs.YtmpclgepoemneaaDoor.alw at ha ⊢
  simp only [Bool.and_eq_true, decide_eq_true_eq, Bool.not_eq_true'] at ha ⊢
  rw [h.sq, h.land, h.wide]
  refine ⟨ha.1, ha.2.1, ?_⟩
  cases e : _root_.Go.Proofs.YtmpclgepoemneaaDoor.frb b' m ((t : Int) % b.wide) ((t : Int) / b.wide) with
  | false => rfl
  | true => rw [h.frb e] at ha; exact absurd ha.2.2 (by simp)
theorem Les.near {b b' : Bk} (h : Les b b') {f f' : List Bool} (hf : ∀ t, f.getD t false = true → f'.getD t false = true) {x y : Int} (hn : nearXY b f x y = true) : nearXY b' f' x y = true := by
  unfold nearXY at hn ⊢
  rw [List.any_eq_true] at hn ⊢
  obtain ⟨t, ht, hp⟩ := hn
  rw [Bool.and_eq_true] at hp
  refine ⟨t, by rw [h.sq]; exact ht, ?_⟩
  rw [Bool.and_eq_true, hf t hp.1, h.wide, h.swim]
  exact ⟨rfl, hp.2⟩
theorem Les.G {b b' : Bk} (h : Les b b') (on : Bool) : ∀ (k : Nat) {t : Nat}, (_root_.Go.Proofs.YtmpclgepoemneaaDoor.G b on k).getD t false = true → (_root_.Go.Proofs.YtmpclgepoemneaaDoor.G b' on k).getD t false = true
  | 0, t, hg => by
    have ha := G_alw hg
    rw [_root_.Go.Proofs.YtmpclgepoemneaaDoor.G, row_get _ _ _ _ ha.2.1] at hg ⊢
    simp only [Bool.true_or, Bool.and_true] at hg ⊢
    exact h.alw hg
  | k + 1, t, hg => by
    have ha := G_alw hg
    rw [_root_.Go.Proofs.YtmpclgepoemneaaDoor.G, row_get _ _ _ _ ha.2.1] at hg ⊢
    simp only [Bool.false_or, Bool.and_eq_true] at hg ⊢
    refine ⟨h.alw hg.1, ?_⟩
    rw [h.wide]
    exact h.near (fun s hs => Les.G h on k hs) hg.2
theorem Les.cnd {b b' : Bk} (h : Les b b') {m : Nat} (hm : m ≤ 30) {t : Nat} (hc : _root_.Go.Proofs.YtmpclgepoemneaaDoor.cnd b m t = true) : _root_.Go.Proofs.YtmpclgepoemneaaDoor.cnd b' m t = true := by
  rw [cnd_G _ hm, Bool.and_eq_true] at hc ⊢
  exact ⟨h.G true m hc.1, h.G false _ hc.2⟩
theorem Les.can {b b' : Bk} (h : Les b b') (hc : canB b = true) : canB b' = true := by
  unfold canB at hc ⊢
  rw [fls_iff (G_len ..)] at hc ⊢
  obtain ⟨t, ht⟩ := hc
  exact ⟨t, h.G true 30 ht⟩
theorem Les.wo {b : Bk} {q q' : Nat → Bool} (h : ∀ i, q i = true → q' i = true) : Les (_root_.Go.Proofs.YtmpclgepoemneaaDoor.wo b q) (_root_.Go.Proofs.YtmpclgepoemneaaDoor.wo b q') :=
  ⟨rfl, rfl, rfl, rfl, rfl, rfl, fun c hc => by
    obtain ⟨i, h1, h2, h3⟩ := kpU_mem.1 hc
    refine kpU_mem.2 ⟨i, h1, ?_, h3⟩
    cases e : q i with
    | false => rfl
    | true => rw [h i e] at h2; cases h2⟩
theorem bt_all {N n : Nat} (h : n < N) : (2 ^ N - 1).testBit n = true := by rw [Nat.testBit_two_pow_sub_one]; exact decide_eq_true h
/-- Without all its cries a book can be true if it can without some. -/
theorem Pw_all {b : Bk} {m : List Int} (hu : Up 0 b.cries.length m) (h : Pw b m = true) : Pw b (btU (2 ^ b.cries.length - 1) b.cries.length) = true := by
  refine Les.can (Les.wo fun i hi => ?_) h
  unfold inQ at hi ⊢
  have hm := of_decide_eq_true hi
  have hlt := Up.mem hu _ hm
  exact decide_eq_true (btU_mem.2 ⟨i, rfl, by omega, bt_all (by omega)⟩)
/-- A book with a cry more. -/
def wi (b : Bk) (c : Cry) : Bk := { b with cries := b.cries ++ [c] }
theorem wi_len (b : Bk) (c : Cry) : (wi b c).cries.length = b.cries.length + 1 := by simp [wi]
theorem wi_cry {b : Bk} {c : Cry} (h : ∀ x ∈ b.cries, CryOk x) (hc : CryOk c) : ∀ x ∈ (wi b c).cries, CryOk x := mem_snoc h hc
def fitsV (b : Bk) (c : Cry) : Bool := okAll b && (decide (CryOk c) && canB (wi b c))
def fitsE (b : Bk) (c : Cry) : Int := if okAll b = true then (if CryOk c then 0 else 11) else 10
theorem cries_one (l : List Cry) : oneB (l.flatMap cyL) = true := by
  unfold oneB
  rw [List.all_eq_true]
  intro v hv
  obtain ⟨c, _, hc⟩ := List.mem_flatMap.1 hv
  simp only [cyL, List.mem_cons, List.not_mem_nil, or_false] at hc
  rcases hc with rfl | rfl | rfl | rfl | rfl | rfl | rfl <;> rfl
theorem cries_len (l : List Cry) : (l.flatMap cyL).length = l.length * 7 := by
  induction l with
  | nil => rfl
  | cons c l ih => rw [List.flatMap_cons, List.length_append, ih, List.length_cons]; simp only [List.length_cons, List.length_nil]; omega
theorem Rd.cap {w : World} {a : Option Addr} {c n s : Nat} {xs : List Value} (h : Rd w (.slice a n c) n s xs) : Rd w (.slice a n n) n s xs := by
  refine ⟨h.1, h.2.1, ?_⟩
  rcases h.2.2 with ⟨rfl, _⟩ | ⟨b, off, cap, he, hc, hcs⟩
  · exact .inl ⟨rfl, a, 0, rfl⟩
  · injection he with h1 h2 h3
    subst h1
    exact .inr ⟨b, off, n, rfl, Nat.le_refl _, hcs⟩
theorem Rd.le {w : World} {a : Option Addr} {c n s : Nat} {xs : List Value} (h : Rd w (.slice a n c) n s xs) : n ≤ c := by
  rcases h.2.2 with ⟨rfl, _⟩ | ⟨b, off, cap, he, hc, hcs⟩
  · exact Nat.zero_le _
  · injection he with h1 h2 h3; omega
theorem St.slc_le {B : Nat → Prop} {w0 w : World} {L : Nat → HP} {Ds : List Nat} (S : St B w0 w L Ds) (k : Nat) {E s n c : Nat} {a : Option Addr} {xs : List Value} (h : L k = slc E s (.slice a n c) n xs) : n ≤ c := by
  obtain ⟨_, a', c', he, hle, _⟩ := S.slc_form h
  injection he with he1 he2 he3
  rw [he3]; exact hle
/-- A book with cries in memory of one's own. -/
abbrev CrS (b : Bk) (a : Option Addr) (c : Nat) : HP := slc 46 7 (.slice a b.cries.length c) b.cries.length (b.cries.flatMap cyL)
def CrR (b : Bk) (la : Option Addr) (lc : Nat) (u : Value) (i : HP) : Prop := ∃ a c, u = .agg (bkL b la lc a c).toArray ∧ b.cries.length ≤ c ∧ i = CrS b a c
theorem CrS_wi {b : Bk} {x : Cry} {a : Option Addr} {c : Nat} : slc 46 7 (.slice a (b.cries.length + 1) c) (b.cries.length + 1) (b.cries.flatMap cyL ++ cyL x) = CrS (wi b x) a c := by
  have h := wi_len b x
  unfold CrS
  rw [h]
  congr 1
  simp [wi]
theorem bkL_wi {b : Bk} {x : Cry} {la : Option Addr} {lc : Nat} {a : Option Addr} {c : Nat} : [iv b.wide, iv b.high, .slice la b.land.length lc, iv b.h0, iv b.h1, iv b.swim, .slice a (b.cries.length + 1) c] = bkL (wi b x) la lc a c := by
  show _ = [iv b.wide, iv b.high, .slice la b.land.length lc, iv b.h0, iv b.h1, iv b.swim, .slice a (wi b x).cries.length c]
  rw [wi_len]
end Go.Proofs.YtmpclgepoemneaaDoor

/- What is asked of the program's types and functions, by the kernel. Printed by wip/tools/gen.py. -/
namespace Go.Proofs.YtmpclgepoemneaaDoor
open Go.Hu
theorem ag_101_31 : agB Tryd.prog 101 31 = true := by kernel_rfl
theorem ag_112_80 : agB Tryd.prog 112 80 = true := by kernel_rfl
theorem ag_113_2480 : agB Tryd.prog 113 2480 = true := by kernel_rfl
theorem ag_117_2 : agB Tryd.prog 117 2 = true := by kernel_rfl
theorem ag_23_2 : agB Tryd.prog 23 2 = true := by kernel_rfl
theorem ag_26_7 : agB Tryd.prog 26 7 = true := by kernel_rfl
theorem ag_44_2 : agB Tryd.prog 44 2 = true := by kernel_rfl
theorem ag_46_7 : agB Tryd.prog 46 7 = true := by kernel_rfl
theorem ag_77_8 : agB Tryd.prog 77 8 = true := by kernel_rfl
theorem ag_82_2 : agB Tryd.prog 82 2 = true := by kernel_rfl
theorem ar_101_31_22_1 : arB Tryd.prog 101 31 22 1 = true := by kernel_rfl
theorem ar_112_80_4_1 : arB Tryd.prog 112 80 4 1 = true := by kernel_rfl
theorem ar_113_31_112_80 : arB Tryd.prog 113 31 112 80 = true := by kernel_rfl
theorem ar_126_2_125_1 : arB Tryd.prog 126 2 125 1 = true := by kernel_rfl
theorem ar_23_2_3_1 : arB Tryd.prog 23 2 3 1 = true := by kernel_rfl
theorem ar_27_3_3_1 : arB Tryd.prog 27 3 3 1 = true := by kernel_rfl
theorem cf_100 : cfB Tryd.prog 100 = true := by kernel_rfl
theorem cf_101 : cfB Tryd.prog 101 = true := by kernel_rfl
theorem cf_102 : cfB Tryd.prog 102 = true := by kernel_rfl
theorem cf_103 : cfB Tryd.prog 103 = true := by kernel_rfl
theorem cf_104 : cfB Tryd.prog 104 = true := by kernel_rfl
theorem cf_105 : cfB Tryd.prog 105 = true := by kernel_rfl
theorem cf_106 : cfB Tryd.prog 106 = true := by kernel_rfl
theorem cf_107 : cfB Tryd.prog 107 = true := by kernel_rfl
theorem cf_108 : cfB Tryd.prog 108 = true := by kernel_rfl
theorem cf_109 : cfB Tryd.prog 109 = true := by kernel_rfl
theorem cf_110 : cfB Tryd.prog 110 = true := by kernel_rfl
theorem cf_111 : cfB Tryd.prog 111 = true := by kernel_rfl
theorem cf_112 : cfB Tryd.prog 112 = true := by kernel_rfl
theorem cf_113 : cfB Tryd.prog 113 = true := by kernel_rfl
theorem cf_114 : cfB Tryd.prog 114 = true := by kernel_rfl
theorem cf_115 : cfB Tryd.prog 115 = true := by kernel_rfl
theorem cf_132 : cfB Tryd.prog 132 = true := by kernel_rfl
theorem cf_133 : cfB Tryd.prog 133 = true := by kernel_rfl
theorem cf_15 : cfB Tryd.prog 15 = true := by kernel_rfl
theorem cf_16 : cfB Tryd.prog 16 = true := by kernel_rfl
theorem cf_17 : cfB Tryd.prog 17 = true := by kernel_rfl
theorem cf_18 : cfB Tryd.prog 18 = true := by kernel_rfl
theorem cf_19 : cfB Tryd.prog 19 = true := by kernel_rfl
theorem cf_20 : cfB Tryd.prog 20 = true := by kernel_rfl
theorem cf_21 : cfB Tryd.prog 21 = true := by kernel_rfl
theorem cf_22 : cfB Tryd.prog 22 = true := by kernel_rfl
theorem cf_23 : cfB Tryd.prog 23 = true := by kernel_rfl
theorem cf_24 : cfB Tryd.prog 24 = true := by kernel_rfl
theorem cf_25 : cfB Tryd.prog 25 = true := by kernel_rfl
theorem cf_26 : cfB Tryd.prog 26 = true := by kernel_rfl
theorem cf_27 : cfB Tryd.prog 27 = true := by kernel_rfl
theorem cf_28 : cfB Tryd.prog 28 = true := by kernel_rfl
theorem cf_29 : cfB Tryd.prog 29 = true := by kernel_rfl
theorem cf_30 : cfB Tryd.prog 30 = true := by kernel_rfl
theorem cf_31 : cfB Tryd.prog 31 = true := by kernel_rfl
theorem cf_32 : cfB Tryd.prog 32 = true := by kernel_rfl
theorem cf_33 : cfB Tryd.prog 33 = true := by kernel_rfl
theorem cf_34 : cfB Tryd.prog 34 = true := by kernel_rfl
theorem cf_35 : cfB Tryd.prog 35 = true := by kernel_rfl
theorem cf_36 : cfB Tryd.prog 36 = true := by kernel_rfl
theorem cf_41 : cfB Tryd.prog 41 = true := by kernel_rfl
theorem cf_44 : cfB Tryd.prog 44 = true := by kernel_rfl
theorem cf_53 : cfB Tryd.prog 53 = true := by kernel_rfl
theorem cf_54 : cfB Tryd.prog 54 = true := by kernel_rfl
theorem cf_55 : cfB Tryd.prog 55 = true := by kernel_rfl
theorem cf_56 : cfB Tryd.prog 56 = true := by kernel_rfl
theorem cf_57 : cfB Tryd.prog 57 = true := by kernel_rfl
theorem cf_58 : cfB Tryd.prog 58 = true := by kernel_rfl
theorem cf_59 : cfB Tryd.prog 59 = true := by kernel_rfl
theorem cf_61 : cfB Tryd.prog 61 = true := by kernel_rfl
theorem cf_62 : cfB Tryd.prog 62 = true := by kernel_rfl
theorem cf_63 : cfB Tryd.prog 63 = true := by kernel_rfl
theorem cf_64 : cfB Tryd.prog 64 = true := by kernel_rfl
theorem cf_65 : cfB Tryd.prog 65 = true := by kernel_rfl
theorem cf_66 : cfB Tryd.prog 66 = true := by kernel_rfl
theorem cf_67 : cfB Tryd.prog 67 = true := by kernel_rfl
theorem cf_68 : cfB Tryd.prog 68 = true := by kernel_rfl
theorem cf_69 : cfB Tryd.prog 69 = true := by kernel_rfl
theorem cf_70 : cfB Tryd.prog 70 = true := by kernel_rfl
theorem cf_71 : cfB Tryd.prog 71 = true := by kernel_rfl
theorem cf_72 : cfB Tryd.prog 72 = true := by kernel_rfl
theorem cf_73 : cfB Tryd.prog 73 = true := by kernel_rfl
theorem cf_74 : cfB Tryd.prog 74 = true := by kernel_rfl
theorem cf_75 : cfB Tryd.prog 75 = true := by kernel_rfl
theorem cf_76 : cfB Tryd.prog 76 = true := by kernel_rfl
theorem cf_77 : cfB Tryd.prog 77 = true := by kernel_rfl
theorem cf_78 : cfB Tryd.prog 78 = true := by kernel_rfl
theorem cf_79 : cfB Tryd.prog 79 = true := by kernel_rfl
theorem cf_80 : cfB Tryd.prog 80 = true := by kernel_rfl
theorem cf_81 : cfB Tryd.prog 81 = true := by kernel_rfl
theorem cf_82 : cfB Tryd.prog 82 = true := by kernel_rfl
theorem cf_83 : cfB Tryd.prog 83 = true := by kernel_rfl
theorem cf_84 : cfB Tryd.prog 84 = true := by kernel_rfl
theorem cf_85 : cfB Tryd.prog 85 = true := by kernel_rfl
theorem cf_86 : cfB Tryd.prog 86 = true := by kernel_rfl
theorem cf_87 : cfB Tryd.prog 87 = true := by kernel_rfl
theorem cf_88 : cfB Tryd.prog 88 = true := by kernel_rfl
theorem cf_89 : cfB Tryd.prog 89 = true := by kernel_rfl
theorem cf_90 : cfB Tryd.prog 90 = true := by kernel_rfl
theorem cf_91 : cfB Tryd.prog 91 = true := by kernel_rfl
theorem cf_92 : cfB Tryd.prog 92 = true := by kernel_rfl
theorem cf_95 : cfB Tryd.prog 95 = true := by kernel_rfl
theorem cf_96 : cfB Tryd.prog 96 = true := by kernel_rfl
theorem cf_97 : cfB Tryd.prog 97 = true := by kernel_rfl
theorem cf_98 : cfB Tryd.prog 98 = true := by kernel_rfl
theorem cf_99 : cfB Tryd.prog 99 = true := by kernel_rfl
theorem fo_117_0_0 : foB Tryd.prog 117 0 0 = true := by kernel_rfl
theorem fo_117_1_1 : foB Tryd.prog 117 1 1 = true := by kernel_rfl
theorem fo_26_0_0 : foB Tryd.prog 26 0 0 = true := by kernel_rfl
theorem fo_26_1_1 : foB Tryd.prog 26 1 1 = true := by kernel_rfl
theorem fo_26_2_2 : foB Tryd.prog 26 2 2 = true := by kernel_rfl
theorem fo_26_3_3 : foB Tryd.prog 26 3 3 = true := by kernel_rfl
theorem fo_26_4_5 : foB Tryd.prog 26 4 5 = true := by kernel_rfl
theorem fo_26_5_6 : foB Tryd.prog 26 5 6 = true := by kernel_rfl
theorem fo_44_0_0 : foB Tryd.prog 44 0 0 = true := by kernel_rfl
theorem fo_44_1_1 : foB Tryd.prog 44 1 1 = true := by kernel_rfl
theorem fo_46_0_0 : foB Tryd.prog 46 0 0 = true := by kernel_rfl
theorem fo_46_1_1 : foB Tryd.prog 46 1 1 = true := by kernel_rfl
theorem fo_46_2_2 : foB Tryd.prog 46 2 2 = true := by kernel_rfl
theorem fo_46_3_3 : foB Tryd.prog 46 3 3 = true := by kernel_rfl
theorem fo_46_4_5 : foB Tryd.prog 46 4 5 = true := by kernel_rfl
theorem fo_77_0_0 : foB Tryd.prog 77 0 0 = true := by kernel_rfl
theorem fo_77_1_7 : foB Tryd.prog 77 1 7 = true := by kernel_rfl
theorem fo_82_0_0 : foB Tryd.prog 82 0 0 = true := by kernel_rfl
theorem fo_82_1_1 : foB Tryd.prog 82 1 1 = true := by kernel_rfl
theorem sc_104 : scB Tryd.prog 104 = true := by kernel_rfl
theorem sc_109 : scB Tryd.prog 109 = true := by kernel_rfl
theorem sc_115 : scB Tryd.prog 115 = true := by kernel_rfl
theorem sc_121 : scB Tryd.prog 121 = true := by kernel_rfl
theorem sc_125 : scB Tryd.prog 125 = true := by kernel_rfl
theorem sc_22 : scB Tryd.prog 22 = true := by kernel_rfl
theorem sc_24 : scB Tryd.prog 24 = true := by kernel_rfl
theorem sc_3 : scB Tryd.prog 3 = true := by kernel_rfl
theorem sc_4 : scB Tryd.prog 4 = true := by kernel_rfl
theorem sc_75 : scB Tryd.prog 75 = true := by kernel_rfl
theorem sc_94 : scB Tryd.prog 94 = true := by kernel_rfl
theorem sl_110_44_2 : slB Tryd.prog 110 44 2 = true := by kernel_rfl
theorem sl_22_3_1 : slB Tryd.prog 22 3 1 = true := by kernel_rfl
theorem sl_24_46_7 : slB Tryd.prog 24 46 7 = true := by kernel_rfl
theorem sl_90_94_1 : slB Tryd.prog 90 94 1 = true := by kernel_rfl
theorem sl_94_4_1 : slB Tryd.prog 94 4 1 = true := by kernel_rfl
theorem sz_101_31 : szB Tryd.prog 101 31 = true := by kernel_rfl
theorem sz_104_1 : szB Tryd.prog 104 1 = true := by kernel_rfl
theorem sz_109_1 : szB Tryd.prog 109 1 = true := by kernel_rfl
theorem sz_112_80 : szB Tryd.prog 112 80 = true := by kernel_rfl
theorem sz_113_2480 : szB Tryd.prog 113 2480 = true := by kernel_rfl
theorem sz_117_2 : szB Tryd.prog 117 2 = true := by kernel_rfl
theorem sz_121_1 : szB Tryd.prog 121 1 = true := by kernel_rfl
theorem sz_22_1 : szB Tryd.prog 22 1 = true := by kernel_rfl
theorem sz_24_1 : szB Tryd.prog 24 1 = true := by kernel_rfl
theorem sz_26_7 : szB Tryd.prog 26 7 = true := by kernel_rfl
theorem sz_4_1 : szB Tryd.prog 4 1 = true := by kernel_rfl
theorem sz_44_2 : szB Tryd.prog 44 2 = true := by kernel_rfl
theorem sz_46_7 : szB Tryd.prog 46 7 = true := by kernel_rfl
theorem sz_77_8 : szB Tryd.prog 77 8 = true := by kernel_rfl
theorem sz_82_2 : szB Tryd.prog 82 2 = true := by kernel_rfl
theorem zs_3_1 : zsB Tryd.prog 3 1 = true := by kernel_rfl
theorem zs_4_1 : zsB Tryd.prog 4 1 = true := by kernel_rfl
theorem zs_44_2 : zsB Tryd.prog 44 2 = true := by kernel_rfl
theorem zs_46_7 : zsB Tryd.prog 46 7 = true := by kernel_rfl
theorem zs_94_1 : zsB Tryd.prog 94 1 = true := by kernel_rfl
theorem zv_44 : zvP Tryd.prog 44 (.agg [.int .i64 0, .int .i64 0].toArray) := fun _ => by kernel_rfl
theorem zv_46 : zvP Tryd.prog 46 (.agg [.int .i64 0, .int .i64 0, .int .i64 0, .int .i64 0, .int .i64 0, .int .i64 0, .int .i64 0].toArray) := fun _ => by kernel_rfl
theorem zv_82 : zvP Tryd.prog 82 (.agg [.int .i64 0, .int .i64 0].toArray) := fun _ => by kernel_rfl
theorem zv_117 : zvP Tryd.prog 117 (.agg [.int .i64 0, .nilFunc].toArray) := fun _ => by kernel_rfl
theorem zv_112 : zvP Tryd.prog 112 (.agg (List.replicate 80 (Value.bool false)).toArray) := fun _ => by kernel_rfl
theorem zv_77 : zvP Tryd.prog 77 (.agg [.int .i64 0, .int .i64 0, .slice none 0 0, .int .i64 0, .int .i64 0, .int .i64 0, .slice none 0 0, .map none].toArray) := fun _ => by kernel_rfl
theorem zv_3 : zvP Tryd.prog 3 (.int .i64 0) := fun _ => by kernel_rfl
theorem key_75 : keyB Tryd.prog 75 82 3 = true := by kernel_rfl
theorem eg_112 : Tryd.prog.eqGuardType Tryd.prog.depth 112 = false := by kernel_rfl
theorem bool_4 : Tryd.prog.underlying 4 = some .bool := by kernel_rfl
theorem zv_113 : zvP Tryd.prog 113 (.agg (List.replicate 2480 (Value.bool false)).toArray) := fun _ => by kernel_rfl
theorem zv_101 : zvP Tryd.prog 101 (.agg (List.replicate 31 (Value.slice none 0 0)).toArray) := fun _ => by kernel_rfl
theorem zv_109 : zvP Tryd.prog 109 .nilFunc := fun _ => by kernel_rfl
theorem zv_121 : zvP Tryd.prog 121 .nilFunc := fun _ => by kernel_rfl
theorem zv_4 : zvP Tryd.prog 4 (.bool false) := fun _ => by kernel_rfl
theorem zv_22 : zvP Tryd.prog 22 (.slice none 0 0) := fun _ => by kernel_rfl
theorem zv_26 : zvP Tryd.prog 26 (.agg [.int .i64 0, .int .i64 0, .slice none 0 0, .int .i64 0, .int .i64 0, .int .i64 0, .slice none 0 0].toArray) := fun _ => by kernel_rfl
theorem zv_104 : zvP Tryd.prog 104 .nilFunc := fun _ => by kernel_rfl
end Go.Proofs.YtmpclgepoemneaaDoor

/-
  The small functions, each with what it comes to.
-/
namespace Go.Proofs.YtmpclgepoemneaaDoor
set_option maxRecDepth 100000
open Go.Hu Go.RowKit

theorem within (n lo hi : Int) (w : World) : Ct Tryd.prog 62 #[iv n, iv lo, iv hi] w (fun v w' => v = .bool (decide (lo ≤ n ∧ n ≤ hi)) ∧ Ext w w') := by
  refine fn_intro (args := [iv n, iv lo, iv hi]) Tryd.func62 rfl rfl (by kernel_rfl) ?_
  have S := St.start no w
  refine W.seq (W.region S ?_)
  refine AS.cons (sp_asg rfl ?_)
  refine AS.nil ?_
  intro _ S
  refine W.seq (W.regionc S [6, 7, 8, 9, 10, 11, 12, 13, 14] 6 (lo ≤ n ∧ n ≤ hi) ?_ ?_)
  · skip
    refine AS.cons (sp_move (v := .int _ _) rfl ?_)
    refine AS.cons (sp_move (v := .int _ _) rfl ?_)
    refine AS.cons (sp_leq rfl rfl ?_)
    refine AS.cons (sp_move (v := .bool _) rfl ?_)
    refine AS.split 10 rfl (fun g10 => ?_) (fun g10 => ?_)
    · skip
      refine AS.cons (sp_move (v := .int _ _) rfl ?_)
      refine AS.cons (sp_move (v := .int _ _) rfl ?_)
      refine AS.cons (sp_leq rfl rfl ?_)
      refine AS.cons (sp_pick_t rfl (v := .bool _) rfl ?_)
      refine AS.cons (sp_asg (v := .bool _) rfl ?_)
      refine AS.nil ⟨⟨_, rfl, ?_⟩, ?_, rfl⟩
      · (try simp only [decide_eq_true_eq] at *); first | omega | (simp_all; done) | (simp_all; omega)
      · repeat (first | exact Agr.refl _ _ | exact Agr.msk _ _ _ | refine Agr.upd ?_ _ rfl | refine Agr.upds ?_ rfl | refine Agr.mskIn ?_ rfl)
    · skip
      refine AS.cons (sp_skip rfl ?_)
      refine AS.cons (sp_skip rfl ?_)
      refine AS.cons (sp_skip rfl ?_)
      refine AS.cons (sp_pick_f rfl (v := .bool _) rfl ?_)
      refine AS.cons (sp_asg (v := .bool _) rfl ?_)
      refine AS.nil ⟨⟨_, rfl, ?_⟩, ?_, rfl⟩
      · (try simp only [decide_eq_false_iff_not] at *); first | omega | (simp_all; done) | (simp_all; omega)
      · repeat (first | exact Agr.refl _ _ | exact Agr.msk _ _ _ | refine Agr.upd ?_ _ rfl | refine Agr.upds ?_ rfl | refine Agr.mskIn ?_ rfl)
  intro σ1 _ S
  refine W.ret ?_
  exact ret1 rfl rfl S fun w' S' => ⟨rfl, S'.mod⟩
theorem between (n lo hi : Int) (w : World) : Ct Tryd.prog 44 #[iv n, iv lo, iv hi] w (fun v w' => v = .bool (decide (lo ≤ n ∧ n ≤ hi)) ∧ Ext w w') := by
  refine fn_intro (args := [iv n, iv lo, iv hi]) Tryd.func44 rfl rfl (by kernel_rfl) ?_
  have S := St.start no w
  refine W.seq (W.region S ?_)
  refine AS.cons (sp_asg rfl ?_)
  refine AS.nil ?_
  intro _ S
  refine W.seq (W.regionc S [6, 7, 8, 9, 10, 11, 12, 13, 14] 6 (lo ≤ n ∧ n ≤ hi) ?_ ?_)
  · skip
    refine AS.cons (sp_move (v := .int _ _) rfl ?_)
    refine AS.cons (sp_move (v := .int _ _) rfl ?_)
    refine AS.cons (sp_geq rfl rfl ?_)
    refine AS.cons (sp_move (v := .bool _) rfl ?_)
    refine AS.split 10 rfl (fun g10 => ?_) (fun g10 => ?_)
    · skip
      refine AS.cons (sp_move (v := .int _ _) rfl ?_)
      refine AS.cons (sp_move (v := .int _ _) rfl ?_)
      refine AS.cons (sp_leq rfl rfl ?_)
      refine AS.cons (sp_pick_t rfl (v := .bool _) rfl ?_)
      refine AS.cons (sp_asg (v := .bool _) rfl ?_)
      refine AS.nil ⟨⟨_, rfl, ?_⟩, ?_, rfl⟩
      · (try simp only [decide_eq_true_eq] at *); first | omega | (simp_all; done) | (simp_all; omega)
      · repeat (first | exact Agr.refl _ _ | exact Agr.msk _ _ _ | refine Agr.upd ?_ _ rfl | refine Agr.upds ?_ rfl | refine Agr.mskIn ?_ rfl)
    · skip
      refine AS.cons (sp_skip rfl ?_)
      refine AS.cons (sp_skip rfl ?_)
      refine AS.cons (sp_skip rfl ?_)
      refine AS.cons (sp_pick_f rfl (v := .bool _) rfl ?_)
      refine AS.cons (sp_asg (v := .bool _) rfl ?_)
      refine AS.nil ⟨⟨_, rfl, ?_⟩, ?_, rfl⟩
      · (try simp only [decide_eq_false_iff_not] at *); first | omega | (simp_all; done) | (simp_all; omega)
      · repeat (first | exact Agr.refl _ _ | exact Agr.msk _ _ _ | refine Agr.upd ?_ _ rfl | refine Agr.upds ?_ rfl | refine Agr.mskIn ?_ rfl)
  intro σ1 _ S
  refine W.ret ?_
  exact ret1 rfl rfl S fun w' S' => ⟨rfl, S'.mod⟩
theorem isMinute (n : Int) (w : World) : Ct Tryd.prog 75 #[iv n] w (fun v w' => v = .bool (decide (0 ≤ n ∧ n ≤ 30)) ∧ Ext w w') := by
  refine fn_intro (args := [iv n]) Tryd.func75 rfl rfl (by kernel_rfl) ?_
  have S := St.start no w
  refine W.seq (W.region S ?_)
  refine AS.cons (sp_asg rfl ?_)
  refine AS.nil ?_
  intro _ S
  refine W.seq (W.region S ?_)
  refine AS.cons (sp_move (v := .int _ _) rfl ?_)
  refine AS.cons (sp_call [] rfl rfl cf_62 (fun F w _ S => within _ _ _ w) ?_)
  refine AS.cons (sp_asg (v := .bool _) rfl ?_)
  refine AS.nil ?_
  intro _ S
  refine W.ret ?_
  exact ret1 rfl rfl S fun w' S' => ⟨rfl, S'.mod⟩
theorem isMinuteR (n : Int) (w : World) : Ct Tryd.prog 78 #[iv n] w (fun v w' => v = .bool (decide (0 ≤ n ∧ n ≤ 30)) ∧ Ext w w') := by
  refine fn_intro (args := [iv n]) Tryd.func78 rfl rfl (by kernel_rfl) ?_
  have S := St.start no w
  refine W.seq (W.region S ?_)
  refine AS.cons (sp_asg rfl ?_)
  refine AS.nil ?_
  intro _ S
  refine W.seq (W.region S ?_)
  refine AS.cons (sp_move (v := .int _ _) rfl ?_)
  refine AS.cons (sp_call [] rfl rfl cf_44 (fun F w _ S => between _ _ _ w) ?_)
  refine AS.cons (sp_asg (v := .bool _) rfl ?_)
  refine AS.nil ?_
  intro _ S
  refine W.ret ?_
  exact ret1 rfl rfl S fun w' S' => ⟨rfl, S'.mod⟩
theorem isSeine (m n : Int) (w : World) : Ct Tryd.prog 85 #[iv m, iv n] w (fun v w' => v = .bool (decide ((1 ≤ m ∧ m ≤ 10) ∧ (1 ≤ n ∧ n ≤ 10))) ∧ Ext w w') := by
  refine fn_intro (args := [iv m, iv n]) Tryd.func85 rfl rfl (by kernel_rfl) ?_
  have S := St.start no w
  refine W.seq (W.region S ?_)
  refine AS.cons (sp_asg rfl ?_)
  refine AS.nil ?_
  intro _ S
  refine W.seq (W.regionc S [4, 5, 6, 7, 8, 9, 10] 4 ((1 ≤ m ∧ m ≤ 10) ∧ (1 ≤ n ∧ n ≤ 10)) ?_ ?_)
  · skip
    refine AS.cons (sp_move (v := .int _ _) rfl ?_)
    refine AS.cons (sp_call [] rfl rfl cf_62 (fun F w _ S => within _ _ _ w) ?_)
    refine AS.cons (sp_move (v := .bool _) rfl ?_)
    refine AS.split 7 rfl (fun g7 => ?_) (fun g7 => ?_)
    · skip
      refine AS.cons (sp_move (v := .int _ _) rfl ?_)
      refine AS.cons (sp_call [] rfl rfl cf_62 (fun F w _ S => within _ _ _ w) ?_)
      refine AS.cons (sp_pick_t rfl (v := .bool _) rfl ?_)
      refine AS.cons (sp_asg (v := .bool _) rfl ?_)
      refine AS.nil ⟨⟨_, rfl, ?_⟩, ?_, rfl⟩
      · (try simp only [decide_eq_true_eq] at *); first | omega | (simp_all; done) | (simp_all; omega)
      · repeat (first | exact Agr.refl _ _ | exact Agr.msk _ _ _ | refine Agr.upd ?_ _ rfl | refine Agr.upds ?_ rfl | refine Agr.mskIn ?_ rfl)
    · skip
      refine AS.cons (sp_skip rfl ?_)
      refine AS.cons (sp_skip rfl ?_)
      refine AS.cons (sp_pick_f rfl (v := .bool _) rfl ?_)
      refine AS.cons (sp_asg (v := .bool _) rfl ?_)
      refine AS.nil ⟨⟨_, rfl, ?_⟩, ?_, rfl⟩
      · (try simp only [decide_eq_false_iff_not] at *); first | omega | (simp_all; done) | (simp_all; omega)
      · repeat (first | exact Agr.refl _ _ | exact Agr.msk _ _ _ | refine Agr.upd ?_ _ rfl | refine Agr.upds ?_ rfl | refine Agr.mskIn ?_ rfl)
  intro σ1 _ S
  refine W.ret ?_
  exact ret1 rfl rfl S fun w' S' => ⟨rfl, S'.mod⟩
theorem onNext (n : Int) (hn : 0 ≤ n ∧ n ≤ 30) (w : World) : Ct Tryd.prog 110 #[iv n] w (fun v w' => v = iv (n + 1) ∧ Ext w w') := by
  refine fn_intro (args := [iv n]) Tryd.func110 rfl rfl (by kernel_rfl) ?_
  have S := St.start no w
  refine W.seq (W.region S ?_)
  refine AS.cons (sp_asg rfl ?_)
  refine AS.nil ?_
  intro _ S
  refine W.seq (W.region S ?_)
  refine AS.cons (sp_move (v := .int _ _) rfl ?_)
  refine AS.cons (sp_add rfl rfl (by first | omega | (simp only [decide_eq_true_eq, decide_eq_false_iff_not] at *; omega)) ?_)
  refine AS.cons (sp_asg (v := .int _ _) rfl ?_)
  refine AS.nil ?_
  intro _ S
  refine W.ret ?_
  exact ret1 rfl rfl S fun w' S' => ⟨rfl, S'.mod⟩
theorem backNext (n : Int) (hn : 0 ≤ n ∧ n ≤ 30) (w : World) : Ct Tryd.prog 113 #[iv n] w (fun v w' => v = iv (n - 1) ∧ Ext w w') := by
  refine fn_intro (args := [iv n]) Tryd.func113 rfl rfl (by kernel_rfl) ?_
  have S := St.start no w
  refine W.seq (W.region S ?_)
  refine AS.cons (sp_asg rfl ?_)
  refine AS.nil ?_
  intro _ S
  refine W.seq (W.region S ?_)
  refine AS.cons (sp_move (v := .int _ _) rfl ?_)
  refine AS.cons (sp_sub rfl rfl (by first | omega | (simp only [decide_eq_true_eq, decide_eq_false_iff_not] at *; omega)) ?_)
  refine AS.cons (sp_asg (v := .int _ _) rfl ?_)
  refine AS.nil ?_
  intro _ S
  refine W.ret ?_
  exact ret1 rfl rfl S fun w' S' => ⟨rfl, S'.mod⟩
theorem pointing (a o : Int) (w : World) : Ct Tryd.prog 100 #[.agg [iv a, iv o].toArray] w (fun v w' => v = .bool (decide (PtOk a o)) ∧ Ext w w') := by
  refine fn_intro (args := [.agg [iv a, iv o].toArray]) Tryd.func100 rfl rfl (by kernel_rfl) ?_
  have S := St.start no w
  refine W.seq (W.region S ?_)
  refine AS.cons (sp_boxa 1 rfl (fun b1 => ?_))
  refine AS.cons (sp_asg rfl ?_)
  refine AS.nil ?_
  intro _ S
  refine W.seq (W.regionc S [2, 3, 4, 5, 6, 7, 8, 9, 10] 2 (PtOk a o) ?_ ?_)
  · skip
    refine AS.cons (sp_fa rfl fo_44_0_0 ?_)
    refine AS.cons (sp_ld 1 rfl rfl sc_3 rfl ?_)
    refine AS.cons (sp_call [] rfl rfl cf_44 (fun F w _ S => between _ _ _ w) ?_)
    refine AS.cons (sp_move (v := .bool _) rfl ?_)
    refine AS.split 6 rfl (fun g6 => ?_) (fun g6 => ?_)
    · skip
      refine AS.cons (sp_fa rfl fo_44_1_1 ?_)
      refine AS.cons (sp_ld 1 rfl rfl sc_3 rfl ?_)
      refine AS.cons (sp_call [] rfl rfl cf_44 (fun F w _ S => between _ _ _ w) ?_)
      refine AS.cons (sp_pick_t rfl (v := .bool _) rfl ?_)
      refine AS.cons (sp_asg (v := .bool _) rfl ?_)
      refine AS.nil ⟨⟨_, rfl, ?_⟩, ?_, rfl⟩
      · (try simp only [decide_eq_true_eq] at *); first | omega | (simp_all; done) | (simp_all; omega)
      · repeat (first | exact Agr.refl _ _ | exact Agr.msk _ _ _ | refine Agr.upd ?_ _ rfl | refine Agr.upds ?_ rfl | refine Agr.mskIn ?_ rfl)
    · skip
      refine AS.cons (sp_skip rfl ?_)
      refine AS.cons (sp_skip rfl ?_)
      refine AS.cons (sp_skip rfl ?_)
      refine AS.cons (sp_pick_f rfl (v := .bool _) rfl ?_)
      refine AS.cons (sp_asg (v := .bool _) rfl ?_)
      refine AS.nil ⟨⟨_, rfl, ?_⟩, ?_, rfl⟩
      · (try simp only [decide_eq_false_iff_not] at *); first | omega | (simp_all; done) | (simp_all; omega)
      · repeat (first | exact Agr.refl _ _ | exact Agr.msk _ _ _ | refine Agr.upd ?_ _ rfl | refine Agr.upds ?_ rfl | refine Agr.mskIn ?_ rfl)
  intro σ1 _ S
  refine W.ret ?_
  exact ret1 rfl rfl S fun w' S' => ⟨rfl, S'.mod⟩
theorem turns (a o : Int) (w : World) : Ct Tryd.prog 48 #[.agg [iv a, iv o].toArray] w (fun v w' => v = .bool (decide (PtOk a o)) ∧ Ext w w') := by
  refine fn_intro (args := [.agg [iv a, iv o].toArray]) Tryd.func48 rfl rfl (by kernel_rfl) ?_
  have S := St.start no w
  refine W.seq (W.region S ?_)
  refine AS.cons (sp_boxa 1 rfl (fun b1 => ?_))
  refine AS.cons (sp_asg rfl ?_)
  refine AS.nil ?_
  intro _ S
  refine W.seq (W.regionc S [2, 3, 4, 5, 6, 7, 8, 9, 10] 2 (PtOk a o) ?_ ?_)
  · skip
    refine AS.cons (sp_fa rfl fo_44_0_0 ?_)
    refine AS.cons (sp_ld 1 rfl rfl sc_3 rfl ?_)
    refine AS.cons (sp_call [] rfl rfl cf_44 (fun F w _ S => between _ _ _ w) ?_)
    refine AS.cons (sp_move (v := .bool _) rfl ?_)
    refine AS.split 6 rfl (fun g6 => ?_) (fun g6 => ?_)
    · skip
      refine AS.cons (sp_fa rfl fo_44_1_1 ?_)
      refine AS.cons (sp_ld 1 rfl rfl sc_3 rfl ?_)
      refine AS.cons (sp_call [] rfl rfl cf_44 (fun F w _ S => between _ _ _ w) ?_)
      refine AS.cons (sp_pick_t rfl (v := .bool _) rfl ?_)
      refine AS.cons (sp_asg (v := .bool _) rfl ?_)
      refine AS.nil ⟨⟨_, rfl, ?_⟩, ?_, rfl⟩
      · (try simp only [decide_eq_true_eq] at *); first | omega | (simp_all; done) | (simp_all; omega)
      · repeat (first | exact Agr.refl _ _ | exact Agr.msk _ _ _ | refine Agr.upd ?_ _ rfl | refine Agr.upds ?_ rfl | refine Agr.mskIn ?_ rfl)
    · skip
      refine AS.cons (sp_skip rfl ?_)
      refine AS.cons (sp_skip rfl ?_)
      refine AS.cons (sp_skip rfl ?_)
      refine AS.cons (sp_pick_f rfl (v := .bool _) rfl ?_)
      refine AS.cons (sp_asg (v := .bool _) rfl ?_)
      refine AS.nil ⟨⟨_, rfl, ?_⟩, ?_, rfl⟩
      · (try simp only [decide_eq_false_iff_not] at *); first | omega | (simp_all; done) | (simp_all; omega)
      · repeat (first | exact Agr.refl _ _ | exact Agr.msk _ _ _ | refine Agr.upd ?_ _ rfl | refine Agr.upds ?_ rfl | refine Agr.mskIn ?_ rfl)
  intro σ1 _ S
  refine W.ret ?_
  exact ret1 rfl rfl S fun w' S' => ⟨rfl, S'.mod⟩
end Go.Proofs.YtmpclgepoemneaaDoor
