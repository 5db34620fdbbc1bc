/-
  Lemmas of this proof, several texts one behind the other; no condition beyond what each says.
-/
import Derived.Test.YtajocmkgdjcmkaaDoorProg
import Derived.Test.YtajocmkgdjcmkaaDoorMa
import Derived.Test.YtajocmkgdjcmkaaDoorMb
/-
  The data of the layer: holders, books, their cells; shares, the order of draws, the numbers by which all notes are right.
-/
namespace Go.Proofs.YtajocmkgdjcmkaaDoor
open Go.Hu Go.RowKit

abbrev iv (n : Int) : Value := .int .i64 n
structure Ho where
  bo : Int
  ne : Int
  me : Int
structure Sb where
  r0 : Int
  r1 : Int
  r2 : Int
  hs : List Ho
  m0 : Int
  m1 : Int
  s0 : Int
  s1 : Int
  dr : List Int
abbrev hoL (x : Ho) : List Value := [iv x.bo, iv x.ne, iv x.me]
abbrev sbL (b : Sb) (ha : Option Addr) (hc : Nat) (da : Option Addr) (dc : Nat) : List Value := [iv b.r0, iv b.r1, iv b.r2, .slice ha b.hs.length hc, iv b.m0, iv b.m1, iv b.s0, iv b.s1, .slice da b.dr.length dc]
/-- A slice of whole numbers; a slice of holders. -/
def Ints (w : World) (a : Option Addr) (c : Nat) (l : List Int) : Prop := Rd w (.slice a l.length c) l.length 1 (l.map iv)
def Hos (w : World) (a : Option Addr) (c : Nat) (l : List Ho) : Prop := Rd w (.slice a l.length c) l.length 3 (l.flatMap hoL)
theorem ints_at {l : List Int} {j : Nat} {x : Int} (hx : l[j]? = some x) : (l.map iv)[((j : Int)).toNat * 1 + 0]? = some (iv x) := by simp [hx]
theorem hos_at {l : List Ho} {j : Nat} {c : Ho} (hx : l[j]? = some c) : rdL (l.flatMap hoL) (((j : Int)).toNat * 3 + 0) 3 = some (hoL c) := by
  have := rdL_flat (f := hoL) (s := 3) (fun _ => rfl) hx; simpa using this
/-! ### Shares -/
def ofH (b : Sb) (x : Ho) : Int := b.r0 * x.bo + b.r1 * x.ne + b.r2 * x.me
def ofK (b : Sb) (k : Nat) : Int := match b.hs[k]? with | some x => ofH b x | none => 0
theorem ofK_at {b : Sb} {k : Nat} {x : Ho} (h : b.hs[k]? = some x) : ofK b k = ofH b x := by unfold ofK; rw [h]
/-- The shares of the first j holders. -/
def totU (b : Sb) : Nat → Int
  | 0 => 0
  | j + 1 => totU b j + ofK b j
def allN (b : Sb) : Int := totU b b.hs.length
abbrev OwnP (x : Ho) : Prop := (0 ≤ x.bo ∧ x.bo ≤ 5) ∧ (0 ≤ x.ne ∧ x.ne ≤ 5) ∧ (0 ≤ x.me ∧ x.me ≤ 5)
abbrev SpanP (lo hi last wide : Int) : Prop := (0 ≤ lo ∧ lo ≤ hi) ∧ hi ≤ last ∧ hi - lo ≤ wide
/-- A book as the chapter wants it. -/
structure Good (b : Sb) : Prop where
  n1 : 1 ≤ b.hs.length
  n6 : b.hs.length ≤ 6
  mo : SpanP b.m0 b.m1 9999 20
  se : SpanP b.s0 b.s1 9999 50
  r0 : 0 ≤ b.r0 ∧ b.r0 ≤ 9
  r1 : 0 ≤ b.r1 ∧ b.r1 ≤ 9
  r2 : 0 ≤ b.r2 ∧ b.r2 ≤ 9
  ho : ∀ x ∈ b.hs, OwnP x
  d8 : b.dr.length ≤ 8
  dn : ∀ n ∈ b.dr, -1 ≤ n ∧ n ≤ (b.hs.length : Int) - 1
  a1 : 1 ≤ allN b
  a60 : allN b ≤ 60
  da : (b.dr.length : Int) ≤ allN b
def numB (b : Sb) : Bool := decide (1 ≤ b.hs.length) && decide (b.hs.length ≤ 6) && decide (SpanP b.m0 b.m1 9999 20) && decide (SpanP b.s0 b.s1 9999 50) && decide (b.dr.length ≤ 8) && (decide (0 ≤ b.r0 ∧ b.r0 ≤ 9) && (decide (0 ≤ b.r1 ∧ b.r1 ≤ 9) && decide (0 ≤ b.r2 ∧ b.r2 ≤ 9)))
def okN (b : Sb) : Bool := numB b && b.hs.all (fun x => decide (OwnP x)) && b.dr.all (fun n => decide (-1 ≤ n ∧ n ≤ (b.hs.length : Int) - 1))
def okS (b : Sb) : Bool := okN b && (decide (1 ≤ allN b) && (decide (allN b ≤ 60) && decide ((b.dr.length : Int) ≤ allN b)))
theorem okS_good {b : Sb} : okS b = true ↔ Good b := by
  unfold okS okN numB
  simp only [Bool.and_eq_true, decide_eq_true_eq, List.all_eq_true]
  constructor
  · rintro ⟨⟨⟨⟨⟨⟨⟨⟨h1, h2⟩, h3⟩, h4⟩, h5⟩, h6, h7, h8⟩, h9⟩, h10⟩, h11, h12, h13⟩
    exact ⟨h1, h2, h3, h4, h6, h7, h8, h9, h5, h10, h11, h12, h13⟩
  · intro h
    exact ⟨⟨⟨⟨⟨⟨⟨⟨h.n1, h.n6⟩, h.mo⟩, h.se⟩, h.d8⟩, h.r0, h.r1, h.r2⟩, h.ho⟩, h.dn⟩, h.a1, h.a60, h.da⟩
theorem mul_bd {a c A C : Int} (h1 : 0 ≤ a ∧ a ≤ A) (h2 : 0 ≤ c ∧ c ≤ C) : 0 ≤ a * c ∧ a * c ≤ A * C :=
  ⟨Int.mul_nonneg h1.1 h2.1, Int.mul_le_mul h1.2 h2.2 h2.1 (Int.le_trans h1.1 h1.2)⟩
theorem ofH_bd {b : Sb} {x : Ho} (h0 : 0 ≤ b.r0 ∧ b.r0 ≤ 9) (h1 : 0 ≤ b.r1 ∧ b.r1 ≤ 9) (h2 : 0 ≤ b.r2 ∧ b.r2 ≤ 9) (hx : OwnP x) : 0 ≤ ofH b x ∧ ofH b x ≤ 135 := by
  have a := mul_bd h0 hx.1
  have c := mul_bd h1 hx.2.1
  have d := mul_bd h2 hx.2.2
  unfold ofH
  omega
theorem Good.of {b : Sb} (h : Good b) (k : Nat) : 0 ≤ ofK b k := by
  unfold ofK
  split
  · next x hx => exact (ofH_bd h.r0 h.r1 h.r2 (h.ho x (List.mem_of_getElem? hx))).1
  · exact Int.le_refl 0
theorem Good.up {b : Sb} (h : Good b) : ∀ j, 0 ≤ totU b j
  | 0 => Int.le_refl 0
  | j + 1 => by have := h.up j; have := h.of j; simp only [totU]; omega
theorem Good.mono {b : Sb} (h : Good b) : ∀ {i j : Nat}, i ≤ j → totU b i ≤ totU b j
  | i, 0, hij => by rw [Nat.le_zero.1 hij]; exact Int.le_refl _
  | i, j + 1, hij => by
    rcases Nat.lt_or_ge j i with h' | h'
    · rw [show i = j + 1 by omega]; exact Int.le_refl _
    · have := h.mono h'; have := h.of j; simp only [totU]; omega
/-! ### The order of draws -/
/-- A place for each share, in the order of holders: those of the first j. -/
def rowU (b : Sb) : Nat → List Int
  | 0 => []
  | j + 1 => rowU b j ++ List.replicate (ofK b j).toNat (j : Int)
def rowF (b : Sb) : List Int := rowU b b.hs.length
theorem rowU_len {b : Sb} (h : Good b) : ∀ j, ((rowU b j).length : Int) = totU b j
  | 0 => rfl
  | j + 1 => by
    have := rowU_len h j; have := h.of j
    simp only [rowU, totU, List.length_append, List.length_replicate]; omega
theorem rowF_len {b : Sb} (h : Good b) : ((rowF b).length : Int) = allN b := rowU_len h _
theorem rowU_mem {b : Sb} {x : Int} : ∀ {j : Nat}, x ∈ rowU b j → 0 ≤ x ∧ x < j
  | 0, h => by simp [rowU] at h
  | j + 1, h => by
    rcases List.mem_append.1 h with h | h
    · have := rowU_mem h; omega
    · have := (List.mem_replicate.1 h).2; omega
def ran (x : Int) : Int := (75 * x + 74) % 65537
def pk (r : List Int) (x : Int) : Nat := (ran x % (r.length : Int)).toNat
def dra : Nat → List Int → Int → List Int
  | 0, _, _ => []
  | n + 1, r, x => r.getD (pk r x) 0 :: dra n (r.eraseIdx (pk r x)) (ran x)
theorem pk_lt {r : List Int} {x : Int} (h : 0 < r.length) : pk r x < r.length := by
  unfold pk
  have h1 := Int.emod_nonneg (ran x) (show (r.length : Int) ≠ 0 by omega)
  have h2 := Int.emod_lt_of_pos (ran x) (show (0 : Int) < (r.length : Int) by omega)
  omega
theorem ran_bd (x : Int) : 0 ≤ ran x ∧ ran x < 65537 := ⟨Int.emod_nonneg _ (by decide), Int.emod_lt_of_pos _ (by decide)⟩
theorem dra_len : ∀ (n : Nat) (r : List Int) (x : Int), (dra n r x).length = n
  | 0, _, _ => rfl
  | n + 1, r, x => by simp only [dra, List.length_cons, dra_len n]
theorem erase_perm : ∀ {l : List Int} {i : Nat} (h : i < l.length), (l[i] :: l.eraseIdx i).Perm l
  | _ :: _, 0, _ => List.Perm.refl _
  | y :: t, i + 1, h => by
    have hi : i < t.length := by simpa using h
    have ih := erase_perm hi
    exact (List.Perm.swap y (t[i]'hi) (t.eraseIdx i)).trans (ih.cons y)
theorem dra_perm : ∀ {n : Nat} {r : List Int} (x : Int), r.length = n → (dra n r x).Perm r
  | 0, r, x, h => by rw [List.length_eq_zero_iff.1 h]; exact List.Perm.refl _
  | n + 1, r, x, h => by
    have hlt := pk_lt (r := r) (x := x) (by omega)
    have ih := dra_perm (n := n) (r := r.eraseIdx (pk r x)) (ran x) (by rw [List.length_eraseIdx_of_lt hlt]; omega)
    have e : r.getD (pk r x) 0 = r[pk r x] := by rw [List.getD_eq_getElem?_getD, List.getElem?_eq_getElem hlt]; rfl
    rw [dra, e]
    exact (ih.cons _).trans (erase_perm hlt)
def ord (b : Sb) (s : Int) : List Int := dra (rowF b).length (rowF b) s
theorem ord_len (b : Sb) (s : Int) : (ord b s).length = (rowF b).length := dra_len _ _ _
theorem ord_perm (b : Sb) (s : Int) : (ord b s).Perm (rowF b) := dra_perm s rfl
theorem ord_mem {b : Sb} {s x : Int} (h : x ∈ ord b s) : 0 ≤ x ∧ x < b.hs.length := rowU_mem ((ord_perm b s).mem_iff.1 h)
/-! ### Notes -/
def fitU (b : Sb) (but : List Int) (s : Int) (j : Nat) : Bool := (List.range j).all fun k => decide ((k : Int) ∈ but) || (decide (b.dr.getD k 0 = -1) || decide ((ord b s).getD k 0 = b.dr.getD k 0))
def fitB (b : Sb) (but : List Int) (s : Int) : Bool := fitU b but s b.dr.length
def sdU (b : Sb) (but : List Int) (n : Nat) : List Int := ((List.range n).map fun (i : Nat) => b.s0 + (i : Int)).filter (fitB b but)
def sdN (b : Sb) : Nat := (b.s1 - b.s0 + 1).toNat
def sdL (b : Sb) (but : List Int) : List Int := sdU b but (sdN b)
theorem fitU_succ (b : Sb) (but : List Int) (s : Int) (j : Nat) : fitU b but s (j + 1) = (fitU b but s j && (decide ((j : Int) ∈ but) || (decide (b.dr.getD j 0 = -1) || decide ((ord b s).getD j 0 = b.dr.getD j 0)))) := by
  unfold fitU; rw [List.range_succ, List.all_append]; simp
theorem sdU_succ (b : Sb) (but : List Int) (n : Nat) : sdU b but (n + 1) = if fitB b but (b.s0 + n) = true then sdU b but n ++ [b.s0 + (n : Int)] else sdU b but n := by
  unfold sdU; rw [List.range_succ, List.map_append, List.filter_append]
  by_cases h : fitB b but (b.s0 + n) = true
  · simp [h]
  · simp [h]
theorem sdU_len (b : Sb) (but : List Int) (n : Nat) : (sdU b but n).length ≤ n := by
  unfold sdU; refine Nat.le_trans (List.length_filter_le _ _) ?_; simp
theorem sdL_mem {b : Sb} {but : List Int} {s : Int} (h : s ∈ sdL b but) : b.s0 ≤ s ∧ s ≤ b.s1 ∧ fitB b but s = true := by
  unfold sdL sdU sdN at h
  obtain ⟨h1, h2⟩ := List.mem_filter.1 h
  obtain ⟨i, hi, rfl⟩ := List.mem_map.1 h1
  have := List.mem_range.1 hi
  exact ⟨by omega, by omega, h2⟩
/-! ### Answers -/
def chkV (b : Sb) : Int := if okS b = true then 0 else 80
def askV (b : Sb) (p : Bool) : Int := if okS b = true then (if p = true then (if sdL b [] = [] then 82 else 0) else 81) else 80
/-- What holder k is paid of some pence, by a number. -/
def cntU (l : List Int) (k : Nat) (j : Nat) : Int := (((l.take j).filter fun x => decide (x = (k : Int))).length : Int)
def payK (b : Sb) (s money : Int) (k : Nat) : Int := ofK b k * (money / allN b) + cntU (ord b s) k (money % allN b).toNat
def payL (b : Sb) (s money : Int) : List Int := (List.range b.hs.length).map (payK b s money)
end Go.Proofs.YtajocmkgdjcmkaaDoor

/-
  Lists that rise, the fewest and soonest of them, and bits; where a number stands; plain.
-/
namespace Go.Proofs.YtajocmkgdjcmkaaDoor
open Go.Hu Go.RowKit
theorem mixed : Tryd.prog.follows .mixedOrders = true := by kernel_rfl
def ix (l : List Int) (v : Int) : Int := if v ∈ l then (l.idxOf v : Int) else -1
theorem ix_nonneg (l : List Int) (v : Int) : 0 ≤ ix l v ↔ v ∈ l := by unfold ix; split <;> simp_all
theorem ix_lt (l : List Int) (v : Int) : ix l v < 0 ↔ v ∉ l := by rw [← ix_nonneg]; omega
theorem ix_at : ∀ {l : List Int} {j : Nat} {v : Int}, l[j]? = some v → (∀ i, i < j → l[i]? ≠ some v) → ix l v = j := by
  intro l j v h hn
  have hm : v ∈ l := List.mem_of_getElem? h
  unfold ix; rw [if_pos hm]
  congr 1
  induction l generalizing j with
  | nil => simp at h
  | cons x l ih =>
    cases j with
    | zero => simp at h; subst h; simp
    | succ j =>
      have hx : x ≠ v := fun e => hn 0 (by omega) (by simp [e])
      have h1 := ih (j := j) (by simpa using h) (fun i hi => by have := hn (i + 1) (by omega); simpa using this) (List.mem_of_getElem? (by simpa using h))
      have hb : (x == v) = false := by simpa using hx
      rw [List.idxOf_cons, hb]; simp [h1]
theorem ix_none {l : List Int} {v : Int} (hn : ∀ i, i < l.length → l[i]? ≠ some v) : ix l v = -1 := by
  unfold ix; rw [if_neg]; intro hm
  obtain ⟨i, hi, h⟩ := List.mem_iff_getElem.1 hm
  exact hn i hi (by rw [List.getElem?_eq_getElem hi, h])
theorem snoc_lt {p : Nat → Prop} {j : Nat} (h : ∀ i, i < j → p i) (hj : p j) : ∀ i, i < j + 1 → p i := fun i hi => by
  rcases Nat.lt_succ_iff_lt_or_eq.1 hi with h' | h'
  · exact h i h'
  · rw [h']; exact hj
theorem mem_snoc {α : Type} {p : α → Prop} {l : List α} {x : α} (h : ∀ v ∈ l, p v) (hx : p x) : ∀ v ∈ l ++ [x], p v := fun v hv => by
  rcases List.mem_append.1 hv with h' | h'
  · exact h v h'
  · rw [List.mem_singleton.1 h']; exact hx
theorem get_some {α : Type} {l : List α} {j : Nat} (h : j < l.length) : ∃ x, l[j]? = some x := ⟨_, List.getElem?_eq_getElem h⟩
def allU (p : Nat → Bool) : Nat → Bool
  | 0 => true
  | j + 1 => allU p j && p j
theorem allU_iff {p : Nat → Bool} : ∀ {j : Nat}, allU p j = true ↔ ∀ i, i < j → p i = true
  | 0 => by simp [allU]
  | j + 1 => by
    simp only [allU, Bool.and_eq_true, allU_iff (j := j)]
    refine ⟨fun ⟨h1, h2⟩ i hi => ?_, fun h => ⟨fun i hi => h i (by omega), h j (by omega)⟩⟩
    rcases Nat.lt_succ_iff_lt_or_eq.1 hi with h | h
    · exact h1 i h
    · rw [h]; exact h2
theorem allU_down {p : Nat → Bool} {j k : Nat} (hjk : j ≤ k) (h : allU p j = false) : allU p k = false := by
  cases e : allU p k with
  | false => rfl
  | true =>
    have := allU_iff.1 e
    rw [allU_iff.2 (fun i hi => this i (by omega))] at h
    cases h
def sameU (l m : List Int) (k : Nat) : Bool := decide ((l.length : Int) = (m.length : Int)) && allU (fun i => decide (l.getD i 0 = m.getD i 0)) k
theorem sameU_zero (l m : List Int) : sameU l m 0 = decide ((l.length : Int) = (m.length : Int)) := by simp [sameU, allU]
theorem sameU_len {l m : List Int} {k : Nat} (h : sameU l m k = true) : l.length = m.length := by
  unfold sameU at h
  rw [Bool.and_eq_true, decide_eq_true_eq] at h
  have := h.1
  omega
theorem sameU_succ {l m : List Int} {k : Nat} {x y : Int} (hx : l[k]? = some x) (hy : m[k]? = some y) : sameU l m (k + 1) = (sameU l m k && decide (x = y)) := by
  unfold sameU
  rw [allU, ← Bool.and_assoc]
  congr 1
  rw [List.getD_eq_getElem?_getD, List.getD_eq_getElem?_getD, hx, hy]; rfl
theorem sameU_down {l m : List Int} {j k : Nat} (hjk : j ≤ k) (h : sameU l m j = false) : sameU l m k = false := by
  unfold sameU at h ⊢
  rw [Bool.and_eq_false_iff] at h ⊢
  rcases h with h | h
  · exact .inl h
  · exact .inr (allU_down hjk h)
theorem sameU_all (l m : List Int) : sameU l m l.length = decide (l = m) := by
  rw [Bool.eq_iff_iff, decide_eq_true_eq]
  unfold sameU
  rw [Bool.and_eq_true, decide_eq_true_eq, allU_iff]
  constructor
  · rintro ⟨h1, h2⟩
    apply List.ext_getElem?
    intro i
    by_cases hi : i < l.length
    · have := of_decide_eq_true (h2 i hi)
      rw [List.getD_eq_getElem?_getD, List.getD_eq_getElem?_getD, List.getElem?_eq_getElem hi, List.getElem?_eq_getElem (show i < m.length by omega)] at this
      rw [List.getElem?_eq_getElem hi, List.getElem?_eq_getElem (show i < m.length by omega)]
      exact congrArg some this
    · rw [List.getElem?_eq_none (by omega), List.getElem?_eq_none (by omega)]
  · rintro rfl; exact ⟨rfl, fun i _ => decide_eq_true rfl⟩
/-! ### Lists that rise -/
def Up : Int → Nat → List Int → Prop
  | _, _, [] => True
  | lo, N, x :: t => lo ≤ x ∧ x < N ∧ Up (x + 1) N t
def lst (s : List Int) : Int := match s.getLast? with | none => 0 | some x => x + 1
theorem lst_nil : lst [] = 0 := rfl
theorem lst_snoc (s : List Int) (x : Int) : lst (s ++ [x]) = x + 1 := by unfold lst; simp
theorem Up.mono {N : Nat} : ∀ {t : List Int} {lo lo' : Int}, lo' ≤ lo → Up lo N t → Up lo' N t
  | [], _, _, _, _ => trivial
  | x :: t, lo, lo', h, ⟨h1, h2, h3⟩ => ⟨by omega, h2, h3⟩
theorem Up.mem {N : Nat} : ∀ {t : List Int} {lo : Int}, Up lo N t → ∀ x ∈ t, lo ≤ x ∧ x < N
  | [], _, _, x, hx => by cases hx
  | y :: t, lo, ⟨h1, h2, h3⟩, x, hx => by
    rcases List.mem_cons.1 hx with rfl | hx
    · exact ⟨h1, h2⟩
    · have := Up.mem h3 x hx; exact ⟨by omega, this.2⟩
theorem Up.len {N : Nat} : ∀ {t : List Int} {lo : Int}, 0 ≤ lo → lo ≤ N → Up lo N t → (t.length : Int) + lo ≤ N
  | [], _, _, h0, _ => by simpa using h0
  | x :: t, lo, h, _, ⟨h1, h2, h3⟩ => by have := Up.len (by omega) (by omega) h3; simp only [List.length_cons]; omega
theorem Up.snoc {N : Nat} {x : Int} : ∀ {t : List Int} {lo : Int}, Up lo N t → (∀ y ∈ t, y < x) → lo ≤ x → x < N → Up lo N (t ++ [x])
  | [], lo, _, _, h1, h2 => ⟨h1, h2, trivial⟩
  | y :: t, lo, ⟨h1, h2, h3⟩, hy, h4, h5 => ⟨h1, h2, Up.snoc h3 (fun z hz => hy z (by simp [hz])) (by have := hy y (by simp); omega) h5⟩
/-- A list is less than another one. -/
def ltL : List Int → List Int → Bool
  | _, [] => false
  | [], _ :: _ => true
  | x :: l, y :: m => decide (x < y) || (decide (x = y) && ltL l m)
def fewL (l m : List Int) : Bool := decide (l.length < m.length) || (decide (l.length = m.length) && ltL l m)
theorem ltL_irr : ∀ l : List Int, ltL l l = false
  | [] => rfl
  | x :: l => by simp [ltL, ltL_irr l]
theorem ltL_trans : ∀ {l m k : List Int}, ltL l m = true → ltL m k = true → ltL l k = true
  | _, _, [], _, h => by rename_i m _; cases m <;> simp [ltL] at h
  | _, [], _ :: _, h, _ => by rename_i l _ _; cases l <;> simp [ltL] at h
  | [], _ :: _, _ :: _, _, _ => rfl
  | x :: l, y :: m, z :: k, h1, h2 => by
    simp only [ltL, Bool.or_eq_true, Bool.and_eq_true, decide_eq_true_eq] at h1 h2 ⊢
    rcases h1 with h1 | ⟨rfl, h1⟩ <;> rcases h2 with h2 | ⟨rfl, h2⟩
    · exact .inl (by omega)
    · exact .inl h1
    · exact .inl h2
    · exact .inr ⟨rfl, ltL_trans h1 h2⟩
theorem ltL_tri : ∀ {l m : List Int}, l.length = m.length → ltL l m = false → ltL m l = false → l = m
  | [], [], _, _, _ => rfl
  | [], _ :: _, h, _, _ => by simp at h
  | _ :: _, [], h, _, _ => by simp at h
  | x :: l, y :: m, h, h1, h2 => by
    simp only [ltL, Bool.or_eq_false_iff, Bool.and_eq_false_iff, decide_eq_false_iff_not] at h1 h2
    have e : x = y := by omega
    subst e
    rw [ltL_tri (l := l) (m := m) (by simpa using h) (h1.2.resolve_left (fun hn => hn rfl)) (h2.2.resolve_left (fun hn => hn rfl))]
theorem fewL_trans {l m k : List Int} (h1 : fewL l m = true) (h2 : fewL m k = true) : fewL l k = true := by
  simp only [fewL, Bool.or_eq_true, Bool.and_eq_true, decide_eq_true_eq] at h1 h2 ⊢
  rcases h1 with h1 | ⟨e1, h1⟩ <;> rcases h2 with h2 | ⟨e2, h2⟩
  · exact .inl (by omega)
  · exact .inl (by omega)
  · exact .inl (by omega)
  · exact .inr ⟨by omega, ltL_trans h1 h2⟩
theorem fewL_tri {l m : List Int} (h1 : fewL l m = false) (h2 : fewL m l = false) : l = m := by
  simp only [fewL, Bool.or_eq_false_iff, Bool.and_eq_false_iff, decide_eq_false_iff_not] at h1 h2
  have e : l.length = m.length := by omega
  exact ltL_tri e (h1.2.resolve_left (fun hn => hn e)) (h2.2.resolve_left (fun hn => hn e.symm))
/-- The best of all lists that rise. -/
structure Best (N : Nat) (P : List Int → Bool) (l : List Int) : Prop where
  up : Up 0 N l
  ok : P l = true
  no : ∀ m, Up 0 N m → fewL m l = true → P m = false
theorem Best.uniq {N : Nat} {P : List Int → Bool} {l m : List Int} (h : Best N P l) (k : Best N P m) : l = m := by
  refine fewL_tri ?_ ?_
  · cases e : fewL l m with
    | false => rfl
    | true => have := k.no l h.up e; rw [h.ok] at this; cases this
  · cases e : fewL m l with
    | false => rfl
    | true => have := h.no m k.up e; rw [k.ok] at this; cases this

/-! ### In the order of the program -/
def fsU {α : Type} (f : Nat → Option α) : Nat → Option α
  | 0 => none
  | n + 1 => match fsU f n with | some x => some x | none => f n
theorem fsU_none {α : Type} {f : Nat → Option α} : ∀ {n : Nat}, fsU f n = none ↔ ∀ i, i < n → f i = none
  | 0 => by simp [fsU]
  | n + 1 => by
    unfold fsU
    cases e : fsU f n with
    | some x =>
      simp only [reduceCtorEq, false_iff]
      intro h
      rw [fsU_none.2 fun i hi => h i (by omega)] at e; cases e
    | none =>
      have h1 := fsU_none.1 e
      refine ⟨fun h i hi => ?_, fun h => h n (by omega)⟩
      rcases Nat.lt_succ_iff_lt_or_eq.1 hi with h' | rfl
      · exact h1 i h'
      · exact h
theorem fsU_at {α : Type} {f : Nat → Option α} {x : α} {j : Nat} (h : ∀ i, i < j → f i = none) (hj : f j = some x) : ∀ {n : Nat}, j < n → fsU f n = some x
  | 0, hn => by omega
  | n + 1, hn => by
    unfold fsU
    by_cases e : j = n
    · subst e; rw [fsU_none.2 h]; exact hj
    · rw [fsU_at h hj (n := n) (by omega)]
theorem fsU_some {α : Type} {f : Nat → Option α} {x : α} : ∀ {n : Nat}, fsU f n = some x → ∃ j, j < n ∧ f j = some x ∧ ∀ i, i < j → f i = none
  | 0, h => by simp [fsU] at h
  | n + 1, h => by
    unfold fsU at h
    cases e : fsU f n with
    | some y =>
      rw [e] at h
      obtain ⟨j, h1, h2, h3⟩ := fsU_some (n := n) (e.trans h)
      exact ⟨j, by omega, h2, h3⟩
    | none => rw [e] at h; exact ⟨n, by omega, h, fsU_none.1 e⟩
def chL (N : Nat) (P : List Int → Bool) : Nat → List Int → Option (List Int)
  | 0, s => if P s = true then some s else none
  | r + 1, s => fsU (fun k => if lst s ≤ (k : Int) then chL N P r (s ++ [(k : Int)]) else none) N
theorem chL_none {N : Nat} {P : List Int → Bool} : ∀ {r : Nat} {s : List Int}, 0 ≤ lst s → (chL N P r s = none ↔ ∀ t, t.length = r → Up (lst s) N t → P (s ++ t) = false)
  | 0, s, _ => by
    simp only [chL]
    constructor
    · intro h t ht _
      have : t = [] := List.eq_nil_of_length_eq_zero ht
      subst this
      rw [List.append_nil]
      cases e : P s with
      | false => rfl
      | true => rw [e] at h; simp at h
    · intro h
      have := h [] rfl trivial
      rw [List.append_nil] at this
      rw [this]; rfl
  | r + 1, s, h0 => by
    simp only [chL]
    rw [fsU_none]
    constructor
    · intro h t ht hu
      cases t with
      | nil => simp at ht
      | cons x t =>
        obtain ⟨h1, h2, h3⟩ := hu
        have hk := h x.toNat (by omega)
        have ex : ((x.toNat : Nat) : Int) = x := Int.toNat_of_nonneg (by omega)
        rw [ex, if_pos h1] at hk
        have := (chL_none (r := r) (s := s ++ [x]) (by rw [lst_snoc]; omega)).1 hk t (by simpa using ht) (by rw [lst_snoc]; exact h3)
        simpa using this
    · intro h k hk
      split
      · next hl =>
        refine (chL_none (by rw [lst_snoc]; omega)).2 fun t ht hu => ?_
        rw [lst_snoc] at hu
        have := h ((k : Int) :: t) (by simp [ht]) ⟨hl, by omega, hu⟩
        simpa using this
      · rfl
theorem chL_some {N : Nat} {P : List Int → Bool} : ∀ {r : Nat} {s l : List Int}, 0 ≤ lst s → chL N P r s = some l → ∃ t, l = s ++ t ∧ t.length = r ∧ Up (lst s) N t ∧ P l = true ∧ ∀ t', t'.length = r → Up (lst s) N t' → ltL t' t = true → P (s ++ t') = false
  | 0, s, l, _, h => by
    simp only [chL] at h
    split at h
    · next hp =>
      cases h
      refine ⟨[], by simp, rfl, trivial, hp, fun t' ht' _ hl => ?_⟩
      have : t' = [] := List.eq_nil_of_length_eq_zero ht'
      subst this; simp [ltL] at hl
    · cases h
  | r + 1, s, l, h0, h => by
    simp only [chL] at h
    obtain ⟨k, hk, hf, hn⟩ := fsU_some h
    split at hf
    · next hl =>
      obtain ⟨t, rfl, ht, hu, hp, hmin⟩ := chL_some (r := r) (s := s ++ [(k : Int)]) (by rw [lst_snoc]; omega) hf
      rw [lst_snoc] at hu hmin
      refine ⟨(k : Int) :: t, by simp, by simp [ht], ⟨hl, by omega, hu⟩, hp, fun t' ht' hu' hlt => ?_⟩
      cases t' with
      | nil => simp at ht'
      | cons x t' =>
        obtain ⟨h1, h2, h3⟩ := hu'
        simp only [ltL, Bool.or_eq_true, Bool.and_eq_true, decide_eq_true_eq] at hlt
        rcases hlt with hlt | ⟨rfl, hlt⟩
        · have hx := hn x.toNat (by omega)
          have ex : ((x.toNat : Nat) : Int) = x := Int.toNat_of_nonneg (by omega)
          rw [ex, if_pos h1] at hx
          have := (chL_none (by rw [lst_snoc]; omega)).1 hx t' (by simpa using ht') (by rw [lst_snoc]; exact h3)
          simpa using this
        · have := hmin t' (by simpa using ht') h3 hlt
          simpa using this
    · cases hf
/-- The program's answer: the first of the fewest. -/
def wrO (N : Nat) (P : List Int → Bool) : Option (List Int) := fsU (fun m => chL N P m []) (N + 1)
theorem wrO_some {N : Nat} {P : List Int → Bool} {l : List Int} (h : wrO N P = some l) : Best N P l := by
  obtain ⟨r, hr, hf, hn⟩ := fsU_some h
  obtain ⟨t, rfl, ht, hu, hp, hmin⟩ := chL_some (s := []) (Int.le_refl 0) hf
  refine ⟨hu, hp, fun m hm hl => ?_⟩
  simp only [fewL, Bool.or_eq_true, Bool.and_eq_true, decide_eq_true_eq] at hl
  rcases hl with hl | ⟨he, hl⟩
  · have := (chL_none (s := []) (Int.le_refl 0)).1 (hn m.length (by omega)) m rfl hm
    simpa using this
  · have := hmin m (by omega) hm hl
    simpa using this
theorem wrO_none {N : Nat} {P : List Int → Bool} (h : wrO N P = none) {m : List Int} (hm : Up 0 N m) : P m = false := by
  have hl := Up.len (Int.le_refl 0) (by omega) hm
  have := (chL_none (s := []) (Int.le_refl 0)).1 (fsU_none.1 h m.length (by omega)) m rfl hm
  simpa using this
theorem wrO_best {N : Nat} {P : List Int → Bool} {l : List Int} (h : Best N P l) : wrO N P = some l := by
  cases e : wrO N P with
  | none => have := wrO_none e h.up; rw [h.ok] at this; cases this
  | some m => rw [(wrO_some e).uniq h]

/-! ### In the order of the other side: all sets -/
def btU (s N : Nat) : List Int := ((List.range N).filter fun n => s.testBit n).map fun (n : Nat) => (n : Int)
theorem btU_succ (s N : Nat) : btU s (N + 1) = if s.testBit N = true then btU s N ++ [(N : Int)] else btU s N := by
  unfold btU
  rw [List.range_succ, List.filter_append]
  cases h : s.testBit N <;> simp [h]
theorem btU_mem {s N : Nat} {x : Int} : x ∈ btU s N ↔ ∃ n : Nat, x = n ∧ n < N ∧ s.testBit n = true := by
  unfold btU
  rw [List.mem_map]
  constructor
  · rintro ⟨n, hn, rfl⟩; rw [List.mem_filter, List.mem_range] at hn; exact ⟨n, rfl, hn⟩
  · rintro ⟨n, rfl, hn⟩; exact ⟨n, by rw [List.mem_filter, List.mem_range]; exact hn, rfl⟩
theorem btU_up (s : Nat) : ∀ {M N : Nat}, M ≤ N → Up 0 N (btU s M)
  | 0, _, _ => trivial
  | M + 1, N, h => by
    rw [btU_succ]
    split
    · refine Up.snoc (btU_up s (by omega)) (fun y hy => ?_) (by omega) (by omega)
      obtain ⟨n, rfl, hn, _⟩ := btU_mem.1 hy
      omega
    · exact btU_up s (by omega)
theorem btU_len (s N : Nat) : (btU s N).length ≤ N := by
  unfold btU; rw [List.length_map]; exact Nat.le_trans (List.length_filter_le _ _) (by simp)
theorem Up.range {N : Nat} : ∀ {K : Nat} {lo : Nat} {m : List Int}, N = lo + K → Up lo N m → m = ((List.range' lo K).filter fun (n : Nat) => decide ((n : Int) ∈ m)).map fun (n : Nat) => (n : Int)
  | 0, lo, m, hN, hu => by
    cases m with
    | nil => rfl
    | cons x t => obtain ⟨h1, h2, _⟩ := hu; omega
  | K + 1, lo, m, hN, hu => by
    rw [List.range'_succ]
    cases m with
    | nil => simp
    | cons x t =>
      obtain ⟨h1, h2, h3⟩ := hu
      by_cases he : x = lo
      · subst he
        have hr := Up.range (N := N) (K := K) (lo := lo + 1) (m := t) (by omega) (by simpa using h3)
        rw [List.filter_cons_of_pos (by simp), List.map_cons]
        congr 1
        refine hr.trans ?_
        congr 1
        refine List.filter_congr fun n hn => ?_
        rw [List.mem_range'_1] at hn
        have : ¬ ((n : Int) = lo) := by omega
        simp [this]
      · have hlo : ¬ ((lo : Nat) : Int) ∈ x :: t := by
          intro hm
          rcases List.mem_cons.1 hm with h | h
          · exact he h.symm
          · have := Up.mem h3 _ h; omega
        rw [List.filter_cons_of_neg (by simpa using hlo)]
        exact Up.range (N := N) (K := K) (lo := lo + 1) (m := x :: t) (by omega) ⟨by omega, h2, h3⟩
def stU : List Int → Nat
  | [] => 0
  | x :: l => stU l ||| 2 ^ x.toNat
theorem stU_bit {l : List Int} (h : ∀ x ∈ l, 0 ≤ x) (n : Nat) : (stU l).testBit n = decide ((n : Int) ∈ l) := by
  induction l with
  | nil => simp [stU]
  | cons x l ih =>
    have hx := h x (by simp)
    have e : decide (x.toNat = n) = decide ((n : Int) = x) := decide_eq_decide.2 (by omega)
    rw [stU, Nat.testBit_or, ih (fun y hy => h y (by simp [hy])), Nat.testBit_two_pow, e]
    simp only [List.mem_cons, Bool.decide_or]
    exact Bool.or_comm _ _
theorem stU_lt {N : Nat} {l : List Int} (h : ∀ x ∈ l, 0 ≤ x ∧ x < N) : stU l < 2 ^ N := by
  induction l with
  | nil => exact Nat.two_pow_pos N
  | cons x l ih =>
    have hx := h x (by simp)
    exact Nat.or_lt_two_pow (ih fun y hy => h y (by simp [hy])) (Nat.pow_lt_pow_right (by omega) (by omega))
theorem btU_st {N : Nat} {m : List Int} (h : Up 0 N m) : btU (stU m) N = m := by
  have h0 := Up.mem h
  refine Eq.trans ?_ (Up.range (N := N) (K := N) (lo := 0) (by omega) (by simpa using h)).symm
  unfold btU
  rw [List.range_eq_range']
  congr 1
  exact List.filter_congr fun n _ => stU_bit (fun x hx => (h0 x hx).1) n
def rfU (N : Nat) (P : List Int → Bool) : Nat → List Int
  | 0 => btU (2 ^ N - 1) N
  | j + 1 => if fewL (btU j N) (rfU N P j) = true ∧ P (btU j N) = true then btU j N else rfU N P j
theorem rfU_best {N : Nat} {P : List Int → Bool} (hall : P (btU (2 ^ N - 1) N) = true) : ∀ j, Up 0 N (rfU N P j) ∧ P (rfU N P j) = true ∧ ∀ s, s < j → fewL (btU s N) (rfU N P j) = true → P (btU s N) = false
  | 0 => ⟨btU_up _ (Nat.le_refl _), hall, fun _ h => by omega⟩
  | j + 1 => by
    obtain ⟨h1, h2, h3⟩ := rfU_best hall j
    unfold rfU
    split
    · next h =>
      refine ⟨btU_up _ (Nat.le_refl _), h.2, fun s hs hl => ?_⟩
      rcases Nat.lt_succ_iff_lt_or_eq.1 hs with h' | rfl
      · exact h3 s h' (fewL_trans hl h.1)
      · simp [fewL, ltL_irr] at hl
    · next h =>
      refine ⟨h1, h2, fun s hs hl => ?_⟩
      rcases Nat.lt_succ_iff_lt_or_eq.1 hs with h' | rfl
      · exact h3 s h' hl
      · cases e : P (btU s N) with
        | false => rfl
        | true => exact absurd ⟨hl, e⟩ h
/-- Both orders come to the same. -/
theorem rfU_wrO {N : Nat} {P : List Int → Bool} (hall : P (btU (2 ^ N - 1) N) = true) : wrO N P = some (rfU N P (2 ^ N)) := by
  obtain ⟨h1, h2, h3⟩ := rfU_best hall (2 ^ N)
  refine wrO_best ⟨h1, h2, fun m hm hl => ?_⟩
  have hlt := stU_lt (N := N) (l := m) fun x hx => (Up.mem hm x hx)
  have e := btU_st hm
  rw [← e] at hl ⊢
  exact h3 _ hlt hl
theorem wrO_all {N : Nat} {P : List Int → Bool} (hall : P (btU (2 ^ N - 1) N) = false) (hmono : ∀ m, Up 0 N m → P m = true → P (btU (2 ^ N - 1) N) = true) : wrO N P = none := by
  cases e : wrO N P with
  | none => rfl
  | some l => have h := wrO_some e; rw [hmono l h.up h.ok] at hall; cases hall
end Go.Proofs.YtajocmkgdjcmkaaDoor

/-
  The order of draws, step by step.
-/
namespace Go.Proofs.YtajocmkgdjcmkaaDoor
open Go.Hu Go.RowKit
/-- A drawing under way: what was drawn, then what is left, comes to the order. -/
def Run (b : Sb) (s : Int) (row : List Int) (x : Int) (out : List Int) : Prop := out ++ dra row.length row x = ord b s
theorem Run.start (b : Sb) (s : Int) : Run b s (rowF b) s [] := rfl
theorem Run.done {b : Sb} {s x : Int} {row out : List Int} (h : Run b s row x out) (h0 : row.length = 0) : out = ord b s := by
  unfold Run at h; rw [h0] at h; simpa [dra] using h
theorem Run.step {b : Sb} {s x : Int} {row out : List Int} (h : Run b s row x out) (h0 : 0 < row.length) : Run b s (row.eraseIdx (pk row x)) (ran x) (out ++ [row.getD (pk row x) 0]) := by
  unfold Run at h ⊢
  have hl : (row.eraseIdx (pk row x)).length = row.length - 1 := List.length_eraseIdx_of_lt (pk_lt h0)
  obtain ⟨n, hn⟩ : ∃ n, row.length = n + 1 := ⟨row.length - 1, by omega⟩
  rw [hl, hn, Nat.add_sub_cancel, List.append_assoc, List.singleton_append]
  rw [hn, dra] at h
  exact h
theorem erase_eq (l : List Int) (k : Nat) : l.eraseIdx k = l.take k ++ l.drop (k + 1) := List.eraseIdx_eq_take_drop_succ l k
theorem St.slc_le {B : Nat → Prop} {w0 w : World} {L : Nat → HP} {Ds : List Nat} (S : St B w0 w L Ds) (k : Nat) {E s n c : Nat} {a : Option Addr} {xs : List Value} (h : L k = slc E s (.slice a n c) n xs) : n ≤ c := by
  obtain ⟨_, a', c', he, hle, _⟩ := S.slc_form h
  injection he with he1 he2 he3
  rw [he3]; exact hle
end Go.Proofs.YtajocmkgdjcmkaaDoor

/-
  Least and greatest values, first least places, and what is answered of a book.
-/
namespace Go.Proofs.YtajocmkgdjcmkaaDoor
open Go.Hu Go.RowKit
/-! ### Folds by places -/
def fldU (op : Int → Int → Int) (f : Nat → Int) (a : Int) : Nat → Int
  | 0 => a
  | j + 1 => op (fldU op f a j) (f j)
def fldS (op : Int → Int → Int) (F : Int → Nat → Int) (n : Nat) (a : Int) (l : List Int) : Int := l.foldl (fun a s => fldU op (F s) a n) a
theorem take_at {α : Type} {l : List α} {i : Nat} {x : α} (h : l[i]? = some x) : l.take (i + 1) = l.take i ++ [x] := by
  rw [List.take_add_one, h]; rfl
theorem fldS_at {op : Int → Int → Int} {F : Int → Nat → Int} {n : Nat} {a : Int} {l : List Int} {i : Nat} {s : Int} (h : l[i]? = some s) : fldS op F n a (l.take (i + 1)) = fldU op (F s) (fldS op F n a (l.take i)) n := by
  unfold fldS; rw [take_at h, List.foldl_append]; rfl
theorem fldU_min {f : Nat → Int} {a x : Int} : ∀ {n : Nat}, x ≤ fldU min f a n ↔ x ≤ a ∧ ∀ j, j < n → x ≤ f j
  | 0 => by simp [fldU]
  | n + 1 => by
    simp only [fldU, Int.le_min, fldU_min (n := n)]
    constructor
    · rintro ⟨⟨h1, h2⟩, h3⟩
      exact ⟨h1, fun j hj => by
        rcases Nat.lt_or_eq_of_le (Nat.le_of_lt_succ hj) with h | rfl
        · exact h2 j h
        · exact h3⟩
    · rintro ⟨h1, h2⟩
      exact ⟨⟨h1, fun j hj => h2 j (by omega)⟩, h2 n (by omega)⟩
theorem fldU_max {f : Nat → Int} {a x : Int} : ∀ {n : Nat}, fldU max f a n ≤ x ↔ a ≤ x ∧ ∀ j, j < n → f j ≤ x
  | 0 => by simp [fldU]
  | n + 1 => by
    simp only [fldU, Int.max_le, fldU_max (n := n)]
    constructor
    · rintro ⟨⟨h1, h2⟩, h3⟩
      exact ⟨h1, fun j hj => by
        rcases Nat.lt_or_eq_of_le (Nat.le_of_lt_succ hj) with h | rfl
        · exact h2 j h
        · exact h3⟩
    · rintro ⟨h1, h2⟩
      exact ⟨⟨h1, fun j hj => h2 j (by omega)⟩, h2 n (by omega)⟩
theorem fldS_min {F : Int → Nat → Int} {n : Nat} {x : Int} : ∀ {l : List Int} {a : Int}, x ≤ fldS min F n a l ↔ x ≤ a ∧ ∀ s ∈ l, ∀ j, j < n → x ≤ F s j
  | [], a => by simp [fldS]
  | s :: l, a => by
    have e : fldS min F n a (s :: l) = fldS min F n (fldU min (F s) a n) l := rfl
    rw [e, fldS_min (l := l), fldU_min]
    simp only [List.mem_cons, forall_eq_or_imp]
    constructor
    · rintro ⟨⟨h1, h2⟩, h3⟩; exact ⟨h1, h2, h3⟩
    · rintro ⟨h1, h2, h3⟩; exact ⟨⟨h1, h2⟩, h3⟩
theorem fldS_max {F : Int → Nat → Int} {n : Nat} {x : Int} : ∀ {l : List Int} {a : Int}, fldS max F n a l ≤ x ↔ a ≤ x ∧ ∀ s ∈ l, ∀ j, j < n → F s j ≤ x
  | [], a => by simp [fldS]
  | s :: l, a => by
    have e : fldS max F n a (s :: l) = fldS max F n (fldU max (F s) a n) l := rfl
    rw [e, fldS_max (l := l), fldU_max]
    simp only [List.mem_cons, forall_eq_or_imp]
    constructor
    · rintro ⟨⟨h1, h2⟩, h3⟩; exact ⟨h1, h2, h3⟩
    · rintro ⟨h1, h2, h3⟩; exact ⟨⟨h1, h2⟩, h3⟩
/-- Whatever value among them one begins with. -/
theorem fldS_minE {F : Int → Nat → Int} {n : Nat} {l : List Int} {a v : Int} {s : Int} {j : Nat} (hs : s ∈ l) (hj : j < n) (hv : F s j = v) (ha : ∀ s ∈ l, ∀ j, j < n → F s j ≤ a) : fldS min F n v l = fldS min F n a l := by
  refine Int.le_antisymm (fldS_min.2 ?_) (fldS_min.2 ?_)
  · have h := fldS_min.1 (Int.le_refl (fldS min F n v l))
    exact ⟨Int.le_trans (h.2 s hs j hj) (ha s hs j hj), h.2⟩
  · have h := fldS_min.1 (Int.le_refl (fldS min F n a l))
    exact ⟨by rw [← hv]; exact h.2 s hs j hj, h.2⟩
theorem fldS_maxE {F : Int → Nat → Int} {n : Nat} {l : List Int} {a v : Int} {s : Int} {j : Nat} (hs : s ∈ l) (hj : j < n) (hv : F s j = v) (ha : ∀ s ∈ l, ∀ j, j < n → a ≤ F s j) : fldS max F n v l = fldS max F n a l := by
  refine Int.le_antisymm (fldS_max.2 ?_) (fldS_max.2 ?_)
  · have h := fldS_max.1 (Int.le_refl (fldS max F n a l))
    exact ⟨by rw [← hv]; exact h.2 s hs j hj, h.2⟩
  · have h := fldS_max.1 (Int.le_refl (fldS max F n v l))
    exact ⟨Int.le_trans (ha s hs j hj) (h.2 s hs j hj), h.2⟩
/-- The first place of the least value. -/
def amU (f : Nat → Int) : Nat → Nat
  | 0 => 0
  | n + 1 => if f n < f (amU f n) then n else amU f n
theorem amU_lt {f : Nat → Int} : ∀ {n : Nat}, 0 < n → amU f n < n
  | 0, h => absurd h (Nat.lt_irrefl 0)
  | n + 1, _ => by
    unfold amU; split
    · omega
    · rcases Nat.eq_zero_or_pos n with rfl | h
      · simp [amU]
      · have := amU_lt (f := f) h; omega
theorem amU_le {f : Nat → Int} : ∀ {n j : Nat}, j < n → f (amU f n) ≤ f j ∧ (f j = f (amU f n) → amU f n ≤ j)
  | 0, j, h => absurd h (Nat.not_lt_zero _)
  | n + 1, j, h => by
    have ih := fun (j : Nat) (h : j < n) => amU_le (f := f) h
    unfold amU; split
    · next hlt =>
      rcases Nat.lt_or_eq_of_le (Nat.le_of_lt_succ h) with h' | rfl
      · have := ih j h'; exact ⟨by omega, fun e => by omega⟩
      · exact ⟨Int.le_refl _, fun _ => Nat.le_refl _⟩
    · next hlt =>
      rcases Nat.lt_or_eq_of_le (Nat.le_of_lt_succ h) with h' | rfl
      · exact ih j h'
      · refine ⟨by omega, fun e => ?_⟩
        rcases Nat.eq_zero_or_pos j with rfl | hp
        · simp [amU]
        · have := amU_lt (f := f) hp; omega
/-! ### Shares as they are paid -/
theorem cntU_succ {l : List Int} {k j : Nat} {y : Int} (h : l[j]? = some y) : cntU l k (j + 1) = cntU l k j + (if y = (k : Int) then 1 else 0) := by
  unfold cntU; rw [take_at h, List.filter_append, List.length_append, Int.natCast_add]
  by_cases e : y = (k : Int) <;> simp [e]
theorem cntU_nonneg (l : List Int) (k j : Nat) : 0 ≤ cntU l k j := Int.natCast_nonneg _
theorem cntU_le (l : List Int) (k j : Nat) : cntU l k j ≤ j := by
  unfold cntU
  have h1 := List.length_filter_le (fun x => decide (x = (k : Int))) (l.take j)
  have h2 := List.length_take_le j l
  omega
theorem rowU_cnt {b : Sb} (k : Nat) : ∀ j, (((rowU b j).filter fun x => decide (x = (k : Int))).length : Int) = if k < j then ((ofK b k).toNat : Int) else 0
  | 0 => by simp [rowU]
  | j + 1 => by
    rw [rowU, List.filter_append, List.length_append, Int.natCast_add, rowU_cnt k j]
    by_cases e : j = k
    · subst e; simp
    · have e' : ¬ (j : Int) = (k : Int) := by omega
      rw [List.filter_replicate]
      simp only [e', decide_false, Bool.false_eq_true, if_false, List.length_nil, Int.natCast_zero, Int.add_zero]
      by_cases h : k < j
      · rw [if_pos h, if_pos (by omega)]
      · rw [if_neg h, if_neg (by omega)]
theorem cnt_all {b : Sb} (hb : Good b) (s : Int) {k : Nat} (hk : k < b.hs.length) : cntU (ord b s) k (allN b).toNat = ofK b k := by
  have hl := rowF_len hb
  have h1 : (ord b s).take (allN b).toNat = ord b s := List.take_of_length_le (by rw [ord_len]; omega)
  have hp := ((ord_perm b s).filter fun x => decide (x = (k : Int))).length_eq
  have hc := rowU_cnt (b := b) k b.hs.length
  have hof := hb.of k
  unfold cntU
  rw [h1, hp]
  unfold rowF
  rw [hc, if_pos hk]; omega
/-- With a penny more. -/
theorem payK_succ {b : Sb} (hb : Good b) (s : Int) {m : Int} (_hm : 0 ≤ m) {k : Nat} (hk : k < b.hs.length) : payK b s (m + 1) k = payK b s m k + (if (ord b s).getD (m % allN b).toNat 0 = (k : Int) then 1 else 0) := by
  have h1 := hb.a1
  have hl := rowF_len hb
  have hmod0 := Int.emod_nonneg m (show allN b ≠ 0 by omega)
  have hmod1 := Int.emod_lt_of_pos m (show 0 < allN b by omega)
  obtain ⟨y, hy⟩ := get_some (l := ord b s) (j := (m % allN b).toNat) (by rw [ord_len]; omega)
  have hg : (ord b s).getD (m % allN b).toNat 0 = y := by rw [List.getD_eq_getElem?_getD, hy]; rfl
  have hc := cntU_succ (k := k) hy
  have hdm := Int.mul_ediv_add_emod m (allN b)
  rw [hg]
  unfold payK
  by_cases hlast : m % allN b + 1 = allN b
  · have e1 : (m + 1) / allN b = m / allN b + 1 := by
      have : m + 1 = allN b * (m / allN b + 1) := by rw [Int.mul_add]; omega
      rw [this, Int.mul_ediv_cancel_left _ (by omega)]
    have e2 : (m + 1) % allN b = 0 := by
      have : m + 1 = allN b * (m / allN b + 1) := by rw [Int.mul_add]; omega
      rw [this, Int.mul_emod_right]
    rw [e1, e2]
    have e3 := cnt_all hb s hk
    rw [show (allN b).toNat = (m % allN b).toNat + 1 by omega, hc] at e3
    have e4 : cntU (ord b s) k (Int.toNat 0) = 0 := by simp [cntU]
    rw [e4, Int.mul_add]; omega
  · have e0 : m + 1 = (m % allN b + 1) + allN b * (m / allN b) := by omega
    have e1 : (m + 1) / allN b = m / allN b := by
      rw [e0, Int.add_mul_ediv_left _ _ (by omega), Int.ediv_eq_zero_of_lt (by omega) (by omega)]; omega
    have e2 : (m + 1) % allN b = m % allN b + 1 := by
      rw [e0, Int.add_mul_emod_self_left, Int.emod_eq_of_lt (by omega) (by omega)]
    rw [e1, e2, show (m % allN b + 1).toNat = (m % allN b).toNat + 1 by omega, hc]; omega
theorem payK_zero {b : Sb} (hb : Good b) (s : Int) (k : Nat) : payK b s 0 k = 0 := by
  have := hb.a1
  unfold payK; simp [cntU]
theorem payK_mono {b : Sb} (hb : Good b) (s : Int) {k : Nat} (hk : k < b.hs.length) {m : Int} (hm : 0 ≤ m) : ∀ (n : Nat), payK b s m k ≤ payK b s (m + n) k ∧ payK b s (m + n) k ≤ payK b s m k + n
  | 0 => by simp
  | n + 1 => by
    have ih := payK_mono hb s hk hm n
    have h := payK_succ hb s (m := m + n) (by omega) hk
    rw [show m + ((n + 1 : Nat) : Int) = m + n + 1 by omega, h]
    split <;> omega
theorem payK_bd {b : Sb} (hb : Good b) (s : Int) {k : Nat} (hk : k < b.hs.length) {m : Int} (hm : 0 ≤ m) : 0 ≤ payK b s m k ∧ payK b s m k ≤ m := by
  have h := payK_mono hb s hk (Int.le_refl 0) m.toNat
  rw [payK_zero hb, show (0 : Int) + (m.toNat : Int) = m by omega] at h
  omega
theorem payL_len (b : Sb) (s m : Int) : (payL b s m).length = b.hs.length := by simp [payL]
theorem payL_at {b : Sb} {s m : Int} {k : Nat} (hk : k < b.hs.length) : (payL b s m)[k]? = some (payK b s m k) := by
  unfold payL; rw [List.getElem?_map, List.getElem?_range hk]; rfl
/-! ### Answers -/
def mnN (b : Sb) : Nat := (b.m1 - b.m0 + 1).toNat
def payF (b : Sb) (k : Nat) (s : Int) (j : Nat) : Int := payK b s (b.m0 + j) k
def payLo (b : Sb) (k : Nat) : Int := fldS min (payF b k) (mnN b) 9999 (sdL b [])
def payHi (b : Sb) (k : Nat) : Int := fldS max (payF b k) (mnN b) 0 (sdL b [])
theorem payF_bd {b : Sb} (hb : Good b) {k : Nat} (hk : k < b.hs.length) {s : Int} {j : Nat} (hj : j < mnN b) : 0 ≤ payF b k s j ∧ payF b k s j ≤ 9999 := by
  have h1 := hb.mo
  unfold mnN at hj
  have := payK_bd hb s hk (m := b.m0 + j) (by omega)
  unfold payF; omega
def shsL (b : Sb) : List Int := (List.range b.hs.length).map (ofK b)
def holdB (b : Sb) (k : Int) : Bool := decide (0 ≤ k ∧ k ≤ (b.hs.length : Int) - 1)
def payE (b : Sb) (k : Int) : Int := askV b (holdB b k)
def payLoV (b : Sb) (k : Int) : Int := if payE b k = 0 then payLo b k.toNat else 0
def payHiV (b : Sb) (k : Int) : Int := if payE b k = 0 then payHi b k.toNat else 0
def plB (b : Sb) (l : List Int) : Bool := decide (l.length = b.hs.length) && l.all fun x => decide (0 ≤ x)
def canE (b : Sb) (l : List Int) : Int := askV b (plB b l)
def canB (b : Sb) (l : List Int) : Bool := (sdL b []).any fun s => (List.range (mnN b)).any fun j => decide (payL b s (b.m0 + j) = l)
def canV (b : Sb) (l : List Int) : Bool := if canE b l = 0 then canB b l else false
def shsV (b : Sb) : List Int := if okS b = true then shsL b else []
def ordE (b : Sb) (s : Int) : Int := if okS b = true then (if 0 ≤ s ∧ s ≤ 9999 then 0 else 81) else 80
def ordV (b : Sb) (s : Int) : List Int := if ordE b s = 0 then ord b s else []
def sdV (b : Sb) : List Int := if okS b = true then sdL b [] else []
def rgtV (b : Sb) : Bool := if okS b = true then !decide (sdL b [] = []) else false
/-- How many numbers are left if holder k won a draw. -/
def lftN (b : Sb) (l : List Int) (d : Nat) (k : Int) : Int := ((l.filter fun s => decide ((ord b s).getD d 0 = k)).length : Int)
def wstN (b : Sb) (l : List Int) (d : Nat) : Int := fldU max (fun k => lftN b l d (k : Int)) 0 b.hs.length
def asE (b : Sb) : Int := if askV b true = 0 then (if (sdL b []).length = 1 then 4 else 0) else askV b true
def asV (b : Sb) : Int := if asE b = 0 then (amU (wstN b (sdL b [])) (allN b).toNat : Int) else 0
def wrP (b : Sb) (but : List Int) : Bool := !decide (sdL b but = [])
def wrO' (b : Sb) : Option (List Int) := wrO b.dr.length (wrP b)
def wrV (b : Sb) : List Int := if okS b = true then (wrO' b).getD [] else []
end Go.Proofs.YtajocmkgdjcmkaaDoor

/-
  The check of a book, step by step.
-/
namespace Go.Proofs.YtajocmkgdjcmkaaDoor
open Go.Hu Go.RowKit
def rtK (b : Sb) : Nat → Int
  | 0 => b.r0
  | 1 => b.r1
  | _ => b.r2
abbrev RtP (b : Sb) (i : Nat) : Prop := 0 ≤ rtK b i ∧ rtK b i ≤ 9
abbrev Num0P (b : Sb) : Prop := (1 ≤ b.hs.length ∧ b.hs.length ≤ 6) ∧ SpanP b.m0 b.m1 9999 20 ∧ SpanP b.s0 b.s1 9999 50 ∧ b.dr.length ≤ 8
def rtU (b : Sb) (j : Nat) : Bool := decide (Num0P b) && allU (fun i => decide (RtP b i)) j
def hoU (b : Sb) (j : Nat) : Bool := rtU b 3 && allU (fun i => match b.hs[i]? with | some x => decide (OwnP x) | none => true) j
def drU (b : Sb) (j : Nat) : Bool := hoU b b.hs.length && allU (fun i => decide (-1 ≤ b.dr.getD i 0 ∧ b.dr.getD i 0 ≤ (b.hs.length : Int) - 1)) j
theorem allU_succ (p : Nat → Bool) (j : Nat) : allU p (j + 1) = (allU p j && p j) := rfl
theorem rtU_succ (b : Sb) (j : Nat) : rtU b (j + 1) = (rtU b j && decide (RtP b j)) := by unfold rtU; rw [allU_succ, Bool.and_assoc]
theorem hoU_succ {b : Sb} {j : Nat} {x : Ho} (h : b.hs[j]? = some x) : hoU b (j + 1) = (hoU b j && decide (OwnP x)) := by unfold hoU; rw [allU_succ, Bool.and_assoc, h]
theorem drU_succ {b : Sb} {j : Nat} {x : Int} (h : b.dr[j]? = some x) : drU b (j + 1) = (drU b j && decide (-1 ≤ x ∧ x ≤ (b.hs.length : Int) - 1)) := by unfold drU; rw [allU_succ, Bool.and_assoc, List.getD_eq_getElem?_getD, h]; rfl
theorem hoU_down {b : Sb} {j k : Nat} (hjk : j ≤ k) (h : hoU b j = false) : hoU b k = false := by
  unfold hoU at h ⊢
  cases e : rtU b 3 with
  | false => rfl
  | true => rw [e] at h; simp only [Bool.true_and] at h ⊢; exact allU_down hjk h
theorem drU_down {b : Sb} {j k : Nat} (hjk : j ≤ k) (h : drU b j = false) : drU b k = false := by
  unfold drU at h ⊢
  cases e : hoU b b.hs.length with
  | false => rfl
  | true => rw [e] at h; simp only [Bool.true_and] at h ⊢; exact allU_down hjk h
theorem allU_list {α : Type} {p : α → Bool} {q : Nat → Bool} {l : List α} (h : ∀ i x, l[i]? = some x → q i = p x) : allU q l.length = l.all p := by
  cases e : l.all p with
  | true =>
    rw [allU_iff]
    intro i hi
    obtain ⟨x, hx⟩ := get_some hi
    rw [h i x hx]
    exact List.all_eq_true.1 e x (List.mem_of_getElem? hx)
  | false =>
    cases e2 : allU q l.length with
    | false => rfl
    | true =>
      rw [List.all_eq_false] at e
      obtain ⟨x, hx, hp⟩ := e
      obtain ⟨i, hi, rfl⟩ := List.mem_iff_getElem.1 hx
      have := allU_iff.1 e2 i hi
      rw [h i _ (List.getElem?_eq_getElem hi)] at this
      exact absurd this hp
theorem rtU_num (b : Sb) : rtU b 3 = numB b := by
  unfold rtU numB
  simp only [allU, rtK, RtP, Num0P, Bool.true_and]
  rw [Bool.eq_iff_iff]
  simp only [Bool.and_eq_true, decide_eq_true_eq]
  constructor
  · rintro ⟨⟨h1, h2, h3, h4⟩, ⟨h5, h6⟩, h7⟩; exact ⟨⟨⟨⟨⟨h1.1, h1.2⟩, h2⟩, h3⟩, h4⟩, h5, h6, h7⟩
  · rintro ⟨⟨⟨⟨⟨h1, h2⟩, h3⟩, h4⟩, h5⟩, h6, h7, h8⟩; exact ⟨⟨⟨h1, h2⟩, h3, h4, h5⟩, ⟨h6, h7⟩, h8⟩
theorem hoU_all (b : Sb) : hoU b b.hs.length = (numB b && b.hs.all fun x => decide (OwnP x)) := by
  unfold hoU; rw [rtU_num, allU_list (p := fun x => decide (OwnP x)) (fun i x h => by rw [h])]
theorem drU_all (b : Sb) : drU b b.dr.length = okN b := by
  unfold drU okN; rw [hoU_all, allU_list (p := fun n => decide (-1 ≤ n ∧ n ≤ (b.hs.length : Int) - 1)) (fun i x h => by rw [List.getD_eq_getElem?_getD, h]; rfl)]
theorem okS_of {b : Sb} (h : okN b = true) : okS b = true ↔ (1 ≤ allN b ∧ allN b ≤ 60) ∧ (b.dr.length : Int) ≤ allN b := by
  unfold okS; rw [h]; simp only [Bool.true_and, Bool.and_eq_true, decide_eq_true_eq, and_assoc]
theorem okS_not {b : Sb} (h : okN b = false) : okS b = false := by unfold okS; rw [h]; rfl
theorem chk_ok {b : Sb} (h : okS b = true) : chkV b = 0 := by unfold chkV; rw [if_pos h]
theorem chk_no {b : Sb} (h : okS b = false) : chkV b = 80 := by unfold chkV; rw [h]; rfl
theorem chk_is {b : Sb} (h : chkV b = 0) : okS b = true := by
  cases e : okS b with
  | true => rfl
  | false => rw [chk_no e] at h; exact absurd h (by decide)
theorem chk_isn {b : Sb} (h : ¬ chkV b = 0) : okS b = false := by
  cases e : okS b with
  | false => rfl
  | true => exact absurd (chk_ok e) h
end Go.Proofs.YtajocmkgdjcmkaaDoor

/-
  Books that differ in what was noted, in the pence or in the numbers; notes left out.
-/
namespace Go.Proofs.YtajocmkgdjcmkaaDoor
open Go.Hu Go.RowKit
/-- The same rates and holders. -/
structure SameH (b' b : Sb) : Prop where
  r0 : b'.r0 = b.r0
  r1 : b'.r1 = b.r1
  r2 : b'.r2 = b.r2
  hs : b'.hs = b.hs
theorem SameH.of {b' b : Sb} (h : SameH b' b) (k : Nat) : ofK b' k = ofK b k := by
  unfold ofK ofH; rw [h.r0, h.r1, h.r2, h.hs]
theorem SameH.tot {b' b : Sb} (h : SameH b' b) : ∀ j, totU b' j = totU b j
  | 0 => rfl
  | j + 1 => by simp only [totU, h.tot j, h.of j]
theorem SameH.all {b' b : Sb} (h : SameH b' b) : allN b' = allN b := by unfold allN; rw [h.hs, h.tot]
theorem SameH.row {b' b : Sb} (h : SameH b' b) : ∀ j, rowU b' j = rowU b j
  | 0 => rfl
  | j + 1 => by simp only [rowU, h.row j, h.of j]
theorem SameH.ord {b' b : Sb} (h : SameH b' b) (s : Int) : ord b' s = ord b s := by unfold Go.Proofs.YtajocmkgdjcmkaaDoor.ord rowF; rw [h.hs, h.row]
theorem SameH.pay {b' b : Sb} (h : SameH b' b) (s m : Int) (k : Nat) : payK b' s m k = payK b s m k := by unfold payK; rw [h.of, h.all, h.ord]
theorem SameH.payL {b' b : Sb} (h : SameH b' b) (s m : Int) : payL b' s m = payL b s m := by
  unfold Go.Proofs.YtajocmkgdjcmkaaDoor.payL; rw [h.hs]; congr 1; funext k; exact h.pay s m k
theorem SameH.good {b' b : Sb} (h : SameH b' b) (hb : Good b) (mo : SpanP b'.m0 b'.m1 9999 20) (se : SpanP b'.s0 b'.s1 9999 50) (d8 : b'.dr.length ≤ 8) (dn : ∀ n ∈ b'.dr, -1 ≤ n ∧ n ≤ (b.hs.length : Int) - 1) (da : (b'.dr.length : Int) ≤ allN b) : Good b' :=
  ⟨by rw [h.hs]; exact hb.n1, by rw [h.hs]; exact hb.n6, mo, se, by rw [h.r0]; exact hb.r0, by rw [h.r1]; exact hb.r1, by rw [h.r2]; exact hb.r2, by rw [h.hs]; exact hb.ho, d8, by rw [h.hs]; exact dn, by rw [h.all]; exact hb.a1, by rw [h.all]; exact hb.a60, by rw [h.all]; exact da⟩
/-- Other notes. -/
abbrev wd (b : Sb) (l : List Int) : Sb := { b with dr := l }
theorem wd_same (b : Sb) (l : List Int) : SameH (wd b l) b := ⟨rfl, rfl, rfl, rfl⟩
theorem Good.wd {b : Sb} (hb : Good b) {l : List Int} (d8 : l.length ≤ 8) (dn : ∀ n ∈ l, -1 ≤ n ∧ n ≤ (b.hs.length : Int) - 1) (da : (l.length : Int) ≤ allN b) : Good (wd b l) :=
  (wd_same b l).good hb hb.mo hb.se d8 dn da
/-- Notes left out: those of a set. -/
def woU (b : Sb) (q : Nat → Bool) (j : Nat) : List Int := (List.range j).map fun k => if q k = true then -1 else b.dr.getD k 0
def wo (b : Sb) (q : Nat → Bool) : Sb := wd b (woU b q b.dr.length)
theorem woU_len (b : Sb) (q : Nat → Bool) (j : Nat) : (woU b q j).length = j := by simp [woU]
theorem woU_succ {b : Sb} {q : Nat → Bool} {j : Nat} {x : Int} (h : b.dr[j]? = some x) : woU b q (j + 1) = woU b q j ++ [if q j = true then -1 else x] := by
  unfold woU; rw [List.range_succ, List.map_append, List.map_singleton, List.getD_eq_getElem?_getD, h]; rfl
theorem woU_at {b : Sb} {q : Nat → Bool} {j k : Nat} (hk : k < j) : (woU b q j).getD k 0 = if q k = true then -1 else b.dr.getD k 0 := by
  unfold woU; rw [List.getD_eq_getElem?_getD, List.getElem?_map, List.getElem?_range hk]; rfl
theorem wo_good {b : Sb} (hb : Good b) (q : Nat → Bool) : Good (wo b q) := by
  refine hb.wd (by rw [woU_len]; exact hb.d8) (fun n hn => ?_) (by rw [woU_len]; exact hb.da)
  unfold woU at hn
  obtain ⟨k, hk, rfl⟩ := List.mem_map.1 hn
  have hk' := List.mem_range.1 hk
  split
  · have := hb.n1; omega
  · obtain ⟨x, hx⟩ := get_some hk'
    rw [List.getD_eq_getElem?_getD, hx]; exact hb.dn x (List.mem_of_getElem? hx)
theorem wo_sd {b : Sb} {q : Nat → Bool} {but : List Int} (hq : ∀ k, k < b.dr.length → (((k : Int) ∈ but) ↔ q k = true)) : sdL (wo b q) [] = sdL b but := by
  have hf : ∀ s, fitB (wo b q) [] s = fitB b but s := fun s => by
    have hl : (wo b q).dr.length = b.dr.length := woU_len _ _ _
    unfold fitB fitU
    rw [hl, Bool.eq_iff_iff, List.all_eq_true, List.all_eq_true]
    have key : ∀ k, k < b.dr.length → ((decide ((k : Int) ∈ ([] : List Int)) || (decide ((wo b q).dr.getD k 0 = -1) || decide ((ord (wo b q) s).getD k 0 = (wo b q).dr.getD k 0))) = true ↔ (decide ((k : Int) ∈ but) || (decide (b.dr.getD k 0 = -1) || decide ((ord b s).getD k 0 = b.dr.getD k 0))) = true) := fun k hk => by
      have h1 : (wo b q).dr.getD k 0 = if q k = true then -1 else b.dr.getD k 0 := woU_at hk
      rw [h1, (wd_same b _).ord s |> (show ord (wo b q) s = ord b s from ·)]
      by_cases e : q k = true
      · simp [e, (hq k hk).2 e]
      · have : ¬ (k : Int) ∈ but := fun h => e ((hq k hk).1 h)
        simp [e, this]
    constructor
    · intro h k hk; exact (key k (List.mem_range.1 hk)).1 (h k hk)
    · intro h k hk; exact (key k (List.mem_range.1 hk)).2 (h k hk)
  have hs : sdN (wo b q) = sdN b := rfl
  unfold sdL sdU
  rw [hs]
  exact List.filter_congr fun s _ => hf s
theorem wo_bt (b : Sb) (set : Nat) : sdL (wo b (fun k => set.testBit k)) [] = sdL b (btU set b.dr.length) := wo_sd fun k hk => by
  rw [btU_mem]
  constructor
  · rintro ⟨n, hn, _, h⟩
    obtain rfl : k = n := by omega
    exact h
  · intro h; exact ⟨k, rfl, hk, h⟩
theorem sd_all {b : Sb} (hb : Good b) : wrP b (btU (2 ^ b.dr.length - 1) b.dr.length) = true := by
  unfold wrP
  rw [Bool.not_eq_true', decide_eq_false_iff_not]
  intro h
  have h1 := hb.se
  have : b.s0 ∈ sdL b (btU (2 ^ b.dr.length - 1) b.dr.length) := by
    unfold sdL sdU
    refine List.mem_filter.2 ⟨List.mem_map.2 ⟨0, List.mem_range.2 (by unfold sdN; omega), by simp⟩, ?_⟩
    unfold fitB fitU
    rw [List.all_eq_true]
    intro k hk
    have hk' := List.mem_range.1 hk
    have : (k : Int) ∈ btU (2 ^ b.dr.length - 1) b.dr.length := btU_mem.2 ⟨k, rfl, hk', by rw [Nat.testBit_two_pow_sub_one]; exact decide_eq_true hk'⟩
    simp [this]
  rw [h] at this
  cases this
theorem wrO_is {b : Sb} (hb : Good b) : wrO' b = some (rfU b.dr.length (wrP b) (2 ^ b.dr.length)) := rfU_wrO (sd_all hb)
theorem wrV_is {b : Sb} (hb : Good b) : wrV b = rfU b.dr.length (wrP b) (2 ^ b.dr.length) := by
  unfold wrV; rw [if_pos (okS_good.2 hb), wrO_is hb]; rfl
/-! ### How many numbers are left -/
theorem lftN_succ {b : Sb} {l : List Int} {d : Nat} {k : Int} {i : Nat} {s y : Int} (hs : l[i]? = some s) (hy : (ord b s)[d]? = some y) : lftN b (l.take (i + 1)) d k = lftN b (l.take i) d k + (if y = k then 1 else 0) := by
  unfold lftN
  rw [take_at hs, List.filter_append, List.length_append, Int.natCast_add]
  have h1 : (ord b s).getD d 0 = y := by rw [List.getD_eq_getElem?_getD, hy]; rfl
  have h2 : List.filter (fun s => decide ((ord b s).getD d 0 = k)) [s] = if y = k then [s] else [] := by
    rw [List.filter_cons, h1]; by_cases e : y = k <;> simp [e]
  rw [h2]
  by_cases e : y = k <;> simp [e]
theorem lftN_le (b : Sb) (l : List Int) (d : Nat) (k : Int) : 0 ≤ lftN b l d k ∧ lftN b l d k ≤ l.length := by
  unfold lftN; exact ⟨Int.natCast_nonneg _, by have := List.length_filter_le (fun s => decide ((ord b s).getD d 0 = k)) l; omega⟩
end Go.Proofs.YtajocmkgdjcmkaaDoor

/-
  The program's data: the table of kinds, the shares as a row of six, books in the calculation.
-/
namespace Go.Proofs.YtajocmkgdjcmkaaDoor
open Go.Hu Go.RowKit
def kf : Nat → Nat
  | 0 => 116
  | 1 => 118
  | _ => 119
abbrev kindsL : List Value := [.func (.func 116) #[] #[], .func (.func 118) #[] #[], .func (.func 119) #[] #[]]
def Kinds (w : World) : Prop := ∃ E fr, w.heap[0]? = some (.cells kindsL.toArray E fr)
theorem Kinds.ext {w w' : World} (h : Kinds w) (E : Ext w w') : Kinds w' := let ⟨a, b, h1⟩ := h; ⟨a, b, (E.block 0 (lt_of_some h1) id).trans h1⟩
theorem Kinds.cs {w : World} (h : Kinds w) : Cs w 0 0 kindsL := let ⟨_, _, h1⟩ := h; fun u v hv => by rw [cell_of_block h1]; simpa using hv
theorem kinds_at {n : Nat} (h : n < 3) : kindsL[((n : Int)).toNat * 1]? = some (.func (.func (kf n)) (#[] : Array Value) (#[] : Array Value)) := by
  match n, h with
  | 0, _ => rfl
  | 1, _ => rfl
  | 2, _ => rfl
def kV (x : Ho) : Nat → Int
  | 0 => x.bo
  | 1 => x.ne
  | _ => x.me
theorem kV_own {x : Ho} (h : OwnP x) {n : Nat} (hn : n < 3) : 0 ≤ kV x n ∧ kV x n ≤ 5 := by
  match n, hn with
  | 0, _ => exact h.1
  | 1, _ => exact h.2.1
  | 2, _ => exact h.2.2
def ofP (b : Sb) (x : Ho) : Nat → Int
  | 0 => 0
  | n + 1 => ofP b x n + rtK b n * kV x n
theorem ofP_all (b : Sb) (x : Ho) : ofP b x 3 = ofH b x := by simp only [ofP, rtK, kV, ofH]; omega
def shU (b : Sb) (j : Nat) (p : Int) : List Value := (List.range 6).map fun k => iv (if k < j then ofK b k else if k = j then p else 0)
def shI (b : Sb) : List Int := (List.range 6).map fun k => ofK b k
def shA (b : Sb) : List Value := (shI b).map iv
theorem shU_len (b : Sb) (j : Nat) (p : Int) : (shU b j p).length = 6 := by simp [shU]
theorem shU_at {b : Sb} {j : Nat} {p : Int} (hj : j < 6) : (shU b j p)[0 + ((j : Int)).toNat * 1]? = some (iv p) := by
  unfold shU
  rw [List.getElem?_map, show 0 + ((j : Int)).toNat * 1 = j by omega, List.getElem?_range hj]; simp
theorem shU_set {b : Sb} {j : Nat} {p p' : Int} : (shU b j p).set (0 + ((j : Int)).toNat * 1) (iv p') = shU b j p' := by
  rw [show 0 + ((j : Int)).toNat * 1 = j by omega]
  refine List.ext_getElem? fun i => ?_
  rw [List.getElem?_set, shU_len]
  unfold shU
  by_cases e : j = i
  · subst e
    rw [if_pos rfl]
    by_cases h : j < 6
    · rw [if_pos h, List.getElem?_map, List.getElem?_range h]; simp
    · rw [if_neg h, List.getElem?_map, List.getElem?_eq_none (by simp; omega)]; rfl
  · rw [if_neg e, List.getElem?_map, List.getElem?_map]
    cases h : (List.range 6)[i]? with
    | none => rfl
    | some k =>
      have : k = i := by
        obtain ⟨hi, he⟩ := List.getElem?_eq_some_iff.1 h
        simpa using he.symm
      subst this
      simp only [Option.map_some, Option.some.injEq]
      by_cases h1 : k < j
      · rw [if_pos h1, if_pos h1]
      · rw [if_neg h1, if_neg h1, if_neg (fun h => e h.symm), if_neg (fun h => e h.symm)]
theorem shU_next (b : Sb) (j : Nat) : shU b j (ofK b j) = shU b (j + 1) 0 := by
  unfold shU
  refine List.map_congr_left fun k _ => ?_
  congr 1
  by_cases h : k < j
  · rw [if_pos h, if_pos (by omega)]
  · rw [if_neg h]
    by_cases e : k = j
    · subst e; rw [if_pos rfl, if_pos (by omega)]
    · rw [if_neg e, if_neg (by omega)]; split <;> rfl
theorem ofK_far {b : Sb} {k : Nat} (h : b.hs.length ≤ k) : ofK b k = 0 := by unfold ofK; rw [List.getElem?_eq_none h]
theorem shU_all (b : Sb) : shU b b.hs.length 0 = shA b := by
  unfold shU shA shI
  rw [List.map_map]
  refine List.map_congr_left fun k _ => ?_
  show iv _ = iv _
  congr 1
  by_cases h : k < b.hs.length
  · rw [if_pos h]
  · rw [if_neg h]; show _ = ofK b k; rw [ofK_far (b := b) (k := k) (by omega)]; split <;> rfl
theorem rowU_far {b : Sb} : ∀ {j : Nat}, b.hs.length ≤ j → rowU b j = rowF b
  | 0, h => by unfold rowF; rw [show b.hs.length = 0 by omega]
  | j + 1, h => by
    rcases Nat.lt_or_ge b.hs.length (j + 1) with h' | h'
    · rw [rowU, ofK_far (show b.hs.length ≤ j by omega), rowU_far (show b.hs.length ≤ j by omega)]; simp
    · unfold rowF; rw [show b.hs.length = j + 1 by omega]
/-- A book in the calculation: its shares, and the memory of orders. -/
abbrev bkL (b : Sb) (ha : Option Addr) (hc : Nat) (da : Option Addr) (dc : Nat) (m : Nat) : List Value :=
  [iv b.r0, iv b.r1, iv b.r2, .slice ha b.hs.length hc, iv b.m0, iv b.m1, iv b.s0, iv b.s1, .slice da b.dr.length dc, iv (ofK b 0), iv (ofK b 1), iv (ofK b 2), iv (ofK b 3), iv (ofK b 4), iv (ofK b 5), .map (some m)]
def ordF (b : Sb) (s : Int) : List Value := (ord b s).map iv
/-- The sum of the first j. -/
def sumU (l : List Int) : Nat → Int
  | 0 => 0
  | j + 1 => sumU l j + l.getD j 0
theorem sumU_bd {l : List Int} (h : ∀ x ∈ l, 0 ≤ x ∧ x ≤ 1000000) : ∀ j, 0 ≤ sumU l j ∧ sumU l j ≤ 1000000 * j
  | 0 => ⟨Int.le_refl 0, Int.le_refl 0⟩
  | j + 1 => by
    have ih := sumU_bd h j
    have : 0 ≤ l.getD j 0 ∧ l.getD j 0 ≤ 1000000 := by
      rw [List.getD_eq_getElem?_getD]
      cases e : l[j]? with
      | none => simp
      | some x => exact h x (List.mem_of_getElem? e)
    simp only [sumU]; omega
theorem sum_sh (b : Sb) (h6 : b.hs.length ≤ 6) : sumU (shI b) 6 = allN b := by
  have key : ∀ j, j ≤ 6 → sumU (shI b) j = totU b j := fun j => by
    induction j with
    | zero => intro _; rfl
    | succ j ih =>
      intro hj
      have : (shI b).getD j 0 = ofK b j := by unfold shI; rw [List.getD_eq_getElem?_getD, List.getElem?_map, List.getElem?_range (by omega)]; rfl
      simp only [sumU, totU, ih (by omega), this]
  have far : ∀ j, b.hs.length ≤ j → totU b j = allN b := fun j => by
    induction j with
    | zero => intro h; unfold allN; rw [show b.hs.length = 0 by omega]
    | succ j ih =>
      intro h
      rcases Nat.lt_or_ge b.hs.length (j + 1) with h' | h'
      · simp only [totU, ih (by omega), ofK_far (show b.hs.length ≤ j by omega)]; omega
      · unfold allN; rw [show b.hs.length = j + 1 by omega]
  rw [key 6 (Nat.le_refl _), far 6 h6]
def hoN (b : Sb) (x : Ho) (j n : Nat) : Bool := hoU b j && allU (fun i => decide (0 ≤ kV x i ∧ kV x i ≤ 5)) n
theorem hoN_succ (b : Sb) (x : Ho) (j n : Nat) : hoN b x j (n + 1) = (hoN b x j n && decide (0 ≤ kV x n ∧ kV x n ≤ 5)) := by unfold hoN; rw [allU_succ, Bool.and_assoc]
theorem hoN_zero (b : Sb) (x : Ho) (j : Nat) : hoN b x j 0 = hoU b j := by simp [hoN, allU]
theorem hoN_all {b : Sb} {x : Ho} {j : Nat} (h : b.hs[j]? = some x) : hoN b x j 3 = hoU b (j + 1) := by
  rw [hoU_succ h]; unfold hoN
  congr 1
  rw [Bool.eq_iff_iff]
  simp only [allU, Bool.and_eq_true, decide_eq_true_eq, true_and, kV, OwnP, and_assoc]
end Go.Proofs.YtajocmkgdjcmkaaDoor

/-
  The choice of notes that must be false, where draws of which nothing was noted are passed by.
-/
namespace Go.Proofs.YtajocmkgdjcmkaaDoor
open Go.Hu Go.RowKit
def ntB (b : Sb) (x : Int) : Bool := !decide (b.dr.getD x.toNat 0 = -1)
def wqP (b : Sb) (l : List Int) : Bool := wrP b l && l.all (ntB b)
theorem Up.filter {N : Nat} {p : Int → Bool} : ∀ {l : List Int} {lo : Int}, Up lo N l → Up lo N (l.filter p)
  | [], _, _ => trivial
  | x :: t, lo, h => by
    have ih := Up.filter (p := p) h.2.2
    rw [List.filter_cons]
    split
    · exact ⟨h.1, h.2.1, ih⟩
    · exact ih.mono (by have := h.1; omega)
theorem fit_nt {b : Sb} {l : List Int} (s : Int) : fitB b (l.filter (ntB b)) s = fitB b l s := by
  unfold fitB fitU
  rw [Bool.eq_iff_iff, List.all_eq_true, List.all_eq_true]
  have key : ∀ k : Nat, (decide ((k : Int) ∈ l.filter (ntB b)) || (decide (b.dr.getD k 0 = -1) || decide ((ord b s).getD k 0 = b.dr.getD k 0))) = (decide ((k : Int) ∈ l) || (decide (b.dr.getD k 0 = -1) || decide ((ord b s).getD k 0 = b.dr.getD k 0))) := fun k => by
    by_cases e : b.dr.getD k 0 = -1
    · rw [decide_eq_true e]; simp
    · have : ((k : Int) ∈ l.filter (ntB b)) ↔ (k : Int) ∈ l := by
        rw [List.mem_filter]
        unfold ntB
        simp only [Int.toNat_natCast, e, decide_false, Bool.not_false, and_true]
      rw [decide_eq_decide.2 this]
  constructor
  · intro h k hk; rw [← key]; exact h k hk
  · intro h k hk; rw [key]; exact h k hk
theorem wrP_nt (b : Sb) (l : List Int) : wrP b (l.filter (ntB b)) = wrP b l := by
  unfold wrP sdL sdU
  rw [List.filter_congr fun s _ => fit_nt s]
theorem best_nt {b : Sb} {l : List Int} (h : Best b.dr.length (wrP b) l) : l.all (ntB b) = true := by
  cases e : l.all (ntB b) with
  | true => rfl
  | false =>
    rw [List.all_eq_false] at e
    obtain ⟨x, hx, hn⟩ := e
    have hlt : (l.filter (ntB b)).length < l.length := List.length_filter_lt_length_iff_exists.2 ⟨x, hx, hn⟩
    have hno := h.no _ h.up.filter (by unfold fewL; rw [decide_eq_true hlt]; rfl)
    rw [wrP_nt, h.ok] at hno; cases hno
theorem wq_best {b : Sb} {l : List Int} (h : Best b.dr.length (wrP b) l) : Best b.dr.length (wqP b) l :=
  ⟨h.up, by unfold wqP; rw [h.ok, best_nt h]; rfl, fun m hm hf => by unfold wqP; rw [h.no m hm hf]; rfl⟩
theorem wq_is {b : Sb} (hb : Good b) : wrO b.dr.length (wqP b) = some (wrV b) := by
  have h1 := wrO_is hb
  have h2 : wrV b = rfU b.dr.length (wrP b) (2 ^ b.dr.length) := wrV_is hb
  have h3 : Best b.dr.length (wrP b) (wrV b) := by rw [h2]; exact wrO_some h1
  exact wrO_best (wq_best h3)
theorem wq_skip {b : Sb} {N r : Nat} {s : List Int} {n : Nat} (hn : b.dr.getD n 0 = -1) : chL N (wqP b) r (s ++ [(n : Int)]) = none := by
  rw [chL_none (by rw [lst_snoc]; omega)]
  intro t _ _
  unfold wqP
  have : (s ++ [(n : Int)] ++ t).all (ntB b) = false := by
    rw [List.all_eq_false]
    exact ⟨(n : Int), by simp, by unfold ntB; rw [Int.toNat_natCast, hn]; decide⟩
  rw [this, Bool.and_false]
end Go.Proofs.YtajocmkgdjcmkaaDoor

/- What is asked of the program's types and functions, by the kernel. Printed by wip/tools/gen.py. -/
namespace Go.Proofs.YtajocmkgdjcmkaaDoor
open Go.Hu
theorem ag_102_2 : agB Tryd.prog 102 2 = true := by kernel_rfl
theorem ag_105_1 : agB Tryd.prog 105 1 = true := by kernel_rfl
theorem ag_22_3 : agB Tryd.prog 22 3 = true := by kernel_rfl
theorem ag_25_2 : agB Tryd.prog 25 2 = true := by kernel_rfl
theorem ag_28_9 : agB Tryd.prog 28 9 = true := by kernel_rfl
theorem ag_75_3 : agB Tryd.prog 75 3 = true := by kernel_rfl
theorem ag_78_6 : agB Tryd.prog 78 6 = true := by kernel_rfl
theorem ag_81_16 : agB Tryd.prog 81 16 = true := by kernel_rfl
theorem ag_87_3 : agB Tryd.prog 87 3 = true := by kernel_rfl
theorem ar_22_3_3_1 : arB Tryd.prog 22 3 3 1 = true := by kernel_rfl
theorem ar_78_6_3_1 : arB Tryd.prog 78 6 3 1 = true := by kernel_rfl
theorem ar_87_3_86_1 : arB Tryd.prog 87 3 86 1 = true := by kernel_rfl
theorem cf_100 : cfB Tryd.prog 100 = true := by kernel_rfl
theorem cf_116 : cfB Tryd.prog 116 = true := by kernel_rfl
theorem cf_118 : cfB Tryd.prog 118 = true := by kernel_rfl
theorem cf_119 : cfB Tryd.prog 119 = true := by kernel_rfl
theorem cf_15 : cfB Tryd.prog 15 = true := by kernel_rfl
theorem cf_16 : cfB Tryd.prog 16 = true := by kernel_rfl
theorem cf_17 : cfB Tryd.prog 17 = true := by kernel_rfl
theorem cf_18 : cfB Tryd.prog 18 = true := by kernel_rfl
theorem cf_19 : cfB Tryd.prog 19 = true := by kernel_rfl
theorem cf_20 : cfB Tryd.prog 20 = true := by kernel_rfl
theorem cf_21 : cfB Tryd.prog 21 = true := by kernel_rfl
theorem cf_22 : cfB Tryd.prog 22 = true := by kernel_rfl
theorem cf_23 : cfB Tryd.prog 23 = true := by kernel_rfl
theorem cf_24 : cfB Tryd.prog 24 = true := by kernel_rfl
theorem cf_25 : cfB Tryd.prog 25 = true := by kernel_rfl
theorem cf_26 : cfB Tryd.prog 26 = true := by kernel_rfl
theorem cf_27 : cfB Tryd.prog 27 = true := by kernel_rfl
theorem cf_28 : cfB Tryd.prog 28 = true := by kernel_rfl
theorem cf_29 : cfB Tryd.prog 29 = true := by kernel_rfl
theorem cf_30 : cfB Tryd.prog 30 = true := by kernel_rfl
theorem cf_31 : cfB Tryd.prog 31 = true := by kernel_rfl
theorem cf_32 : cfB Tryd.prog 32 = true := by kernel_rfl
theorem cf_33 : cfB Tryd.prog 33 = true := by kernel_rfl
theorem cf_34 : cfB Tryd.prog 34 = true := by kernel_rfl
theorem cf_39 : cfB Tryd.prog 39 = true := by kernel_rfl
theorem cf_45 : cfB Tryd.prog 45 = true := by kernel_rfl
theorem cf_46 : cfB Tryd.prog 46 = true := by kernel_rfl
theorem cf_48 : cfB Tryd.prog 48 = true := by kernel_rfl
theorem cf_51 : cfB Tryd.prog 51 = true := by kernel_rfl
theorem cf_54 : cfB Tryd.prog 54 = true := by kernel_rfl
theorem cf_55 : cfB Tryd.prog 55 = true := by kernel_rfl
theorem cf_59 : cfB Tryd.prog 59 = true := by kernel_rfl
theorem cf_60 : cfB Tryd.prog 60 = true := by kernel_rfl
theorem cf_61 : cfB Tryd.prog 61 = true := by kernel_rfl
theorem cf_63 : cfB Tryd.prog 63 = true := by kernel_rfl
theorem cf_64 : cfB Tryd.prog 64 = true := by kernel_rfl
theorem cf_65 : cfB Tryd.prog 65 = true := by kernel_rfl
theorem cf_66 : cfB Tryd.prog 66 = true := by kernel_rfl
theorem cf_67 : cfB Tryd.prog 67 = true := by kernel_rfl
theorem cf_68 : cfB Tryd.prog 68 = true := by kernel_rfl
theorem cf_69 : cfB Tryd.prog 69 = true := by kernel_rfl
theorem cf_70 : cfB Tryd.prog 70 = true := by kernel_rfl
theorem cf_71 : cfB Tryd.prog 71 = true := by kernel_rfl
theorem cf_72 : cfB Tryd.prog 72 = true := by kernel_rfl
theorem cf_73 : cfB Tryd.prog 73 = true := by kernel_rfl
theorem cf_74 : cfB Tryd.prog 74 = true := by kernel_rfl
theorem cf_75 : cfB Tryd.prog 75 = true := by kernel_rfl
theorem cf_76 : cfB Tryd.prog 76 = true := by kernel_rfl
theorem cf_77 : cfB Tryd.prog 77 = true := by kernel_rfl
theorem cf_78 : cfB Tryd.prog 78 = true := by kernel_rfl
theorem cf_79 : cfB Tryd.prog 79 = true := by kernel_rfl
theorem cf_80 : cfB Tryd.prog 80 = true := by kernel_rfl
theorem cf_81 : cfB Tryd.prog 81 = true := by kernel_rfl
theorem cf_82 : cfB Tryd.prog 82 = true := by kernel_rfl
theorem cf_83 : cfB Tryd.prog 83 = true := by kernel_rfl
theorem cf_84 : cfB Tryd.prog 84 = true := by kernel_rfl
theorem cf_85 : cfB Tryd.prog 85 = true := by kernel_rfl
theorem cf_86 : cfB Tryd.prog 86 = true := by kernel_rfl
theorem cf_87 : cfB Tryd.prog 87 = true := by kernel_rfl
theorem cf_88 : cfB Tryd.prog 88 = true := by kernel_rfl
theorem cf_89 : cfB Tryd.prog 89 = true := by kernel_rfl
theorem cf_90 : cfB Tryd.prog 90 = true := by kernel_rfl
theorem cf_91 : cfB Tryd.prog 91 = true := by kernel_rfl
theorem cf_92 : cfB Tryd.prog 92 = true := by kernel_rfl
theorem cf_93 : cfB Tryd.prog 93 = true := by kernel_rfl
theorem cf_94 : cfB Tryd.prog 94 = true := by kernel_rfl
theorem cf_95 : cfB Tryd.prog 95 = true := by kernel_rfl
theorem cf_96 : cfB Tryd.prog 96 = true := by kernel_rfl
theorem cf_97 : cfB Tryd.prog 97 = true := by kernel_rfl
theorem cf_98 : cfB Tryd.prog 98 = true := by kernel_rfl
theorem cf_99 : cfB Tryd.prog 99 = true := by kernel_rfl
theorem fo_102_0_0 : foB Tryd.prog 102 0 0 = true := by kernel_rfl
theorem fo_102_1_1 : foB Tryd.prog 102 1 1 = true := by kernel_rfl
theorem fo_25_0_0 : foB Tryd.prog 25 0 0 = true := by kernel_rfl
theorem fo_25_1_1 : foB Tryd.prog 25 1 1 = true := by kernel_rfl
theorem fo_28_0_0 : foB Tryd.prog 28 0 0 = true := by kernel_rfl
theorem fo_28_1_3 : foB Tryd.prog 28 1 3 = true := by kernel_rfl
theorem fo_28_2_4 : foB Tryd.prog 28 2 4 = true := by kernel_rfl
theorem fo_28_3_6 : foB Tryd.prog 28 3 6 = true := by kernel_rfl
theorem fo_28_4_8 : foB Tryd.prog 28 4 8 = true := by kernel_rfl
theorem fo_75_0_0 : foB Tryd.prog 75 0 0 = true := by kernel_rfl
theorem fo_75_1_1 : foB Tryd.prog 75 1 1 = true := by kernel_rfl
theorem fo_75_2_2 : foB Tryd.prog 75 2 2 = true := by kernel_rfl
theorem fo_81_0_0 : foB Tryd.prog 81 0 0 = true := by kernel_rfl
theorem fo_81_1_9 : foB Tryd.prog 81 1 9 = true := by kernel_rfl
theorem fo_81_2_15 : foB Tryd.prog 81 2 15 = true := by kernel_rfl
theorem fo_88_0_0 : foB Tryd.prog 88 0 0 = true := by kernel_rfl
theorem fo_88_1_1 : foB Tryd.prog 88 1 1 = true := by kernel_rfl
theorem fo_88_2_2 : foB Tryd.prog 88 2 2 = true := by kernel_rfl
theorem sc_107 : scB Tryd.prog 107 = true := by kernel_rfl
theorem sc_23 : scB Tryd.prog 23 = true := by kernel_rfl
theorem sc_26 : scB Tryd.prog 26 = true := by kernel_rfl
theorem sc_3 : scB Tryd.prog 3 = true := by kernel_rfl
theorem sc_4 : scB Tryd.prog 4 = true := by kernel_rfl
theorem sc_79 : scB Tryd.prog 79 = true := by kernel_rfl
theorem sc_86 : scB Tryd.prog 86 = true := by kernel_rfl
theorem sl_23_75_3 : slB Tryd.prog 23 75 3 = true := by kernel_rfl
theorem sl_26_3_1 : slB Tryd.prog 26 3 1 = true := by kernel_rfl
theorem sz_102_2 : szB Tryd.prog 102 2 = true := by kernel_rfl
theorem sz_105_1 : szB Tryd.prog 105 1 = true := by kernel_rfl
theorem sz_107_1 : szB Tryd.prog 107 1 = true := by kernel_rfl
theorem sz_25_2 : szB Tryd.prog 25 2 = true := by kernel_rfl
theorem sz_26_1 : szB Tryd.prog 26 1 = true := by kernel_rfl
theorem sz_28_9 : szB Tryd.prog 28 9 = true := by kernel_rfl
theorem sz_3_1 : szB Tryd.prog 3 1 = true := by kernel_rfl
theorem sz_4_1 : szB Tryd.prog 4 1 = true := by kernel_rfl
theorem sz_75_3 : szB Tryd.prog 75 3 = true := by kernel_rfl
theorem sz_78_6 : szB Tryd.prog 78 6 = true := by kernel_rfl
theorem sz_81_16 : szB Tryd.prog 81 16 = true := by kernel_rfl
theorem zs_3_1 : zsB Tryd.prog 3 1 = true := by kernel_rfl
theorem zs_75_3 : zsB Tryd.prog 75 3 = true := by kernel_rfl
theorem zv_25 : zvP Tryd.prog 25 (.agg [.int .i64 0, .int .i64 0].toArray) := fun _ => by kernel_rfl
theorem zv_75 : zvP Tryd.prog 75 (.agg [.int .i64 0, .int .i64 0, .int .i64 0].toArray) := fun _ => by kernel_rfl
theorem zv_78 : zvP Tryd.prog 78 (.agg [.int .i64 0, .int .i64 0, .int .i64 0, .int .i64 0, .int .i64 0, .int .i64 0].toArray) := fun _ => by kernel_rfl
theorem zv_28 : zvP Tryd.prog 28 (.agg [.int .i64 0, .int .i64 0, .int .i64 0, .slice none 0 0, .int .i64 0, .int .i64 0, .int .i64 0, .int .i64 0, .slice none 0 0].toArray) := fun _ => by kernel_rfl
theorem zv_26 : zvP Tryd.prog 26 (.slice none 0 0) := fun _ => by kernel_rfl
theorem zv_81 : zvP Tryd.prog 81 (.agg [.int .i64 0, .int .i64 0, .int .i64 0, .slice none 0 0, .int .i64 0, .int .i64 0, .int .i64 0, .int .i64 0, .slice none 0 0, .int .i64 0, .int .i64 0, .int .i64 0, .int .i64 0, .int .i64 0, .int .i64 0, .map none].toArray) := fun _ => by kernel_rfl
theorem zv_3 : zvP Tryd.prog 3 (.int .i64 0) := fun _ => by kernel_rfl
theorem kI_79 : keyI Tryd.prog 79 3 26 = true := by kernel_rfl
theorem kB_99 : keyB Tryd.prog 99 102 3 = true := by kernel_rfl
theorem zv_102 : zvP Tryd.prog 102 (.agg [.int .i64 0, .int .i64 0].toArray) := fun _ => by kernel_rfl
theorem gt_102 : Tryd.prog.eqGuardType Tryd.prog.depth 102 = false := by kernel_rfl
theorem zv_105 : zvP Tryd.prog 105 (.agg [Value.nilFunc].toArray) := fun _ => by kernel_rfl
theorem zv_4 : zvP Tryd.prog 4 (.bool false) := fun _ => by kernel_rfl
theorem zv_107 : zvP Tryd.prog 107 Value.nilFunc := fun _ => by kernel_rfl
end Go.Proofs.YtajocmkgdjcmkaaDoor

/-
  Functions over numbers and lists of numbers.
-/
namespace Go.Proofs.YtajocmkgdjcmkaaDoor
set_option maxRecDepth 100000
open Go.Hu Go.RowKit
section
theorem between (n lo hi : Int) (w : World) : Ct Tryd.prog 45 #[iv n, iv lo, iv hi] w (fun v w' => v = .bool (decide (lo ≤ n ∧ n ≤ hi)) ∧ Ext w w') := by
  refine fn_intro (args := [iv n, iv lo, iv hi]) Tryd.func45 rfl rfl (by kernel_rfl) ?_
  have S := St.start no w
  refine W.seq (W.region S ?_)
  refine AS.cons (sp_asg rfl ?_)
  refine AS.nil ?_
  intro _ S
  refine W.seq (W.regionc S [6, 7, 8, 9, 10, 11, 12, 13, 14] 6 (lo ≤ n ∧ n ≤ hi) ?_ ?_)
  · skip
    refine AS.cons (sp_move (v := .int _ _) rfl ?_)
    refine AS.cons (sp_move (v := .int _ _) rfl ?_)
    refine AS.cons (sp_geq rfl rfl ?_)
    refine AS.cons (sp_move (v := .bool _) rfl ?_)
    refine AS.split 10 rfl (fun g10 => ?_) (fun g10 => ?_)
    · skip
      refine AS.cons (sp_move (v := .int _ _) rfl ?_)
      refine AS.cons (sp_move (v := .int _ _) rfl ?_)
      refine AS.cons (sp_leq rfl rfl ?_)
      refine AS.cons (sp_pick_t rfl (v := .bool _) rfl ?_)
      refine AS.cons (sp_asg (v := .bool _) rfl ?_)
      refine AS.nil ⟨⟨_, rfl, ?_⟩, ?_, rfl⟩
      · (try simp only [decide_eq_true_eq] at *); first | omega | (simp_all; done) | (simp_all; omega)
      · repeat (first | exact Agr.refl _ _ | exact Agr.msk _ _ _ | refine Agr.upd ?_ _ rfl | refine Agr.upds ?_ rfl | refine Agr.mskIn ?_ rfl)
    · skip
      refine AS.cons (sp_skip rfl ?_)
      refine AS.cons (sp_skip rfl ?_)
      refine AS.cons (sp_skip rfl ?_)
      refine AS.cons (sp_pick_f rfl (v := .bool _) rfl ?_)
      refine AS.cons (sp_asg (v := .bool _) rfl ?_)
      refine AS.nil ⟨⟨_, rfl, ?_⟩, ?_, rfl⟩
      · (try simp only [decide_eq_false_iff_not] at *); first | omega | (simp_all; done) | (simp_all; omega)
      · repeat (first | exact Agr.refl _ _ | exact Agr.msk _ _ _ | refine Agr.upd ?_ _ rfl | refine Agr.upds ?_ rfl | refine Agr.mskIn ?_ rfl)
  intro σ1 _ S
  refine W.ret ?_
  exact ret1 rfl rfl S fun w' S' => ⟨rfl, S'.mod⟩
theorem wheelG (n k : Int) (hk : k ≤ 9223372036854775807) (w : World) : Ct Tryd.prog 39 #[iv n, iv k] w (fun v w' => v = iv (if k < 2 then 0 else n % k) ∧ Ext w w') := by
  refine fn_intro (args := [iv n, iv k]) Tryd.func39 rfl rfl (by kernel_rfl) ?_
  have S := St.start no w
  have hneg : ¬ k < 2 → n.tmod k < 0 → n % k = n.tmod k + k := fun h1 h2 => by
    rw [Int.tmod_eq_emod] at h2 ⊢
    have := Int.emod_nonneg n (show k ≠ 0 by omega)
    split at h2
    · omega
    · rename_i hh; rw [if_neg hh]; have e : ((k.natAbs : Int)) = k := by omega
      rw [e]; omega
  have hpos : ¬ k < 2 → ¬ n.tmod k < 0 → n % k = n.tmod k := fun h1 h2 => by
    rw [Int.tmod_eq_emod] at h2 ⊢
    have := Int.emod_lt_of_pos n (show 0 < k by omega)
    split at h2
    · rename_i hh; rw [if_pos hh]; omega
    · exfalso; have e : ((k.natAbs : Int)) = k := by omega
      rw [e] at h2; omega
  have hlt : ¬ k < 2 → -k < n.tmod k := fun h1 => by
    have := Int.lt_tmod_of_pos n (show 0 < k by omega)
    omega
  refine W.seq (W.region S ?_)
  refine AS.cons (sp_asg rfl ?_)
  refine AS.nil ?_
  intro _ S
  refine W.seq (W.seq (W.region S ?_))
  refine AS.cons (sp_move (v := .int _ _) rfl ?_)
  refine AS.cons (sp_lss rfl rfl ?_)
  refine AS.nil ?_
  intro _ S
  refine W.condd rfl (fun c7 => ?_) (fun c7 => ?_)
  · skip
    refine W.seq (W.region S ?_)
    refine AS.cons (sp_asg rfl ?_)
    refine AS.nil ?_
    intro _ S
    refine W.ret ?_
    exact ret1 rfl rfl S fun w' S' => ⟨congrArg iv (by first | (rw [if_pos (by assumption)]; done) | (rw [if_neg (by assumption), hneg (by assumption) (by assumption)]; done) | (rw [if_neg (by assumption), hpos (by assumption) (by assumption)]; done)), S'.mod⟩
  · skip
    refine W.skip ?_
    refine W.seq (W.region S ?_)
    refine AS.cons (sp_move (v := .int _ _) rfl ?_)
    refine AS.cons (sp_move (v := .int _ _) rfl ?_)
    refine AS.cons (sp_remt rfl rfl (by omega) ?_)
    refine AS.cons (sp_asg (v := .int _ _) rfl ?_)
    refine AS.nil ?_
    intro _ S
    refine W.seq (W.seq (W.region S ?_))
    refine AS.cons (sp_move (v := .int _ _) rfl ?_)
    refine AS.cons (sp_lss rfl rfl ?_)
    refine AS.nil ?_
    intro _ S
    refine W.condd rfl (fun c12 => ?_) (fun c12 => ?_)
    · skip
      have hlt' := hlt (by assumption)
      refine W.seq (W.region S ?_)
      refine AS.cons (sp_move (v := .int _ _) rfl ?_)
      refine AS.cons (sp_move (v := .int _ _) rfl ?_)
      refine AS.cons (sp_add rfl rfl (by first | omega | (simp only [decide_eq_true_eq, decide_eq_false_iff_not] at *; omega)) ?_)
      refine AS.cons (sp_asg (v := .int _ _) rfl ?_)
      refine AS.nil ?_
      intro _ S
      refine W.ret ?_
      exact ret1 rfl rfl S fun w' S' => ⟨congrArg iv (by first | (rw [if_pos (by assumption)]; done) | (rw [if_neg (by assumption), hneg (by assumption) (by assumption)]; done) | (rw [if_neg (by assumption), hpos (by assumption) (by assumption)]; done)), S'.mod⟩
    · skip
      refine W.skip ?_
      refine W.seq (W.region S ?_)
      refine AS.cons (sp_move (v := .int _ _) rfl ?_)
      refine AS.cons (sp_asg (v := .int _ _) rfl ?_)
      refine AS.nil ?_
      intro _ S
      refine W.ret ?_
      exact ret1 rfl rfl S fun w' S' => ⟨congrArg iv (by first | (rw [if_pos (by assumption)]; done) | (rw [if_neg (by assumption), hneg (by assumption) (by assumption)]; done) | (rw [if_neg (by assumption), hpos (by assumption) (by assumption)]; done)), S'.mod⟩
theorem index (la : Option Addr) (lc : Nat) (l : List Int) (v : Int) (hn : l.length ≤ 1000000) (w : World) (hl : Ints w la lc l) : Ct Tryd.prog 100 #[.slice la l.length lc, iv v] w (fun u w' => u = iv (ix l v) ∧ Ext w w') := by
  refine fn_intro (args := [.slice la l.length lc, iv v]) Tryd.func100 rfl rfl (by kernel_rfl) ?_
  have S := St.start no w
  refine W.seq (W.region S ?_)
  refine AS.cons (sp_asg rfl ?_)
  refine AS.nil ?_
  intro _ S
  refine W.seq (W.seq (W.region S ?_))
  refine AS.cons (sp_move rfl ?_)
  refine AS.cons (sp_len rfl sl_26_3_1 ?_)
  refine AS.cons (sp_move rfl ?_)
  refine AS.nil ?_
  intro _ S
  refine W.block ?_
  refine W.loopS S [4, 5, 8, 9, 10, 11, 12, 13, 14, 15, 16, 17, 18] [] (fun (j : Nat) => [(8, iv j)]) (fun _ => []) (fun j => j ≤ l.length ∧ ∀ i, i < j → l[i]? ≠ some v) (fun j => l.length - j) 0 ⟨by omega, fun i hi => absurd hi (by omega)⟩ ⟨rfl, trivial⟩ trivial ?_
  rintro j σ M w ⟨hj, hnn⟩ S
  refine W.seq (W.region S ?_)
  refine AS.cons (sp_lss rfl rfl ?_)
  refine AS.nil ?_
  intro _ S
  refine W.seq (W.condd rfl (fun c9 => ?_) (fun c9 => ?_))
  · skip
    refine W.skip ?_
    refine W.seq (W.block ?_)
    refine W.seq (W.region S ?_)
    have hlt : j < l.length := by omega
    obtain ⟨x, hx⟩ := get_some hlt
    refine AS.cons (sp_move (v := .int _ _) rfl ?_)
    refine AS.cons (sp_asg (v := .int _ _) rfl ?_)
    refine AS.nil ?_
    intro _ S
    refine W.seq (W.region S ?_)
    refine AS.cons (sp_move (v := .int _ _) rfl ?_)
    refine AS.cons (sp_move rfl ?_)
    refine AS.cons (sp_move (v := .int _ _) rfl ?_)
    refine AS.cons (sp_iaR hl rfl rfl sl_26_3_1 (by first | omega | (simp only [decide_eq_true_eq, decide_eq_false_iff_not] at *; omega)) ?_)
    refine AS.cons (sp_ldR 0 hl (fun _ h => h) rfl sc_3 (ints_at hx) (by first | omega | (simp only [decide_eq_true_eq, decide_eq_false_iff_not] at *; omega)) ?_)
    refine AS.cons (sp_eql rfl rfl ?_)
    refine AS.nil ?_
    intro _ S
    refine W.condd rfl (fun c16 => ?_) (fun c16 => ?_)
    · skip
      have he := ix_at (by rw [hx, c16]) hnn
      refine W.seq (W.region S ?_)
      refine AS.cons (sp_move (v := .int _ _) rfl ?_)
      refine AS.cons (sp_asg (v := .int _ _) rfl ?_)
      refine AS.nil ?_
      intro _ S
      refine W.ret ?_
      first | exact ret1 rfl rfl S fun w' S' => ⟨congrArg iv he.symm, S'.mod⟩ | exact ret1 rfl rfl S fun w' S' => ⟨congrArg iv (ix_none fun i hi => hnn i (by omega)).symm, S'.mod⟩
    · skip
      refine W.skip ?_
      refine W.region S ?_
      refine AS.cons (sp_add rfl rfl (by first | omega | (simp only [decide_eq_true_eq, decide_eq_false_iff_not] at *; omega)) ?_)
      refine AS.cons (sp_move (v := .int _ _) rfl ?_)
      refine AS.nil ?_
      intro _ S
      exact ⟨j + 1, _, ⟨by omega, snoc_lt hnn (by rw [hx]; intro e; exact c16 (Option.some.inj e).symm)⟩, by omega, ⟨by simp [upd], trivial⟩, trivial, by repeat (first | exact Agr.refl _ _ | exact Agr.msk _ _ _ | refine Agr.upd ?_ _ rfl | refine Agr.upds ?_ rfl | refine Agr.mskIn ?_ rfl), by repeat (first | exact Agr.refl _ _ | exact Agr.msk _ _ _ | refine Agr.upd ?_ _ rfl | refine Agr.upds ?_ rfl | refine Agr.mskIn ?_ rfl), rfl, S⟩
  · skip
    refine W.exit ?_
    refine W.seq (W.region S ?_)
    refine AS.cons (sp_asg rfl ?_)
    refine AS.nil ?_
    intro _ S
    refine W.ret ?_
    first | exact ret1 rfl rfl S fun w' S' => ⟨congrArg iv he.symm, S'.mod⟩ | exact ret1 rfl rfl S fun w' S' => ⟨congrArg iv (ix_none fun i hi => hnn i (by omega)).symm, S'.mod⟩
theorem contains (la : Option Addr) (lc : Nat) (l : List Int) (v : Int) (hn : l.length ≤ 1000000) (w : World) (hl : Ints w la lc l) : Ct Tryd.prog 98 #[.slice la l.length lc, iv v] w (fun u w' => u = .bool (decide (v ∈ l)) ∧ Ext w w') := by
  refine fn_intro (args := [.slice la l.length lc, iv v]) Tryd.func98 rfl rfl (by kernel_rfl) ?_
  have S := St.start no w
  refine W.seq (W.region S ?_)
  refine AS.cons (sp_asg rfl ?_)
  refine AS.nil ?_
  intro _ S
  refine W.seq (W.region S ?_)
  refine AS.cons (sp_move rfl ?_)
  refine AS.cons (sp_move (v := .int _ _) rfl ?_)
  refine AS.cons (sp_call [] rfl rfl cf_100 (fun F w _ S => index _ _ _ _ (by omega) w (by first | assumption | exact hl.ext S.mod)) ?_)
  refine AS.cons (sp_geq rfl rfl ?_)
  refine AS.cons (sp_asg (v := .bool _) rfl ?_)
  refine AS.nil ?_
  intro _ S
  refine W.ret ?_
  exact ret1 rfl rfl S fun w' S' => ⟨congrArg Value.bool (decide_eq_decide.2 (ix_nonneg l v)), S'.mod⟩
theorem place (la : Option Addr) (lc : Nat) (l : List Int) (v : Int) (hn : l.length ≤ 1000000) (w : World) (hl : Ints w la lc l) : Ct Tryd.prog 41 #[.slice la l.length lc, iv v] w (fun u w' => u = iv (ix l v) ∧ Ext w w') := by
  refine fn_intro (args := [.slice la l.length lc, iv v]) Tryd.func41 rfl rfl (by kernel_rfl) ?_
  have S := St.start no w
  refine W.seq (W.region S ?_)
  refine AS.cons (sp_asg rfl ?_)
  refine AS.nil ?_
  intro _ S
  refine W.seq (W.seq (W.region S ?_))
  refine AS.cons (sp_asg rfl ?_)
  refine AS.nil ?_
  intro _ S
  refine W.block ?_
  refine W.loopS S [4, 5, 6, 7, 8, 9, 10, 11, 12, 13, 14, 15, 16, 17, 18] [] (fun (j : Nat) => [(5, iv j)]) (fun _ => []) (fun j => j ≤ l.length ∧ ∀ i, i < j → l[i]? ≠ some v) (fun j => l.length - j) 0 ⟨by omega, fun i hi => absurd hi (by omega)⟩ ⟨rfl, trivial⟩ trivial ?_
  rintro j σ M w ⟨hj, hnn⟩ S
  refine W.seq (W.seq (W.region S ?_))
  refine AS.cons (sp_move (v := .int _ _) rfl ?_)
  refine AS.cons (sp_move rfl ?_)
  refine AS.cons (sp_len rfl sl_26_3_1 ?_)
  refine AS.cons (sp_lss rfl rfl ?_)
  refine AS.nil ?_
  intro _ S
  refine W.condd rfl (fun c9 => ?_) (fun c9 => ?_)
  · skip
    refine W.skip ?_
    refine W.seq (W.block ?_)
    refine W.seq (W.region S ?_)
    have hlt : j < l.length := by omega
    obtain ⟨x, hx⟩ := get_some hlt
    refine AS.cons (sp_move rfl ?_)
    refine AS.cons (sp_move (v := .int _ _) rfl ?_)
    refine AS.cons (sp_iaR hl rfl rfl sl_26_3_1 (by first | omega | (simp only [decide_eq_true_eq, decide_eq_false_iff_not] at *; omega)) ?_)
    refine AS.cons (sp_ldR 0 hl (fun _ h => h) rfl sc_3 (ints_at hx) (by first | omega | (simp only [decide_eq_true_eq, decide_eq_false_iff_not] at *; omega)) ?_)
    refine AS.cons (sp_move (v := .int _ _) rfl ?_)
    refine AS.cons (sp_eql rfl rfl ?_)
    refine AS.nil ?_
    intro _ S
    refine W.condd rfl (fun c17 => ?_) (fun c17 => ?_)
    · skip
      have he := ix_at (by rw [hx, c17]) hnn
      refine W.seq (W.region S ?_)
      refine AS.cons (sp_move (v := .int _ _) rfl ?_)
      refine AS.cons (sp_asg (v := .int _ _) rfl ?_)
      refine AS.nil ?_
      intro _ S
      refine W.ret ?_
      first | exact ret1 rfl rfl S fun w' S' => ⟨congrArg iv he.symm, S'.mod⟩ | exact ret1 rfl rfl S fun w' S' => ⟨congrArg iv (ix_none fun i hi => hnn i (by omega)).symm, S'.mod⟩
    · skip
      refine W.skip ?_
      refine W.region S ?_
      refine AS.cons (sp_move (v := .int _ _) rfl ?_)
      refine AS.cons (sp_add rfl rfl (by first | omega | (simp only [decide_eq_true_eq, decide_eq_false_iff_not] at *; omega)) ?_)
      refine AS.cons (sp_asg (v := .int _ _) rfl ?_)
      refine AS.nil ?_
      intro _ S
      exact ⟨j + 1, _, ⟨by omega, snoc_lt hnn (by rw [hx]; intro e; exact c17 (Option.some.inj e))⟩, by omega, ⟨by simp [upd], trivial⟩, trivial, by repeat (first | exact Agr.refl _ _ | exact Agr.msk _ _ _ | refine Agr.upd ?_ _ rfl | refine Agr.upds ?_ rfl | refine Agr.mskIn ?_ rfl), by repeat (first | exact Agr.refl _ _ | exact Agr.msk _ _ _ | refine Agr.upd ?_ _ rfl | refine Agr.upds ?_ rfl | refine Agr.mskIn ?_ rfl), rfl, S⟩
  · skip
    refine W.exit ?_
    refine W.seq (W.region S ?_)
    refine AS.cons (sp_asg rfl ?_)
    refine AS.nil ?_
    intro _ S
    refine W.ret ?_
    first | exact ret1 rfl rfl S fun w' S' => ⟨congrArg iv he.symm, S'.mod⟩ | exact ret1 rfl rfl S fun w' S' => ⟨congrArg iv (ix_none fun i hi => hnn i (by omega)).symm, S'.mod⟩
theorem same (la : Option Addr) (lc : Nat) (l : List Int) (ma : Option Addr) (mc : Nat) (m : List Int) (w : World) (hl : Ints w la lc l) (hm : Ints w ma mc m) : Ct Tryd.prog 21 #[.slice la l.length lc, .slice ma m.length mc] w (fun u w' => u = .bool (decide (l = m)) ∧ Ext w w') := by
  refine fn_intro (args := [.slice la l.length lc, .slice ma m.length mc]) Tryd.func21 rfl rfl (by kernel_rfl) ?_
  have S := St.start no w
  have hln : l.length ≤ 9223372036854775807 := hl.2.1
  refine W.seq (W.region S ?_)
  refine AS.cons (sp_asg rfl ?_)
  refine AS.nil ?_
  intro _ S
  refine W.seq (W.region S ?_)
  refine AS.cons (sp_move rfl ?_)
  refine AS.cons (sp_len rfl sl_26_3_1 ?_)
  refine AS.cons (sp_move rfl ?_)
  refine AS.cons (sp_len rfl sl_26_3_1 ?_)
  refine AS.cons (sp_eql rfl rfl ?_)
  refine AS.cons (sp_asg (v := .bool _) rfl ?_)
  refine AS.nil ?_
  intro _ S
  refine W.seq (W.seq (W.region S ?_))
  refine AS.cons (sp_asg rfl ?_)
  refine AS.nil ?_
  intro _ S
  refine W.block ?_
  refine W.loopS S [5, 6, 12, 13, 14, 15, 16, 17, 18, 19, 20, 21, 22, 23, 24, 25, 26, 27, 28, 29] [] (fun (j : Nat) => [(6, iv j), (5, .bool (sameU l m j))]) (fun _ => []) (fun j => j ≤ l.length) (fun j => l.length - j) 0 (by omega) ⟨rfl, congrArg Value.bool (sameU_zero l m).symm, trivial⟩ trivial ?_
  rintro j σ M w1 hj S
  refine W.seq (W.seq (W.region S ?_))
  refine AS.cons (sp_move (v := .bool _) rfl ?_)
  refine AS.cons (sp_move (v := .bool _) rfl ?_)
  refine AS.split 13 rfl (fun g13 => ?_) (fun g13 => ?_)
  · skip
    refine AS.cons (sp_move (v := .int _ _) rfl ?_)
    refine AS.cons (sp_move rfl ?_)
    refine AS.cons (sp_len rfl sl_26_3_1 ?_)
    refine AS.cons (sp_lss rfl rfl ?_)
    refine AS.cons (sp_pick_t rfl (v := .bool _) rfl ?_)
    refine AS.nil ?_
    intro _ S
    refine W.cond rfl (fun c18 => ?_) (fun c18 => ?_)
    · skip
      have hlt : j < l.length := by have := of_decide_eq_true c18; omega
      have hlm := sameU_len g13
      obtain ⟨x, hx⟩ := get_some hlt
      obtain ⟨y, hy⟩ := get_some (l := m) (j := j) (by omega)
      refine W.skip ?_
      refine W.seq (W.block ?_)
      refine W.draw S mixed (fun i => ([KD.q [], KD.q [], KD.q [], KD.q [], KD.q [], KD.q [], KD.q [], KD.q [], KD.q [], KD.q []] : List KD)[i]?) [] [0, 1, 2, 3, 4, 5, 6, 7, 8, 9] (by kernel_rfl) ?_
      refine AW.cons rfl rfl (sp_move rfl ?_)
      refine AW.cons rfl rfl (sp_move (v := .int _ _) rfl ?_)
      refine AW.cons rfl rfl (sp_iaR hl rfl rfl sl_26_3_1 (by omega) ?_)
      refine AW.cons rfl rfl (sp_ldR 0 hl (fun _ h => h) rfl sc_3 (ints_at hx) (by omega) ?_)
      refine AW.cons rfl rfl (sp_move rfl ?_)
      refine AW.cons rfl rfl (sp_move (v := .int _ _) rfl ?_)
      refine AW.cons rfl rfl (sp_iaR hm rfl rfl sl_26_3_1 (by omega) ?_)
      refine AW.cons rfl rfl (sp_ldR 0 hm (fun _ h => h) rfl sc_3 (ints_at hy) (by omega) ?_)
      refine AW.cons rfl rfl (sp_eql rfl rfl ?_)
      refine AW.cons rfl rfl (sp_asg (v := .bool _) rfl ?_)
      refine AW.nil ?_
      intro _ S
      refine W.region S ?_
      refine AS.cons (sp_move (v := .int _ _) rfl ?_)
      refine AS.cons (sp_add rfl rfl (by first | omega | (simp only [decide_eq_true_eq, decide_eq_false_iff_not] at *; omega)) ?_)
      refine AS.cons (sp_asg (v := .int _ _) rfl ?_)
      refine AS.nil ?_
      intro _ S
      exact ⟨j + 1, _, by omega, by omega, ⟨by simp [upd], by show Value.bool _ = Value.bool _; rw [sameU_succ hx hy, g13]; rfl, trivial⟩, trivial, by repeat (first | exact Agr.refl _ _ | exact Agr.msk _ _ _ | refine Agr.upd ?_ _ rfl | refine Agr.upds ?_ rfl | refine Agr.mskIn ?_ rfl), by repeat (first | exact Agr.refl _ _ | exact Agr.msk _ _ _ | refine Agr.upd ?_ _ rfl | refine Agr.upds ?_ rfl | refine Agr.mskIn ?_ rfl), rfl, S⟩
    · skip
      refine W.exit ?_
      have hex : sameU l m j = decide (l = m) := by first | (rw [← sameU_all, show l.length = j by (have := of_decide_eq_false c18; omega)]; done) | (rw [← sameU_all, g13, sameU_down hj g13]; done)
      refine W.seq (W.region S ?_)
      refine AS.cons (sp_move (v := .bool _) rfl ?_)
      refine AS.cons (sp_asg (v := .bool _) rfl ?_)
      refine AS.nil ?_
      intro _ S
      refine W.ret ?_
      exact ret1 rfl rfl S fun w' S' => ⟨congrArg Value.bool hex, S'.mod⟩
  · skip
    refine AS.cons (sp_skip rfl ?_)
    refine AS.cons (sp_skip rfl ?_)
    refine AS.cons (sp_skip rfl ?_)
    refine AS.cons (sp_skip rfl ?_)
    refine AS.cons (sp_pick_f rfl (v := .bool _) rfl ?_)
    refine AS.nil ?_
    intro _ S
    refine W.cond (b := false) rfl (fun h => nomatch h) (fun _ => ?_)
    refine W.exit ?_
    have hex : sameU l m j = decide (l = m) := by first | (rw [← sameU_all, show l.length = j by (have := of_decide_eq_false c18; omega)]; done) | (rw [← sameU_all, g13, sameU_down hj g13]; done)
    refine W.seq (W.region S ?_)
    refine AS.cons (sp_move (v := .bool _) rfl ?_)
    refine AS.cons (sp_asg (v := .bool _) rfl ?_)
    refine AS.nil ?_
    intro _ S
    refine W.ret ?_
    exact ret1 rfl rfl S fun w' S' => ⟨congrArg Value.bool hex, S'.mod⟩
theorem bitF (s n : Nat) (hs : s ≤ 1000000) (hn : n ≤ 60) (w : World) : Ct Tryd.prog 89 #[iv s, iv n] w (fun u w' => u = .bool (s.testBit n) ∧ Ext w w') := by
  refine fn_intro (args := [iv s, iv n]) Tryd.func89 rfl rfl (by kernel_rfl) ?_
  have S := St.start no w
  have e : ((s : Int) / 2 ^ ((n : Int)).toNat) = ((s / 2 ^ n : Nat) : Int) := by rw [Int.toNat_natCast, Int.natCast_ediv, Int.natCast_pow]; rfl
  have hb : 0 ≤ ((s : Int) / 2 ^ ((n : Int)).toNat) ∧ ((s : Int) / 2 ^ ((n : Int)).toNat) ≤ 9223372036854775807 := by
    rw [e]
    exact ⟨Int.natCast_nonneg _, Int.le_trans (Int.ofNat_le.2 (Nat.div_le_self _ _)) (by omega)⟩
  have hv : s.testBit n = decide (((s : Int) / 2 ^ ((n : Int)).toNat) % 2 = 1) := by
    rw [e, Nat.testBit_eq_decide_div_mod_eq]
    exact decide_eq_decide.2 (by omega)
  refine W.seq (W.region S ?_)
  refine AS.cons (sp_asg rfl ?_)
  refine AS.nil ?_
  intro _ S
  refine W.seq (W.region S ?_)
  refine AS.cons (sp_move (v := .int _ _) rfl ?_)
  refine AS.cons (sp_move (v := .int _ _) rfl ?_)
  refine AS.cons (sp_shr rfl rfl (by omega) ?_)
  refine AS.cons (sp_rem rfl rfl hb.1 (by omega) ?_)
  refine AS.cons (sp_eql rfl rfl ?_)
  refine AS.cons (sp_asg (v := .bool _) rfl ?_)
  refine AS.nil ?_
  intro _ S
  refine W.ret ?_
  exact ret1 rfl rfl S fun w' S' => ⟨congrArg Value.bool hv.symm, S'.mod⟩
theorem bitsF (s N : Nat) (hs : s ≤ 1000000) (hN : N ≤ 60) (w : World) : Ct Tryd.prog 55 #[iv s, iv N] w
    (fun u w' => ∃ i, ((∃ a c, u = .slice a (btU s N).length c ∧ (btU s N).length ≤ c) ∧ i = slc 3 1 u (btU s N).length ((btU s N).map iv)) ∧ St no w w' (upd eL 0 i) []) := by
  refine fn_intro (args := [iv s, iv N]) Tryd.func55 rfl rfl (by kernel_rfl) ?_
  have S := St.start no w
  refine W.seq (W.region S ?_)
  refine AS.cons (sp_asg rfl ?_)
  refine AS.nil ?_
  intro _ S
  refine W.seq (W.region S ?_)
  refine AS.cons (sp_bsS0 901 sl_26_3_1 (fun b7 => ?_))
  refine AS.cons (sp_asg rfl ?_)
  refine AS.nil ?_
  intro _ S
  refine W.seq (W.seq (W.region S ?_))
  refine AS.cons (sp_asg rfl ?_)
  refine AS.nil ?_
  intro _ S
  refine W.block ?_
  refine W.loopS S [5, 6, 8, 9, 10, 11, 12, 13, 14, 15, 16, 17, 18, 19] [18, 19, 901] (fun (z : Nat × Value) => [(6, iv z.1), (5, z.2)]) (fun z => [(901, slc 3 1 z.2 (btU s z.1).length ((btU s z.1).map iv))]) (fun z => z.1 ≤ N ∧ ∃ a c, z.2 = .slice a (btU s z.1).length c) (fun z => N - z.1) (0, _) ⟨by omega, _, 0, rfl⟩ ⟨rfl, rfl, trivial⟩ ⟨rfl, trivial⟩ ?_
  rintro ⟨j, v⟩ σ M w1 ⟨hj, a, c, hva⟩ S
  replace hj : j ≤ N := hj
  replace hva : v = .slice a (btU s j).length c := hva
  subst hva
  have hbl := btU_len s j
  refine W.seq (W.seq (W.region S ?_))
  refine AS.cons (sp_move (v := .int _ _) rfl ?_)
  refine AS.cons (sp_move (v := .int _ _) rfl ?_)
  refine AS.cons (sp_lss rfl rfl ?_)
  refine AS.nil ?_
  intro _ S
  refine W.condd rfl (fun c10 => ?_) (fun c10 => ?_)
  · skip
    have hlt : j < N := by omega
    refine W.skip ?_
    refine W.seq (W.block ?_)
    refine W.seq (W.region S ?_)
    refine AS.cons (sp_move (v := .int _ _) rfl ?_)
    refine AS.cons (sp_move (v := .int _ _) rfl ?_)
    refine AS.cons (sp_call [] rfl rfl cf_89 (fun F w _ S => bitF _ _ (by omega) (by omega) w) ?_)
    refine AS.nil ?_
    intro _ S
    refine W.cond rfl (fun c15 => ?_) (fun c15 => ?_)
    · skip
      have hw : btU s (j + 1) = btU s j ++ [(j : Int)] := by rw [btU_succ, if_pos c15]
      refine W.region S ?_
      refine AS.cons (sp_move rfl ?_)
      refine AS.cons (sp_move (v := .int _ _) rfl ?_)
      refine AS.cons (sp_bs 18 [.tmp 17] _ sl_26_3_1 zs_3_1 rfl rfl rfl rfl rfl rfl (fun b18 => ?_))
      refine AS.cons (sp_app 901 [18] rfl rfl sl_26_3_1 zs_3_1 rfl (fun F w hF S => rd_pt (S.get ((hF 18 (by simp)).trans rfl)).1 rfl (by omega) (by omega)) rfl (by first | omega | (simp only [] at *; omega)) (fun a19 c19 => ?_))
      refine AS.cons (sp_asg rfl ?_)
      refine AS.nil ?_
      intro _ S
      refine W.region S ?_
      refine AS.cons (sp_move (v := .int _ _) rfl ?_)
      refine AS.cons (sp_add rfl rfl (by first | omega | (simp only [decide_eq_true_eq, decide_eq_false_iff_not] at *; omega)) ?_)
      refine AS.cons (sp_asg (v := .int _ _) rfl ?_)
      refine AS.nil ?_
      intro _ S
      first | exact ⟨(j + 1, .slice a19 ((btU s j).length + 1) c19), _, ⟨by show j + 1 ≤ N; omega, a19, c19, by show _ = Value.slice a19 (btU s (j + 1)).length c19; rw [hw, List.length_append]; rfl⟩, by show N - (j + 1) < N - j; omega, ⟨by simp [upd], rfl, trivial⟩, ⟨by show slc 3 1 _ _ _ = slc 3 1 _ _ _; rw [hw, List.length_append, List.map_append]; rfl, trivial⟩, by repeat (first | exact Agr.refl _ _ | exact Agr.msk _ _ _ | refine Agr.upd ?_ _ rfl | refine Agr.upds ?_ rfl | refine Agr.mskIn ?_ rfl), by repeat (first | exact Agr.refl _ _ | exact Agr.msk _ _ _ | refine Agr.upd ?_ _ rfl | refine Agr.upds ?_ rfl | refine Agr.mskIn ?_ rfl), rfl, S⟩ | exact ⟨(j + 1, .slice a (btU s j).length c), _, ⟨by show j + 1 ≤ N; omega, a, c, by rw [hw]⟩, by show N - (j + 1) < N - j; omega, ⟨by simp [upd], rfl, trivial⟩, ⟨by show slc 3 1 _ _ _ = slc 3 1 _ _ _; rw [hw], trivial⟩, by repeat (first | exact Agr.refl _ _ | exact Agr.msk _ _ _ | refine Agr.upd ?_ _ rfl | refine Agr.upds ?_ rfl | refine Agr.mskIn ?_ rfl), by repeat (first | exact Agr.refl _ _ | exact Agr.msk _ _ _ | refine Agr.upd ?_ _ rfl | refine Agr.upds ?_ rfl | refine Agr.mskIn ?_ rfl), rfl, S⟩
    · skip
      have hw : btU s (j + 1) = btU s j := by rw [btU_succ, c15]; rfl
      refine W.skip ?_
      refine W.region S ?_
      refine AS.cons (sp_move (v := .int _ _) rfl ?_)
      refine AS.cons (sp_add rfl rfl (by first | omega | (simp only [decide_eq_true_eq, decide_eq_false_iff_not] at *; omega)) ?_)
      refine AS.cons (sp_asg (v := .int _ _) rfl ?_)
      refine AS.nil ?_
      intro _ S
      first | exact ⟨(j + 1, .slice a19 ((btU s j).length + 1) c19), _, ⟨by show j + 1 ≤ N; omega, a19, c19, by show _ = Value.slice a19 (btU s (j + 1)).length c19; rw [hw, List.length_append]; rfl⟩, by show N - (j + 1) < N - j; omega, ⟨by simp [upd], rfl, trivial⟩, ⟨by show slc 3 1 _ _ _ = slc 3 1 _ _ _; rw [hw, List.length_append, List.map_append]; rfl, trivial⟩, by repeat (first | exact Agr.refl _ _ | exact Agr.msk _ _ _ | refine Agr.upd ?_ _ rfl | refine Agr.upds ?_ rfl | refine Agr.mskIn ?_ rfl), by repeat (first | exact Agr.refl _ _ | exact Agr.msk _ _ _ | refine Agr.upd ?_ _ rfl | refine Agr.upds ?_ rfl | refine Agr.mskIn ?_ rfl), rfl, S⟩ | exact ⟨(j + 1, .slice a (btU s j).length c), _, ⟨by show j + 1 ≤ N; omega, a, c, by rw [hw]⟩, by show N - (j + 1) < N - j; omega, ⟨by simp [upd], rfl, trivial⟩, ⟨by show slc 3 1 _ _ _ = slc 3 1 _ _ _; rw [hw], trivial⟩, by repeat (first | exact Agr.refl _ _ | exact Agr.msk _ _ _ | refine Agr.upd ?_ _ rfl | refine Agr.upds ?_ rfl | refine Agr.mskIn ?_ rfl), by repeat (first | exact Agr.refl _ _ | exact Agr.msk _ _ _ | refine Agr.upd ?_ _ rfl | refine Agr.upds ?_ rfl | refine Agr.mskIn ?_ rfl), rfl, S⟩
  · skip
    obtain rfl : j = N := by omega
    refine W.exit ?_
    refine W.seq (W.region S ?_)
    refine AS.cons (sp_move rfl ?_)
    refine AS.cons (sp_asg rfl ?_)
    refine AS.nil ?_
    intro _ S
    refine W.ret ?_
    exact ret1 rfl rfl S fun w' S' => let ⟨_, a1, c1, hv1, hv2, _⟩ := S'.slc_form (k := 901) rfl; ⟨_, ⟨⟨a1, c1, hv1, hv2⟩, rfl⟩, S'.only 901⟩
theorem ltL_drop : ∀ {k : Nat} {l m : List Int}, k ≤ l.length → k ≤ m.length → (∀ i, i < k → l[i]? = m[i]?) → ltL l m = ltL (l.drop k) (m.drop k)
  | 0, _, _, _, _, _ => rfl
  | k + 1, [], _, h, _, _ => by simp at h
  | k + 1, _ :: _, [], _, h, _ => by simp at h
  | k + 1, x :: l, y :: m, h1, h2, h => by
    have h0 := h 0 (by omega)
    simp at h0
    subst h0
    rw [List.drop_succ_cons, List.drop_succ_cons, ← ltL_drop (by simpa using h1) (by simpa using h2) (fun i hi => by have := h (i + 1) (by omega); simpa using this)]
    simp [ltL]
theorem ltL_no {k : Nat} {l m : List Int} (h1 : k ≤ l.length) (h2 : k = m.length) (h : ∀ i, i < k → l[i]? = m[i]?) : ltL l m = false := by
  rw [ltL_drop h1 (by omega) h, h2, List.drop_length]
  cases List.drop m.length l <;> rfl
theorem ltL_yes {k : Nat} {l m : List Int} (h1 : k = l.length) (h2 : k < m.length) (h : ∀ i, i < k → l[i]? = m[i]?) : ltL l m = true := by
  rw [ltL_drop (by omega) (by omega) h, h1, List.drop_length]
  rw [h1] at h2
  obtain ⟨y, hy⟩ := get_some h2
  rw [List.drop_eq_getElem_cons h2]; rfl
theorem ltL_here {k : Nat} {l m : List Int} {x y : Int} (hx : l[k]? = some x) (hy : m[k]? = some y) (hne : ¬ x = y) (h : ∀ i, i < k → l[i]? = m[i]?) : ltL l m = decide (x < y) := by
  obtain ⟨h1, rfl⟩ := List.getElem?_eq_some_iff.1 hx
  obtain ⟨h2, rfl⟩ := List.getElem?_eq_some_iff.1 hy
  rw [ltL_drop (by omega) (by omega) h, List.drop_eq_getElem_cons h1, List.drop_eq_getElem_cons h2]
  simp [ltL, hne]
theorem soonerF (la : Option Addr) (lc : Nat) (l : List Int) (ma : Option Addr) (mc : Nat) (m : List Int) (w : World) (hl : Ints w la lc l) (hm : Ints w ma mc m) : Ct Tryd.prog 90 #[.slice la l.length lc, .slice ma m.length mc] w (fun u w' => u = .bool (ltL l m) ∧ Ext w w') := by
  refine fn_intro (args := [.slice la l.length lc, .slice ma m.length mc]) Tryd.func90 rfl rfl (by kernel_rfl) ?_
  have S := St.start no w
  have hln : l.length ≤ 9223372036854775807 := hl.2.1
  have hmn : m.length ≤ 9223372036854775807 := hm.2.1
  refine W.seq (W.region S ?_)
  refine AS.cons (sp_asg rfl ?_)
  refine AS.nil ?_
  intro _ S
  refine W.seq (W.region S ?_)
  refine AS.cons (sp_asg rfl ?_)
  refine AS.nil ?_
  intro _ S
  refine W.seq (W.block ?_)
  refine W.loopS S [5, 6, 7, 8, 9, 10, 11, 12, 13, 14, 15, 16, 17, 18, 19, 20, 21, 22, 23, 24, 25, 26, 27, 28] [] (fun (k : Nat) => [(5, iv k)]) (fun _ => []) (fun k => k ≤ l.length ∧ k ≤ m.length ∧ ∀ i, i < k → l[i]? = m[i]?) (fun k => l.length - k) 0 ⟨by omega, by omega, fun i hi => absurd hi (by omega)⟩ ⟨rfl, trivial⟩ trivial ?_
  rintro k σ M w1 ⟨hk, hkm, hag⟩ S
  refine W.seq (W.seq (W.draw S mixed (fun i => ([KD.q [], KD.q [], KD.q [], KD.q [], KD.q [], KD.q [], KD.q [], KD.q [], KD.q [], KD.q [], KD.q [], KD.q [], KD.q [], KD.q [], KD.q [], KD.q [], KD.q [], KD.q [], KD.q [], KD.q [], KD.q []] : List KD)[i]?) [] [0, 1, 2, 3, 4, 5, 6, 7, 8, 9, 10, 11, 12, 13, 14, 15, 16, 17, 18, 19, 20] (by kernel_rfl) ?_))
  refine AW.cons rfl rfl (sp_move (v := .int _ _) rfl ?_)
  refine AW.cons rfl rfl (sp_move rfl ?_)
  refine AW.cons rfl rfl (sp_len rfl sl_26_3_1 ?_)
  refine AW.cons rfl rfl (sp_lss rfl rfl ?_)
  refine AW.cons rfl rfl (sp_move (v := .bool _) rfl ?_)
  refine AW.split 10 rfl (fun g10 => ?_) (fun g10 => ?_)
  · skip
    refine AW.cons rfl rfl (sp_move (v := .int _ _) rfl ?_)
    refine AW.cons rfl rfl (sp_move rfl ?_)
    refine AW.cons rfl rfl (sp_len rfl sl_26_3_1 ?_)
    refine AW.cons rfl rfl (sp_lss rfl rfl ?_)
    refine AW.cons rfl rfl (sp_pick_t rfl (v := .bool _) rfl ?_)
    refine AW.cons rfl rfl (sp_move (v := .bool _) rfl ?_)
    refine AW.split 16 rfl (fun g16 => ?_) (fun g16 => ?_)
    · skip
      have hk1 : k < l.length := by have := of_decide_eq_true g10; omega
      have hk2 : k < m.length := by have := of_decide_eq_true g16; omega
      obtain ⟨x, hx⟩ := get_some hk1
      obtain ⟨y, hy⟩ := get_some hk2
      refine AW.cons rfl rfl (sp_move rfl ?_)
      refine AW.cons rfl rfl (sp_move (v := .int _ _) rfl ?_)
      refine AW.cons rfl rfl (sp_iaR hl rfl rfl sl_26_3_1 (by omega) ?_)
      refine AW.cons rfl rfl (sp_ldR 0 hl (fun _ h => h) rfl sc_3 (ints_at hx) (by omega) ?_)
      refine AW.cons rfl rfl (sp_move rfl ?_)
      refine AW.cons rfl rfl (sp_move (v := .int _ _) rfl ?_)
      refine AW.cons rfl rfl (sp_iaR hm rfl rfl sl_26_3_1 (by omega) ?_)
      refine AW.cons rfl rfl (sp_ldR 0 hm (fun _ h => h) rfl sc_3 (ints_at hy) (by omega) ?_)
      refine AW.cons rfl rfl (sp_eql rfl rfl ?_)
      refine AW.cons rfl rfl (sp_pick_t rfl (v := .bool _) rfl ?_)
      refine AW.nil ?_
      intro _ S
      refine W.cond rfl (fun c26 => ?_) (fun c26 => ?_)
      · skip
        refine W.skip ?_
        refine W.block ?_
        refine W.region S ?_
        refine AS.cons (sp_move (v := .int _ _) rfl ?_)
        refine AS.cons (sp_add rfl rfl (by first | omega | (simp only [decide_eq_true_eq, decide_eq_false_iff_not] at *; omega)) ?_)
        refine AS.cons (sp_asg (v := .int _ _) rfl ?_)
        refine AS.nil ?_
        intro _ S
        exact ⟨k + 1, _, ⟨by omega, by omega, snoc_lt hag (by rw [hx, hy, of_decide_eq_true c26])⟩, by omega, ⟨by simp [upd], trivial⟩, trivial, by repeat (first | exact Agr.refl _ _ | exact Agr.msk _ _ _ | refine Agr.upd ?_ _ rfl | refine Agr.upds ?_ rfl | refine Agr.mskIn ?_ rfl), by repeat (first | exact Agr.refl _ _ | exact Agr.msk _ _ _ | refine Agr.upd ?_ _ rfl | refine Agr.upds ?_ rfl | refine Agr.mskIn ?_ rfl), rfl, S⟩
      · skip
        refine W.exit ?_
        refine W.seq (W.draw S mixed (fun i => ([KD.q [], KD.q [], KD.q [], KD.q [], KD.q [], KD.q [], KD.q [], KD.q [], KD.q [], KD.q [], KD.q [], KD.q [], KD.q [], KD.q [], KD.q [], KD.q [], KD.q [], KD.q [], KD.q [], KD.q [], KD.q [], KD.q []] : List KD)[i]?) [] [0, 1, 2, 3, 4, 5, 6, 7, 8, 9, 10, 11, 12, 13, 14, 15, 16, 17, 18, 19, 20, 21] (by kernel_rfl) ?_)
        refine AW.cons rfl rfl (sp_move (v := .int _ _) rfl ?_)
        refine AW.cons rfl rfl (sp_move rfl ?_)
        refine AW.cons rfl rfl (sp_len rfl sl_26_3_1 ?_)
        refine AW.cons rfl rfl (sp_lss rfl rfl ?_)
        refine AW.cons rfl rfl (sp_move (v := .bool _) rfl ?_)
        refine AW.split 33 rfl (fun g33 => ?_) (fun g33 => ?_)
        · skip
          refine AW.cons rfl rfl (sp_move (v := .int _ _) rfl ?_)
          refine AW.cons rfl rfl (sp_move rfl ?_)
          refine AW.cons rfl rfl (sp_len rfl sl_26_3_1 ?_)
          refine AW.cons rfl rfl (sp_eql rfl rfl ?_)
          refine AW.cons rfl rfl (sp_move (v := .bool _) rfl ?_)
          refine AW.split 38 rfl (fun g38 => ?_) (fun g38 => ?_)
          · skip
            refine AW.cons rfl rfl (sp_skip rfl ?_)
            refine AW.cons rfl rfl (sp_skip rfl ?_)
            refine AW.cons rfl rfl (sp_skip rfl ?_)
            refine AW.cons rfl rfl (sp_skip rfl ?_)
            refine AW.cons rfl rfl (sp_skip rfl ?_)
            refine AW.cons rfl rfl (sp_skip rfl ?_)
            refine AW.cons rfl rfl (sp_skip rfl ?_)
            refine AW.cons rfl rfl (sp_skip rfl ?_)
            refine AW.cons rfl rfl (sp_skip rfl ?_)
            refine AW.cons rfl rfl (sp_pick_t rfl (v := .bool _) rfl ?_)
            refine AW.cons rfl rfl (sp_pick_t rfl (v := .bool _) rfl ?_)
            refine AW.cons rfl rfl (sp_asg (v := .bool _) rfl ?_)
            refine AW.nil ?_
            intro _ S
            refine W.ret ?_
            first | exact ret1 rfl rfl S fun w' S' => ⟨congrArg Value.bool (ltL_no hk (by have := of_decide_eq_false g33; omega) hag).symm, S'.mod⟩ | exact ret1 rfl rfl S fun w' S' => ⟨congrArg Value.bool (ltL_yes (by have := of_decide_eq_true g38; omega) (by have := of_decide_eq_true g33; omega) hag).symm, S'.mod⟩ | exact ret1 rfl rfl S fun w' S' => ⟨congrArg Value.bool (ltL_here hx' hy' (by rw [hx] at hx'; rw [hy] at hy'; cases hx'; cases hy'; exact of_decide_eq_false c26) hag).symm, S'.mod⟩ | (exfalso; have h1 := of_decide_eq_false g10; omega) | (exfalso; have h1 := of_decide_eq_false g16; omega)
          · skip
            have hk3 : k < l.length := by have := of_decide_eq_false g38; omega
            have hk4 : k < m.length := by have := of_decide_eq_true g33; omega
            obtain ⟨x', hx'⟩ := get_some hk3
            obtain ⟨y', hy'⟩ := get_some hk4
            refine AW.cons rfl rfl (sp_move rfl ?_)
            refine AW.cons rfl rfl (sp_move (v := .int _ _) rfl ?_)
            refine AW.cons rfl rfl (sp_iaR hl rfl rfl sl_26_3_1 (by omega) ?_)
            refine AW.cons rfl rfl (sp_ldR 0 hl (fun _ h => h) rfl sc_3 (ints_at hx') (by omega) ?_)
            refine AW.cons rfl rfl (sp_move rfl ?_)
            refine AW.cons rfl rfl (sp_move (v := .int _ _) rfl ?_)
            refine AW.cons rfl rfl (sp_iaR hm rfl rfl sl_26_3_1 (by omega) ?_)
            refine AW.cons rfl rfl (sp_ldR 0 hm (fun _ h => h) rfl sc_3 (ints_at hy') (by omega) ?_)
            refine AW.cons rfl rfl (sp_lss rfl rfl ?_)
            refine AW.cons rfl rfl (sp_pick_f rfl (v := .bool _) rfl ?_)
            refine AW.cons rfl rfl (sp_pick_t rfl (v := .bool _) rfl ?_)
            refine AW.cons rfl rfl (sp_asg (v := .bool _) rfl ?_)
            refine AW.nil ?_
            intro _ S
            refine W.ret ?_
            first | exact ret1 rfl rfl S fun w' S' => ⟨congrArg Value.bool (ltL_no hk (by have := of_decide_eq_false g33; omega) hag).symm, S'.mod⟩ | exact ret1 rfl rfl S fun w' S' => ⟨congrArg Value.bool (ltL_yes (by have := of_decide_eq_true g38; omega) (by have := of_decide_eq_true g33; omega) hag).symm, S'.mod⟩ | exact ret1 rfl rfl S fun w' S' => ⟨congrArg Value.bool (ltL_here hx' hy' (by rw [hx] at hx'; rw [hy] at hy'; cases hx'; cases hy'; exact of_decide_eq_false c26) hag).symm, S'.mod⟩ | (exfalso; have h1 := of_decide_eq_false g10; omega) | (exfalso; have h1 := of_decide_eq_false g16; omega)
        · skip
          refine AW.cons rfl rfl (sp_skip rfl ?_)
          refine AW.cons rfl rfl (sp_skip rfl ?_)
          refine AW.cons rfl rfl (sp_skip rfl ?_)
          refine AW.cons rfl rfl (sp_skip rfl ?_)
          refine AW.cons rfl rfl (sp_skip rfl ?_)
          refine AW.cons rfl rfl (sp_skip rfl ?_)
          refine AW.cons rfl rfl (sp_skip rfl ?_)
          refine AW.cons rfl rfl (sp_skip rfl ?_)
          refine AW.cons rfl rfl (sp_skip rfl ?_)
          refine AW.cons rfl rfl (sp_skip rfl ?_)
          refine AW.cons rfl rfl (sp_skip rfl ?_)
          refine AW.cons rfl rfl (sp_skip rfl ?_)
          refine AW.cons rfl rfl (sp_skip rfl ?_)
          refine AW.cons rfl rfl (sp_skip rfl ?_)
          refine AW.cons rfl rfl (sp_skip rfl ?_)
          refine AW.cons rfl rfl (sp_pick_f rfl (v := .bool _) rfl ?_)
          refine AW.cons rfl rfl (sp_asg (v := .bool _) rfl ?_)
          refine AW.nil ?_
          intro _ S
          refine W.ret ?_
          first | exact ret1 rfl rfl S fun w' S' => ⟨congrArg Value.bool (ltL_no hk (by have := of_decide_eq_false g33; omega) hag).symm, S'.mod⟩ | exact ret1 rfl rfl S fun w' S' => ⟨congrArg Value.bool (ltL_yes (by have := of_decide_eq_true g38; omega) (by have := of_decide_eq_true g33; omega) hag).symm, S'.mod⟩ | exact ret1 rfl rfl S fun w' S' => ⟨congrArg Value.bool (ltL_here hx' hy' (by rw [hx] at hx'; rw [hy] at hy'; cases hx'; cases hy'; exact of_decide_eq_false c26) hag).symm, S'.mod⟩ | (exfalso; have h1 := of_decide_eq_false g10; omega) | (exfalso; have h1 := of_decide_eq_false g16; omega)
    · skip
      refine AW.cons rfl rfl (sp_skip rfl ?_)
      refine AW.cons rfl rfl (sp_skip rfl ?_)
      refine AW.cons rfl rfl (sp_skip rfl ?_)
      refine AW.cons rfl rfl (sp_skip rfl ?_)
      refine AW.cons rfl rfl (sp_skip rfl ?_)
      refine AW.cons rfl rfl (sp_skip rfl ?_)
      refine AW.cons rfl rfl (sp_skip rfl ?_)
      refine AW.cons rfl rfl (sp_skip rfl ?_)
      refine AW.cons rfl rfl (sp_skip rfl ?_)
      refine AW.cons rfl rfl (sp_pick_f rfl (v := .bool _) rfl ?_)
      refine AW.nil ?_
      intro _ S
      refine W.cond (b := false) rfl (fun h => nomatch h) (fun _ => ?_)
      refine W.exit ?_
      refine W.seq (W.draw S mixed (fun i => ([KD.q [], KD.q [], KD.q [], KD.q [], KD.q [], KD.q [], KD.q [], KD.q [], KD.q [], KD.q [], KD.q [], KD.q [], KD.q [], KD.q [], KD.q [], KD.q [], KD.q [], KD.q [], KD.q [], KD.q [], KD.q [], KD.q []] : List KD)[i]?) [] [0, 1, 2, 3, 4, 5, 6, 7, 8, 9, 10, 11, 12, 13, 14, 15, 16, 17, 18, 19, 20, 21] (by kernel_rfl) ?_)
      refine AW.cons rfl rfl (sp_move (v := .int _ _) rfl ?_)
      refine AW.cons rfl rfl (sp_move rfl ?_)
      refine AW.cons rfl rfl (sp_len rfl sl_26_3_1 ?_)
      refine AW.cons rfl rfl (sp_lss rfl rfl ?_)
      refine AW.cons rfl rfl (sp_move (v := .bool _) rfl ?_)
      refine AW.split 33 rfl (fun g33 => ?_) (fun g33 => ?_)
      · skip
        refine AW.cons rfl rfl (sp_move (v := .int _ _) rfl ?_)
        refine AW.cons rfl rfl (sp_move rfl ?_)
        refine AW.cons rfl rfl (sp_len rfl sl_26_3_1 ?_)
        refine AW.cons rfl rfl (sp_eql rfl rfl ?_)
        refine AW.cons rfl rfl (sp_move (v := .bool _) rfl ?_)
        refine AW.split 38 rfl (fun g38 => ?_) (fun g38 => ?_)
        · skip
          refine AW.cons rfl rfl (sp_skip rfl ?_)
          refine AW.cons rfl rfl (sp_skip rfl ?_)
          refine AW.cons rfl rfl (sp_skip rfl ?_)
          refine AW.cons rfl rfl (sp_skip rfl ?_)
          refine AW.cons rfl rfl (sp_skip rfl ?_)
          refine AW.cons rfl rfl (sp_skip rfl ?_)
          refine AW.cons rfl rfl (sp_skip rfl ?_)
          refine AW.cons rfl rfl (sp_skip rfl ?_)
          refine AW.cons rfl rfl (sp_skip rfl ?_)
          refine AW.cons rfl rfl (sp_pick_t rfl (v := .bool _) rfl ?_)
          refine AW.cons rfl rfl (sp_pick_t rfl (v := .bool _) rfl ?_)
          refine AW.cons rfl rfl (sp_asg (v := .bool _) rfl ?_)
          refine AW.nil ?_
          intro _ S
          refine W.ret ?_
          first | exact ret1 rfl rfl S fun w' S' => ⟨congrArg Value.bool (ltL_no hk (by have := of_decide_eq_false g33; omega) hag).symm, S'.mod⟩ | exact ret1 rfl rfl S fun w' S' => ⟨congrArg Value.bool (ltL_yes (by have := of_decide_eq_true g38; omega) (by have := of_decide_eq_true g33; omega) hag).symm, S'.mod⟩ | exact ret1 rfl rfl S fun w' S' => ⟨congrArg Value.bool (ltL_here hx' hy' (by rw [hx] at hx'; rw [hy] at hy'; cases hx'; cases hy'; exact of_decide_eq_false c26) hag).symm, S'.mod⟩ | (exfalso; have h1 := of_decide_eq_false g10; omega) | (exfalso; have h1 := of_decide_eq_false g16; omega)
        · skip
          have hk3 : k < l.length := by have := of_decide_eq_false g38; omega
          have hk4 : k < m.length := by have := of_decide_eq_true g33; omega
          obtain ⟨x', hx'⟩ := get_some hk3
          obtain ⟨y', hy'⟩ := get_some hk4
          refine AW.cons rfl rfl (sp_move rfl ?_)
          refine AW.cons rfl rfl (sp_move (v := .int _ _) rfl ?_)
          refine AW.cons rfl rfl (sp_iaR hl rfl rfl sl_26_3_1 (by omega) ?_)
          refine AW.cons rfl rfl (sp_ldR 0 hl (fun _ h => h) rfl sc_3 (ints_at hx') (by omega) ?_)
          refine AW.cons rfl rfl (sp_move rfl ?_)
          refine AW.cons rfl rfl (sp_move (v := .int _ _) rfl ?_)
          refine AW.cons rfl rfl (sp_iaR hm rfl rfl sl_26_3_1 (by omega) ?_)
          refine AW.cons rfl rfl (sp_ldR 0 hm (fun _ h => h) rfl sc_3 (ints_at hy') (by omega) ?_)
          refine AW.cons rfl rfl (sp_lss rfl rfl ?_)
          refine AW.cons rfl rfl (sp_pick_f rfl (v := .bool _) rfl ?_)
          refine AW.cons rfl rfl (sp_pick_t rfl (v := .bool _) rfl ?_)
          refine AW.cons rfl rfl (sp_asg (v := .bool _) rfl ?_)
          refine AW.nil ?_
          intro _ S
          refine W.ret ?_
          first | exact ret1 rfl rfl S fun w' S' => ⟨congrArg Value.bool (ltL_no hk (by have := of_decide_eq_false g33; omega) hag).symm, S'.mod⟩ | exact ret1 rfl rfl S fun w' S' => ⟨congrArg Value.bool (ltL_yes (by have := of_decide_eq_true g38; omega) (by have := of_decide_eq_true g33; omega) hag).symm, S'.mod⟩ | exact ret1 rfl rfl S fun w' S' => ⟨congrArg Value.bool (ltL_here hx' hy' (by rw [hx] at hx'; rw [hy] at hy'; cases hx'; cases hy'; exact of_decide_eq_false c26) hag).symm, S'.mod⟩ | (exfalso; have h1 := of_decide_eq_false g10; omega) | (exfalso; have h1 := of_decide_eq_false g16; omega)
      · skip
        refine AW.cons rfl rfl (sp_skip rfl ?_)
        refine AW.cons rfl rfl (sp_skip rfl ?_)
        refine AW.cons rfl rfl (sp_skip rfl ?_)
        refine AW.cons rfl rfl (sp_skip rfl ?_)
        refine AW.cons rfl rfl (sp_skip rfl ?_)
        refine AW.cons rfl rfl (sp_skip rfl ?_)
        refine AW.cons rfl rfl (sp_skip rfl ?_)
        refine AW.cons rfl rfl (sp_skip rfl ?_)
        refine AW.cons rfl rfl (sp_skip rfl ?_)
        refine AW.cons rfl rfl (sp_skip rfl ?_)
        refine AW.cons rfl rfl (sp_skip rfl ?_)
        refine AW.cons rfl rfl (sp_skip rfl ?_)
        refine AW.cons rfl rfl (sp_skip rfl ?_)
        refine AW.cons rfl rfl (sp_skip rfl ?_)
        refine AW.cons rfl rfl (sp_skip rfl ?_)
        refine AW.cons rfl rfl (sp_pick_f rfl (v := .bool _) rfl ?_)
        refine AW.cons rfl rfl (sp_asg (v := .bool _) rfl ?_)
        refine AW.nil ?_
        intro _ S
        refine W.ret ?_
        first | exact ret1 rfl rfl S fun w' S' => ⟨congrArg Value.bool (ltL_no hk (by have := of_decide_eq_false g33; omega) hag).symm, S'.mod⟩ | exact ret1 rfl rfl S fun w' S' => ⟨congrArg Value.bool (ltL_yes (by have := of_decide_eq_true g38; omega) (by have := of_decide_eq_true g33; omega) hag).symm, S'.mod⟩ | exact ret1 rfl rfl S fun w' S' => ⟨congrArg Value.bool (ltL_here hx' hy' (by rw [hx] at hx'; rw [hy] at hy'; cases hx'; cases hy'; exact of_decide_eq_false c26) hag).symm, S'.mod⟩ | (exfalso; have h1 := of_decide_eq_false g10; omega) | (exfalso; have h1 := of_decide_eq_false g16; omega)
  · skip
    refine AW.cons rfl rfl (sp_skip rfl ?_)
    refine AW.cons rfl rfl (sp_skip rfl ?_)
    refine AW.cons rfl rfl (sp_skip rfl ?_)
    refine AW.cons rfl rfl (sp_skip rfl ?_)
    refine AW.cons rfl rfl (sp_pick_f rfl (v := .bool _) rfl ?_)
    refine AW.cons rfl rfl (sp_move (v := .bool _) rfl ?_)
    refine AW.cons rfl rfl (sp_skip rfl ?_)
    refine AW.cons rfl rfl (sp_skip rfl ?_)
    refine AW.cons rfl rfl (sp_skip rfl ?_)
    refine AW.cons rfl rfl (sp_skip rfl ?_)
    refine AW.cons rfl rfl (sp_skip rfl ?_)
    refine AW.cons rfl rfl (sp_skip rfl ?_)
    refine AW.cons rfl rfl (sp_skip rfl ?_)
    refine AW.cons rfl rfl (sp_skip rfl ?_)
    refine AW.cons rfl rfl (sp_skip rfl ?_)
    refine AW.cons rfl rfl (sp_pick_f rfl (v := .bool _) rfl ?_)
    refine AW.nil ?_
    intro _ S
    refine W.cond (b := false) rfl (fun h => nomatch h) (fun _ => ?_)
    refine W.exit ?_
    refine W.seq (W.draw S mixed (fun i => ([KD.q [], KD.q [], KD.q [], KD.q [], KD.q [], KD.q [], KD.q [], KD.q [], KD.q [], KD.q [], KD.q [], KD.q [], KD.q [], KD.q [], KD.q [], KD.q [], KD.q [], KD.q [], KD.q [], KD.q [], KD.q [], KD.q []] : List KD)[i]?) [] [0, 1, 2, 3, 4, 5, 6, 7, 8, 9, 10, 11, 12, 13, 14, 15, 16, 17, 18, 19, 20, 21] (by kernel_rfl) ?_)
    refine AW.cons rfl rfl (sp_move (v := .int _ _) rfl ?_)
    refine AW.cons rfl rfl (sp_move rfl ?_)
    refine AW.cons rfl rfl (sp_len rfl sl_26_3_1 ?_)
    refine AW.cons rfl rfl (sp_lss rfl rfl ?_)
    refine AW.cons rfl rfl (sp_move (v := .bool _) rfl ?_)
    refine AW.split 33 rfl (fun g33 => ?_) (fun g33 => ?_)
    · skip
      refine AW.cons rfl rfl (sp_move (v := .int _ _) rfl ?_)
      refine AW.cons rfl rfl (sp_move rfl ?_)
      refine AW.cons rfl rfl (sp_len rfl sl_26_3_1 ?_)
      refine AW.cons rfl rfl (sp_eql rfl rfl ?_)
      refine AW.cons rfl rfl (sp_move (v := .bool _) rfl ?_)
      refine AW.split 38 rfl (fun g38 => ?_) (fun g38 => ?_)
      · skip
        refine AW.cons rfl rfl (sp_skip rfl ?_)
        refine AW.cons rfl rfl (sp_skip rfl ?_)
        refine AW.cons rfl rfl (sp_skip rfl ?_)
        refine AW.cons rfl rfl (sp_skip rfl ?_)
        refine AW.cons rfl rfl (sp_skip rfl ?_)
        refine AW.cons rfl rfl (sp_skip rfl ?_)
        refine AW.cons rfl rfl (sp_skip rfl ?_)
        refine AW.cons rfl rfl (sp_skip rfl ?_)
        refine AW.cons rfl rfl (sp_skip rfl ?_)
        refine AW.cons rfl rfl (sp_pick_t rfl (v := .bool _) rfl ?_)
        refine AW.cons rfl rfl (sp_pick_t rfl (v := .bool _) rfl ?_)
        refine AW.cons rfl rfl (sp_asg (v := .bool _) rfl ?_)
        refine AW.nil ?_
        intro _ S
        refine W.ret ?_
        first | exact ret1 rfl rfl S fun w' S' => ⟨congrArg Value.bool (ltL_no hk (by have := of_decide_eq_false g33; omega) hag).symm, S'.mod⟩ | exact ret1 rfl rfl S fun w' S' => ⟨congrArg Value.bool (ltL_yes (by have := of_decide_eq_true g38; omega) (by have := of_decide_eq_true g33; omega) hag).symm, S'.mod⟩ | exact ret1 rfl rfl S fun w' S' => ⟨congrArg Value.bool (ltL_here hx' hy' (by rw [hx] at hx'; rw [hy] at hy'; cases hx'; cases hy'; exact of_decide_eq_false c26) hag).symm, S'.mod⟩ | (exfalso; have h1 := of_decide_eq_false g10; omega) | (exfalso; have h1 := of_decide_eq_false g16; omega)
      · skip
        have hk3 : k < l.length := by have := of_decide_eq_false g38; omega
        have hk4 : k < m.length := by have := of_decide_eq_true g33; omega
        obtain ⟨x', hx'⟩ := get_some hk3
        obtain ⟨y', hy'⟩ := get_some hk4
        refine AW.cons rfl rfl (sp_move rfl ?_)
        refine AW.cons rfl rfl (sp_move (v := .int _ _) rfl ?_)
        refine AW.cons rfl rfl (sp_iaR hl rfl rfl sl_26_3_1 (by omega) ?_)
        refine AW.cons rfl rfl (sp_ldR 0 hl (fun _ h => h) rfl sc_3 (ints_at hx') (by omega) ?_)
        refine AW.cons rfl rfl (sp_move rfl ?_)
        refine AW.cons rfl rfl (sp_move (v := .int _ _) rfl ?_)
        refine AW.cons rfl rfl (sp_iaR hm rfl rfl sl_26_3_1 (by omega) ?_)
        refine AW.cons rfl rfl (sp_ldR 0 hm (fun _ h => h) rfl sc_3 (ints_at hy') (by omega) ?_)
        refine AW.cons rfl rfl (sp_lss rfl rfl ?_)
        refine AW.cons rfl rfl (sp_pick_f rfl (v := .bool _) rfl ?_)
        refine AW.cons rfl rfl (sp_pick_t rfl (v := .bool _) rfl ?_)
        refine AW.cons rfl rfl (sp_asg (v := .bool _) rfl ?_)
        refine AW.nil ?_
        intro _ S
        refine W.ret ?_
        first | exact ret1 rfl rfl S fun w' S' => ⟨congrArg Value.bool (ltL_no hk (by have := of_decide_eq_false g33; omega) hag).symm, S'.mod⟩ | exact ret1 rfl rfl S fun w' S' => ⟨congrArg Value.bool (ltL_yes (by have := of_decide_eq_true g38; omega) (by have := of_decide_eq_true g33; omega) hag).symm, S'.mod⟩ | exact ret1 rfl rfl S fun w' S' => ⟨congrArg Value.bool (ltL_here hx' hy' (by rw [hx] at hx'; rw [hy] at hy'; cases hx'; cases hy'; exact of_decide_eq_false c26) hag).symm, S'.mod⟩ | (exfalso; have h1 := of_decide_eq_false g10; omega) | (exfalso; have h1 := of_decide_eq_false g16; omega)
    · skip
      refine AW.cons rfl rfl (sp_skip rfl ?_)
      refine AW.cons rfl rfl (sp_skip rfl ?_)
      refine AW.cons rfl rfl (sp_skip rfl ?_)
      refine AW.cons rfl rfl (sp_skip rfl ?_)
      refine AW.cons rfl rfl (sp_skip rfl ?_)
      refine AW.cons rfl rfl (sp_skip rfl ?_)
      refine AW.cons rfl rfl (sp_skip rfl ?_)
      refine AW.cons rfl rfl (sp_skip rfl ?_)
      refine AW.cons rfl rfl (sp_skip rfl ?_)
      refine AW.cons rfl rfl (sp_skip rfl ?_)
      refine AW.cons rfl rfl (sp_skip rfl ?_)
      refine AW.cons rfl rfl (sp_skip rfl ?_)
      refine AW.cons rfl rfl (sp_skip rfl ?_)
      refine AW.cons rfl rfl (sp_skip rfl ?_)
      refine AW.cons rfl rfl (sp_skip rfl ?_)
      refine AW.cons rfl rfl (sp_pick_f rfl (v := .bool _) rfl ?_)
      refine AW.cons rfl rfl (sp_asg (v := .bool _) rfl ?_)
      refine AW.nil ?_
      intro _ S
      refine W.ret ?_
      first | exact ret1 rfl rfl S fun w' S' => ⟨congrArg Value.bool (ltL_no hk (by have := of_decide_eq_false g33; omega) hag).symm, S'.mod⟩ | exact ret1 rfl rfl S fun w' S' => ⟨congrArg Value.bool (ltL_yes (by have := of_decide_eq_true g38; omega) (by have := of_decide_eq_true g33; omega) hag).symm, S'.mod⟩ | exact ret1 rfl rfl S fun w' S' => ⟨congrArg Value.bool (ltL_here hx' hy' (by rw [hx] at hx'; rw [hy] at hy'; cases hx'; cases hy'; exact of_decide_eq_false c26) hag).symm, S'.mod⟩ | (exfalso; have h1 := of_decide_eq_false g10; omega) | (exfalso; have h1 := of_decide_eq_false g16; omega)
theorem fewerF (la : Option Addr) (lc : Nat) (l : List Int) (ma : Option Addr) (mc : Nat) (m : List Int) (w : World) (hl : Ints w la lc l) (hm : Ints w ma mc m) : Ct Tryd.prog 54 #[.slice la l.length lc, .slice ma m.length mc] w (fun u w' => u = .bool (fewL l m) ∧ Ext w w') := by
  refine fn_intro (args := [.slice la l.length lc, .slice ma m.length mc]) Tryd.func54 rfl rfl (by kernel_rfl) ?_
  have S := St.start no w
  have d1 : decide (l.length < m.length) = decide ((l.length : Int) < m.length) := decide_eq_decide.2 (by omega)
  have d2 : decide (l.length = m.length) = decide ((l.length : Int) = m.length) := decide_eq_decide.2 (by omega)
  refine W.seq (W.region S ?_)
  refine AS.cons (sp_asg rfl ?_)
  refine AS.nil ?_
  intro _ S
  refine W.seq (W.region S ?_)
  refine AS.cons (sp_move rfl ?_)
  refine AS.cons (sp_len rfl sl_26_3_1 ?_)
  refine AS.cons (sp_move rfl ?_)
  refine AS.cons (sp_len rfl sl_26_3_1 ?_)
  refine AS.cons (sp_lss rfl rfl ?_)
  refine AS.cons (sp_move (v := .bool _) rfl ?_)
  refine AS.split 10 rfl (fun g10 => ?_) (fun g10 => ?_)
  · skip
    refine AS.cons (sp_skip rfl ?_)
    refine AS.cons (sp_skip rfl ?_)
    refine AS.cons (sp_skip rfl ?_)
    refine AS.cons (sp_skip rfl ?_)
    refine AS.cons (sp_skip rfl ?_)
    refine AS.cons (sp_skip rfl ?_)
    refine AS.cons (sp_skip rfl ?_)
    refine AS.cons (sp_skip rfl ?_)
    refine AS.cons (sp_skip rfl ?_)
    refine AS.cons (sp_skip rfl ?_)
    refine AS.cons (sp_pick_t rfl (v := .bool _) rfl ?_)
    refine AS.cons (sp_asg (v := .bool _) rfl ?_)
    refine AS.nil ?_
    intro _ S
    refine W.ret ?_
    exact ret1 rfl rfl S fun w' S' => ⟨congrArg Value.bool (by unfold fewL; first | (rw [d1, d2, g10]; rfl) | (rw [d1, d2, g10, g16]; rfl)), S'.mod⟩
  · skip
    refine AS.cons (sp_move rfl ?_)
    refine AS.cons (sp_len rfl sl_26_3_1 ?_)
    refine AS.cons (sp_move rfl ?_)
    refine AS.cons (sp_len rfl sl_26_3_1 ?_)
    refine AS.cons (sp_eql rfl rfl ?_)
    refine AS.cons (sp_move (v := .bool _) rfl ?_)
    refine AS.split 16 rfl (fun g16 => ?_) (fun g16 => ?_)
    · skip
      refine AS.cons (sp_move rfl ?_)
      refine AS.cons (sp_move rfl ?_)
      refine AS.cons (sp_call [] rfl rfl cf_90 (fun F w _ S => soonerF la lc l ma mc m w (hl.ext S.mod) (hm.ext S.mod)) ?_)
      refine AS.cons (sp_pick_t rfl (v := .bool _) rfl ?_)
      refine AS.cons (sp_pick_f rfl (v := .bool _) rfl ?_)
      refine AS.cons (sp_asg (v := .bool _) rfl ?_)
      refine AS.nil ?_
      intro _ S
      refine W.ret ?_
      exact ret1 rfl rfl S fun w' S' => ⟨congrArg Value.bool (by unfold fewL; first | (rw [d1, d2, g10]; rfl) | (rw [d1, d2, g10, g16]; rfl)), S'.mod⟩
    · skip
      refine AS.cons (sp_skip rfl ?_)
      refine AS.cons (sp_skip rfl ?_)
      refine AS.cons (sp_skip rfl ?_)
      refine AS.cons (sp_pick_f rfl (v := .bool _) rfl ?_)
      refine AS.cons (sp_pick_f rfl (v := .bool _) rfl ?_)
      refine AS.cons (sp_asg (v := .bool _) rfl ?_)
      refine AS.nil ?_
      intro _ S
      refine W.ret ?_
      exact ret1 rfl rfl S fun w' S' => ⟨congrArg Value.bool (by unfold fewL; first | (rw [d1, d2, g10]; rfl) | (rw [d1, d2, g10, g16]; rfl)), S'.mod⟩
def pickV (l : List Int) (n : Int) : Int := if l.length < 1 then 0 else l.getD (if (l.length : Int) < 2 then 0 else n % l.length).toNat 0
theorem risesF (ga : Option Addr) (gc : Nat) (l : List Int) (N : Nat) (hN : N ≤ 1000000) (hu : Up 0 N l) (w : World) (hg : Ints w ga gc l) : Ct Tryd.prog 49 #[.slice ga l.length gc, iv N] w (fun u w' => u = .bool true ∧ Ext w w') := by
  refine fn_intro (args := [.slice ga l.length gc, iv N]) Tryd.func49 rfl rfl (by kernel_rfl) ?_
  have S := St.start no w
  have hln : l.length ≤ 9223372036854775807 := hg.2.1
  refine W.seq (W.region S ?_)
  refine AS.cons (sp_asg rfl ?_)
  refine AS.nil ?_
  intro _ S
  refine W.seq (W.region S ?_)
  refine AS.cons (sp_asg rfl ?_)
  refine AS.nil ?_
  intro _ S
  refine W.seq (W.seq (W.region S ?_))
  refine AS.cons (sp_asg rfl ?_)
  refine AS.nil ?_
  intro _ S
  refine W.block ?_
  refine W.loopS S [4, 5, 6, 7, 8, 9, 10, 11, 12, 13, 14, 15, 16, 17, 18, 19, 20, 21, 22, 23, 24, 25, 26] [] (fun (z : Nat × Int) => [(6, iv z.1), (5, iv z.2)]) (fun _ => []) (fun z => z.1 ≤ l.length ∧ 0 ≤ z.2 ∧ z.2 ≤ N ∧ Up z.2 N (l.drop z.1)) (fun z => l.length - z.1) (0, 0) ⟨by omega, Int.le_refl 0, by omega, hu⟩ ⟨rfl, rfl, trivial⟩ trivial ?_
  rintro ⟨j, m⟩ σ M w1 ⟨hj, hm0, hmN, hud⟩ S
  replace hj : j ≤ l.length := hj
  replace hm0 : 0 ≤ m := hm0
  replace hmN : m ≤ N := hmN
  replace hud : Up m N (l.drop j) := hud
  refine W.seq (W.seq (W.region S ?_))
  refine AS.cons (sp_move (v := .int _ _) rfl ?_)
  refine AS.cons (sp_move rfl ?_)
  refine AS.cons (sp_len rfl sl_26_3_1 ?_)
  refine AS.cons (sp_lss rfl rfl ?_)
  refine AS.nil ?_
  intro _ S
  refine W.condd rfl (fun c10 => ?_) (fun c10 => ?_)
  · skip
    have hlt : j < l.length := by omega
    obtain ⟨x, hx⟩ := get_some hlt
    obtain ⟨hxl, hxe⟩ := List.getElem?_eq_some_iff.1 hx
    rw [List.drop_eq_getElem_cons hlt, hxe] at hud
    obtain ⟨hx1, hx2, hud'⟩ := hud
    refine W.skip ?_
    refine W.seq (W.block ?_)
    refine W.seq (W.seq (W.region S ?_))
    refine AS.cons (sp_move rfl ?_)
    refine AS.cons (sp_move (v := .int _ _) rfl ?_)
    refine AS.cons (sp_iaR hg rfl rfl sl_26_3_1 (by first | omega | (simp only [decide_eq_true_eq, decide_eq_false_iff_not] at *; omega)) ?_)
    refine AS.cons (sp_ldR 0 hg (fun _ h => h) rfl sc_3 (ints_at hx) (by first | omega | (simp only [decide_eq_true_eq, decide_eq_false_iff_not] at *; omega)) ?_)
    refine AS.cons (sp_move (v := .int _ _) rfl ?_)
    refine AS.cons (sp_move (v := .int _ _) rfl ?_)
    refine AS.cons (sp_sub rfl rfl (by first | omega | (simp only [decide_eq_true_eq, decide_eq_false_iff_not] at *; omega)) ?_)
    refine AS.cons (sp_call [] rfl rfl cf_45 (fun F w _ S => between _ _ _ w) ?_)
    refine AS.cons (sp_not rfl ?_)
    refine AS.nil ?_
    intro _ S
    refine W.cond rfl (fun c21 => ?_) (fun c21 => ?_)
    · exfalso; rw [decide_eq_true (show m ≤ x ∧ x ≤ (N : Int) - 1 by omega)] at c21; cases c21
    · skip
      refine W.skip ?_
      refine W.region S ?_
      refine AS.cons (sp_move rfl ?_)
      refine AS.cons (sp_move (v := .int _ _) rfl ?_)
      refine AS.cons (sp_iaR hg rfl rfl sl_26_3_1 (by first | omega | (simp only [decide_eq_true_eq, decide_eq_false_iff_not] at *; omega)) ?_)
      refine AS.cons (sp_ldR 0 hg (fun _ h => h) rfl sc_3 (ints_at hx) (by first | omega | (simp only [decide_eq_true_eq, decide_eq_false_iff_not] at *; omega)) ?_)
      refine AS.cons (sp_add rfl rfl (by first | omega | (simp only [decide_eq_true_eq, decide_eq_false_iff_not] at *; omega)) ?_)
      refine AS.cons (sp_asg (v := .int _ _) rfl ?_)
      refine AS.nil ?_
      intro _ S
      refine W.region S ?_
      refine AS.cons (sp_move (v := .int _ _) rfl ?_)
      refine AS.cons (sp_add rfl rfl (by first | omega | (simp only [decide_eq_true_eq, decide_eq_false_iff_not] at *; omega)) ?_)
      refine AS.cons (sp_asg (v := .int _ _) rfl ?_)
      refine AS.nil ?_
      intro _ S
      exact ⟨(j + 1, x + 1), _, ⟨hlt, by show 0 ≤ x + 1; omega, by show x + 1 ≤ (N : Int); omega, hud'⟩, by show l.length - (j + 1) < l.length - j; omega, ⟨by simp [upd], rfl, trivial⟩, trivial, by repeat (first | exact Agr.refl _ _ | exact Agr.msk _ _ _ | refine Agr.upd ?_ _ rfl | refine Agr.upds ?_ rfl | refine Agr.mskIn ?_ rfl), by repeat (first | exact Agr.refl _ _ | exact Agr.msk _ _ _ | refine Agr.upd ?_ _ rfl | refine Agr.upds ?_ rfl | refine Agr.mskIn ?_ rfl), rfl, S⟩
  · skip
    refine W.exit ?_
    refine W.seq (W.region S ?_)
    refine AS.cons (sp_asg rfl ?_)
    refine AS.nil ?_
    intro _ S
    refine W.ret ?_
    exact ret1 rfl rfl S fun w' S' => ⟨rfl, S'.mod⟩
theorem pickG (ga : Option Addr) (gc : Nat) (l : List Int) (n : Int) (w : World) (hg : Ints w ga gc l) : Ct Tryd.prog 50 #[.slice ga l.length gc, iv n] w (fun u w' => u = iv (pickV l n) ∧ Ext w w') := by
  refine fn_intro (args := [.slice ga l.length gc, iv n]) Tryd.func50 rfl rfl (by kernel_rfl) ?_
  have S := St.start no w
  have hln : l.length ≤ 9223372036854775807 := hg.2.1
  refine W.seq (W.region S ?_)
  refine AS.cons (sp_asg rfl ?_)
  refine AS.nil ?_
  intro _ S
  refine W.seq (W.seq (W.region S ?_))
  refine AS.cons (sp_move rfl ?_)
  refine AS.cons (sp_len rfl sl_26_3_1 ?_)
  refine AS.cons (sp_lss rfl rfl ?_)
  refine AS.nil ?_
  intro _ S
  refine W.condd rfl (fun c7 => ?_) (fun c7 => ?_)
  · skip
    have hv : pickV l n = 0 := by unfold pickV; rw [if_pos (by omega)]
    refine W.seq (W.region S ?_)
    refine AS.cons (sp_asg rfl ?_)
    refine AS.nil ?_
    intro _ S
    refine W.ret ?_
    exact ret1 rfl rfl S fun w' S' => ⟨congrArg iv hv.symm, S'.mod⟩
  · skip
    obtain ⟨i, hi⟩ : ∃ i : Nat, (if (l.length : Int) < 2 then 0 else n % l.length) = (i : Int) := ⟨(if (l.length : Int) < 2 then 0 else n % l.length).toNat, by
      rw [Int.toNat_of_nonneg]; split
      · omega
      · exact Int.emod_nonneg n (by omega)⟩
    have hil : i < l.length := by
      split at hi
      · omega
      · have := Int.emod_lt_of_pos n (show (0 : Int) < l.length by omega)
        omega
    obtain ⟨x, hx⟩ := get_some hil
    have hv : pickV l n = x := by unfold pickV; rw [if_neg (by omega), hi, Int.toNat_natCast, List.getD_eq_getElem?_getD, hx]; rfl
    refine W.skip ?_
    refine W.seq (W.region S ?_)
    refine AS.cons (sp_move rfl ?_)
    refine AS.cons (sp_move (v := .int _ _) rfl ?_)
    refine AS.cons (sp_move rfl ?_)
    refine AS.cons (sp_len rfl sl_26_3_1 ?_)
    refine AS.cons (sp_call [] rfl rfl cf_39 (fun F w _ S => by have h := wheelG n (l.length : Int) (by omega) w; rw [hi] at h; exact h) ?_)
    refine AS.cons (sp_iaR hg rfl rfl sl_26_3_1 (by first | omega | (simp only [decide_eq_true_eq, decide_eq_false_iff_not] at *; omega)) ?_)
    refine AS.cons (sp_ldR 0 hg (fun _ h => h) rfl sc_3 (ints_at hx) (by first | omega | (simp only [decide_eq_true_eq, decide_eq_false_iff_not] at *; omega)) ?_)
    refine AS.cons (sp_asg (v := .int _ _) rfl ?_)
    refine AS.nil ?_
    intro _ S
    refine W.ret ?_
    exact ret1 rfl rfl S fun w' S' => ⟨congrArg iv hv.symm, S'.mod⟩
end
end Go.Proofs.YtajocmkgdjcmkaaDoor

/-
  Spans; the shares of a holder, and of all.
-/
namespace Go.Proofs.YtajocmkgdjcmkaaDoor
set_option maxRecDepth 100000
open Go.Hu Go.RowKit
section
theorem onF (n lo hi : Int) (w : World) : Ct Tryd.prog 65 #[iv n, iv lo, iv hi] w (fun v w' => v = .bool (decide (lo ≤ n ∧ n ≤ hi)) ∧ Ext w w') := by
  refine fn_intro (args := [iv n, iv lo, iv hi]) Tryd.func65 rfl rfl (by kernel_rfl) ?_
  have S := St.start no w
  refine W.seq (W.region S ?_)
  refine AS.cons (sp_asg rfl ?_)
  refine AS.nil ?_
  intro _ S
  refine W.seq (W.regionc S [6, 7, 8, 9, 10, 11, 12, 13, 14] 6 (lo ≤ n ∧ n ≤ hi) ?_ ?_)
  · skip
    refine AS.cons (sp_move (v := .int _ _) rfl ?_)
    refine AS.cons (sp_move (v := .int _ _) rfl ?_)
    refine AS.cons (sp_leq rfl rfl ?_)
    refine AS.cons (sp_move (v := .bool _) rfl ?_)
    refine AS.split 10 rfl (fun g10 => ?_) (fun g10 => ?_)
    · skip
      refine AS.cons (sp_move (v := .int _ _) rfl ?_)
      refine AS.cons (sp_move (v := .int _ _) rfl ?_)
      refine AS.cons (sp_leq rfl rfl ?_)
      refine AS.cons (sp_pick_t rfl (v := .bool _) rfl ?_)
      refine AS.cons (sp_asg (v := .bool _) rfl ?_)
      refine AS.nil ⟨⟨_, rfl, ?_⟩, ?_, rfl⟩
      · (try simp only [decide_eq_true_eq] at *); first | omega | (simp_all; done) | (simp_all; omega)
      · repeat (first | exact Agr.refl _ _ | exact Agr.msk _ _ _ | refine Agr.upd ?_ _ rfl | refine Agr.upds ?_ rfl | refine Agr.mskIn ?_ rfl)
    · skip
      refine AS.cons (sp_skip rfl ?_)
      refine AS.cons (sp_skip rfl ?_)
      refine AS.cons (sp_skip rfl ?_)
      refine AS.cons (sp_pick_f rfl (v := .bool _) rfl ?_)
      refine AS.cons (sp_asg (v := .bool _) rfl ?_)
      refine AS.nil ⟨⟨_, rfl, ?_⟩, ?_, rfl⟩
      · (try simp only [decide_eq_false_iff_not] at *); first | omega | (simp_all; done) | (simp_all; omega)
      · repeat (first | exact Agr.refl _ _ | exact Agr.msk _ _ _ | refine Agr.upd ?_ _ rfl | refine Agr.upds ?_ rfl | refine Agr.mskIn ?_ rfl)
  intro σ1 _ S
  refine W.ret ?_
  exact ret1 rfl rfl S fun w' S' => ⟨rfl, S'.mod⟩
theorem isSpanF (lo hi last wide : Int) (hl : last ≤ 1000000) (w : World) : Ct Tryd.prog 66 #[.agg [iv lo, iv hi].toArray, iv last, iv wide] w (fun v w' => v = .bool (decide (SpanP lo hi last wide)) ∧ Ext w w') := by
  refine fn_intro (args := [.agg [iv lo, iv hi].toArray, iv last, iv wide]) Tryd.func66 rfl rfl (by kernel_rfl) ?_
  have S := St.start no w
  refine W.seq (W.region S ?_)
  refine AS.cons (sp_boxa 3 rfl (fun b3 => ?_))
  refine AS.cons (sp_asg rfl ?_)
  refine AS.nil ?_
  intro _ S
  refine W.seq (W.regionc S [6, 7, 8, 9, 10, 11, 12, 13, 14, 15, 16, 17, 18, 19, 20, 21, 22, 23, 24, 25, 26] 6 (SpanP lo hi last wide) ?_ ?_)
  · skip
    refine AS.cons (sp_fa rfl fo_25_0_0 ?_)
    refine AS.cons (sp_ld 3 rfl rfl sc_3 rfl ?_)
    refine AS.cons (sp_fa rfl fo_25_1_1 ?_)
    refine AS.cons (sp_ld 3 rfl rfl sc_3 rfl ?_)
    refine AS.cons (sp_call [] rfl rfl cf_65 (fun F w _ S => onF _ _ _ w) ?_)
    refine AS.cons (sp_move (v := .bool _) rfl ?_)
    refine AS.split 12 rfl (fun g12 => ?_) (fun g12 => ?_)
    · skip
      refine AS.cons (sp_fa rfl fo_25_1_1 ?_)
      refine AS.cons (sp_ld 3 rfl rfl sc_3 rfl ?_)
      refine AS.cons (sp_move (v := .int _ _) rfl ?_)
      refine AS.cons (sp_leq rfl rfl ?_)
      refine AS.cons (sp_pick_t rfl (v := .bool _) rfl ?_)
      refine AS.cons (sp_move (v := .bool _) rfl ?_)
      refine AS.split 18 rfl (fun g18 => ?_) (fun g18 => ?_)
      · skip
        refine AS.cons (sp_fa rfl fo_25_1_1 ?_)
        refine AS.cons (sp_ld 3 rfl rfl sc_3 rfl ?_)
        refine AS.cons (sp_fa rfl fo_25_0_0 ?_)
        refine AS.cons (sp_ld 3 rfl rfl sc_3 rfl ?_)
        refine AS.cons (sp_sub rfl rfl (by first | omega | (simp only [decide_eq_true_eq] at *; omega)) ?_)
        refine AS.cons (sp_move (v := .int _ _) rfl ?_)
        refine AS.cons (sp_leq rfl rfl ?_)
        refine AS.cons (sp_pick_t rfl (v := .bool _) rfl ?_)
        refine AS.cons (sp_asg (v := .bool _) rfl ?_)
        refine AS.nil ⟨⟨_, rfl, ?_⟩, ?_, rfl⟩
        · (try simp only [decide_eq_true_eq] at *); first | omega | (simp_all; done) | (simp_all; omega)
        · repeat (first | exact Agr.refl _ _ | exact Agr.msk _ _ _ | refine Agr.upd ?_ _ rfl | refine Agr.upds ?_ rfl | refine Agr.mskIn ?_ rfl)
      · skip
        refine AS.cons (sp_skip rfl ?_)
        refine AS.cons (sp_skip rfl ?_)
        refine AS.cons (sp_skip rfl ?_)
        refine AS.cons (sp_skip rfl ?_)
        refine AS.cons (sp_skip rfl ?_)
        refine AS.cons (sp_skip rfl ?_)
        refine AS.cons (sp_skip rfl ?_)
        refine AS.cons (sp_pick_f rfl (v := .bool _) rfl ?_)
        refine AS.cons (sp_asg (v := .bool _) rfl ?_)
        refine AS.nil ⟨⟨_, rfl, ?_⟩, ?_, rfl⟩
        · (try simp only [decide_eq_true_eq, decide_eq_false_iff_not] at *); first | omega | (simp_all; done) | (simp_all; omega)
        · repeat (first | exact Agr.refl _ _ | exact Agr.msk _ _ _ | refine Agr.upd ?_ _ rfl | refine Agr.upds ?_ rfl | refine Agr.mskIn ?_ rfl)
    · skip
      refine AS.cons (sp_skip rfl ?_)
      refine AS.cons (sp_skip rfl ?_)
      refine AS.cons (sp_skip rfl ?_)
      refine AS.cons (sp_skip rfl ?_)
      refine AS.cons (sp_pick_f rfl (v := .bool _) rfl ?_)
      refine AS.cons (sp_move (v := .bool _) rfl ?_)
      refine AS.cons (sp_skip rfl ?_)
      refine AS.cons (sp_skip rfl ?_)
      refine AS.cons (sp_skip rfl ?_)
      refine AS.cons (sp_skip rfl ?_)
      refine AS.cons (sp_skip rfl ?_)
      refine AS.cons (sp_skip rfl ?_)
      refine AS.cons (sp_skip rfl ?_)
      refine AS.cons (sp_pick_f rfl (v := .bool _) rfl ?_)
      refine AS.cons (sp_asg (v := .bool _) rfl ?_)
      refine AS.nil ⟨⟨_, rfl, ?_⟩, ?_, rfl⟩
      · (try simp only [decide_eq_false_iff_not] at *); first | omega | (simp_all; done) | (simp_all; omega)
      · repeat (first | exact Agr.refl _ _ | exact Agr.msk _ _ _ | refine Agr.upd ?_ _ rfl | refine Agr.upds ?_ rfl | refine Agr.mskIn ?_ rfl)
  intro σ1 _ S
  refine W.ret ?_
  exact ret1 rfl rfl S fun w' S' => ⟨rfl, S'.mod⟩
theorem saneF (lo hi least most : Int) (w : World) : Ct Tryd.prog 70 #[.agg [iv lo, iv hi].toArray, iv least, iv most] w (fun v w' => v = .bool (decide (least ≤ lo ∧ hi ≤ most ∧ lo ≤ hi)) ∧ Ext w w') := by
  refine fn_intro (args := [.agg [iv lo, iv hi].toArray, iv least, iv most]) Tryd.func70 rfl rfl (by kernel_rfl) ?_
  have S := St.start no w
  refine W.seq (W.region S ?_)
  refine AS.cons (sp_boxa 3 rfl (fun b3 => ?_))
  refine AS.cons (sp_asg rfl ?_)
  refine AS.nil ?_
  intro _ S
  refine W.seq (W.regionc S [6, 7, 8, 9, 10, 11, 12, 13, 14, 15, 16, 17, 18, 19, 20, 21, 22, 23] 6 (least ≤ lo ∧ hi ≤ most ∧ lo ≤ hi) ?_ ?_)
  · skip
    refine AS.cons (sp_fa rfl fo_25_0_0 ?_)
    refine AS.cons (sp_ld 3 rfl rfl sc_3 rfl ?_)
    refine AS.cons (sp_move (v := .int _ _) rfl ?_)
    refine AS.cons (sp_geq rfl rfl ?_)
    refine AS.cons (sp_move (v := .bool _) rfl ?_)
    refine AS.split 11 rfl (fun g11 => ?_) (fun g11 => ?_)
    · skip
      refine AS.cons (sp_fa rfl fo_25_1_1 ?_)
      refine AS.cons (sp_ld 3 rfl rfl sc_3 rfl ?_)
      refine AS.cons (sp_move (v := .int _ _) rfl ?_)
      refine AS.cons (sp_leq rfl rfl ?_)
      refine AS.cons (sp_pick_t rfl (v := .bool _) rfl ?_)
      refine AS.cons (sp_move (v := .bool _) rfl ?_)
      refine AS.split 17 rfl (fun g17 => ?_) (fun g17 => ?_)
      · skip
        refine AS.cons (sp_fa rfl fo_25_0_0 ?_)
        refine AS.cons (sp_ld 3 rfl rfl sc_3 rfl ?_)
        refine AS.cons (sp_fa rfl fo_25_1_1 ?_)
        refine AS.cons (sp_ld 3 rfl rfl sc_3 rfl ?_)
        refine AS.cons (sp_leq rfl rfl ?_)
        refine AS.cons (sp_pick_t rfl (v := .bool _) rfl ?_)
        refine AS.cons (sp_asg (v := .bool _) rfl ?_)
        refine AS.nil ⟨⟨_, rfl, ?_⟩, ?_, rfl⟩
        · (try simp only [decide_eq_true_eq] at *); first | omega | (simp_all; done) | (simp_all; omega)
        · repeat (first | exact Agr.refl _ _ | exact Agr.msk _ _ _ | refine Agr.upd ?_ _ rfl | refine Agr.upds ?_ rfl | refine Agr.mskIn ?_ rfl)
      · skip
        refine AS.cons (sp_skip rfl ?_)
        refine AS.cons (sp_skip rfl ?_)
        refine AS.cons (sp_skip rfl ?_)
        refine AS.cons (sp_skip rfl ?_)
        refine AS.cons (sp_skip rfl ?_)
        refine AS.cons (sp_pick_f rfl (v := .bool _) rfl ?_)
        refine AS.cons (sp_asg (v := .bool _) rfl ?_)
        refine AS.nil ⟨⟨_, rfl, ?_⟩, ?_, rfl⟩
        · (try simp only [decide_eq_true_eq, decide_eq_false_iff_not] at *); first | omega | (simp_all; done) | (simp_all; omega)
        · repeat (first | exact Agr.refl _ _ | exact Agr.msk _ _ _ | refine Agr.upd ?_ _ rfl | refine Agr.upds ?_ rfl | refine Agr.mskIn ?_ rfl)
    · skip
      refine AS.cons (sp_skip rfl ?_)
      refine AS.cons (sp_skip rfl ?_)
      refine AS.cons (sp_skip rfl ?_)
      refine AS.cons (sp_skip rfl ?_)
      refine AS.cons (sp_pick_f rfl (v := .bool _) rfl ?_)
      refine AS.cons (sp_move (v := .bool _) rfl ?_)
      refine AS.cons (sp_skip rfl ?_)
      refine AS.cons (sp_skip rfl ?_)
      refine AS.cons (sp_skip rfl ?_)
      refine AS.cons (sp_skip rfl ?_)
      refine AS.cons (sp_skip rfl ?_)
      refine AS.cons (sp_pick_f rfl (v := .bool _) rfl ?_)
      refine AS.cons (sp_asg (v := .bool _) rfl ?_)
      refine AS.nil ⟨⟨_, rfl, ?_⟩, ?_, rfl⟩
      · (try simp only [decide_eq_false_iff_not] at *); first | omega | (simp_all; done) | (simp_all; omega)
      · repeat (first | exact Agr.refl _ _ | exact Agr.msk _ _ _ | refine Agr.upd ?_ _ rfl | refine Agr.upds ?_ rfl | refine Agr.mskIn ?_ rfl)
  intro σ1 _ S
  refine W.ret ?_
  exact ret1 rfl rfl S fun w' S' => ⟨rfl, S'.mod⟩
theorem toF (lo hi : Int) (w : World) : Ct Tryd.prog 51 #[iv lo, iv hi] w (fun v w' => v = .agg [iv lo, iv hi].toArray ∧ Ext w w') := by
  refine fn_intro (args := [iv lo, iv hi]) Tryd.func51 rfl rfl (by kernel_rfl) ?_
  have S := St.start no w
  refine W.seq (W.region S ?_)
  refine AS.cons (sp_alloc 4 zv_25 rfl (fun b4 => ?_))
  refine AS.nil ?_
  intro _ S
  refine W.seq (W.region S ?_)
  refine AS.cons (sp_move (v := .int _ _) rfl ?_)
  refine AS.cons (sp_move (v := .int _ _) rfl ?_)
  refine AS.cons (sp_build [iv lo, iv hi] (by kernel_rfl) ?_)
  refine AS.cons (sp_st 4 rfl rfl rfl rfl sz_25_2 rfl rfl ?_)
  refine AS.nil ?_
  intro _ S
  refine W.ret ?_
  exact retc 4 ag_25_2 rfl rfl rfl rfl rfl S fun w' S' => ⟨rfl, S'.mod⟩
theorem justF (n : Int) (w : World) : Ct Tryd.prog 48 #[iv n] w (fun v w' => v = .agg [iv n, iv n].toArray ∧ Ext w w') := by
  refine fn_intro (args := [iv n]) Tryd.func48 rfl rfl (by kernel_rfl) ?_
  have S := St.start no w
  refine W.seq (W.region S ?_)
  refine AS.cons (sp_alloc 2 zv_25 rfl (fun b2 => ?_))
  refine AS.nil ?_
  intro _ S
  refine W.seq (W.region S ?_)
  refine AS.cons (sp_move (v := .int _ _) rfl ?_)
  refine AS.cons (sp_move (v := .int _ _) rfl ?_)
  refine AS.cons (sp_build [iv n, iv n] (by kernel_rfl) ?_)
  refine AS.cons (sp_st 2 rfl rfl rfl rfl sz_25_2 rfl rfl ?_)
  refine AS.nil ?_
  intro _ S
  refine W.ret ?_
  exact retc 2 ag_25_2 rfl rfl rfl rfl rfl S fun w' S' => ⟨rfl, S'.mod⟩
theorem holdsF (lo hi n : Int) (w : World) : Ct Tryd.prog 43 #[.agg [iv lo, iv hi].toArray, iv n] w (fun v w' => v = .bool (decide (lo ≤ n ∧ n ≤ hi)) ∧ Ext w w') := by
  refine fn_intro (args := [.agg [iv lo, iv hi].toArray, iv n]) Tryd.func43 rfl rfl (by kernel_rfl) ?_
  have S := St.start no w
  refine W.seq (W.region S ?_)
  refine AS.cons (sp_boxa 2 rfl (fun b2 => ?_))
  refine AS.cons (sp_asg rfl ?_)
  refine AS.nil ?_
  intro _ S
  refine W.seq (W.regionc S [4, 5, 6, 7, 8, 9, 10, 11, 12, 13, 14] 4 (lo ≤ n ∧ n ≤ hi) ?_ ?_)
  · skip
    refine AS.cons (sp_fa rfl fo_25_0_0 ?_)
    refine AS.cons (sp_ld 2 rfl rfl sc_3 rfl ?_)
    refine AS.cons (sp_move (v := .int _ _) rfl ?_)
    refine AS.cons (sp_leq rfl rfl ?_)
    refine AS.cons (sp_move (v := .bool _) rfl ?_)
    refine AS.split 9 rfl (fun g9 => ?_) (fun g9 => ?_)
    · skip
      refine AS.cons (sp_move (v := .int _ _) rfl ?_)
      refine AS.cons (sp_fa rfl fo_25_1_1 ?_)
      refine AS.cons (sp_ld 2 rfl rfl sc_3 rfl ?_)
      refine AS.cons (sp_leq rfl rfl ?_)
      refine AS.cons (sp_pick_t rfl (v := .bool _) rfl ?_)
      refine AS.cons (sp_asg (v := .bool _) rfl ?_)
      refine AS.nil ⟨⟨_, rfl, ?_⟩, ?_, rfl⟩
      · (try simp only [decide_eq_true_eq] at *); first | omega | (simp_all; done) | (simp_all; omega)
      · repeat (first | exact Agr.refl _ _ | exact Agr.msk _ _ _ | refine Agr.upd ?_ _ rfl | refine Agr.upds ?_ rfl | refine Agr.mskIn ?_ rfl)
    · skip
      refine AS.cons (sp_skip rfl ?_)
      refine AS.cons (sp_skip rfl ?_)
      refine AS.cons (sp_skip rfl ?_)
      refine AS.cons (sp_skip rfl ?_)
      refine AS.cons (sp_pick_f rfl (v := .bool _) rfl ?_)
      refine AS.cons (sp_asg (v := .bool _) rfl ?_)
      refine AS.nil ⟨⟨_, rfl, ?_⟩, ?_, rfl⟩
      · (try simp only [decide_eq_false_iff_not] at *); first | omega | (simp_all; done) | (simp_all; omega)
      · repeat (first | exact Agr.refl _ _ | exact Agr.msk _ _ _ | refine Agr.upd ?_ _ rfl | refine Agr.upds ?_ rfl | refine Agr.mskIn ?_ rfl)
  intro σ1 _ S
  refine W.ret ?_
  exact ret1 rfl rfl S fun w' S' => ⟨rfl, S'.mod⟩
theorem spansF (lo hi lo' hi' : Int) (w : World) : Ct Tryd.prog 58 #[.agg [iv lo, iv hi].toArray, .agg [iv lo', iv hi'].toArray] w (fun v w' => v = .bool (decide (lo ≤ lo' ∧ hi' ≤ hi)) ∧ Ext w w') := by
  refine fn_intro (args := [.agg [iv lo, iv hi].toArray, .agg [iv lo', iv hi'].toArray]) Tryd.func58 rfl rfl (by kernel_rfl) ?_
  have S := St.start no w
  refine W.seq (W.region S ?_)
  refine AS.cons (sp_boxa 2 rfl (fun b2 => ?_))
  refine AS.cons (sp_boxa 3 rfl (fun b3 => ?_))
  refine AS.cons (sp_asg rfl ?_)
  refine AS.nil ?_
  intro _ S
  refine W.seq (W.regionc S [4, 5, 6, 7, 8, 9, 10, 11, 12, 13, 14, 15, 16] 4 (lo ≤ lo' ∧ hi' ≤ hi) ?_ ?_)
  · skip
    refine AS.cons (sp_fa rfl fo_25_0_0 ?_)
    refine AS.cons (sp_ld 2 rfl rfl sc_3 rfl ?_)
    refine AS.cons (sp_fa rfl fo_25_0_0 ?_)
    refine AS.cons (sp_ld 3 rfl rfl sc_3 rfl ?_)
    refine AS.cons (sp_leq rfl rfl ?_)
    refine AS.cons (sp_move (v := .bool _) rfl ?_)
    refine AS.split 10 rfl (fun g10 => ?_) (fun g10 => ?_)
    · skip
      refine AS.cons (sp_fa rfl fo_25_1_1 ?_)
      refine AS.cons (sp_ld 3 rfl rfl sc_3 rfl ?_)
      refine AS.cons (sp_fa rfl fo_25_1_1 ?_)
      refine AS.cons (sp_ld 2 rfl rfl sc_3 rfl ?_)
      refine AS.cons (sp_leq rfl rfl ?_)
      refine AS.cons (sp_pick_t rfl (v := .bool _) rfl ?_)
      refine AS.cons (sp_asg (v := .bool _) rfl ?_)
      refine AS.nil ⟨⟨_, rfl, ?_⟩, ?_, rfl⟩
      · (try simp only [decide_eq_true_eq] at *); first | omega | (simp_all; done) | (simp_all; omega)
      · repeat (first | exact Agr.refl _ _ | exact Agr.msk _ _ _ | refine Agr.upd ?_ _ rfl | refine Agr.upds ?_ rfl | refine Agr.mskIn ?_ rfl)
    · skip
      refine AS.cons (sp_skip rfl ?_)
      refine AS.cons (sp_skip rfl ?_)
      refine AS.cons (sp_skip rfl ?_)
      refine AS.cons (sp_skip rfl ?_)
      refine AS.cons (sp_skip rfl ?_)
      refine AS.cons (sp_pick_f rfl (v := .bool _) rfl ?_)
      refine AS.cons (sp_asg (v := .bool _) rfl ?_)
      refine AS.nil ⟨⟨_, rfl, ?_⟩, ?_, rfl⟩
      · (try simp only [decide_eq_false_iff_not] at *); first | omega | (simp_all; done) | (simp_all; omega)
      · repeat (first | exact Agr.refl _ _ | exact Agr.msk _ _ _ | refine Agr.upd ?_ _ rfl | refine Agr.upds ?_ rfl | refine Agr.mskIn ?_ rfl)
  intro σ1 _ S
  refine W.ret ?_
  exact ret1 rfl rfl S fun w' S' => ⟨rfl, S'.mod⟩
variable (b : Sb) (ha : Option Addr) (hc : Nat) (da : Option Addr) (dc : Nat)
/-- What the shares need. -/
structure Own (b : Sb) : Prop where
  n6 : b.hs.length ≤ 6
  r0 : 0 ≤ b.r0 ∧ b.r0 ≤ 9
  r1 : 0 ≤ b.r1 ∧ b.r1 ≤ 9
  r2 : 0 ≤ b.r2 ∧ b.r2 ≤ 9
  ho : ∀ x ∈ b.hs, OwnP x
theorem Own.tot {b : Sb} (h : Own b) : ∀ j, 0 ≤ totU b j ∧ totU b j ≤ 135 * j
  | 0 => ⟨Int.le_refl 0, Int.le_refl 0⟩
  | j + 1 => by
    have h1 := Own.tot h j
    have h2 : 0 ≤ ofK b j ∧ ofK b j ≤ 135 := by
      unfold ofK; split
      · next x hx => exact ofH_bd h.r0 h.r1 h.r2 (h.ho x (List.mem_of_getElem? hx))
      · omega
    simp only [totU]
    omega
theorem ofF (hb : Own b) (j : Nat) (hj : j < b.hs.length) (w : World) (hH : Hos w ha hc b.hs) : Ct Tryd.prog 72 #[.agg (sbL b ha hc da dc).toArray, iv j] w (fun v w' => v = iv (ofK b j) ∧ Ext w w') := by
  refine fn_intro (args := [.agg (sbL b ha hc da dc).toArray, iv j]) Tryd.func72 rfl rfl (by kernel_rfl) ?_
  have S := St.start no w
  obtain ⟨x, hx⟩ := get_some hj
  obtain ⟨⟨o1, o2⟩, ⟨o3, o4⟩, o5, o6⟩ := hb.ho x (List.mem_of_getElem? hx)
  obtain ⟨⟨q1, q2⟩, ⟨q3, q4⟩, q5, q6⟩ : (0 ≤ b.r0 ∧ b.r0 ≤ 9) ∧ (0 ≤ b.r1 ∧ b.r1 ≤ 9) ∧ 0 ≤ b.r2 ∧ b.r2 ≤ 9 := ⟨hb.r0, hb.r1, hb.r2⟩
  have m1 := mul_bd ⟨o1, o2⟩ ⟨q1, q2⟩
  have m2 := mul_bd ⟨o3, o4⟩ ⟨q3, q4⟩
  have m3 := mul_bd ⟨o5, o6⟩ ⟨q5, q6⟩
  have he : x.bo * b.r0 + x.ne * b.r1 + x.me * b.r2 = ofK b j := by rw [ofK_at hx]; unfold ofH; rw [Int.mul_comm x.bo, Int.mul_comm x.ne, Int.mul_comm x.me]
  refine W.seq (W.region S ?_)
  refine AS.cons (sp_boxa 2 rfl (fun b2 => ?_))
  refine AS.cons (sp_asg rfl ?_)
  refine AS.nil ?_
  intro _ S
  refine W.seq (W.region S ?_)
  refine AS.cons (sp_fa rfl fo_28_1_3 ?_)
  refine AS.cons (sp_ld 2 rfl rfl sc_23 rfl ?_)
  refine AS.cons (sp_move (v := .int _ _) rfl ?_)
  refine AS.cons (sp_iaR hH rfl rfl sl_23_75_3 (by first | omega | (simp only [decide_eq_true_eq, decide_eq_false_iff_not] at *; omega)) ?_)
  refine AS.cons (sp_ldaR 0 hH (fun _ h => h) rfl ag_75_3 (hos_at hx) (by first | omega | (simp only [decide_eq_true_eq, decide_eq_false_iff_not] at *; omega)) ?_)
  refine AS.cons (sp_alloc 5 zv_75 rfl (fun b5 => ?_))
  refine AS.cons (sp_st 5 rfl rfl rfl rfl sz_75_3 rfl rfl ?_)
  refine AS.nil ?_
  intro _ S
  refine W.seq (W.region S ?_)
  refine AS.cons (sp_fa rfl fo_75_0_0 ?_)
  refine AS.cons (sp_ld 5 rfl rfl sc_3 rfl ?_)
  refine AS.cons (sp_fa rfl fo_28_0_0 ?_)
  refine AS.cons (sp_iaa rfl rfl ar_22_3_3_1 (by first | omega | (simp only [decide_eq_true_eq, decide_eq_false_iff_not] at *; omega)) ?_)
  refine AS.cons (sp_ld 2 rfl rfl sc_3 rfl ?_)
  refine AS.cons (sp_mul rfl rfl (mulB (by first | omega | (simp only [decide_eq_true_eq, decide_eq_false_iff_not] at *; omega)) (by first | omega | (simp only [decide_eq_true_eq, decide_eq_false_iff_not] at *; omega))) ?_)
  refine AS.cons (sp_fa rfl fo_75_1_1 ?_)
  refine AS.cons (sp_ld 5 rfl rfl sc_3 rfl ?_)
  refine AS.cons (sp_fa rfl fo_28_0_0 ?_)
  refine AS.cons (sp_iaa rfl rfl ar_22_3_3_1 (by first | omega | (simp only [decide_eq_true_eq, decide_eq_false_iff_not] at *; omega)) ?_)
  refine AS.cons (sp_ld 2 rfl rfl sc_3 rfl ?_)
  refine AS.cons (sp_mul rfl rfl (mulB (by first | omega | (simp only [decide_eq_true_eq, decide_eq_false_iff_not] at *; omega)) (by first | omega | (simp only [decide_eq_true_eq, decide_eq_false_iff_not] at *; omega))) ?_)
  refine AS.cons (sp_add rfl rfl (by first | omega | (simp only [decide_eq_true_eq, decide_eq_false_iff_not] at *; omega)) ?_)
  refine AS.cons (sp_fa rfl fo_75_2_2 ?_)
  refine AS.cons (sp_ld 5 rfl rfl sc_3 rfl ?_)
  refine AS.cons (sp_fa rfl fo_28_0_0 ?_)
  refine AS.cons (sp_iaa rfl rfl ar_22_3_3_1 (by first | omega | (simp only [decide_eq_true_eq, decide_eq_false_iff_not] at *; omega)) ?_)
  refine AS.cons (sp_ld 2 rfl rfl sc_3 rfl ?_)
  refine AS.cons (sp_mul rfl rfl (mulB (by first | omega | (simp only [decide_eq_true_eq, decide_eq_false_iff_not] at *; omega)) (by first | omega | (simp only [decide_eq_true_eq, decide_eq_false_iff_not] at *; omega))) ?_)
  refine AS.cons (sp_add rfl rfl (by first | omega | (simp only [decide_eq_true_eq, decide_eq_false_iff_not] at *; omega)) ?_)
  refine AS.cons (sp_asg (v := .int _ _) rfl ?_)
  refine AS.nil ?_
  intro _ S
  refine W.ret ?_
  exact ret1 rfl rfl S fun w' S' => ⟨congrArg iv he, S'.mod⟩
theorem heldF (hb : Own b) (j : Nat) (hj : j < b.hs.length) (w : World) (hH : Hos w ha hc b.hs) : Ct Tryd.prog 46 #[.agg (sbL b ha hc da dc).toArray, iv j] w (fun v w' => v = iv (ofK b j) ∧ Ext w w') := by
  refine fn_intro (args := [.agg (sbL b ha hc da dc).toArray, iv j]) Tryd.func46 rfl rfl (by kernel_rfl) ?_
  have S := St.start no w
  obtain ⟨x, hx⟩ := get_some hj
  obtain ⟨⟨o1, o2⟩, ⟨o3, o4⟩, o5, o6⟩ := hb.ho x (List.mem_of_getElem? hx)
  obtain ⟨⟨q1, q2⟩, ⟨q3, q4⟩, q5, q6⟩ : (0 ≤ b.r0 ∧ b.r0 ≤ 9) ∧ (0 ≤ b.r1 ∧ b.r1 ≤ 9) ∧ 0 ≤ b.r2 ∧ b.r2 ≤ 9 := ⟨hb.r0, hb.r1, hb.r2⟩
  have m1 := mul_bd ⟨q1, q2⟩ ⟨o1, o2⟩
  have m2 := mul_bd ⟨q3, q4⟩ ⟨o3, o4⟩
  have m3 := mul_bd ⟨q5, q6⟩ ⟨o5, o6⟩
  have he : b.r0 * x.bo + b.r1 * x.ne + b.r2 * x.me = ofK b j := by rw [ofK_at hx]; rfl
  refine W.seq (W.region S ?_)
  refine AS.cons (sp_boxa 2 rfl (fun b2 => ?_))
  refine AS.cons (sp_asg rfl ?_)
  refine AS.nil ?_
  intro _ S
  refine W.seq (W.region S ?_)
  refine AS.cons (sp_fa rfl fo_28_1_3 ?_)
  refine AS.cons (sp_ld 2 rfl rfl sc_23 rfl ?_)
  refine AS.cons (sp_move (v := .int _ _) rfl ?_)
  refine AS.cons (sp_iaR hH rfl rfl sl_23_75_3 (by first | omega | (simp only [decide_eq_true_eq, decide_eq_false_iff_not] at *; omega)) ?_)
  refine AS.cons (sp_ldaR 0 hH (fun _ h => h) rfl ag_75_3 (hos_at hx) (by first | omega | (simp only [decide_eq_true_eq, decide_eq_false_iff_not] at *; omega)) ?_)
  refine AS.cons (sp_alloc 5 zv_75 rfl (fun b5 => ?_))
  refine AS.cons (sp_st 5 rfl rfl rfl rfl sz_75_3 rfl rfl ?_)
  refine AS.nil ?_
  intro _ S
  refine W.seq (W.region S ?_)
  refine AS.cons (sp_fa rfl fo_28_0_0 ?_)
  refine AS.cons (sp_iaa rfl rfl ar_22_3_3_1 (by first | omega | (simp only [decide_eq_true_eq, decide_eq_false_iff_not] at *; omega)) ?_)
  refine AS.cons (sp_ld 2 rfl rfl sc_3 rfl ?_)
  refine AS.cons (sp_fa rfl fo_75_0_0 ?_)
  refine AS.cons (sp_ld 5 rfl rfl sc_3 rfl ?_)
  refine AS.cons (sp_mul rfl rfl (mulB (by first | omega | (simp only [decide_eq_true_eq, decide_eq_false_iff_not] at *; omega)) (by first | omega | (simp only [decide_eq_true_eq, decide_eq_false_iff_not] at *; omega))) ?_)
  refine AS.cons (sp_fa rfl fo_28_0_0 ?_)
  refine AS.cons (sp_iaa rfl rfl ar_22_3_3_1 (by first | omega | (simp only [decide_eq_true_eq, decide_eq_false_iff_not] at *; omega)) ?_)
  refine AS.cons (sp_ld 2 rfl rfl sc_3 rfl ?_)
  refine AS.cons (sp_fa rfl fo_75_1_1 ?_)
  refine AS.cons (sp_ld 5 rfl rfl sc_3 rfl ?_)
  refine AS.cons (sp_mul rfl rfl (mulB (by first | omega | (simp only [decide_eq_true_eq, decide_eq_false_iff_not] at *; omega)) (by first | omega | (simp only [decide_eq_true_eq, decide_eq_false_iff_not] at *; omega))) ?_)
  refine AS.cons (sp_add rfl rfl (by first | omega | (simp only [decide_eq_true_eq, decide_eq_false_iff_not] at *; omega)) ?_)
  refine AS.cons (sp_fa rfl fo_28_0_0 ?_)
  refine AS.cons (sp_iaa rfl rfl ar_22_3_3_1 (by first | omega | (simp only [decide_eq_true_eq, decide_eq_false_iff_not] at *; omega)) ?_)
  refine AS.cons (sp_ld 2 rfl rfl sc_3 rfl ?_)
  refine AS.cons (sp_fa rfl fo_75_2_2 ?_)
  refine AS.cons (sp_ld 5 rfl rfl sc_3 rfl ?_)
  refine AS.cons (sp_mul rfl rfl (mulB (by first | omega | (simp only [decide_eq_true_eq, decide_eq_false_iff_not] at *; omega)) (by first | omega | (simp only [decide_eq_true_eq, decide_eq_false_iff_not] at *; omega))) ?_)
  refine AS.cons (sp_add rfl rfl (by first | omega | (simp only [decide_eq_true_eq, decide_eq_false_iff_not] at *; omega)) ?_)
  refine AS.cons (sp_asg (v := .int _ _) rfl ?_)
  refine AS.nil ?_
  intro _ S
  refine W.ret ?_
  exact ret1 rfl rfl S fun w' S' => ⟨congrArg iv he, S'.mod⟩
theorem allRF (hb : Own b) (w : World) (hH : Hos w ha hc b.hs) : Ct Tryd.prog 71 #[.agg (sbL b ha hc da dc).toArray] w (fun v w' => v = iv (allN b) ∧ Ext w w') := by
  refine fn_intro (args := [.agg (sbL b ha hc da dc).toArray]) Tryd.func71 rfl rfl (by kernel_rfl) ?_
  have S := St.start no w
  have hn6 := hb.n6
  refine W.seq (W.region S ?_)
  refine AS.cons (sp_boxa 1 rfl (fun b1 => ?_))
  refine AS.cons (sp_asg rfl ?_)
  refine AS.nil ?_
  intro _ S
  refine W.seq (W.region S ?_)
  refine AS.cons (sp_asg rfl ?_)
  refine AS.nil ?_
  intro _ S
  refine W.seq (W.seq (W.region S ?_))
  refine AS.cons (sp_asg rfl ?_)
  refine AS.nil ?_
  intro _ S
  refine W.block ?_
  refine W.loopS S [3, 4, 5, 6, 7, 8, 9, 10, 11, 12, 13, 14, 15, 16] [] (fun (j : Nat) => [(4, iv j), (3, iv (totU b j))]) (fun _ => []) (fun j => j ≤ b.hs.length) (fun j => b.hs.length - j) 0 (by omega) ⟨rfl, rfl, trivial⟩ trivial ?_
  rintro j σ M w1 hj S
  refine W.seq (W.seq (W.region S ?_))
  refine AS.cons (sp_move (v := .int _ _) rfl ?_)
  refine AS.cons (sp_fa rfl fo_28_1_3 ?_)
  refine AS.cons (sp_ld 1 rfl rfl sc_23 rfl ?_)
  refine AS.cons (sp_len rfl sl_23_75_3 ?_)
  refine AS.cons (sp_lss rfl rfl ?_)
  refine AS.nil ?_
  intro _ S
  refine W.condd rfl (fun c9 => ?_) (fun c9 => ?_)
  · skip
    have hlt : j < b.hs.length := by omega
    have ht := hb.tot j
    have ht1 := hb.tot (j + 1)
    simp only [totU] at ht1
    refine W.skip ?_
    refine W.seq (W.block ?_)
    refine W.region S ?_
    refine AS.cons (sp_move (v := .int _ _) rfl ?_)
    refine AS.cons (sp_ldw 1 rfl rfl ag_28_9 ?_)
    refine AS.cons (sp_move (v := .int _ _) rfl ?_)
    refine AS.cons (sp_call [] rfl rfl cf_72 (fun F w _ S => ofF _ _ _ _ _ (by assumption) _ (by assumption) w (hH.ext S.mod)) ?_)
    refine AS.cons (sp_add rfl rfl (by first | omega | (simp only [decide_eq_true_eq, decide_eq_false_iff_not] at *; omega)) ?_)
    refine AS.cons (sp_asg (v := .int _ _) rfl ?_)
    refine AS.nil ?_
    intro _ S
    refine W.region S ?_
    refine AS.cons (sp_move (v := .int _ _) rfl ?_)
    refine AS.cons (sp_add rfl rfl (by first | omega | (simp only [decide_eq_true_eq, decide_eq_false_iff_not] at *; omega)) ?_)
    refine AS.cons (sp_asg (v := .int _ _) rfl ?_)
    refine AS.nil ?_
    intro _ S
    exact ⟨j + 1, _, by omega, by omega, ⟨by simp [upd], rfl, trivial⟩, trivial, by repeat (first | exact Agr.refl _ _ | exact Agr.msk _ _ _ | refine Agr.upd ?_ _ rfl | refine Agr.upds ?_ rfl | refine Agr.mskIn ?_ rfl), by repeat (first | exact Agr.refl _ _ | exact Agr.msk _ _ _ | refine Agr.upd ?_ _ rfl | refine Agr.upds ?_ rfl | refine Agr.mskIn ?_ rfl), rfl, S⟩
  · skip
    obtain rfl : j = b.hs.length := by omega
    refine W.exit ?_
    refine W.seq (W.region S ?_)
    refine AS.cons (sp_move (v := .int _ _) rfl ?_)
    refine AS.cons (sp_asg (v := .int _ _) rfl ?_)
    refine AS.nil ?_
    intro _ S
    refine W.ret ?_
    exact ret1 rfl rfl S fun w' S' => ⟨rfl, S'.mod⟩
theorem allLF (hb : Own b) (w : World) (hH : Hos w ha hc b.hs) : Ct Tryd.prog 44 #[.agg (sbL b ha hc da dc).toArray] w (fun v w' => v = iv (allN b) ∧ Ext w w') := by
  refine fn_intro (args := [.agg (sbL b ha hc da dc).toArray]) Tryd.func44 rfl rfl (by kernel_rfl) ?_
  have S := St.start no w
  have hn6 := hb.n6
  refine W.seq (W.region S ?_)
  refine AS.cons (sp_boxa 1 rfl (fun b1 => ?_))
  refine AS.cons (sp_asg rfl ?_)
  refine AS.nil ?_
  intro _ S
  refine W.seq (W.region S ?_)
  refine AS.cons (sp_asg rfl ?_)
  refine AS.nil ?_
  intro _ S
  refine W.seq (W.seq (W.region S ?_))
  refine AS.cons (sp_asg rfl ?_)
  refine AS.nil ?_
  intro _ S
  refine W.block ?_
  refine W.loopS S [3, 4, 5, 6, 7, 8, 9, 10, 11, 12, 13, 14, 15, 16] [] (fun (j : Nat) => [(4, iv j), (3, iv (totU b j))]) (fun _ => []) (fun j => j ≤ b.hs.length) (fun j => b.hs.length - j) 0 (by omega) ⟨rfl, rfl, trivial⟩ trivial ?_
  rintro j σ M w1 hj S
  refine W.seq (W.seq (W.region S ?_))
  refine AS.cons (sp_move (v := .int _ _) rfl ?_)
  refine AS.cons (sp_fa rfl fo_28_1_3 ?_)
  refine AS.cons (sp_ld 1 rfl rfl sc_23 rfl ?_)
  refine AS.cons (sp_len rfl sl_23_75_3 ?_)
  refine AS.cons (sp_lss rfl rfl ?_)
  refine AS.nil ?_
  intro _ S
  refine W.condd rfl (fun c9 => ?_) (fun c9 => ?_)
  · skip
    have hlt : j < b.hs.length := by omega
    have ht := hb.tot j
    have ht1 := hb.tot (j + 1)
    simp only [totU] at ht1
    refine W.skip ?_
    refine W.seq (W.block ?_)
    refine W.region S ?_
    refine AS.cons (sp_move (v := .int _ _) rfl ?_)
    refine AS.cons (sp_ldw 1 rfl rfl ag_28_9 ?_)
    refine AS.cons (sp_move (v := .int _ _) rfl ?_)
    refine AS.cons (sp_call [] rfl rfl cf_46 (fun F w _ S => heldF _ _ _ _ _ (by assumption) _ (by assumption) w (hH.ext S.mod)) ?_)
    refine AS.cons (sp_add rfl rfl (by first | omega | (simp only [decide_eq_true_eq, decide_eq_false_iff_not] at *; omega)) ?_)
    refine AS.cons (sp_asg (v := .int _ _) rfl ?_)
    refine AS.nil ?_
    intro _ S
    refine W.region S ?_
    refine AS.cons (sp_move (v := .int _ _) rfl ?_)
    refine AS.cons (sp_add rfl rfl (by first | omega | (simp only [decide_eq_true_eq, decide_eq_false_iff_not] at *; omega)) ?_)
    refine AS.cons (sp_asg (v := .int _ _) rfl ?_)
    refine AS.nil ?_
    intro _ S
    exact ⟨j + 1, _, by omega, by omega, ⟨by simp [upd], rfl, trivial⟩, trivial, by repeat (first | exact Agr.refl _ _ | exact Agr.msk _ _ _ | refine Agr.upd ?_ _ rfl | refine Agr.upds ?_ rfl | refine Agr.mskIn ?_ rfl), by repeat (first | exact Agr.refl _ _ | exact Agr.msk _ _ _ | refine Agr.upd ?_ _ rfl | refine Agr.upds ?_ rfl | refine Agr.mskIn ?_ rfl), rfl, S⟩
  · skip
    obtain rfl : j = b.hs.length := by omega
    refine W.exit ?_
    refine W.seq (W.region S ?_)
    refine AS.cons (sp_move (v := .int _ _) rfl ?_)
    refine AS.cons (sp_asg (v := .int _ _) rfl ?_)
    refine AS.nil ?_
    intro _ S
    refine W.ret ?_
    exact ret1 rfl rfl S fun w' S' => ⟨rfl, S'.mod⟩
end
end Go.Proofs.YtajocmkgdjcmkaaDoor

/-
  The reference's drawing.
-/
namespace Go.Proofs.YtajocmkgdjcmkaaDoor
set_option maxRecDepth 100000
open Go.Hu Go.RowKit
section
variable (b : Sb) (ha : Option Addr) (hc : Nat) (da : Option Addr) (dc : Nat)
theorem Good.own {b : Sb} (h : Good b) : Own b := ⟨h.n6, h.r0, h.r1, h.r2, h.ho⟩
/-- A list of numbers, in a slice of its own. -/
def LsR (l : List Int) (u : Value) (i : HP) : Prop := (∃ a c, u = .slice a l.length c ∧ l.length ≤ c) ∧ i = slc 3 1 u l.length (l.map iv)
set_option maxHeartbeats 4000000 in
theorem drawingF (hb : Good b) (s : Int) (hs : 0 ≤ s ∧ s ≤ 100000) (w : World) (hH : Hos w ha hc b.hs) : Ct Tryd.prog 75 #[.agg (sbL b ha hc da dc).toArray, iv s] w (fun u w' => ∃ i, LsR (ord b s) u i ∧ St no w w' (upd eL 0 i) []) := by
  refine fn_intro (args := [.agg (sbL b ha hc da dc).toArray, iv s]) Tryd.func75 rfl rfl (by kernel_rfl) ?_
  have S := St.start no w
  have hO := hb.own
  have h60 := hb.a60
  have hn6 := hb.n6
  refine W.seq (W.region S ?_)
  refine AS.cons (sp_boxa 2 rfl (fun b2 => ?_))
  refine AS.cons (sp_asg rfl ?_)
  refine AS.nil ?_
  intro _ S
  refine W.seq (W.region S ?_)
  refine AS.cons (sp_bsS0 901 sl_26_3_1 (fun b11 => ?_))
  refine AS.cons (sp_asg rfl ?_)
  refine AS.nil ?_
  intro _ S
  refine W.seq (W.seq (W.region S ?_))
  refine AS.cons (sp_asg rfl ?_)
  refine AS.nil ?_
  intro _ S
  refine W.block ?_
  refine W.loopS S [5, 6, 7, 12, 13, 14, 15, 16, 17, 18, 19, 20, 21, 22, 23, 24, 25, 26, 27, 28, 29] [28, 29, 901] (fun (z : Nat × Value) => [(6, iv z.1), (5, z.2)]) (fun z => [(901, slc 3 1 z.2 (rowU b z.1).length ((rowU b z.1).map iv))]) (fun z => z.1 ≤ b.hs.length ∧ ∃ a c, z.2 = .slice a (rowU b z.1).length c) (fun z => b.hs.length - z.1) (0, _) ⟨by omega, _, 0, rfl⟩ ⟨rfl, rfl, trivial⟩ ⟨rfl, trivial⟩ ?_
  rintro ⟨j, v⟩ σ M w1 ⟨hj, a, c, hva⟩ S
  replace hj : j ≤ b.hs.length := hj
  replace hva : v = .slice a (rowU b j).length c := hva
  subst hva
  refine W.seq (W.seq (W.region S ?_))
  refine AS.cons (sp_move (v := .int _ _) rfl ?_)
  refine AS.cons (sp_fa rfl fo_28_1_3 ?_)
  refine AS.cons (sp_ld 2 rfl rfl sc_23 rfl ?_)
  refine AS.cons (sp_len rfl sl_23_75_3 ?_)
  refine AS.cons (sp_lss rfl rfl ?_)
  refine AS.nil ?_
  intro _ S
  refine W.condd rfl (fun c16 => ?_) (fun c16 => ?_)
  · skip
    have hlt : j < b.hs.length := by omega
    have hof := hb.of j
    have hrl := rowU_len hb j
    have hmo : totU b (j + 1) ≤ allN b := hb.mono (show j + 1 ≤ b.hs.length from hlt)
    have htu := hb.up j
    simp only [totU] at hmo
    refine W.skip ?_
    refine W.seq (W.block ?_)
    refine W.seq (W.region S ?_)
    refine AS.cons (sp_asg rfl ?_)
    refine AS.nil ?_
    intro _ S
    refine W.block ?_
    refine W.loopS S [5, 7, 19, 20, 21, 22, 23, 24, 25, 26, 27, 28, 29] [28, 29, 901] (fun (z : Nat × Value) => [(7, iv z.1), (5, z.2)]) (fun z => [(901, slc 3 1 z.2 (rowU b j ++ List.replicate z.1 (j : Int)).length ((rowU b j ++ List.replicate z.1 (j : Int)).map iv))]) (fun z => z.1 ≤ (ofK b j).toNat ∧ ∃ a c, z.2 = .slice a (rowU b j ++ List.replicate z.1 (j : Int)).length c) (fun z => (ofK b j).toNat - z.1) (0, .slice a (rowU b j).length c) ⟨Nat.zero_le _, a, c, by simp⟩ ⟨rfl, rfl, trivial⟩ ⟨by show slc 3 1 _ (rowU b j).length _ = _; simp, trivial⟩ ?_
    rintro ⟨n, v⟩ σ2 M2 w2 ⟨hn, a2, c2, hva2⟩ S
    replace hn : n ≤ (ofK b j).toNat := hn
    replace hva2 : v = .slice a2 (rowU b j ++ List.replicate n (j : Int)).length c2 := hva2
    subst hva2
    have hln : (rowU b j ++ List.replicate n (j : Int)).length ≤ 1000 := by simp only [List.length_append, List.length_replicate]; omega
    have hsn : rowU b j ++ List.replicate (n + 1) (j : Int) = (rowU b j ++ List.replicate n (j : Int)) ++ [(j : Int)] := by rw [List.replicate_succ', List.append_assoc]
    refine W.seq (W.seq (W.region S ?_))
    refine AS.cons (sp_move (v := .int _ _) rfl ?_)
    refine AS.cons (sp_ldw 2 rfl rfl ag_28_9 ?_)
    refine AS.cons (sp_move (v := .int _ _) rfl ?_)
    refine AS.cons (sp_call [] rfl rfl cf_72 (fun F w _ S => ofF _ _ _ _ _ (by assumption) _ (by assumption) w (hH.ext S.mod)) ?_)
    refine AS.cons (sp_lss rfl rfl ?_)
    refine AS.nil ?_
    intro _ S
    refine W.condd rfl (fun c23 => ?_) (fun c23 => ?_)
    · skip
      replace c23 : (n : Int) < ofK b j := c23
      have hlt2 : n < (ofK b j).toNat := by omega
      refine W.skip ?_
      refine W.seq (W.block ?_)
      refine W.region S ?_
      refine AS.cons (sp_move rfl ?_)
      refine AS.cons (sp_move (v := .int _ _) rfl ?_)
      refine AS.cons (sp_bs 28 [.tmp 27] _ sl_26_3_1 zs_3_1 rfl rfl rfl rfl rfl rfl (fun b28 => ?_))
      refine AS.cons (sp_app 901 [28] rfl rfl sl_26_3_1 zs_3_1 rfl (fun F w hF S => rd_pt (S.get ((hF 28 (by simp)).trans rfl)).1 rfl (by omega) (by omega)) rfl (by first | omega | (simp only [] at *; omega)) (fun a29 c29 => ?_))
      refine AS.cons (sp_asg rfl ?_)
      refine AS.nil ?_
      intro _ S
      refine W.region S ?_
      refine AS.cons (sp_move (v := .int _ _) rfl ?_)
      refine AS.cons (sp_add rfl rfl (by first | omega | (simp only [decide_eq_true_eq, decide_eq_false_iff_not] at *; omega)) ?_)
      refine AS.cons (sp_asg (v := .int _ _) rfl ?_)
      refine AS.nil ?_
      intro _ S
      exact ⟨(n + 1, .slice a29 ((rowU b j ++ List.replicate n (j : Int)).length + 1) c29), _, ⟨by show n + 1 ≤ _; omega, a29, c29, by show _ = Value.slice a29 (rowU b j ++ List.replicate (n + 1) (j : Int)).length c29; rw [hsn, List.length_append (bs := [(j : Int)])]; rfl⟩, by show _ - (n + 1) < _ - n; omega, ⟨by simp [upd], rfl, trivial⟩, ⟨by show slc 3 1 _ _ _ = slc 3 1 _ (rowU b j ++ List.replicate (n + 1) (j : Int)).length _; rw [hsn, List.length_append (bs := [(j : Int)]), List.map_append (l₂ := [(j : Int)])]; rfl, trivial⟩, by repeat (first | exact Agr.refl _ _ | exact Agr.msk _ _ _ | refine Agr.upd ?_ _ rfl | refine Agr.upds ?_ rfl | refine Agr.mskIn ?_ rfl), by repeat (first | exact Agr.refl _ _ | exact Agr.msk _ _ _ | refine Agr.upd ?_ _ rfl | refine Agr.upds ?_ rfl | refine Agr.mskIn ?_ rfl), rfl, S⟩
    · skip
      replace c23 : ¬ (n : Int) < ofK b j := c23
      obtain rfl : n = (ofK b j).toNat := by omega
      refine W.exit ?_
      refine W.region S ?_
      refine AS.cons (sp_move (v := .int _ _) rfl ?_)
      refine AS.cons (sp_add rfl rfl (by first | omega | (simp only [decide_eq_true_eq, decide_eq_false_iff_not] at *; omega)) ?_)
      refine AS.cons (sp_asg (v := .int _ _) rfl ?_)
      refine AS.nil ?_
      intro _ S
      exact ⟨(j + 1, .slice a2 (rowU b (j + 1)).length c2), _, ⟨hlt, a2, c2, rfl⟩, by show _ - (j + 1) < _ - j; omega, ⟨by simp [upd], rfl, trivial⟩, ⟨rfl, trivial⟩, by repeat (first | exact Agr.refl _ _ | exact Agr.msk _ _ _ | refine Agr.upd ?_ _ rfl | refine Agr.upds ?_ rfl | refine Agr.mskIn ?_ rfl), by repeat (first | exact Agr.refl _ _ | exact Agr.msk _ _ _ | refine Agr.upd ?_ _ rfl | refine Agr.upds ?_ rfl | refine Agr.mskIn ?_ rfl), rfl, S⟩
  · skip
    obtain rfl : j = b.hs.length := by omega
    refine W.exit ?_
    refine W.seq (W.region S ?_)
    refine AS.cons (sp_bsS0 902 sl_26_3_1 (fun b30 => ?_))
    refine AS.cons (sp_move (v := .int _ _) rfl ?_)
    refine AS.cons (sp_asg rfl ?_)
    refine AS.cons (sp_asg (v := .int _ _) rfl ?_)
    refine AS.nil ?_
    intro _ S
    refine W.seq (W.block ?_)
    refine W.loopS S [5, 8, 9, 10, 32, 33, 34, 35, 36, 37, 38, 39, 40, 41, 42, 43, 44, 45, 46, 47, 48, 49, 50, 51, 52, 53, 54, 55, 56, 57, 58, 59] [48, 49, 50, 54, 59, 901, 902, 903] (fun (z : List Int × List Int × Nat × Nat × Int × Value × Value) => [(5, z.2.2.2.2.2.1), (9, iv z.2.2.2.2.1), (8, z.2.2.2.2.2.2)]) (fun z => [(901, slc 3 1 z.2.2.2.2.2.1 z.2.2.1 (z.1.map iv)), (902, slc 3 1 z.2.2.2.2.2.2 z.2.2.2.1 (z.2.1.map iv))]) (fun z => Run b s z.1 z.2.2.2.2.1 z.2.1 ∧ z.1.length = z.2.2.1 ∧ z.2.1.length = z.2.2.2.1 ∧ z.2.2.1 + z.2.2.2.1 ≤ 60 ∧ (0 ≤ z.2.2.2.2.1 ∧ z.2.2.2.2.1 ≤ 100000) ∧ (∃ a c, z.2.2.2.2.2.1 = .slice a z.2.2.1 c) ∧ ∃ a c, z.2.2.2.2.2.2 = .slice a z.2.2.2.1 c) (fun z => z.2.2.1) (rowU b b.hs.length, [], (rowU b b.hs.length).length, 0, s, _, _) ⟨Run.start b s, rfl, rfl, by have := rowF_len hb; show (rowU b b.hs.length).length + 0 ≤ 60; unfold rowF at this; omega, hs, ⟨a, c, rfl⟩, _, 0, rfl⟩ ⟨rfl, rfl, rfl, trivial⟩ ⟨rfl, rfl, trivial⟩ ?_
    rintro ⟨row, out, rl, ol, x, rv, ov⟩ σ3 M3 w3 ⟨hrun, hrl2, hol, hsum, hx, ⟨ra, rc, hrv⟩, oa, oc, hov⟩ S
    replace hrun : Run b s row x out := hrun
    replace hrl2 : row.length = rl := hrl2
    replace hol : out.length = ol := hol
    replace hsum : rl + ol ≤ 60 := hsum
    replace hx : 0 ≤ x ∧ x ≤ 100000 := hx
    replace hrv : rv = .slice ra rl rc := hrv
    replace hov : ov = .slice oa ol oc := hov
    subst hrv hov
    refine W.seq (W.seq (W.region S ?_))
    refine AS.cons (sp_move rfl ?_)
    refine AS.cons (sp_len rfl sl_26_3_1 ?_)
    refine AS.cons (sp_gtr rfl rfl ?_)
    refine AS.nil ?_
    intro _ S
    refine W.condd rfl (fun c34 => ?_) (fun c34 => ?_)
    · skip
      replace c34 : (rl : Int) > 0 := c34
      have h0 : 0 < rl := by omega
      have hrc : rl ≤ rc := St.slc_le S 901 rfl
      have hone : ∀ l : List Int, oneB (l.map iv) = true := fun l => by unfold oneB; rw [List.all_eq_true]; intro v hv; obtain ⟨x, _, rfl⟩ := List.mem_map.1 hv; rfl
      have hrb := ran_bd x
      have hkb : 0 ≤ (75 * x + 74) % 65537 % (rl : Int) ∧ (75 * x + 74) % 65537 % (rl : Int) < rl := ⟨Int.emod_nonneg _ (by omega), Int.emod_lt_of_pos _ (by omega)⟩
      have hkn : 0 ≤ (75 * x + 74) % 65537 % (rl : Int) ∧ (75 * x + 74) % 65537 % (rl : Int) < rl := hkb
      have hpk : ((75 * x + 74) % 65537 % (rl : Int)).toNat = pk row x := by unfold pk ran; rw [hrl2]
      have hpl : pk row x < rl := by have := pk_lt (r := row) (x := x) (by omega); omega
      have hget : (row.map iv)[((75 * x + 74) % 65537 % (rl : Int)).toNat * 1]? = some (iv (row.getD (pk row x) 0)) := by
        rw [hpk, Nat.mul_one, List.getElem?_map, List.getD_eq_getElem?_getD, List.getElem?_eq_getElem (by omega)]; rfl
      refine W.skip ?_
      refine W.block ?_
      refine W.seq (W.region S ?_)
      refine AS.cons (sp_move (v := .int _ _) rfl ?_)
      refine AS.cons (sp_mul rfl rfl (mulB (by first | omega | (simp only [decide_eq_true_eq, decide_eq_false_iff_not] at *; omega)) (by first | omega | (simp only [] at *; omega))) ?_)
      refine AS.cons (sp_add rfl rfl (by first | omega | (simp only [] at *; omega)) ?_)
      refine AS.cons (sp_rem rfl rfl (by first | omega | (simp only [] at *; omega)) (by first | omega | (simp only [decide_eq_true_eq, decide_eq_false_iff_not] at *; omega)) ?_)
      refine AS.cons (sp_asg (v := .int _ _) rfl ?_)
      refine AS.nil ?_
      intro _ S
      refine W.seq (W.region S ?_)
      refine AS.cons (sp_move (v := .int _ _) rfl ?_)
      refine AS.cons (sp_move rfl ?_)
      refine AS.cons (sp_len rfl sl_26_3_1 ?_)
      refine AS.cons (sp_rem rfl rfl (by first | omega | (simp only [decide_eq_true_eq, decide_eq_false_iff_not] at *; omega)) (by first | omega | (simp only [decide_eq_true_eq, decide_eq_false_iff_not] at *; omega)) ?_)
      refine AS.cons (sp_asg (v := .int _ _) rfl ?_)
      refine AS.nil ?_
      intro _ S
      refine W.seq (W.region S ?_)
      refine AS.cons (sp_move rfl ?_)
      refine AS.cons (sp_move rfl ?_)
      refine AS.cons (sp_move (v := .int _ _) rfl ?_)
      refine AS.cons (sp_iaS 901 rfl rfl rfl sl_26_3_1 hkb ?_)
      refine AS.cons (sp_ldS 901 rfl rfl sc_3 hget (by omega) ?_)
      refine AS.cons (sp_bs 48 [.tmp 47] _ sl_26_3_1 zs_3_1 rfl rfl rfl rfl rfl rfl (fun b48 => ?_))
      refine AS.cons (sp_app 902 [48] rfl rfl sl_26_3_1 zs_3_1 rfl (fun F w hF S => rd_pt (S.get ((hF 48 (by simp)).trans rfl)).1 rfl (by omega) (by omega)) rfl (by first | omega | (simp only [] at *; omega)) (fun a49 c49 => ?_))
      refine AS.cons (sp_asg rfl ?_)
      refine AS.nil ?_
      intro _ S
      refine W.draw S mixed (fun i => ([KD.e [] [903], KD.q [], KD.q [], KD.q [], KD.e [903, 901] [903], KD.q [], KD.q [], KD.q [], KD.q [], KD.e [903, 901] [903], KD.q []] : List KD)[i]?) [4] [0, 1, 2, 3, 4, 5, 6, 7, 8, 9, 10] (by kernel_rfl) ?_
      refine AW.cons rfl rfl (sp_bsS0 903 sl_26_3_1 (fun b50 => ?_))
      refine AW.cons rfl rfl (sp_move rfl ?_)
      refine AW.cons rfl rfl (sp_move (v := .int _ _) rfl ?_)
      refine AW.cons rfl rfl (sp_sl2 (a := ra) (len := rl) (cap := rc) (h' := (75 * x + 74) % 65537 % (rl : Int)) rfl rfl sl_26_3_1 (by omega) ?_)
      refine AW.cons rfl rfl (sp_app (n := 0) (k := ((75 * x + 74) % 65537 % (rl : Int)).toNat) (ad := ra) (c := rc) (xs := []) 903 [901] rfl rfl sl_26_3_1 zs_3_1 rfl (fun F w hF S => Rd.take (n := rl) (c := rc) (s := 1) (xs := row.map iv) (S.slc_rd (k := 901) ((hF 901 (by simp)).trans rfl) (by omega)) (by omega)) (by rw [← List.map_take]; exact hone _) (by omega) (fun a54 c54 => ?_))
      refine AW.cons rfl rfl (sp_move rfl ?_)
      refine AW.cons rfl rfl (sp_move (v := .int _ _) rfl ?_)
      refine AW.cons rfl rfl (sp_add rfl rfl (by first | omega | (simp only [] at *; omega)) ?_)
      refine AW.cons rfl rfl (sp_slL (a := ra) (len := rl) (cap := rc) (l' := (75 * x + 74) % 65537 % (rl : Int) + 1) rfl rfl sl_26_3_1 (by omega) hrc ?_)
      refine AW.cons rfl rfl (sp_app (n := 0 + ((75 * x + 74) % 65537 % (rl : Int)).toNat) (k := rl - ((75 * x + 74) % 65537 % (rl : Int) + 1).toNat) (c := rc - ((75 * x + 74) % 65537 % (rl : Int) + 1).toNat) (xs := [] ++ (row.map iv).take (((75 * x + 74) % 65537 % (rl : Int)).toNat * 1)) 903 [901] rfl rfl sl_26_3_1 zs_3_1 rfl (fun F w hF S => Rd.drop (n := rl) (c := rc) (s := 1) (xs := row.map iv) (S.slc_rd (k := 901) ((hF 901 (by simp)).trans rfl) (by omega)) (by omega)) (by rw [← List.map_drop]; exact hone _) (by omega) (fun a59 c59 => ?_))
      refine AW.cons rfl rfl (sp_asg rfl ?_)
      refine AW.nil ?_
      intro _ S
      have S := S.rename 901 903 (by decide)
      have hn1 : 0 + ((75 * x + 74) % 65537 % (rl : Int)).toNat + (rl - ((75 * x + 74) % 65537 % (rl : Int) + 1).toNat) = rl - 1 := by omega
      have hls : [] ++ (row.map iv).take (((75 * x + 74) % 65537 % (rl : Int)).toNat * 1) ++ (row.map iv).drop (((75 * x + 74) % 65537 % (rl : Int) + 1).toNat * 1) = (row.eraseIdx (pk row x)).map iv := by
        rw [show ((75 * x + 74) % 65537 % (rl : Int) + 1).toNat = ((75 * x + 74) % 65537 % (rl : Int)).toNat + 1 by omega, hpk, Nat.mul_one, Nat.mul_one, erase_eq, List.map_append, List.map_take, List.map_drop, List.nil_append]
      exact ⟨(row.eraseIdx (pk row x), out ++ [row.getD (pk row x) 0], rl - 1, ol + 1, ran x, .slice a59 (rl - 1) c59, .slice a49 (ol + 1) c49), _, ⟨hrun.step (by omega), by show (row.eraseIdx _).length = rl - 1; rw [List.length_eraseIdx_of_lt (by omega)]; omega, by show (out ++ [_]).length = ol + 1; rw [List.length_append, hol]; rfl, by show rl - 1 + (ol + 1) ≤ 60; omega, ⟨hrb.1, by show ran x ≤ 100000; omega⟩, ⟨a59, c59, rfl⟩, a49, c49, rfl⟩, by show rl - 1 < rl; omega, ⟨by show Value.slice a59 _ c59 = Value.slice a59 (rl - 1) c59; rw [hn1], rfl, rfl, trivial⟩, ⟨by show slc 3 1 (.slice a59 _ c59) _ _ = slc 3 1 (.slice a59 (rl - 1) c59) (rl - 1) _; rw [hn1, hls], by show slc 3 1 _ _ _ = slc 3 1 _ _ ((out ++ [row.getD (pk row x) 0]).map iv); rw [List.map_append]; rfl, trivial⟩, by repeat (first | exact Agr.refl _ _ | exact Agr.msk _ _ _ | refine Agr.upd ?_ _ rfl | refine Agr.upds ?_ rfl | refine Agr.mskIn ?_ rfl), by repeat (first | exact Agr.refl _ _ | exact Agr.msk _ _ _ | refine Agr.upd ?_ _ rfl | refine Agr.upds ?_ rfl | refine Agr.mskIn ?_ rfl), rfl, S⟩
    · skip
      replace c34 : ¬ (rl : Int) > 0 := c34
      have hfin := hrun.done (by omega)
      have hoc : ol ≤ oc := St.slc_le S 902 rfl
      refine W.exit ?_
      refine W.seq (W.region S ?_)
      refine AS.cons (sp_move rfl ?_)
      refine AS.cons (sp_asg rfl ?_)
      refine AS.nil ?_
      intro _ S
      refine W.ret ?_
      exact ret1 rfl rfl S fun w' S' => ⟨_, (show LsR (ord b s) (.slice oa ol oc) (slc 3 1 (.slice oa ol oc) ol (out.map iv)) from ⟨⟨oa, oc, by rw [← hfin, hol], by rw [← hfin, hol]; exact hoc⟩, by rw [← hfin, hol]⟩), S'.only 902⟩
end
end Go.Proofs.YtajocmkgdjcmkaaDoor

/-
  The reference's notes and numbers.
-/
namespace Go.Proofs.YtajocmkgdjcmkaaDoor
set_option maxRecDepth 100000
open Go.Hu Go.RowKit
section
variable (b : Sb) (ha : Option Addr) (hc : Nat) (da : Option Addr) (dc : Nat)
theorem fit_down {b : Sb} {but : List Int} {s : Int} {j k : Nat} (hjk : j ≤ k) (h : fitU b but s j = false) : fitU b but s k = false := by
  unfold fitU at h ⊢
  rw [List.all_eq_false] at h ⊢
  obtain ⟨i, hi, hp⟩ := h
  exact ⟨i, List.mem_range.2 (by have := List.mem_range.1 hi; omega), hp⟩
theorem fit_at {b : Sb} {s x y : Int} {j : Nat} (hx : b.dr[j]? = some x) (hy : (ord b s)[j]? = some y) : fitU b [] s (j + 1) = (fitU b [] s j && (decide (x = -1) || decide (y = x))) := by
  rw [fitU_succ, List.getD_eq_getElem?_getD, List.getD_eq_getElem?_getD, hx, hy]; simp
theorem fit_yes {b : Sb} {s x y : Int} {j : Nat} (hx : b.dr[j]? = some x) (hy : (ord b s)[j]? = some y) (hf : fitU b [] s j = true) (h : x = -1 ∨ y = x) : fitU b [] s (j + 1) = true := by
  rw [fit_at hx hy, hf]
  rcases h with h | h
  · rw [decide_eq_true h]; rfl
  · rw [decide_eq_true h]; simp
theorem fit_no {b : Sb} {s x y : Int} {j : Nat} (hx : b.dr[j]? = some x) (hy : (ord b s)[j]? = some y) (h : ¬ x = -1 ∧ ¬ y = x) : fitU b [] s (j + 1) = false := by
  rw [fit_at hx hy, decide_eq_false h.1, decide_eq_false h.2]; simp
theorem fitsF (hb : Good b) (s : Int) (hs : 0 ≤ s ∧ s ≤ 100000) (w : World) (hH : Hos w ha hc b.hs) (hD : Ints w da dc b.dr) : Ct Tryd.prog 92 #[.agg (sbL b ha hc da dc).toArray, iv s] w (fun u w' => u = .bool (fitB b [] s) ∧ Ext w w') := by
  refine fn_intro (args := [.agg (sbL b ha hc da dc).toArray, iv s]) Tryd.func92 rfl rfl (by kernel_rfl) ?_
  have S := St.start no w
  have hd8 := hb.d8
  have hol : ((ord b s).length : Int) = allN b := by rw [ord_len]; exact rowF_len hb
  have hda := hb.da
  have h60 := hb.a60
  refine W.seq (W.region S ?_)
  refine AS.cons (sp_boxa 2 rfl (fun b2 => ?_))
  refine AS.cons (sp_asg rfl ?_)
  refine AS.nil ?_
  intro _ S
  refine W.seq (W.region S ?_)
  refine AS.cons (sp_ldw 2 rfl rfl ag_28_9 ?_)
  refine AS.cons (sp_move (v := .int _ _) rfl ?_)
  refine AS.cons (sp_call1 9 [] _ rfl rfl cf_75 (fun F w _ S => drawingF _ _ _ _ _ (by assumption) _ (by omega) w (hH.ext S.mod)) ?_ (by simp))
  rintro v9 i9 ⟨⟨a9, c9, rfl, h9⟩, rfl⟩
  refine AS.cons (sp_asg rfl ?_)
  refine AS.nil ?_
  intro _ S
  refine W.seq (W.seq (W.region S ?_))
  refine AS.cons (sp_asg rfl ?_)
  refine AS.nil ?_
  intro _ S
  refine W.block ?_
  refine W.loopS S [4, 6, 10, 11, 12, 13, 14, 15, 16, 17, 18, 19, 20, 21, 22, 23, 24, 25, 26, 27, 28, 29, 30, 31, 32, 33, 34] [] (fun (j : Nat) => [(6, iv j)]) (fun _ => []) (fun j => j ≤ b.dr.length ∧ fitU b [] s j = true) (fun j => b.dr.length - j) 0 ⟨by omega, rfl⟩ ⟨rfl, trivial⟩ trivial ?_
  rintro j σ M w1 ⟨hj, hf⟩ S
  refine W.seq (W.seq (W.region S ?_))
  refine AS.cons (sp_move (v := .int _ _) rfl ?_)
  refine AS.cons (sp_fa rfl fo_28_4_8 ?_)
  refine AS.cons (sp_ld 2 rfl rfl sc_26 rfl ?_)
  refine AS.cons (sp_len rfl sl_26_3_1 ?_)
  refine AS.cons (sp_lss rfl rfl ?_)
  refine AS.nil ?_
  intro _ S
  refine W.condd rfl (fun c14 => ?_) (fun c14 => ?_)
  · skip
    have hlt : j < b.dr.length := by omega
    obtain ⟨x, hx⟩ := get_some hlt
    obtain ⟨y, hy⟩ := get_some (l := ord b s) (j := j) (by omega)
    have hxb := hb.dn x (List.mem_of_getElem? hx)
    refine W.skip ?_
    refine W.seq (W.block ?_)
    refine W.seq (W.draw S mixed (fun i => ([KD.q [], KD.q [2], KD.q [], KD.q [], KD.q [], KD.q [], KD.q [], KD.q [], KD.q [2], KD.q [], KD.q [], KD.q [], KD.q [], KD.q [], KD.q [9], KD.q [9], KD.q [], KD.q []] : List KD)[i]?) [] [0, 1, 2, 3, 4, 5, 6, 7, 8, 9, 10, 11, 12, 13, 14, 15, 16, 17] (by kernel_rfl) ?_)
    refine AW.cons rfl rfl (sp_fa rfl fo_28_4_8 ?_)
    refine AW.cons rfl rfl (sp_ld 2 rfl rfl sc_26 rfl ?_)
    refine AW.cons rfl rfl (sp_move (v := .int _ _) rfl ?_)
    refine AW.cons rfl rfl (sp_iaR hD rfl rfl sl_26_3_1 (by first | omega | (simp only [decide_eq_true_eq, decide_eq_false_iff_not] at *; omega)) ?_)
    refine AW.cons rfl rfl (sp_ldR 0 hD (fun _ h => h) rfl sc_3 (ints_at hx) (by first | omega | (simp only [decide_eq_true_eq, decide_eq_false_iff_not] at *; omega)) ?_)
    refine AW.cons rfl rfl (sp_geq rfl rfl ?_)
    refine AW.cons rfl rfl (sp_move (v := .bool _) rfl ?_)
    refine AW.split 23 rfl (fun g23 => ?_) (fun g23 => ?_)
    · skip
      refine AW.cons rfl rfl (sp_fa rfl fo_28_4_8 ?_)
      refine AW.cons rfl rfl (sp_ld 2 rfl rfl sc_26 rfl ?_)
      refine AW.cons rfl rfl (sp_move (v := .int _ _) rfl ?_)
      refine AW.cons rfl rfl (sp_iaR hD rfl rfl sl_26_3_1 (by first | omega | (simp only [decide_eq_true_eq, decide_eq_false_iff_not] at *; omega)) ?_)
      refine AW.cons rfl rfl (sp_ldR 0 hD (fun _ h => h) rfl sc_3 (ints_at hx) (by first | omega | (simp only [decide_eq_true_eq, decide_eq_false_iff_not] at *; omega)) ?_)
      refine AW.cons rfl rfl (sp_move rfl ?_)
      refine AW.cons rfl rfl (sp_move (v := .int _ _) rfl ?_)
      refine AW.cons rfl rfl (sp_iaS 9 rfl rfl rfl sl_26_3_1 (by omega) ?_)
      refine AW.cons rfl rfl (sp_ldS 9 rfl rfl sc_3 (v := iv y) (by simp [hy]) (by omega) ?_)
      refine AW.cons rfl rfl (sp_neq rfl rfl ?_)
      refine AW.cons rfl rfl (sp_pick_t rfl (v := .bool _) rfl ?_)
      refine AW.nil ?_
      intro _ S
      refine W.cond rfl (fun c34 => ?_) (fun c34 => ?_)
      · skip
        refine W.seq (W.region S ?_)
        refine AS.cons (sp_asg rfl ?_)
        refine AS.nil ?_
        intro _ S
        refine W.ret ?_
        first | exact ret1 rfl rfl S fun w' S' => ⟨congrArg Value.bool (show true = fitB b [] s from hf.symm), S'.mod⟩ | exact ret1 rfl rfl S fun w' S' => ⟨congrArg Value.bool (show false = fitB b [] s from (fit_down hlt (fit_no hx hy (by simp only [decide_eq_true_eq] at *; omega))).symm), S'.mod⟩
      · skip
        refine W.skip ?_
        refine W.region S ?_
        refine AS.cons (sp_move (v := .int _ _) rfl ?_)
        refine AS.cons (sp_add rfl rfl (by first | omega | (simp only [decide_eq_true_eq, decide_eq_false_iff_not] at *; omega)) ?_)
        refine AS.cons (sp_asg (v := .int _ _) rfl ?_)
        refine AS.nil ?_
        intro _ S
        exact ⟨j + 1, _, ⟨hlt, fit_yes hx hy hf (by simp only [decide_eq_true_eq, decide_eq_false_iff_not] at *; omega)⟩, by omega, ⟨by simp [upd], trivial⟩, trivial, by repeat (first | exact Agr.refl _ _ | exact Agr.msk _ _ _ | refine Agr.upd ?_ _ rfl | refine Agr.upds ?_ rfl | refine Agr.mskIn ?_ rfl), by repeat (first | exact Agr.refl _ _ | exact Agr.msk _ _ _ | refine Agr.upd ?_ _ rfl | refine Agr.upds ?_ rfl | refine Agr.mskIn ?_ rfl), rfl, S⟩
    · skip
      refine AW.cons rfl rfl (sp_skip rfl ?_)
      refine AW.cons rfl rfl (sp_skip rfl ?_)
      refine AW.cons rfl rfl (sp_skip rfl ?_)
      refine AW.cons rfl rfl (sp_skip rfl ?_)
      refine AW.cons rfl rfl (sp_skip rfl ?_)
      refine AW.cons rfl rfl (sp_skip rfl ?_)
      refine AW.cons rfl rfl (sp_skip rfl ?_)
      refine AW.cons rfl rfl (sp_skip rfl ?_)
      refine AW.cons rfl rfl (sp_skip rfl ?_)
      refine AW.cons rfl rfl (sp_skip rfl ?_)
      refine AW.cons rfl rfl (sp_pick_f rfl (v := .bool _) rfl ?_)
      refine AW.nil ?_
      intro _ S
      refine W.cond (b := false) rfl (fun h => nomatch h) (fun _ => ?_)
      refine W.skip ?_
      refine W.region S ?_
      refine AS.cons (sp_move (v := .int _ _) rfl ?_)
      refine AS.cons (sp_add rfl rfl (by first | omega | (simp only [decide_eq_true_eq, decide_eq_false_iff_not] at *; omega)) ?_)
      refine AS.cons (sp_asg (v := .int _ _) rfl ?_)
      refine AS.nil ?_
      intro _ S
      exact ⟨j + 1, _, ⟨hlt, fit_yes hx hy hf (by simp only [decide_eq_false_iff_not] at *; omega)⟩, by omega, ⟨by simp [upd], trivial⟩, trivial, by repeat (first | exact Agr.refl _ _ | exact Agr.msk _ _ _ | refine Agr.upd ?_ _ rfl | refine Agr.upds ?_ rfl | refine Agr.mskIn ?_ rfl), by repeat (first | exact Agr.refl _ _ | exact Agr.msk _ _ _ | refine Agr.upd ?_ _ rfl | refine Agr.upds ?_ rfl | refine Agr.mskIn ?_ rfl), rfl, S⟩
  · skip
    obtain rfl : j = b.dr.length := by omega
    refine W.exit ?_
    refine W.seq (W.region S ?_)
    refine AS.cons (sp_asg rfl ?_)
    refine AS.nil ?_
    intro _ S
    refine W.ret ?_
    first | exact ret1 rfl rfl S fun w' S' => ⟨congrArg Value.bool (show true = fitB b [] s from hf.symm), S'.mod⟩ | exact ret1 rfl rfl S fun w' S' => ⟨congrArg Value.bool (show false = fitB b [] s from (fit_down hlt (fit_no hx hy (by simp only [decide_eq_true_eq, decide_eq_false_iff_not] at *; omega))).symm), S'.mod⟩
end
end Go.Proofs.YtajocmkgdjcmkaaDoor

/-
  The reference's numbers, and its check.
-/
namespace Go.Proofs.YtajocmkgdjcmkaaDoor
set_option maxRecDepth 100000
open Go.Hu Go.RowKit
section
variable (b : Sb) (ha : Option Addr) (hc : Nat) (da : Option Addr) (dc : Nat)
theorem seedsF (hb : Good b) (w : World) (hH : Hos w ha hc b.hs) (hD : Ints w da dc b.dr) : Ct Tryd.prog 64 #[.agg (sbL b ha hc da dc).toArray] w (fun u w' => ∃ i, LsR (sdL b []) u i ∧ St no w w' (upd eL 0 i) []) := by
  refine fn_intro (args := [.agg (sbL b ha hc da dc).toArray]) Tryd.func64 rfl rfl (by kernel_rfl) ?_
  have S := St.start no w
  obtain ⟨⟨q1, q2⟩, q3, q4⟩ := hb.se
  have hN : (sdN b : Int) = b.s1 - b.s0 + 1 := by unfold sdN; omega
  refine W.seq (W.region S ?_)
  refine AS.cons (sp_boxa 1 rfl (fun b1 => ?_))
  refine AS.cons (sp_asg rfl ?_)
  refine AS.nil ?_
  intro _ S
  refine W.seq (W.region S ?_)
  refine AS.cons (sp_bsS0 901 sl_26_3_1 (fun b5 => ?_))
  refine AS.cons (sp_asg rfl ?_)
  refine AS.nil ?_
  intro _ S
  refine W.seq (W.seq (W.region S ?_))
  refine AS.cons (sp_fa rfl fo_28_3_6 ?_)
  refine AS.cons (sp_fa rfl fo_25_0_0 ?_)
  refine AS.cons (sp_ld 1 rfl rfl sc_3 rfl ?_)
  refine AS.cons (sp_asg (v := .int _ _) rfl ?_)
  refine AS.nil ?_
  intro _ S
  refine W.block ?_
  refine W.loopS S [3, 4, 9, 10, 11, 12, 13, 14, 15, 16, 17, 18, 19, 20, 21, 22] [21, 22, 901] (fun (z : Nat × Value) => [(4, iv (b.s0 + z.1)), (3, z.2)]) (fun z => [(901, slc 3 1 z.2 (sdU b [] z.1).length ((sdU b [] z.1).map iv))]) (fun z => z.1 ≤ sdN b ∧ ∃ a c, z.2 = .slice a (sdU b [] z.1).length c) (fun z => sdN b - z.1) (0, _) ⟨by omega, _, 0, rfl⟩ ⟨by show iv b.s0 = iv (b.s0 + (0 : Nat)); simp, rfl, trivial⟩ ⟨rfl, trivial⟩ ?_
  rintro ⟨j, v⟩ σ M w1 ⟨hj, a, c, hva⟩ S
  replace hj : j ≤ sdN b := hj
  replace hva : v = .slice a (sdU b [] j).length c := hva
  subst hva
  have hbl := sdU_len b [] j
  refine W.seq (W.seq (W.region S ?_))
  refine AS.cons (sp_move (v := .int _ _) rfl ?_)
  refine AS.cons (sp_fa rfl fo_28_3_6 ?_)
  refine AS.cons (sp_fa rfl fo_25_1_1 ?_)
  refine AS.cons (sp_ld 1 rfl rfl sc_3 rfl ?_)
  refine AS.cons (sp_leq rfl rfl ?_)
  refine AS.nil ?_
  intro _ S
  refine W.condd rfl (fun c13 => ?_) (fun c13 => ?_)
  · skip
    have hlt : j < sdN b := by omega
    refine W.skip ?_
    refine W.seq (W.block ?_)
    refine W.seq (W.region S ?_)
    refine AS.cons (sp_ldw 1 rfl rfl ag_28_9 ?_)
    refine AS.cons (sp_move (v := .int _ _) rfl ?_)
    refine AS.cons (sp_call [] rfl rfl cf_92 (fun F w _ S => fitsF _ _ _ _ _ (by assumption) _ (by omega) w (hH.ext S.mod) (hD.ext S.mod)) ?_)
    refine AS.nil ?_
    intro _ S
    refine W.cond rfl (fun c18 => ?_) (fun c18 => ?_)
    · skip
      have hw : sdU b [] (j + 1) = sdU b [] j ++ [b.s0 + (j : Int)] := by rw [sdU_succ, if_pos c18]
      refine W.region S ?_
      refine AS.cons (sp_move rfl ?_)
      refine AS.cons (sp_move (v := .int _ _) rfl ?_)
      refine AS.cons (sp_bs 21 [.tmp 20] _ sl_26_3_1 zs_3_1 rfl rfl rfl rfl rfl rfl (fun b21 => ?_))
      refine AS.cons (sp_app 901 [21] rfl rfl sl_26_3_1 zs_3_1 rfl (fun F w hF S => rd_pt (S.get ((hF 21 (by simp)).trans rfl)).1 rfl (by omega) (by omega)) rfl (by first | omega | (simp only [] at *; omega)) (fun a22 c22 => ?_))
      refine AS.cons (sp_asg rfl ?_)
      refine AS.nil ?_
      intro _ S
      refine W.region S ?_
      refine AS.cons (sp_move (v := .int _ _) rfl ?_)
      refine AS.cons (sp_add rfl rfl (by first | omega | (simp only [decide_eq_true_eq, decide_eq_false_iff_not] at *; omega)) ?_)
      refine AS.cons (sp_asg (v := .int _ _) rfl ?_)
      refine AS.nil ?_
      intro _ S
      first | exact ⟨(j + 1, .slice a22 ((sdU b [] j).length + 1) c22), _, ⟨by show j + 1 ≤ _; omega, a22, c22, by show _ = Value.slice a22 (sdU b [] (j + 1)).length c22; rw [hw, List.length_append]; rfl⟩, by show _ - (j + 1) < _ - j; omega, ⟨by show iv (b.s0 + (j : Int) + 1) = iv (b.s0 + ((j + 1 : Nat) : Int)); congr 1; omega, rfl, trivial⟩, ⟨by show slc 3 1 _ _ _ = slc 3 1 _ _ _; rw [hw, List.length_append, List.map_append]; rfl, trivial⟩, by repeat (first | exact Agr.refl _ _ | exact Agr.msk _ _ _ | refine Agr.upd ?_ _ rfl | refine Agr.upds ?_ rfl | refine Agr.mskIn ?_ rfl), by repeat (first | exact Agr.refl _ _ | exact Agr.msk _ _ _ | refine Agr.upd ?_ _ rfl | refine Agr.upds ?_ rfl | refine Agr.mskIn ?_ rfl), rfl, S⟩ | exact ⟨(j + 1, .slice a (sdU b [] j).length c), _, ⟨by show j + 1 ≤ _; omega, a, c, by rw [hw]⟩, by show _ - (j + 1) < _ - j; omega, ⟨by show iv (b.s0 + (j : Int) + 1) = iv (b.s0 + ((j + 1 : Nat) : Int)); congr 1; omega, rfl, trivial⟩, ⟨by show slc 3 1 _ _ _ = slc 3 1 _ _ _; rw [hw], trivial⟩, by repeat (first | exact Agr.refl _ _ | exact Agr.msk _ _ _ | refine Agr.upd ?_ _ rfl | refine Agr.upds ?_ rfl | refine Agr.mskIn ?_ rfl), by repeat (first | exact Agr.refl _ _ | exact Agr.msk _ _ _ | refine Agr.upd ?_ _ rfl | refine Agr.upds ?_ rfl | refine Agr.mskIn ?_ rfl), rfl, S⟩
    · skip
      have hw : sdU b [] (j + 1) = sdU b [] j := by rw [sdU_succ, if_neg (by rw [c18]; simp)]
      refine W.skip ?_
      refine W.region S ?_
      refine AS.cons (sp_move (v := .int _ _) rfl ?_)
      refine AS.cons (sp_add rfl rfl (by first | omega | (simp only [decide_eq_true_eq, decide_eq_false_iff_not] at *; omega)) ?_)
      refine AS.cons (sp_asg (v := .int _ _) rfl ?_)
      refine AS.nil ?_
      intro _ S
      first | exact ⟨(j + 1, .slice a22 ((sdU b [] j).length + 1) c22), _, ⟨by show j + 1 ≤ _; omega, a22, c22, by show _ = Value.slice a22 (sdU b [] (j + 1)).length c22; rw [hw, List.length_append]; rfl⟩, by show _ - (j + 1) < _ - j; omega, ⟨by show iv (b.s0 + (j : Int) + 1) = iv (b.s0 + ((j + 1 : Nat) : Int)); congr 1; omega, rfl, trivial⟩, ⟨by show slc 3 1 _ _ _ = slc 3 1 _ _ _; rw [hw, List.length_append, List.map_append]; rfl, trivial⟩, by repeat (first | exact Agr.refl _ _ | exact Agr.msk _ _ _ | refine Agr.upd ?_ _ rfl | refine Agr.upds ?_ rfl | refine Agr.mskIn ?_ rfl), by repeat (first | exact Agr.refl _ _ | exact Agr.msk _ _ _ | refine Agr.upd ?_ _ rfl | refine Agr.upds ?_ rfl | refine Agr.mskIn ?_ rfl), rfl, S⟩ | exact ⟨(j + 1, .slice a (sdU b [] j).length c), _, ⟨by show j + 1 ≤ _; omega, a, c, by rw [hw]⟩, by show _ - (j + 1) < _ - j; omega, ⟨by show iv (b.s0 + (j : Int) + 1) = iv (b.s0 + ((j + 1 : Nat) : Int)); congr 1; omega, rfl, trivial⟩, ⟨by show slc 3 1 _ _ _ = slc 3 1 _ _ _; rw [hw], trivial⟩, by repeat (first | exact Agr.refl _ _ | exact Agr.msk _ _ _ | refine Agr.upd ?_ _ rfl | refine Agr.upds ?_ rfl | refine Agr.mskIn ?_ rfl), by repeat (first | exact Agr.refl _ _ | exact Agr.msk _ _ _ | refine Agr.upd ?_ _ rfl | refine Agr.upds ?_ rfl | refine Agr.mskIn ?_ rfl), rfl, S⟩
  · skip
    obtain rfl : j = sdN b := by omega
    refine W.exit ?_
    refine W.seq (W.region S ?_)
    refine AS.cons (sp_move rfl ?_)
    refine AS.cons (sp_asg rfl ?_)
    refine AS.nil ?_
    intro _ S
    refine W.ret ?_
    exact ret1 rfl rfl S fun w' S' => let ⟨_, a1, c1, hv1, hv2, _⟩ := S'.slc_form (k := 901) rfl; ⟨_, ⟨⟨a1, c1, hv1, hv2⟩, rfl⟩, S'.only 901⟩
theorem okN_own {b : Sb} (h : okN b = true) : Own b := by
  unfold okN numB at h
  simp only [Bool.and_eq_true, decide_eq_true_eq, List.all_eq_true] at h
  obtain ⟨⟨⟨⟨⟨⟨⟨h1, h2⟩, h3⟩, h4⟩, h5⟩, h6, h7, h8⟩, h9⟩, h10⟩ := h
  exact ⟨h2, h6, h7, h8, h9⟩
theorem dec_t {p : Bool} : decide (p = true) = p := by cases p <;> rfl
set_option maxHeartbeats 4000000 in
theorem checkR (w : World) (hH : Hos w ha hc b.hs) (hD : Ints w da dc b.dr) : Ct Tryd.prog 18 #[.agg (sbL b ha hc da dc).toArray] w (fun u w' => u = iv (chkV b) ∧ Ext w w') := by
  refine fn_intro (args := [.agg (sbL b ha hc da dc).toArray]) Tryd.func18 rfl rfl (by kernel_rfl) ?_
  have S := St.start no w
  have hhn : b.hs.length ≤ 9223372036854775807 := hH.2.1
  have hdn : b.dr.length ≤ 9223372036854775807 := hD.2.1
  refine W.seq (W.region S ?_)
  refine AS.cons (sp_boxa 1 rfl (fun b1 => ?_))
  refine AS.cons (sp_asg rfl ?_)
  refine AS.nil ?_
  intro _ S
  refine W.seq (W.regionc S [3, 8, 9, 10, 11, 12, 13, 14, 15, 16, 17, 18, 19, 20, 21, 22, 23, 24, 25, 26, 27, 28, 29, 30, 31, 32, 33, 34, 35, 36, 37, 38, 39, 40, 41, 42, 43, 44, 45, 46, 47] 3 (Num0P b) ?_ ?_)
  · skip
    refine AS.cons (sp_fa rfl fo_28_1_3 ?_)
    refine AS.cons (sp_ld 1 rfl rfl sc_23 rfl ?_)
    refine AS.cons (sp_len rfl sl_23_75_3 ?_)
    refine AS.cons (sp_call [] rfl rfl cf_45 (fun F w _ S => between _ _ _ w) ?_)
    refine AS.cons (sp_move (v := .bool _) rfl ?_)
    refine AS.split 12 rfl (fun g12 => ?_) (fun g12 => ?_)
    · skip
      refine AS.cons (sp_fa rfl fo_28_2_4 ?_)
      refine AS.cons (sp_lda 1 2 rfl rfl ag_25_2 rfl ?_)
      refine AS.cons (sp_call [] rfl rfl cf_70 (fun F w _ S => saneF _ _ _ _ w) ?_)
      refine AS.cons (sp_pick_t rfl (v := .bool _) rfl ?_)
      refine AS.cons (sp_move (v := .bool _) rfl ?_)
      refine AS.split 17 rfl (fun g17 => ?_) (fun g17 => ?_)
      · skip
        refine AS.cons (sp_fa rfl fo_28_2_4 ?_)
        refine AS.cons (sp_fa rfl fo_25_1_1 ?_)
        refine AS.cons (sp_ld 1 rfl rfl sc_3 rfl ?_)
        refine AS.cons (sp_fa rfl fo_28_2_4 ?_)
        refine AS.cons (sp_fa rfl fo_25_0_0 ?_)
        refine AS.cons (sp_ld 1 rfl rfl sc_3 rfl ?_)
        refine AS.cons (sp_sub rfl rfl (by first | omega | (simp only [decide_eq_true_eq] at *; omega)) ?_)
        refine AS.cons (sp_leq rfl rfl ?_)
        refine AS.cons (sp_pick_t rfl (v := .bool _) rfl ?_)
        refine AS.cons (sp_move (v := .bool _) rfl ?_)
        refine AS.split 27 rfl (fun g27 => ?_) (fun g27 => ?_)
        · skip
          refine AS.cons (sp_fa rfl fo_28_3_6 ?_)
          refine AS.cons (sp_lda 1 2 rfl rfl ag_25_2 rfl ?_)
          refine AS.cons (sp_call [] rfl rfl cf_70 (fun F w _ S => saneF _ _ _ _ w) ?_)
          refine AS.cons (sp_pick_t rfl (v := .bool _) rfl ?_)
          refine AS.cons (sp_move (v := .bool _) rfl ?_)
          refine AS.split 32 rfl (fun g32 => ?_) (fun g32 => ?_)
          · skip
            refine AS.cons (sp_fa rfl fo_28_3_6 ?_)
            refine AS.cons (sp_fa rfl fo_25_1_1 ?_)
            refine AS.cons (sp_ld 1 rfl rfl sc_3 rfl ?_)
            refine AS.cons (sp_fa rfl fo_28_3_6 ?_)
            refine AS.cons (sp_fa rfl fo_25_0_0 ?_)
            refine AS.cons (sp_ld 1 rfl rfl sc_3 rfl ?_)
            refine AS.cons (sp_sub rfl rfl (by first | omega | (simp only [decide_eq_true_eq] at *; omega)) ?_)
            refine AS.cons (sp_leq rfl rfl ?_)
            refine AS.cons (sp_pick_t rfl (v := .bool _) rfl ?_)
            refine AS.cons (sp_move (v := .bool _) rfl ?_)
            refine AS.split 42 rfl (fun g42 => ?_) (fun g42 => ?_)
            · skip
              refine AS.cons (sp_fa rfl fo_28_4_8 ?_)
              refine AS.cons (sp_ld 1 rfl rfl sc_26 rfl ?_)
              refine AS.cons (sp_len rfl sl_26_3_1 ?_)
              refine AS.cons (sp_leq rfl rfl ?_)
              refine AS.cons (sp_pick_t rfl (v := .bool _) rfl ?_)
              refine AS.cons (sp_asg (v := .bool _) rfl ?_)
              refine AS.nil ⟨⟨_, rfl, ?_⟩, ?_, rfl⟩
              · (try simp only [decide_eq_true_eq] at *); first | omega | (simp_all; done) | (simp_all; omega)
              · repeat (first | exact Agr.refl _ _ | exact Agr.msk _ _ _ | refine Agr.upd ?_ _ rfl | refine Agr.upds ?_ rfl | refine Agr.mskIn ?_ rfl)
            · skip
              refine AS.cons (sp_skip rfl ?_)
              refine AS.cons (sp_skip rfl ?_)
              refine AS.cons (sp_skip rfl ?_)
              refine AS.cons (sp_skip rfl ?_)
              refine AS.cons (sp_pick_f rfl (v := .bool _) rfl ?_)
              refine AS.cons (sp_asg (v := .bool _) rfl ?_)
              refine AS.nil ⟨⟨_, rfl, ?_⟩, ?_, rfl⟩
              · (try simp only [decide_eq_true_eq, decide_eq_false_iff_not] at *); first | omega | (simp_all; done) | (simp_all; omega)
              · repeat (first | exact Agr.refl _ _ | exact Agr.msk _ _ _ | refine Agr.upd ?_ _ rfl | refine Agr.upds ?_ rfl | refine Agr.mskIn ?_ rfl)
          · skip
            refine AS.cons (sp_skip rfl ?_)
            refine AS.cons (sp_skip rfl ?_)
            refine AS.cons (sp_skip rfl ?_)
            refine AS.cons (sp_skip rfl ?_)
            refine AS.cons (sp_skip rfl ?_)
            refine AS.cons (sp_skip rfl ?_)
            refine AS.cons (sp_skip rfl ?_)
            refine AS.cons (sp_skip rfl ?_)
            refine AS.cons (sp_pick_f rfl (v := .bool _) rfl ?_)
            refine AS.cons (sp_move (v := .bool _) rfl ?_)
            refine AS.cons (sp_skip rfl ?_)
            refine AS.cons (sp_skip rfl ?_)
            refine AS.cons (sp_skip rfl ?_)
            refine AS.cons (sp_skip rfl ?_)
            refine AS.cons (sp_pick_f rfl (v := .bool _) rfl ?_)
            refine AS.cons (sp_asg (v := .bool _) rfl ?_)
            refine AS.nil ⟨⟨_, rfl, ?_⟩, ?_, rfl⟩
            · (try simp only [decide_eq_true_eq, decide_eq_false_iff_not] at *); first | omega | (simp_all; done) | (simp_all; omega)
            · repeat (first | exact Agr.refl _ _ | exact Agr.msk _ _ _ | refine Agr.upd ?_ _ rfl | refine Agr.upds ?_ rfl | refine Agr.mskIn ?_ rfl)
        · skip
          refine AS.cons (sp_skip rfl ?_)
          refine AS.cons (sp_skip rfl ?_)
          refine AS.cons (sp_skip rfl ?_)
          refine AS.cons (sp_pick_f rfl (v := .bool _) rfl ?_)
          refine AS.cons (sp_move (v := .bool _) rfl ?_)
          refine AS.cons (sp_skip rfl ?_)
          refine AS.cons (sp_skip rfl ?_)
          refine AS.cons (sp_skip rfl ?_)
          refine AS.cons (sp_skip rfl ?_)
          refine AS.cons (sp_skip rfl ?_)
          refine AS.cons (sp_skip rfl ?_)
          refine AS.cons (sp_skip rfl ?_)
          refine AS.cons (sp_skip rfl ?_)
          refine AS.cons (sp_pick_f rfl (v := .bool _) rfl ?_)
          refine AS.cons (sp_move (v := .bool _) rfl ?_)
          refine AS.cons (sp_skip rfl ?_)
          refine AS.cons (sp_skip rfl ?_)
          refine AS.cons (sp_skip rfl ?_)
          refine AS.cons (sp_skip rfl ?_)
          refine AS.cons (sp_pick_f rfl (v := .bool _) rfl ?_)
          refine AS.cons (sp_asg (v := .bool _) rfl ?_)
          refine AS.nil ⟨⟨_, rfl, ?_⟩, ?_, rfl⟩
          · (try simp only [decide_eq_true_eq, decide_eq_false_iff_not] at *); first | omega | (simp_all; done) | (simp_all; omega)
          · repeat (first | exact Agr.refl _ _ | exact Agr.msk _ _ _ | refine Agr.upd ?_ _ rfl | refine Agr.upds ?_ rfl | refine Agr.mskIn ?_ rfl)
      · skip
        refine AS.cons (sp_skip rfl ?_)
        refine AS.cons (sp_skip rfl ?_)
        refine AS.cons (sp_skip rfl ?_)
        refine AS.cons (sp_skip rfl ?_)
        refine AS.cons (sp_skip rfl ?_)
        refine AS.cons (sp_skip rfl ?_)
        refine AS.cons (sp_skip rfl ?_)
        refine AS.cons (sp_skip rfl ?_)
        refine AS.cons (sp_pick_f rfl (v := .bool _) rfl ?_)
        refine AS.cons (sp_move (v := .bool _) rfl ?_)
        refine AS.cons (sp_skip rfl ?_)
        refine AS.cons (sp_skip rfl ?_)
        refine AS.cons (sp_skip rfl ?_)
        refine AS.cons (sp_pick_f rfl (v := .bool _) rfl ?_)
        refine AS.cons (sp_move (v := .bool _) rfl ?_)
        refine AS.cons (sp_skip rfl ?_)
        refine AS.cons (sp_skip rfl ?_)
        refine AS.cons (sp_skip rfl ?_)
        refine AS.cons (sp_skip rfl ?_)
        refine AS.cons (sp_skip rfl ?_)
        refine AS.cons (sp_skip rfl ?_)
        refine AS.cons (sp_skip rfl ?_)
        refine AS.cons (sp_skip rfl ?_)
        refine AS.cons (sp_pick_f rfl (v := .bool _) rfl ?_)
        refine AS.cons (sp_move (v := .bool _) rfl ?_)
        refine AS.cons (sp_skip rfl ?_)
        refine AS.cons (sp_skip rfl ?_)
        refine AS.cons (sp_skip rfl ?_)
        refine AS.cons (sp_skip rfl ?_)
        refine AS.cons (sp_pick_f rfl (v := .bool _) rfl ?_)
        refine AS.cons (sp_asg (v := .bool _) rfl ?_)
        refine AS.nil ⟨⟨_, rfl, ?_⟩, ?_, rfl⟩
        · (try simp only [decide_eq_true_eq, decide_eq_false_iff_not] at *); first | omega | (simp_all; done) | (simp_all; omega)
        · repeat (first | exact Agr.refl _ _ | exact Agr.msk _ _ _ | refine Agr.upd ?_ _ rfl | refine Agr.upds ?_ rfl | refine Agr.mskIn ?_ rfl)
    · skip
      refine AS.cons (sp_skip rfl ?_)
      refine AS.cons (sp_skip rfl ?_)
      refine AS.cons (sp_skip rfl ?_)
      refine AS.cons (sp_pick_f rfl (v := .bool _) rfl ?_)
      refine AS.cons (sp_move (v := .bool _) rfl ?_)
      refine AS.cons (sp_skip rfl ?_)
      refine AS.cons (sp_skip rfl ?_)
      refine AS.cons (sp_skip rfl ?_)
      refine AS.cons (sp_skip rfl ?_)
      refine AS.cons (sp_skip rfl ?_)
      refine AS.cons (sp_skip rfl ?_)
      refine AS.cons (sp_skip rfl ?_)
      refine AS.cons (sp_skip rfl ?_)
      refine AS.cons (sp_pick_f rfl (v := .bool _) rfl ?_)
      refine AS.cons (sp_move (v := .bool _) rfl ?_)
      refine AS.cons (sp_skip rfl ?_)
      refine AS.cons (sp_skip rfl ?_)
      refine AS.cons (sp_skip rfl ?_)
      refine AS.cons (sp_pick_f rfl (v := .bool _) rfl ?_)
      refine AS.cons (sp_move (v := .bool _) rfl ?_)
      refine AS.cons (sp_skip rfl ?_)
      refine AS.cons (sp_skip rfl ?_)
      refine AS.cons (sp_skip rfl ?_)
      refine AS.cons (sp_skip rfl ?_)
      refine AS.cons (sp_skip rfl ?_)
      refine AS.cons (sp_skip rfl ?_)
      refine AS.cons (sp_skip rfl ?_)
      refine AS.cons (sp_skip rfl ?_)
      refine AS.cons (sp_pick_f rfl (v := .bool _) rfl ?_)
      refine AS.cons (sp_move (v := .bool _) rfl ?_)
      refine AS.cons (sp_skip rfl ?_)
      refine AS.cons (sp_skip rfl ?_)
      refine AS.cons (sp_skip rfl ?_)
      refine AS.cons (sp_skip rfl ?_)
      refine AS.cons (sp_pick_f rfl (v := .bool _) rfl ?_)
      refine AS.cons (sp_asg (v := .bool _) rfl ?_)
      refine AS.nil ⟨⟨_, rfl, ?_⟩, ?_, rfl⟩
      · (try simp only [decide_eq_false_iff_not] at *); first | omega | (simp_all; done) | (simp_all; omega)
      · repeat (first | exact Agr.refl _ _ | exact Agr.msk _ _ _ | refine Agr.upd ?_ _ rfl | refine Agr.upds ?_ rfl | refine Agr.mskIn ?_ rfl)
  intro σ1 _ S
  refine W.seq (W.seq (W.region S ?_))
  refine AS.cons (sp_asg rfl ?_)
  refine AS.nil ?_
  intro _ S
  refine W.block ?_
  refine W.loopS S [3, 4, 48, 49, 50, 51, 52, 53, 54, 55, 56, 57, 58, 59] [] (fun (j : Nat) => [(4, iv j), (3, .bool (decide (rtU b j = true)))]) (fun _ => []) (fun j => j ≤ 3) (fun j => 3 - j) 0 (by omega) ⟨rfl, by show Value.bool _ = Value.bool _; congr 1; unfold rtU; simp [allU], trivial⟩ trivial ?_
  rintro j σ M w1 hj S
  refine W.seq (W.seq (W.region S ?_))
  refine AS.cons (sp_move (v := .int _ _) rfl ?_)
  refine AS.cons (sp_lss rfl rfl ?_)
  refine AS.nil ?_
  intro _ S
  refine W.condd rfl (fun c49 => ?_) (fun c49 => ?_)
  · skip
    have hlt : j < 3 := by omega
    have hrt : (sbL b ha hc da dc)[0 + (j : Int).toNat * 1]? = some (iv (rtK b j)) := by
      match j, hlt with
      | 0, _ => rfl
      | 1, _ => rfl
      | 2, _ => rfl
    refine W.skip ?_
    refine W.seq (W.block ?_)
    refine W.regionc S [3, 52, 53, 54, 55, 56, 57, 58, 59] 3 (rtU b (j + 1) = true) ?_ ?_
    · skip
      refine AS.cons (sp_move (v := .bool _) rfl ?_)
      refine AS.cons (sp_move (v := .bool _) rfl ?_)
      refine AS.split 53 rfl (fun g53 => ?_) (fun g53 => ?_)
      · skip
        refine AS.cons (sp_move (v := .int _ _) rfl ?_)
        refine AS.cons (sp_fa rfl fo_28_0_0 ?_)
        refine AS.cons (sp_iaa rfl rfl ar_22_3_3_1 (by first | omega | (simp only [decide_eq_true_eq, decide_eq_false_iff_not] at *; omega)) ?_)
        refine AS.cons (sp_ld 1 rfl rfl sc_3 hrt ?_)
        refine AS.cons (sp_call [] rfl rfl cf_45 (fun F w _ S => between _ _ _ w) ?_)
        refine AS.cons (sp_pick_t rfl (v := .bool _) rfl ?_)
        refine AS.cons (sp_asg (v := .bool _) rfl ?_)
        refine AS.nil ⟨⟨_, rfl, ?_⟩, ?_, rfl⟩
        · rw [rtU_succ]; simp_all
        · repeat (first | exact Agr.refl _ _ | exact Agr.msk _ _ _ | refine Agr.upd ?_ _ rfl | refine Agr.upds ?_ rfl | refine Agr.mskIn ?_ rfl)
      · skip
        refine AS.cons (sp_skip rfl ?_)
        refine AS.cons (sp_skip rfl ?_)
        refine AS.cons (sp_skip rfl ?_)
        refine AS.cons (sp_skip rfl ?_)
        refine AS.cons (sp_skip rfl ?_)
        refine AS.cons (sp_pick_f rfl (v := .bool _) rfl ?_)
        refine AS.cons (sp_asg (v := .bool _) rfl ?_)
        refine AS.nil ⟨⟨_, rfl, ?_⟩, ?_, rfl⟩
        · rw [rtU_succ]; simp_all
        · repeat (first | exact Agr.refl _ _ | exact Agr.msk _ _ _ | refine Agr.upd ?_ _ rfl | refine Agr.upds ?_ rfl | refine Agr.mskIn ?_ rfl)
    intro σ5 _ S
    refine W.region S ?_
    refine AS.cons (sp_move (v := .int _ _) rfl ?_)
    refine AS.cons (sp_add rfl rfl (by first | omega | (simp only [decide_eq_true_eq, decide_eq_false_iff_not] at *; omega)) ?_)
    refine AS.cons (sp_asg (v := .int _ _) rfl ?_)
    refine AS.nil ?_
    intro _ S
    exact ⟨j + 1, _, by omega, by omega, ⟨by simp [upd], rfl, trivial⟩, trivial, by repeat (first | exact Agr.refl _ _ | exact Agr.msk _ _ _ | refine Agr.upd ?_ _ rfl | refine Agr.upds ?_ rfl | refine Agr.mskIn ?_ rfl), by repeat (first | exact Agr.refl _ _ | exact Agr.msk _ _ _ | refine Agr.upd ?_ _ rfl | refine Agr.upds ?_ rfl | refine Agr.mskIn ?_ rfl), rfl, S⟩
  · skip
    obtain rfl : j = 3 := by omega
    refine W.exit ?_
    refine W.seq (W.seq (W.region S ?_))
    refine AS.cons (sp_asg rfl ?_)
    refine AS.nil ?_
    intro _ S
    refine W.block ?_
    refine W.loopS S [3, 5, 6, 60, 61, 62, 63, 64, 65, 66, 67, 68, 69, 70, 71, 72, 73, 74, 75, 76, 77, 78, 79, 80, 81, 82, 83, 84, 85, 86, 87] [6] (fun (j : Nat) => [(5, iv j), (3, .bool (decide (hoU b j = true)))]) (fun _ => []) (fun j => j ≤ b.hs.length) (fun j => b.hs.length - j) 0 (by omega) ⟨rfl, by show Value.bool _ = Value.bool _; congr 1; unfold hoU; simp [allU], trivial⟩ trivial ?_
    rintro j σ M w1 hj S
    refine W.seq (W.seq (W.regionc S [60, 61, 62, 63, 64, 65, 66, 67] 67 (hoU b j = true ∧ (j : Int) < (b.hs.length : Int)) ?_ ?_))
    · skip
      refine AS.cons (sp_move (v := .bool _) rfl ?_)
      refine AS.cons (sp_move (v := .bool _) rfl ?_)
      refine AS.split 61 rfl (fun g61 => ?_) (fun g61 => ?_)
      · skip
        refine AS.cons (sp_move (v := .int _ _) rfl ?_)
        refine AS.cons (sp_fa rfl fo_28_1_3 ?_)
        refine AS.cons (sp_ld 1 rfl rfl sc_23 rfl ?_)
        refine AS.cons (sp_len rfl sl_23_75_3 ?_)
        refine AS.cons (sp_lss rfl rfl ?_)
        refine AS.cons (sp_pick_t rfl (v := .bool _) rfl ?_)
        refine AS.nil ⟨⟨_, rfl, ?_⟩, ?_, rfl⟩
        · (try simp only [decide_eq_true_eq] at *); first | omega | (simp_all; done) | (simp_all; omega)
        · repeat (first | exact Agr.refl _ _ | exact Agr.msk _ _ _ | refine Agr.upd ?_ _ rfl | refine Agr.upds ?_ rfl | refine Agr.mskIn ?_ rfl)
      · skip
        refine AS.cons (sp_skip rfl ?_)
        refine AS.cons (sp_skip rfl ?_)
        refine AS.cons (sp_skip rfl ?_)
        refine AS.cons (sp_skip rfl ?_)
        refine AS.cons (sp_skip rfl ?_)
        refine AS.cons (sp_pick_f rfl (v := .bool _) rfl ?_)
        refine AS.nil ⟨⟨_, rfl, ?_⟩, ?_, rfl⟩
        · (try simp only [decide_eq_false_iff_not] at *); first | omega | (simp_all; done) | (simp_all; omega)
        · repeat (first | exact Agr.refl _ _ | exact Agr.msk _ _ _ | refine Agr.upd ?_ _ rfl | refine Agr.upds ?_ rfl | refine Agr.mskIn ?_ rfl)
    intro σ7 _ S
    refine W.cond rfl (fun c67 => ?_) (fun c67 => ?_)
    · skip
      replace c67 := of_decide_eq_true c67
      have hlt : j < b.hs.length := by omega
      obtain ⟨x, hx⟩ := get_some hlt
      refine W.skip ?_
      refine W.seq (W.block ?_)
      refine W.seq (W.region S ?_)
      refine AS.cons (sp_fa rfl fo_28_1_3 ?_)
      refine AS.cons (sp_ld 1 rfl rfl sc_23 rfl ?_)
      refine AS.cons (sp_move (v := .int _ _) rfl ?_)
      refine AS.cons (sp_iaR hH rfl rfl sl_23_75_3 (by first | omega | (simp only [decide_eq_true_eq, decide_eq_false_iff_not] at *; omega)) ?_)
      refine AS.cons (sp_ldaR 0 hH (fun _ h => h) rfl ag_75_3 (hos_at hx) (by first | omega | (simp only [decide_eq_true_eq, decide_eq_false_iff_not] at *; omega)) ?_)
      refine AS.cons (sp_alloc 6 zv_75 rfl (fun b6 => ?_))
      refine AS.cons (sp_st 6 rfl rfl rfl rfl sz_75_3 rfl rfl ?_)
      refine AS.nil ?_
      intro _ S
      refine W.regionc S [3, 75, 76, 77, 78, 79, 80, 81, 82, 83, 84, 85, 86, 87] 3 (hoU b (j + 1) = true) ?_ ?_
      · skip
        refine AS.cons (sp_fa rfl fo_75_0_0 ?_)
        refine AS.cons (sp_ld 6 rfl rfl sc_3 rfl ?_)
        refine AS.cons (sp_call [] rfl rfl cf_45 (fun F w _ S => between _ _ _ w) ?_)
        refine AS.cons (sp_move (v := .bool _) rfl ?_)
        refine AS.split 78 rfl (fun g78 => ?_) (fun g78 => ?_)
        · skip
          refine AS.cons (sp_fa rfl fo_75_1_1 ?_)
          refine AS.cons (sp_ld 6 rfl rfl sc_3 rfl ?_)
          refine AS.cons (sp_call [] rfl rfl cf_45 (fun F w _ S => between _ _ _ w) ?_)
          refine AS.cons (sp_pick_t rfl (v := .bool _) rfl ?_)
          refine AS.cons (sp_move (v := .bool _) rfl ?_)
          refine AS.split 83 rfl (fun g83 => ?_) (fun g83 => ?_)
          · skip
            refine AS.cons (sp_fa rfl fo_75_2_2 ?_)
            refine AS.cons (sp_ld 6 rfl rfl sc_3 rfl ?_)
            refine AS.cons (sp_call [] rfl rfl cf_45 (fun F w _ S => between _ _ _ w) ?_)
            refine AS.cons (sp_pick_t rfl (v := .bool _) rfl ?_)
            refine AS.cons (sp_asg (v := .bool _) rfl ?_)
            refine AS.nil ⟨⟨_, rfl, ?_⟩, ?_, rfl⟩
            · rw [hoU_succ hx, c67.1, Bool.true_and]; simp only [decide_eq_true_eq, OwnP] at *; omega
            · repeat (first | exact Agr.refl _ _ | exact Agr.msk _ _ _ | refine Agr.upd ?_ _ rfl | refine Agr.upds ?_ rfl | refine Agr.mskIn ?_ rfl)
          · skip
            refine AS.cons (sp_skip rfl ?_)
            refine AS.cons (sp_skip rfl ?_)
            refine AS.cons (sp_skip rfl ?_)
            refine AS.cons (sp_pick_f rfl (v := .bool _) rfl ?_)
            refine AS.cons (sp_asg (v := .bool _) rfl ?_)
            refine AS.nil ⟨⟨_, rfl, ?_⟩, ?_, rfl⟩
            · rw [hoU_succ hx, c67.1, Bool.true_and]; simp only [decide_eq_true_eq, decide_eq_false_iff_not, OwnP, Bool.false_eq_true, false_iff] at *; omega
            · repeat (first | exact Agr.refl _ _ | exact Agr.msk _ _ _ | refine Agr.upd ?_ _ rfl | refine Agr.upds ?_ rfl | refine Agr.mskIn ?_ rfl)
        · skip
          refine AS.cons (sp_skip rfl ?_)
          refine AS.cons (sp_skip rfl ?_)
          refine AS.cons (sp_skip rfl ?_)
          refine AS.cons (sp_pick_f rfl (v := .bool _) rfl ?_)
          refine AS.cons (sp_move (v := .bool _) rfl ?_)
          refine AS.cons (sp_skip rfl ?_)
          refine AS.cons (sp_skip rfl ?_)
          refine AS.cons (sp_skip rfl ?_)
          refine AS.cons (sp_pick_f rfl (v := .bool _) rfl ?_)
          refine AS.cons (sp_asg (v := .bool _) rfl ?_)
          refine AS.nil ⟨⟨_, rfl, ?_⟩, ?_, rfl⟩
          · rw [hoU_succ hx, c67.1, Bool.true_and]; simp only [decide_eq_true_eq, decide_eq_false_iff_not, OwnP, Bool.false_eq_true, false_iff] at *; omega
          · repeat (first | exact Agr.refl _ _ | exact Agr.msk _ _ _ | refine Agr.upd ?_ _ rfl | refine Agr.upds ?_ rfl | refine Agr.mskIn ?_ rfl)
      intro σ10 _ S
      refine W.region S ?_
      refine AS.cons (sp_move (v := .int _ _) rfl ?_)
      refine AS.cons (sp_add rfl rfl (by first | omega | (simp only [decide_eq_true_eq, decide_eq_false_iff_not] at *; omega)) ?_)
      refine AS.cons (sp_asg (v := .int _ _) rfl ?_)
      refine AS.nil ?_
      intro _ S
      exact ⟨j + 1, _, by omega, by omega, ⟨by simp [upd], rfl, trivial⟩, trivial, by repeat (first | exact Agr.refl _ _ | exact Agr.msk _ _ _ | refine Agr.upd ?_ _ rfl | refine Agr.upds ?_ rfl | refine Agr.mskIn ?_ rfl), by repeat (first | exact Agr.refl _ _ | exact Agr.msk _ _ _ | refine Agr.upd ?_ _ rfl | refine Agr.upds ?_ rfl | refine Agr.mskIn ?_ rfl), rfl, S⟩
    · skip
      replace c67 := of_decide_eq_false c67
      have hex : decide (hoU b j = true) = decide (drU b 0 = true) := by
        have e0 : drU b 0 = hoU b b.hs.length := by unfold drU; simp [allU]
        rw [e0]
        by_cases h : (j : Int) < (b.hs.length : Int)
        · have h1 : hoU b j = false := by
            cases e : hoU b j with
            | true => exact absurd ⟨e, h⟩ c67
            | false => rfl
          rw [h1, hoU_down hj h1]
        · rw [show j = b.hs.length by omega]
      refine W.exit ?_
      refine W.seq (W.seq (W.region S ?_))
      refine AS.cons (sp_asg rfl ?_)
      refine AS.nil ?_
      intro _ S
      refine W.block ?_
      refine W.loopS S [3, 7, 88, 89, 90, 91, 92, 93, 94, 95, 96, 97, 98, 99, 100, 101, 102, 103, 104, 105, 106, 107] [] (fun (k : Nat) => [(7, iv k), (3, .bool (decide (drU b k = true)))]) (fun _ => []) (fun k => k ≤ b.dr.length) (fun k => b.dr.length - k) 0 (by omega) ⟨rfl, congrArg Value.bool hex, trivial⟩ trivial ?_
      rintro k σ M w2 hk S
      refine W.seq (W.seq (W.regionc S [88, 89, 90, 91, 92, 93, 94, 95] 95 (drU b k = true ∧ (k : Int) < (b.dr.length : Int)) ?_ ?_))
      · skip
        refine AS.cons (sp_move (v := .bool _) rfl ?_)
        refine AS.cons (sp_move (v := .bool _) rfl ?_)
        refine AS.split 89 rfl (fun g89 => ?_) (fun g89 => ?_)
        · skip
          refine AS.cons (sp_move (v := .int _ _) rfl ?_)
          refine AS.cons (sp_fa rfl fo_28_4_8 ?_)
          refine AS.cons (sp_ld 1 rfl rfl sc_26 rfl ?_)
          refine AS.cons (sp_len rfl sl_26_3_1 ?_)
          refine AS.cons (sp_lss rfl rfl ?_)
          refine AS.cons (sp_pick_t rfl (v := .bool _) rfl ?_)
          refine AS.nil ⟨⟨_, rfl, ?_⟩, ?_, rfl⟩
          · (try simp only [decide_eq_true_eq] at *); first | omega | (simp_all; done) | (simp_all; omega)
          · repeat (first | exact Agr.refl _ _ | exact Agr.msk _ _ _ | refine Agr.upd ?_ _ rfl | refine Agr.upds ?_ rfl | refine Agr.mskIn ?_ rfl)
        · skip
          refine AS.cons (sp_skip rfl ?_)
          refine AS.cons (sp_skip rfl ?_)
          refine AS.cons (sp_skip rfl ?_)
          refine AS.cons (sp_skip rfl ?_)
          refine AS.cons (sp_skip rfl ?_)
          refine AS.cons (sp_pick_f rfl (v := .bool _) rfl ?_)
          refine AS.nil ⟨⟨_, rfl, ?_⟩, ?_, rfl⟩
          · (try simp only [decide_eq_false_iff_not] at *); first | omega | (simp_all; done) | (simp_all; omega)
          · repeat (first | exact Agr.refl _ _ | exact Agr.msk _ _ _ | refine Agr.upd ?_ _ rfl | refine Agr.upds ?_ rfl | refine Agr.mskIn ?_ rfl)
      intro σ12 _ S
      refine W.cond rfl (fun c95 => ?_) (fun c95 => ?_)
      · skip
        replace c95 := of_decide_eq_true c95
        have hlt2 : k < b.dr.length := by omega
        obtain ⟨y, hy⟩ := get_some hlt2
        refine W.skip ?_
        refine W.seq (W.block ?_)
        refine W.draw S mixed (fun i => ([KD.q [], KD.q [1], KD.q [], KD.q [], KD.q [], KD.q [], KD.q [1], KD.q [], KD.q [], KD.e [] [], KD.q []] : List KD)[i]?) [] [0, 1, 2, 3, 4, 5, 6, 7, 8, 9, 10] (by kernel_rfl) ?_
        refine AW.cons rfl rfl (sp_fa rfl fo_28_4_8 ?_)
        refine AW.cons rfl rfl (sp_ld 1 rfl rfl sc_26 rfl ?_)
        refine AW.cons rfl rfl (sp_move (v := .int _ _) rfl ?_)
        refine AW.cons rfl rfl (sp_iaR hD rfl rfl sl_26_3_1 (by omega) ?_)
        refine AW.cons rfl rfl (sp_ldR 0 hD (fun _ h => h) rfl sc_3 (ints_at hy) (by omega) ?_)
        refine AW.cons rfl rfl (sp_fa rfl fo_28_1_3 ?_)
        refine AW.cons rfl rfl (sp_ld 1 rfl rfl sc_23 rfl ?_)
        refine AW.cons rfl rfl (sp_len rfl sl_23_75_3 ?_)
        refine AW.cons rfl rfl (sp_sub rfl rfl (by first | omega | (simp only [decide_eq_true_eq, decide_eq_false_iff_not] at *; omega)) ?_)
        refine AW.cons rfl rfl (sp_call [] rfl rfl cf_45 (fun F w _ S => between _ _ _ w) ?_)
        refine AW.cons rfl rfl (sp_asg (v := .bool _) rfl ?_)
        refine AW.nil ?_
        intro _ S
        have hdy : decide (-1 ≤ y ∧ y ≤ (b.hs.length : Int) - 1) = decide (drU b (k + 1) = true) := by rw [drU_succ hy, c95.1, dec_t]; rfl
        refine W.region S ?_
        refine AS.cons (sp_move (v := .int _ _) rfl ?_)
        refine AS.cons (sp_add rfl rfl (by first | omega | (simp only [decide_eq_true_eq, decide_eq_false_iff_not] at *; omega)) ?_)
        refine AS.cons (sp_asg (v := .int _ _) rfl ?_)
        refine AS.nil ?_
        intro _ S
        exact ⟨k + 1, _, by omega, by omega, ⟨by simp [upd], congrArg Value.bool hdy, trivial⟩, trivial, by repeat (first | exact Agr.refl _ _ | exact Agr.msk _ _ _ | refine Agr.upd ?_ _ rfl | refine Agr.upds ?_ rfl | refine Agr.mskIn ?_ rfl), by repeat (first | exact Agr.refl _ _ | exact Agr.msk _ _ _ | refine Agr.upd ?_ _ rfl | refine Agr.upds ?_ rfl | refine Agr.mskIn ?_ rfl), rfl, S⟩
      · skip
        replace c95 := of_decide_eq_false c95
        have hex2 : drU b k = okN b := by
          rw [← drU_all]
          by_cases h : (k : Int) < (b.dr.length : Int)
          · have h1 : drU b k = false := by
              cases e : drU b k with
              | true => exact absurd ⟨e, h⟩ c95
              | false => rfl
            rw [h1, drU_down hk h1]
          · rw [show k = b.dr.length by omega]
        refine W.exit ?_
        refine W.seq (W.seq (W.drawc S mixed [108, 109, 110, 111, 112, 113, 114, 115, 116, 117, 118, 119, 120, 121, 122, 123] 123 (¬ okS b = true) (fun i => ([KD.q [], KD.q [], KD.q [], KD.q [1], KD.e [] [], KD.e [] [], KD.q [], KD.q [], KD.q [], KD.q [], KD.q [1], KD.q [], KD.q [1], KD.e [] [], KD.q [], KD.q []] : List KD)[i]?) [5, 8] [0, 1, 2, 3, 4, 5, 6, 7, 8, 9, 10, 11, 12, 13, 14, 15] (by kernel_rfl) ?_ ?_))
        · skip
          refine AW.cons rfl rfl (sp_move (v := .bool _) rfl ?_)
          refine AW.cons rfl rfl (sp_not rfl ?_)
          refine AW.cons rfl rfl (sp_move (v := .bool _) rfl ?_)
          refine AW.split 110 rfl (fun g110 => ?_) (fun g110 => ?_)
          · skip
            refine AW.cons rfl rfl (sp_skip rfl ?_)
            refine AW.cons rfl rfl (sp_skip rfl ?_)
            refine AW.cons rfl rfl (sp_skip rfl ?_)
            refine AW.cons rfl rfl (sp_skip rfl ?_)
            refine AW.cons rfl rfl (sp_pick_t rfl (v := .bool _) rfl ?_)
            refine AW.cons rfl rfl (sp_move (v := .bool _) rfl ?_)
            refine AW.cons rfl rfl (sp_skip rfl ?_)
            refine AW.cons rfl rfl (sp_skip rfl ?_)
            refine AW.cons rfl rfl (sp_skip rfl ?_)
            refine AW.cons rfl rfl (sp_skip rfl ?_)
            refine AW.cons rfl rfl (sp_skip rfl ?_)
            refine AW.cons rfl rfl (sp_skip rfl ?_)
            refine AW.cons rfl rfl (sp_pick_t rfl (v := .bool _) rfl ?_)
            refine AW.nil ⟨⟨_, rfl, ?_⟩, ?_, rfl⟩
            · first | (rw [okS_of hok]; clear hex hex2 c67 c95 c49; simp only [Bool.not_eq_true', decide_eq_true_eq, decide_eq_false_iff_not, Bool.false_eq_true, false_iff, true_iff, eq_self_iff_true, Bool.not_eq_false'] at *; omega) | (rw [okS_not (by rw [← hex2]; simpa using g110)]; simp)
            · repeat (first | exact Agr.refl _ _ | exact Agr.msk _ _ _ | refine Agr.upd ?_ _ rfl | refine Agr.upds ?_ rfl | refine Agr.mskIn ?_ rfl)
          · skip
            refine AW.cons rfl rfl (sp_ldw 1 rfl rfl ag_28_9 ?_)
            have hok : okN b = true := by rw [← hex2]; simpa using g110
            have hO := okN_own hok
            refine AW.cons rfl rfl (sp_call [] rfl rfl cf_71 (fun F w _ S => allRF _ _ _ _ _ (by assumption) w (hH.ext S.mod)) ?_)
            refine AW.cons rfl rfl (sp_call [] rfl rfl cf_45 (fun F w _ S => between _ _ _ w) ?_)
            refine AW.cons rfl rfl (sp_not rfl ?_)
            refine AW.cons rfl rfl (sp_pick_f rfl (v := .bool _) rfl ?_)
            refine AW.cons rfl rfl (sp_move (v := .bool _) rfl ?_)
            refine AW.split 116 rfl (fun g116 => ?_) (fun g116 => ?_)
            · skip
              refine AW.cons rfl rfl (sp_skip rfl ?_)
              refine AW.cons rfl rfl (sp_skip rfl ?_)
              refine AW.cons rfl rfl (sp_skip rfl ?_)
              refine AW.cons rfl rfl (sp_skip rfl ?_)
              refine AW.cons rfl rfl (sp_skip rfl ?_)
              refine AW.cons rfl rfl (sp_skip rfl ?_)
              refine AW.cons rfl rfl (sp_pick_t rfl (v := .bool _) rfl ?_)
              refine AW.nil ⟨⟨_, rfl, ?_⟩, ?_, rfl⟩
              · first | (rw [okS_of hok]; clear hex hex2 c67 c95 c49; simp only [Bool.not_eq_true', decide_eq_true_eq, decide_eq_false_iff_not, true_iff, Bool.not_eq_false'] at *; omega) | (rw [okS_not (by rw [← hex2]; simpa using g110)]; simp)
              · repeat (first | exact Agr.refl _ _ | exact Agr.msk _ _ _ | refine Agr.upd ?_ _ rfl | refine Agr.upds ?_ rfl | refine Agr.mskIn ?_ rfl)
            · skip
              refine AW.cons rfl rfl (sp_fa rfl fo_28_4_8 ?_)
              refine AW.cons rfl rfl (sp_ld 1 rfl rfl sc_26 rfl ?_)
              refine AW.cons rfl rfl (sp_len rfl sl_26_3_1 ?_)
              refine AW.cons rfl rfl (sp_ldw 1 rfl rfl ag_28_9 ?_)
              refine AW.cons rfl rfl (sp_call [] rfl rfl cf_71 (fun F w _ S => allRF _ _ _ _ _ (by assumption) w (hH.ext S.mod)) ?_)
              refine AW.cons rfl rfl (sp_gtr rfl rfl ?_)
              refine AW.cons rfl rfl (sp_pick_f rfl (v := .bool _) rfl ?_)
              refine AW.nil ⟨⟨_, rfl, ?_⟩, ?_, rfl⟩
              · first | (rw [okS_of hok]; clear hex hex2 c67 c95 c49; simp only [decide_eq_true_eq, Bool.not_eq_false'] at *; omega) | (rw [okS_not (by rw [← hex2]; simpa using g110)]; simp)
              · repeat (first | exact Agr.refl _ _ | exact Agr.msk _ _ _ | refine Agr.upd ?_ _ rfl | refine Agr.upds ?_ rfl | refine Agr.mskIn ?_ rfl)
        intro σ15 _ S
        refine W.cond rfl (fun c123 => ?_) (fun c123 => ?_)
        · skip
          have hv : chkV b = 80 := chk_no (by simpa using of_decide_eq_true c123)
          refine W.seq (W.region S ?_)
          refine AS.cons (sp_asg rfl ?_)
          refine AS.nil ?_
          intro _ S
          refine W.ret ?_
          exact ret1 rfl rfl S fun w' S' => ⟨congrArg iv hv.symm, S'.mod⟩
        · skip
          have hv : chkV b = 0 := chk_ok (by simpa using of_decide_eq_false c123)
          refine W.skip ?_
          refine W.seq (W.region S ?_)
          refine AS.cons (sp_asg rfl ?_)
          refine AS.nil ?_
          intro _ S
          refine W.ret ?_
          exact ret1 rfl rfl S fun w' S' => ⟨congrArg iv hv.symm, S'.mod⟩
end
end Go.Proofs.YtajocmkgdjcmkaaDoor
