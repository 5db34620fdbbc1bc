/-
  Lemmas of this proof, several texts one behind the other; no condition beyond what each says.
-/
import Derived.Test.YtmpclgepoemneaaDoorMb
import Derived.Test.YtmpclgepoemneaaDoorMf
namespace Go.Proofs.YtmpclgepoemneaaDoor
open Go.Hu
theorem cf_40 : cfB Tryd.prog 40 = true := by kernel_rfl
theorem cf_48 : cfB Tryd.prog 48 = true := by kernel_rfl
end Go.Proofs.YtmpclgepoemneaaDoor
/-
  Where a shoal truly swims, and what is rightly cried of it.
-/
namespace Go.Proofs.YtmpclgepoemneaaDoor
open Go.Hu Go.RowKit
theorem take_inj_land {b : Bk} (h : BookOk b) : allU (pl b) b.land.length = true := by
  rw [allU_iff]
  intro i hi
  unfold pl
  have hg : b.land.getD i 0 ∈ b.land := by rw [List.getD_eq_getElem?_getD, List.getElem?_eq_getElem hi]; exact List.getElem_mem hi
  rw [decide_eq_true (h.land _ hg), decide_eq_false (h.nd i hi)]
  rfl
theorem ok_of {b : Bk} (h : BookOk b) : okAll b = true := by
  have hc : allU (pc b) b.cries.length = true := by
    rw [allU_iff]
    intro i hi
    unfold pc
    rw [List.getD_eq_getElem?_getD, List.getElem?_eq_getElem hi]
    exact decide_eq_true (h.cry _ (List.getElem_mem hi))
  have e : allU (ph b) 2 = (decide (-5 ≤ b.h0 ∧ b.h0 ≤ 15) && decide (-5 ≤ b.h1 ∧ b.h1 ≤ 15)) := by simp [allU, ph, hd]
  obtain ⟨n1, n2, n3, n4, n5⟩ := h.num
  unfold okAll okC okH okL
  rw [hc, take_inj_land h, e, decide_eq_true n3, decide_eq_true n4, decide_eq_true (show B0 b from ⟨n1, n2, h.ll, n5, h.lc⟩)]
  rfl
theorem kpU_none (l : List Cry) : ∀ j, j ≤ l.length → kpU l (inQ []) j = l.take j
  | 0, _ => rfl
  | j + 1, h => by
    obtain ⟨c, hc⟩ := get_some (l := l) (j := j) (by omega)
    rw [kpU_succ hc, if_neg (by simp [inQ]), kpU_none l j (by omega), List.take_add_one, hc]; rfl
theorem wo_none (b : Bk) : wo b (inQ []) = b := by
  unfold wo
  rw [kpU_none _ _ (Nat.le_refl _), List.take_length]
theorem Pw_nil (b : Bk) : Pw b [] = canB b := by unfold Pw; rw [wo_none]
theorem Best.nil {N : Nat} {P : List Int → Bool} (h : P [] = true) : Best N P [] :=
  ⟨trivial, h, fun m _ hl => by
    cases m with
    | nil => simp [fewL, ltL] at hl
    | cons x t => simp [fewL] at hl⟩
theorem wrong_nil {b : Bk} (h : canB b = true) : wrongO b = some [] := wrO_best (Best.nil (by rw [Pw_nil]; exact h))
/-! ### No water -/
theorem can_water {b : Bk} (hb : Num b) (h : canB b = true) : wtr b ≠ [] := by
  rw [can_iff b hb (Nat.zero_le 30)] at h
  obtain ⟨t, ht⟩ := h
  rw [cnd_G b (Nat.zero_le 30), Bool.and_eq_true] at ht
  have ha := G_alw ht.1
  have hl := ha.2.2
  unfold alw at hl
  simp only [Bool.and_eq_true, decide_eq_true_eq] at hl
  intro he
  have : t ∈ wtr b := wtr_mem.2 ⟨ha.1, hl.2.1⟩
  rw [he] at this; cases this
theorem wrong_dry {b : Bk} (hb : Num b) (h : wtr b = []) : wrongO b = none := by
  cases e : wrongO b with
  | none => rfl
  | some l =>
    have hB := wrO_some e
    exact absurd h (can_water (b := wo b (inQ l)) hb hB.ok)
/-! ### A shoal's way -/
/-- As far as it goes, the way is in water, and from each square to the next one it can be swum. -/
structure Way (b : Bk) (p : List Int) : Prop where
  wet : ∀ x ∈ p, ∃ t : Nat, x = t ∧ t ∈ wtr b
  near : ∀ m x y, p[m]? = some x → p[m + 1]? = some y → NearP b.wide y x b.swim
theorem Way.nil (b : Bk) : Way b [] := ⟨fun x h => (by cases h), fun m x y h => (by simp at h)⟩
theorem Way.snoc {b : Bk} {p : List Int} (h : Way b p) {x : Int} (hx : ∃ t : Nat, x = t ∧ t ∈ wtr b) (hn : ∀ y, p.getLast? = some y → NearP b.wide x y b.swim) : Way b (p ++ [x]) := by
  refine ⟨mem_snoc h.wet hx, fun m u v hu hv => ?_⟩
  have hl := (List.getElem?_eq_some_iff.1 hv).1
  rw [List.length_append] at hl
  simp only [List.length_cons, List.length_nil] at hl
  rw [List.getElem?_append_left (by omega)] at hu
  by_cases hm : m + 1 < p.length
  · rw [List.getElem?_append_left hm] at hv
    exact h.near m u v hu hv
  · have hm' : m + 1 = p.length := by omega
    rw [List.getElem?_append_right (by omega), show m + 1 - p.length = 0 by omega] at hv
    simp at hv
    subst hv
    refine hn u ?_
    rw [List.getLast?_eq_getElem?, show p.length - 1 = m by omega]; exact hu
/-- A cry as it is right, if the shoal is where the way says. -/
def trC (b : Bk) (p : List Int) (c : Cry) : Cry := { c with k := if Btw b c (p.getD c.m.toNat 0 % b.wide) (p.getD c.m.toNat 0 / b.wide) then 0 else 1 }
def truB (b : Bk) (p : List Int) : Bk := { b with cries := b.cries.map (trC b p) }
theorem tru_ok {b : Bk} (h : BookOk b) (p : List Int) : BookOk (truB b p) :=
  ⟨h.num, h.ll, by show (b.cries.map (trC b p)).length ≤ 8; rw [List.length_map]; exact h.lc, h.land, h.nd, fun c hc => by
    obtain ⟨c', hc', rfl⟩ := List.mem_map.1 hc
    obtain ⟨k1, k2, k3, k4⟩ := h.cry c' hc'
    refine ⟨k1, k2, ?_, k4⟩
    show 0 ≤ (if _ then (0 : Int) else 1) ∧ (if _ then (0 : Int) else 1) ≤ 1
    split <;> omega⟩
theorem tru_alw {b : Bk} {p : List Int} (hw : Way b p) {m : Nat} {t : Nat} (hp : p[m]? = some (t : Int)) : alw (truB b p) m t = true := by
  obtain ⟨t', ht, hm⟩ := hw.wet t (List.mem_of_getElem? hp)
  have : t = t' := by omega
  subst this
  obtain ⟨h1, h2⟩ := wtr_mem.1 hm
  unfold alw
  rw [decide_eq_true (show t < sq (truB b p) from h1), decide_eq_true (show ¬ (t : Int) ∈ (truB b p).land from h2)]
  simp only [Bool.true_and, Bool.not_eq_true']
  unfold frb
  rw [List.any_eq_false]
  intro c hc
  obtain ⟨c', hc', rfl⟩ := List.mem_map.1 hc
  rw [Bool.and_eq_true, decide_eq_true_eq]
  rintro ⟨hmm, ha⟩
  have hm2 : c'.m = m := hmm
  have hg : p.getD c'.m.toNat 0 = t := by rw [hm2, Int.toNat_natCast, List.getD_eq_getElem?_getD, hp]; rfl
  unfold against at ha
  have e : decide (Btw (truB b p) (trC b p c') ((t : Int) % (truB b p).wide) ((t : Int) / (truB b p).wide)) = decide ((trC b p c').k = 0) := by
    refine decide_eq_decide.2 ?_
    show Btw b c' ((t : Int) % b.wide) ((t : Int) / b.wide) ↔ (if Btw b c' (p.getD c'.m.toNat 0 % b.wide) (p.getD c'.m.toNat 0 / b.wide) then (0 : Int) else 1) = 0
    rw [hg]
    split
    · next h => exact ⟨fun _ => rfl, fun _ => h⟩
    · next h => exact ⟨fun h' => absurd h' h, fun h' => by cases h'⟩
  rw [e] at ha
  simp at ha
theorem way_at {b : Bk} {p : List Int} (hw : Way b p) {m : Nat} (hm : m < p.length) : ∃ t : Nat, p[m]? = some (t : Int) ∧ t < sq b := by
  obtain ⟨x, hx⟩ := get_some hm
  obtain ⟨t, rfl, ht⟩ := hw.wet x (List.mem_of_getElem? hx)
  exact ⟨t, hx, (wtr_mem.1 ht).1⟩
theorem tru_G {b : Bk} (hb : Num b) {p : List Int} (hw : Way b p) (hl : p.length = 31) : ∀ (m : Nat) (t : Nat), m ≤ 30 → p[m]? = some (t : Int) → (G (truB b p) true m).getD t false = true
  | 0, t, _, hp => by
    have ha := tru_alw hw hp
    have h80 := (sq_le hb).1
    have hlt : t < sq b := by obtain ⟨t', h1, h2⟩ := way_at hw (m := 0) (by omega); rw [hp] at h1; cases h1; exact h2
    rw [G, row_get _ _ _ _ (by omega)]
    rw [show ordI true 0 = ((0 : Nat) : Int) from rfl, ha]; rfl
  | m + 1, t, hm, hp => by
    obtain ⟨s, hs, hsl⟩ := way_at hw (m := m) (by omega)
    have hlt : t < sq b := by obtain ⟨t', h1, h2⟩ := way_at hw (m := m + 1) (by omega); rw [hp] at h1; cases h1; exact h2
    have hg := tru_G hb hw hl m s (by omega) hs
    have hn := hw.near m s t hs hp
    refine G_next (b := truB b p) hb hg ?_ hlt ?_
    · exact hn.symm
    · exact tru_alw hw hp
theorem tru_H {b : Bk} (hb : Num b) {p : List Int} (hw : Way b p) (hl : p.length = 31) : ∀ (k : Nat) (t : Nat), k ≤ 30 → p[30 - k]? = some (t : Int) → (G (truB b p) false k).getD t false = true
  | 0, t, _, hp => by
    have ha := tru_alw hw hp
    have h80 := (sq_le hb).1
    have hlt : t < sq b := by obtain ⟨t', h1, h2⟩ := way_at hw (m := 30) (by omega); rw [hp] at h1; cases h1; exact h2
    rw [G, row_get _ _ _ _ (by omega)]
    rw [show ordI false 0 = ((30 : Nat) : Int) from rfl, ha]; rfl
  | k + 1, t, hk, hp => by
    obtain ⟨s, hs, hsl⟩ := way_at hw (m := 30 - k) (by omega)
    have hlt : t < sq b := by obtain ⟨t', h1, h2⟩ := way_at hw (m := 30 - (k + 1)) (by omega); rw [hp] at h1; cases h1; exact h2
    have hg := tru_H hb hw hl k s (by omega) hs
    have hs' : p[30 - (k + 1) + 1]? = some (s : Int) := by rw [show 30 - (k + 1) + 1 = 30 - k by omega]; exact hs
    have hn := hw.near (30 - (k + 1)) t s hp hs'
    refine G_next (b := truB b p) hb hg hn hlt ?_
    have ha := tru_alw hw hp
    rwa [show ordI false (k + 1) = ((30 - (k + 1) : Nat) : Int) by unfold ordI; simp; omega]
/-- At each minute it is in one of the squares that are told. -/
theorem tru_whs {b : Bk} (hb : Num b) {p : List Int} (hw : Way b p) (hl : p.length = 31) {m : Nat} (hm : m ≤ 30) {x : Int} (hp : p[m]? = some x) : x ∈ whs (truB b p) m := by
  obtain ⟨t, ht, hlt⟩ := way_at hw (m := m) (by omega)
  rw [hp] at ht
  cases ht
  have h80 := (sq_le hb).1
  refine whs_mem.2 ⟨t, by omega, ?_, rfl⟩
  rw [cnd_G _ hm, Bool.and_eq_true]
  exact ⟨tru_G hb hw hl m t hm hp, tru_H hb hw hl (30 - m) t (by omega) (by rw [show 30 - (30 - m) = m by omega]; exact hp)⟩
theorem tru_can {b : Bk} (hb : Num b) {p : List Int} (hw : Way b p) (hl : p.length = 31) : canB (truB b p) = true := by
  obtain ⟨x, hx⟩ := get_some (l := p) (j := 0) (by omega)
  obtain ⟨t, _, h, _⟩ := whs_mem.1 (tru_whs hb hw hl (Nat.zero_le 30) hx)
  exact (can_iff (truB b p) hb (Nat.zero_le 30)).2 ⟨t, h⟩
/-! ### Lists that are told -/
theorem up_map : ∀ (K lo : Nat) (q : Nat → Bool) (N : Nat), (∀ n, q n = true → n < N) → Up lo N (((List.range' lo K).filter q).map fun (n : Nat) => (n : Int))
  | 0, _, _, _, _ => trivial
  | K + 1, lo, q, N, h => by
    rw [List.range'_succ]
    cases hq : q lo with
    | true =>
      rw [List.filter_cons_of_pos hq, List.map_cons]
      have := h lo hq
      exact ⟨Int.le_refl _, by omega, up_map K (lo + 1) q N h⟩
    | false =>
      rw [List.filter_cons_of_neg (by simp [hq])]
      exact Up.mono (by omega) (up_map K (lo + 1) q N h)
theorem cnd_lt {b : Bk} {m t : Nat} (hm : m ≤ 30) (h : cnd b m t = true) : t < sq b ∧ alw b m t = true := by
  rw [cnd_G b hm, Bool.and_eq_true] at h
  have ha := G_alw h.1
  exact ⟨ha.1, ha.2.2⟩
theorem whs_up (b : Bk) {m : Nat} (hm : m ≤ 30) : Up 0 (sq b) (whs b m) := by
  unfold whs whU whN
  rw [List.range_eq_range']
  exact up_map 80 0 _ _ fun n hn => (cnd_lt hm hn).1
theorem inc_all {b : Bk} {l : List Int} {wi hi : Int} {n : Nat} (h : inc b l wi hi n = true) : ∀ x ∈ l, HoldsP b.wide n wi hi x := by
  unfold inc at h
  rw [List.all_eq_true] at h
  exact fun x hx => of_decide_eq_true (h x hx)
theorem fstN_spec {p : Nat → Bool} {N : Nat} (h : 0 ≤ fstN p N) : ∃ n : Nat, fstN p N = n ∧ n < N ∧ p n = true ∧ ∀ i, i < n → p i = false := by
  unfold fstN at h ⊢
  cases e : (List.range N).find? p with
  | none => rw [e] at h; simp at h
  | some n =>
    rw [List.find?_range_eq_some] at e
    exact ⟨n, rfl, List.mem_range.1 e.2.1, e.1, fun i hi => by have := e.2.2 i hi; simpa using this⟩
theorem shotN_spec {b : Bk} {l : List Int} {wi hi : Int} (h : 0 ≤ shotN b l wi hi) : ∃ n : Nat, shotN b l wi hi = n ∧ n < sq b ∧ (∀ x ∈ l, HoldsP b.wide n wi hi x) ∧ ∀ i, i < n → inc b l wi hi i = false := by
  obtain ⟨n, h1, h2, h3, h4⟩ := fstN_spec h
  exact ⟨n, h1, h2, inc_all h3, h4⟩
theorem fstN_neg {p : Nat → Bool} {N : Nat} (h : fstN p N < 0) : ∀ i, i < N → p i = false := fun i hi => by
  cases e : p i with
  | false => rfl
  | true =>
    exfalso
    unfold fstN at h
    cases e2 : (List.range N).find? p with
    | none =>
      rw [List.find?_eq_none] at e2
      exact e2 i (List.mem_range.2 hi) e
    | some n => rw [e2] at h; simp at h; omega
end Go.Proofs.YtmpclgepoemneaaDoor

/-
  What the laws ask of books: is there one; its water; lists that rise; picks.
-/
namespace Go.Proofs.YtmpclgepoemneaaDoor
set_option maxRecDepth 100000
open Go.Hu Go.RowKit
section
variable (b : Bk) (la : Option Addr) (lc : Nat) (ca : Option Addr) (cc : Nat)
theorem chk_zero {b : Bk} : chkV b = 0 ↔ okAll b = true := by
  unfold chkV
  cases okAll b <;> simp
theorem soundF (w : World) (hl : Ints w la lc b.land) (hC : Cries w ca cc b.cries) : Ct Tryd.prog 37 #[.agg (bkL b la lc ca cc).toArray] w (fun u w' => u = .bool (okAll b) ∧ Ext w w') := by
  refine fn_intro (args := [.agg (bkL b la lc ca cc).toArray]) Tryd.func37 rfl rfl (by kernel_rfl) ?_
  have S := St.start no w
  have hln : b.land.length ≤ 9223372036854775807 := hl.2.1
  have hcn : b.cries.length ≤ 9223372036854775807 := hC.2.1
  refine W.seq (W.region S ?_)
  refine AS.cons (sp_boxa 1 rfl (fun b1 => ?_))
  refine AS.cons (sp_asg rfl ?_)
  refine AS.nil ?_
  intro _ S
  refine W.seq (W.region S ?_)
  refine AS.cons (sp_ldw 1 rfl rfl ag_26_7 ?_)
  refine AS.cons (sp_call [] rfl rfl cf_18 (fun F w _ S => check b la lc ca cc w (hl.ext S.mod) (hC.ext S.mod)) ?_)
  refine AS.cons (sp_eql rfl rfl ?_)
  refine AS.cons (sp_move (v := .bool _) rfl ?_)
  refine AS.split 10 rfl (fun g10 => ?_) (fun g10 => ?_)
  · skip
    have hok : okAll b = true := chk_zero.1 (of_decide_eq_true g10)
    have hbk := okAll_ok hok
    obtain ⟨⟨hw1, hw2⟩, ⟨hh1, hh2⟩, h0, h1, hsw⟩ := hbk.num
    have hcl := hbk.lc
    have hll := hbk.ll
    have hm := mulS (a := b.wide) (b := b.high) (by omega) (by omega)
    refine AS.cons (sp_fa rfl fo_26_0_0 ?_)
    refine AS.cons (sp_ld 1 rfl rfl sc_3 rfl ?_)
    refine AS.cons (sp_call [] rfl rfl cf_44 (fun F w _ S => between _ _ _ w) ?_)
    refine AS.cons (sp_pick_t rfl (v := .bool _) rfl ?_)
    refine AS.cons (sp_move (v := .bool _) rfl ?_)
    refine AS.split 15 rfl (fun g15 => ?_) (fun g15 => ?_)
    · skip
      refine AS.cons (sp_fa rfl fo_26_1_1 ?_)
      refine AS.cons (sp_ld 1 rfl rfl sc_3 rfl ?_)
      refine AS.cons (sp_call [] rfl rfl cf_44 (fun F w _ S => between _ _ _ w) ?_)
      refine AS.cons (sp_pick_t rfl (v := .bool _) rfl ?_)
      refine AS.cons (sp_move (v := .bool _) rfl ?_)
      refine AS.split 20 rfl (fun g20 => ?_) (fun g20 => ?_)
      · skip
        refine AS.cons (sp_fa rfl fo_26_2_2 ?_)
        refine AS.cons (sp_ld 1 rfl rfl sc_22 rfl ?_)
        refine AS.cons (sp_len rfl sl_22_3_1 ?_)
        refine AS.cons (sp_leq rfl rfl ?_)
        refine AS.cons (sp_pick_t rfl (v := .bool _) rfl ?_)
        refine AS.cons (sp_move (v := .bool _) rfl ?_)
        refine AS.split 26 rfl (fun g26 => ?_) (fun g26 => ?_)
        · skip
          refine AS.cons (sp_fa rfl fo_26_3_3 ?_)
          refine AS.cons (sp_iaa rfl rfl ar_23_2_3_1 (by first | omega | (simp only [decide_eq_true_eq, decide_eq_false_iff_not] at *; omega)) ?_)
          refine AS.cons (sp_ld 1 rfl rfl sc_3 rfl ?_)
          refine AS.cons (sp_call [] rfl rfl cf_44 (fun F w _ S => between _ _ _ w) ?_)
          refine AS.cons (sp_pick_t rfl (v := .bool _) rfl ?_)
          refine AS.cons (sp_move (v := .bool _) rfl ?_)
          refine AS.split 32 rfl (fun g32 => ?_) (fun g32 => ?_)
          · skip
            refine AS.cons (sp_fa rfl fo_26_3_3 ?_)
            refine AS.cons (sp_iaa rfl rfl ar_23_2_3_1 (by first | omega | (simp only [decide_eq_true_eq, decide_eq_false_iff_not] at *; omega)) ?_)
            refine AS.cons (sp_ld 1 rfl rfl sc_3 rfl ?_)
            refine AS.cons (sp_call [] rfl rfl cf_44 (fun F w _ S => between _ _ _ w) ?_)
            refine AS.cons (sp_pick_t rfl (v := .bool _) rfl ?_)
            refine AS.cons (sp_move (v := .bool _) rfl ?_)
            refine AS.split 38 rfl (fun g38 => ?_) (fun g38 => ?_)
            · skip
              refine AS.cons (sp_fa rfl fo_26_4_5 ?_)
              refine AS.cons (sp_ld 1 rfl rfl sc_3 rfl ?_)
              refine AS.cons (sp_call [] rfl rfl cf_44 (fun F w _ S => between _ _ _ w) ?_)
              refine AS.cons (sp_pick_t rfl (v := .bool _) rfl ?_)
              refine AS.cons (sp_move (v := .bool _) rfl ?_)
              refine AS.split 43 rfl (fun g43 => ?_) (fun g43 => ?_)
              · skip
                refine AS.cons (sp_fa rfl fo_26_5_6 ?_)
                refine AS.cons (sp_ld 1 rfl rfl sc_24 rfl ?_)
                refine AS.cons (sp_len rfl sl_24_46_7 ?_)
                refine AS.cons (sp_leq rfl rfl ?_)
                refine AS.cons (sp_pick_t rfl (v := .bool _) rfl ?_)
                refine AS.cons (sp_asg (v := .bool _) rfl ?_)
                refine AS.nil ?_
                intro _ S
                refine W.seq (W.seq (W.region S ?_))
                refine AS.cons (sp_asg rfl ?_)
                refine AS.nil ?_
                intro _ S
                refine W.block ?_
                refine W.loopS S [3, 4, 49, 50, 51, 52, 53, 54, 55, 56, 57, 58, 59, 60, 61, 62, 63, 64, 65, 66, 67, 68, 69, 70] [] (fun (j : Nat) => [(4, iv j), (3, .bool (okAll b))]) (fun _ => []) (fun j => j ≤ b.land.length) (fun j => b.land.length - j) 0 (by omega) ⟨rfl, by first | (show Value.bool (decide ((b.cries.length : Int) ≤ 8)) = Value.bool (okAll b); rw [hok, decide_eq_true (by omega)]) | (show Value.bool false = Value.bool (okAll b); cases e : okAll b with | false => rfl | true => exact absurd (chk_zero.2 e) (of_decide_eq_false g10)), trivial⟩ trivial ?_
                rintro j σ M w1 hj S
                refine W.seq (W.seq (W.region S ?_))
                refine AS.cons (sp_move (v := .bool _) rfl ?_)
                refine AS.cons (sp_move (v := .bool _) rfl ?_)
                refine AS.split 50 rfl (fun g50 => ?_) (fun g50 => ?_)
                · skip
                  refine AS.cons (sp_move (v := .int _ _) rfl ?_)
                  refine AS.cons (sp_fa rfl fo_26_2_2 ?_)
                  refine AS.cons (sp_ld 1 rfl rfl sc_22 rfl ?_)
                  refine AS.cons (sp_len rfl sl_22_3_1 ?_)
                  refine AS.cons (sp_lss rfl rfl ?_)
                  refine AS.cons (sp_pick_t rfl (v := .bool _) rfl ?_)
                  refine AS.nil ?_
                  intro _ S
                  refine W.cond rfl (fun c56 => ?_) (fun c56 => ?_)
                  · skip
                    have hlt : j < b.land.length := by have := of_decide_eq_true c56; omega
                    obtain ⟨n, hx⟩ := get_some hlt
                    have hok' : okAll b = true := g50
                    have hbk' := okAll_ok hok'
                    have hb' := hbk'.num
                    have hw' := hb'.1
                    have hh' := hb'.2.1
                    have hm' := mulS (a := b.wide) (b := b.high) (by omega) (by omega)
                    refine W.skip ?_
                    refine W.seq (W.block ?_)
                    refine W.draw S mixed (fun i => ([KD.q [], KD.q [1], KD.q [], KD.q [], KD.q [], KD.q [], KD.q [1], KD.q [], KD.q [1], KD.q [], KD.q [], KD.e [] [], KD.q []] : List KD)[i]?) [] [0, 1, 2, 3, 4, 5, 6, 7, 8, 9, 10, 11, 12] (by kernel_rfl) ?_
                    refine AW.cons rfl rfl (sp_fa rfl fo_26_2_2 ?_)
                    refine AW.cons rfl rfl (sp_ld 1 rfl rfl sc_22 rfl ?_)
                    refine AW.cons rfl rfl (sp_move (v := .int _ _) rfl ?_)
                    refine AW.cons rfl rfl (sp_iaR hl rfl rfl sl_22_3_1 (by first | omega | (simp only [decide_eq_true_eq, decide_eq_false_iff_not] at *; omega)) ?_)
                    refine AW.cons rfl rfl (sp_ldR 0 hl (fun _ h => h) rfl sc_3 (ints_at hx) (by first | omega | (simp only [decide_eq_true_eq, decide_eq_false_iff_not] at *; omega)) ?_)
                    refine AW.cons rfl rfl (sp_fa rfl fo_26_0_0 ?_)
                    refine AW.cons rfl rfl (sp_ld 1 rfl rfl sc_3 rfl ?_)
                    refine AW.cons rfl rfl (sp_fa rfl fo_26_1_1 ?_)
                    refine AW.cons rfl rfl (sp_ld 1 rfl rfl sc_3 rfl ?_)
                    refine AW.cons rfl rfl (sp_mul rfl rfl (mulB (by first | omega | (simp only [decide_eq_true_eq, decide_eq_false_iff_not] at *; omega)) (by first | omega | (simp only [decide_eq_true_eq, decide_eq_false_iff_not] at *; omega))) ?_)
                    refine AW.cons rfl rfl (sp_sub rfl rfl (by first | omega | (simp only [decide_eq_true_eq, decide_eq_false_iff_not] at *; omega)) ?_)
                    refine AW.cons rfl rfl (sp_call [] rfl rfl cf_44 (fun F w _ S => between _ _ _ w) ?_)
                    refine AW.cons rfl rfl (sp_asg (v := .bool _) rfl ?_)
                    refine AW.nil ?_
                    intro _ S
                    refine W.region S ?_
                    refine AS.cons (sp_move (v := .int _ _) rfl ?_)
                    refine AS.cons (sp_add rfl rfl (by first | omega | (simp only [decide_eq_true_eq, decide_eq_false_iff_not] at *; omega)) ?_)
                    refine AS.cons (sp_asg (v := .int _ _) rfl ?_)
                    refine AS.nil ?_
                    intro _ S
                    exact ⟨j + 1, _, by omega, by omega, ⟨by simp [upd], by show Value.bool (decide _) = Value.bool (okAll b); rw [hok', decide_eq_true (hbk'.land n (List.mem_of_getElem? hx))], trivial⟩, trivial, by repeat (first | exact Agr.refl _ _ | exact Agr.msk _ _ _ | refine Agr.upd ?_ _ rfl | refine Agr.upds ?_ rfl | refine Agr.mskIn ?_ rfl), by repeat (first | exact Agr.refl _ _ | exact Agr.msk _ _ _ | refine Agr.upd ?_ _ rfl | refine Agr.upds ?_ rfl | refine Agr.mskIn ?_ rfl), rfl, S⟩
                  · skip
                    refine W.exit ?_
                    refine W.seq (W.seq (W.region S ?_))
                    refine AS.cons (sp_asg rfl ?_)
                    refine AS.nil ?_
                    intro _ S
                    refine W.block ?_
                    refine W.loopS S [3, 5, 6, 71, 72, 73, 74, 75, 76, 77, 78, 79, 80, 81, 82, 83, 84, 85, 86, 87, 88, 89, 90, 91, 92, 93, 94, 95, 96, 97, 98, 99, 100, 101, 102, 103, 104, 105, 106, 107, 108] [6] (fun (j : Nat) => [(5, iv j), (3, .bool (okAll b))]) (fun _ => []) (fun j => j ≤ b.cries.length) (fun j => b.cries.length - j) 0 (by omega) ⟨rfl, by first | rfl | exact congrArg Value.bool g50.symm, trivial⟩ trivial ?_
                    rintro i σ M w1 hi S
                    refine W.seq (W.seq (W.region S ?_))
                    refine AS.cons (sp_move (v := .bool _) rfl ?_)
                    refine AS.cons (sp_move (v := .bool _) rfl ?_)
                    refine AS.split 72 rfl (fun g72 => ?_) (fun g72 => ?_)
                    · skip
                      refine AS.cons (sp_move (v := .int _ _) rfl ?_)
                      refine AS.cons (sp_fa rfl fo_26_5_6 ?_)
                      refine AS.cons (sp_ld 1 rfl rfl sc_24 rfl ?_)
                      refine AS.cons (sp_len rfl sl_24_46_7 ?_)
                      refine AS.cons (sp_lss rfl rfl ?_)
                      refine AS.cons (sp_pick_t rfl (v := .bool _) rfl ?_)
                      refine AS.nil ?_
                      intro _ S
                      refine W.cond rfl (fun c78 => ?_) (fun c78 => ?_)
                      · skip
                        have hlt : i < b.cries.length := by have := of_decide_eq_true c78; omega
                        obtain ⟨c, hxc⟩ := get_some hlt
                        have hok' : okAll b = true := g72
                        obtain ⟨k1, k2, k3, k4, k5, _⟩ := (okAll_ok hok').cry c (List.mem_of_getElem? hxc)
                        refine W.skip ?_
                        refine W.seq (W.block ?_)
                        refine W.seq (W.region S ?_)
                        refine AS.cons (sp_fa rfl fo_26_5_6 ?_)
                        refine AS.cons (sp_ld 1 rfl rfl sc_24 rfl ?_)
                        refine AS.cons (sp_move (v := .int _ _) rfl ?_)
                        refine AS.cons (sp_iaR hC rfl rfl sl_24_46_7 (by first | omega | (simp only [decide_eq_true_eq, decide_eq_false_iff_not] at *; omega)) ?_)
                        refine AS.cons (sp_ldaR 0 hC (fun _ h => h) rfl ag_46_7 (cries_at hxc) (by first | omega | (simp only [decide_eq_true_eq, decide_eq_false_iff_not] at *; omega)) ?_)
                        refine AS.cons (sp_alloc 6 zv_46 rfl (fun b6 => ?_))
                        refine AS.cons (sp_st 6 rfl rfl rfl rfl sz_46_7 rfl rfl ?_)
                        refine AS.nil ?_
                        intro _ S
                        refine W.region S ?_
                        refine AS.cons (sp_fa rfl fo_46_0_0 ?_)
                        refine AS.cons (sp_ld 6 rfl rfl sc_3 rfl ?_)
                        refine AS.cons (sp_call [] rfl rfl cf_44 (fun F w _ S => between _ _ _ w) ?_)
                        refine AS.cons (sp_move (v := .bool _) rfl ?_)
                        refine AS.split 89 rfl (fun g89 => ?_) (fun g89 => ?_)
                        · skip
                          refine AS.cons (sp_fa rfl fo_46_1_1 ?_)
                          refine AS.cons (sp_ld 6 rfl rfl sc_3 rfl ?_)
                          refine AS.cons (sp_call [] rfl rfl cf_44 (fun F w _ S => between _ _ _ w) ?_)
                          refine AS.cons (sp_pick_t rfl (v := .bool _) rfl ?_)
                          refine AS.cons (sp_move (v := .bool _) rfl ?_)
                          refine AS.split 94 rfl (fun g94 => ?_) (fun g94 => ?_)
                          · skip
                            refine AS.cons (sp_fa rfl fo_46_2_2 ?_)
                            refine AS.cons (sp_ld 6 rfl rfl sc_3 rfl ?_)
                            refine AS.cons (sp_call [] rfl rfl cf_44 (fun F w _ S => between _ _ _ w) ?_)
                            refine AS.cons (sp_pick_t rfl (v := .bool _) rfl ?_)
                            refine AS.cons (sp_move (v := .bool _) rfl ?_)
                            refine AS.split 99 rfl (fun g99 => ?_) (fun g99 => ?_)
                            · skip
                              refine AS.cons (sp_fa rfl fo_46_3_3 ?_)
                              refine AS.cons (sp_lda 6 2 rfl rfl ag_44_2 rfl ?_)
                              refine AS.cons (sp_call [] rfl rfl cf_48 (fun F w _ S => turns _ _ w) ?_)
                              refine AS.cons (sp_pick_t rfl (v := .bool _) rfl ?_)
                              refine AS.cons (sp_move (v := .bool _) rfl ?_)
                              refine AS.split 104 rfl (fun g104 => ?_) (fun g104 => ?_)
                              · skip
                                refine AS.cons (sp_fa rfl fo_46_4_5 ?_)
                                refine AS.cons (sp_lda 6 2 rfl rfl ag_44_2 rfl ?_)
                                refine AS.cons (sp_call [] rfl rfl cf_48 (fun F w _ S => turns _ _ w) ?_)
                                refine AS.cons (sp_pick_t rfl (v := .bool _) rfl ?_)
                                refine AS.cons (sp_asg (v := .bool _) rfl ?_)
                                refine AS.nil ?_
                                intro _ S
                                refine W.region S ?_
                                refine AS.cons (sp_move (v := .int _ _) rfl ?_)
                                refine AS.cons (sp_add rfl rfl (by first | omega | (simp only [decide_eq_true_eq, decide_eq_false_iff_not] at *; omega)) ?_)
                                refine AS.cons (sp_asg (v := .int _ _) rfl ?_)
                                refine AS.nil ?_
                                intro _ S
                                exact ⟨i + 1, _, by omega, by omega, ⟨by simp [upd], by show Value.bool (decide _) = Value.bool (okAll b); rw [hok', decide_eq_true k5], trivial⟩, trivial, by repeat (first | exact Agr.refl _ _ | exact Agr.msk _ _ _ | refine Agr.upd ?_ _ rfl | refine Agr.upds ?_ rfl | refine Agr.mskIn ?_ rfl), by repeat (first | exact Agr.refl _ _ | exact Agr.msk _ _ _ | refine Agr.upd ?_ _ rfl | refine Agr.upds ?_ rfl | refine Agr.mskIn ?_ rfl), rfl, S⟩
                              · exact absurd k4 (of_decide_eq_false g104)
                            · exact absurd k3 (of_decide_eq_false g99)
                          · exact absurd k2 (of_decide_eq_false g94)
                        · exact absurd k1 (of_decide_eq_false g89)
                      · skip
                        refine W.exit ?_
                        refine W.seq (W.region S ?_)
                        refine AS.cons (sp_move (v := .bool _) rfl ?_)
                        refine AS.cons (sp_asg (v := .bool _) rfl ?_)
                        refine AS.nil ?_
                        intro _ S
                        refine W.ret ?_
                        exact ret1 rfl rfl S fun w' S' => ⟨by first | rfl | exact congrArg Value.bool g72.symm, S'.mod⟩
                    · skip
                      refine AS.cons (sp_skip rfl ?_)
                      refine AS.cons (sp_skip rfl ?_)
                      refine AS.cons (sp_skip rfl ?_)
                      refine AS.cons (sp_skip rfl ?_)
                      refine AS.cons (sp_skip rfl ?_)
                      refine AS.cons (sp_pick_f rfl (v := .bool _) rfl ?_)
                      refine AS.nil ?_
                      intro _ S
                      refine W.cond (b := false) rfl (fun h => nomatch h) (fun _ => ?_)
                      refine W.exit ?_
                      refine W.seq (W.region S ?_)
                      refine AS.cons (sp_move (v := .bool _) rfl ?_)
                      refine AS.cons (sp_asg (v := .bool _) rfl ?_)
                      refine AS.nil ?_
                      intro _ S
                      refine W.ret ?_
                      exact ret1 rfl rfl S fun w' S' => ⟨by first | rfl | exact congrArg Value.bool g72.symm, S'.mod⟩
                · skip
                  refine AS.cons (sp_skip rfl ?_)
                  refine AS.cons (sp_skip rfl ?_)
                  refine AS.cons (sp_skip rfl ?_)
                  refine AS.cons (sp_skip rfl ?_)
                  refine AS.cons (sp_skip rfl ?_)
                  refine AS.cons (sp_pick_f rfl (v := .bool _) rfl ?_)
                  refine AS.nil ?_
                  intro _ S
                  refine W.cond (b := false) rfl (fun h => nomatch h) (fun _ => ?_)
                  refine W.exit ?_
                  refine W.seq (W.seq (W.region S ?_))
                  refine AS.cons (sp_asg rfl ?_)
                  refine AS.nil ?_
                  intro _ S
                  refine W.block ?_
                  refine W.loopS S [3, 5, 6, 71, 72, 73, 74, 75, 76, 77, 78, 79, 80, 81, 82, 83, 84, 85, 86, 87, 88, 89, 90, 91, 92, 93, 94, 95, 96, 97, 98, 99, 100, 101, 102, 103, 104, 105, 106, 107, 108] [6] (fun (j : Nat) => [(5, iv j), (3, .bool (okAll b))]) (fun _ => []) (fun j => j ≤ b.cries.length) (fun j => b.cries.length - j) 0 (by omega) ⟨rfl, by first | rfl | exact congrArg Value.bool g50.symm, trivial⟩ trivial ?_
                  rintro i σ M w1 hi S
                  refine W.seq (W.seq (W.region S ?_))
                  refine AS.cons (sp_move (v := .bool _) rfl ?_)
                  refine AS.cons (sp_move (v := .bool _) rfl ?_)
                  refine AS.split 72 rfl (fun g72 => ?_) (fun g72 => ?_)
                  · skip
                    refine AS.cons (sp_move (v := .int _ _) rfl ?_)
                    refine AS.cons (sp_fa rfl fo_26_5_6 ?_)
                    refine AS.cons (sp_ld 1 rfl rfl sc_24 rfl ?_)
                    refine AS.cons (sp_len rfl sl_24_46_7 ?_)
                    refine AS.cons (sp_lss rfl rfl ?_)
                    refine AS.cons (sp_pick_t rfl (v := .bool _) rfl ?_)
                    refine AS.nil ?_
                    intro _ S
                    refine W.cond rfl (fun c78 => ?_) (fun c78 => ?_)
                    · skip
                      have hlt : i < b.cries.length := by have := of_decide_eq_true c78; omega
                      obtain ⟨c, hxc⟩ := get_some hlt
                      have hok' : okAll b = true := g72
                      obtain ⟨k1, k2, k3, k4, k5, _⟩ := (okAll_ok hok').cry c (List.mem_of_getElem? hxc)
                      refine W.skip ?_
                      refine W.seq (W.block ?_)
                      refine W.seq (W.region S ?_)
                      refine AS.cons (sp_fa rfl fo_26_5_6 ?_)
                      refine AS.cons (sp_ld 1 rfl rfl sc_24 rfl ?_)
                      refine AS.cons (sp_move (v := .int _ _) rfl ?_)
                      refine AS.cons (sp_iaR hC rfl rfl sl_24_46_7 (by first | omega | (simp only [decide_eq_true_eq, decide_eq_false_iff_not] at *; omega)) ?_)
                      refine AS.cons (sp_ldaR 0 hC (fun _ h => h) rfl ag_46_7 (cries_at hxc) (by first | omega | (simp only [decide_eq_true_eq, decide_eq_false_iff_not] at *; omega)) ?_)
                      refine AS.cons (sp_alloc 6 zv_46 rfl (fun b6 => ?_))
                      refine AS.cons (sp_st 6 rfl rfl rfl rfl sz_46_7 rfl rfl ?_)
                      refine AS.nil ?_
                      intro _ S
                      refine W.region S ?_
                      refine AS.cons (sp_fa rfl fo_46_0_0 ?_)
                      refine AS.cons (sp_ld 6 rfl rfl sc_3 rfl ?_)
                      refine AS.cons (sp_call [] rfl rfl cf_44 (fun F w _ S => between _ _ _ w) ?_)
                      refine AS.cons (sp_move (v := .bool _) rfl ?_)
                      refine AS.split 89 rfl (fun g89 => ?_) (fun g89 => ?_)
                      · skip
                        refine AS.cons (sp_fa rfl fo_46_1_1 ?_)
                        refine AS.cons (sp_ld 6 rfl rfl sc_3 rfl ?_)
                        refine AS.cons (sp_call [] rfl rfl cf_44 (fun F w _ S => between _ _ _ w) ?_)
                        refine AS.cons (sp_pick_t rfl (v := .bool _) rfl ?_)
                        refine AS.cons (sp_move (v := .bool _) rfl ?_)
                        refine AS.split 94 rfl (fun g94 => ?_) (fun g94 => ?_)
                        · skip
                          refine AS.cons (sp_fa rfl fo_46_2_2 ?_)
                          refine AS.cons (sp_ld 6 rfl rfl sc_3 rfl ?_)
                          refine AS.cons (sp_call [] rfl rfl cf_44 (fun F w _ S => between _ _ _ w) ?_)
                          refine AS.cons (sp_pick_t rfl (v := .bool _) rfl ?_)
                          refine AS.cons (sp_move (v := .bool _) rfl ?_)
                          refine AS.split 99 rfl (fun g99 => ?_) (fun g99 => ?_)
                          · skip
                            refine AS.cons (sp_fa rfl fo_46_3_3 ?_)
                            refine AS.cons (sp_lda 6 2 rfl rfl ag_44_2 rfl ?_)
                            refine AS.cons (sp_call [] rfl rfl cf_48 (fun F w _ S => turns _ _ w) ?_)
                            refine AS.cons (sp_pick_t rfl (v := .bool _) rfl ?_)
                            refine AS.cons (sp_move (v := .bool _) rfl ?_)
                            refine AS.split 104 rfl (fun g104 => ?_) (fun g104 => ?_)
                            · skip
                              refine AS.cons (sp_fa rfl fo_46_4_5 ?_)
                              refine AS.cons (sp_lda 6 2 rfl rfl ag_44_2 rfl ?_)
                              refine AS.cons (sp_call [] rfl rfl cf_48 (fun F w _ S => turns _ _ w) ?_)
                              refine AS.cons (sp_pick_t rfl (v := .bool _) rfl ?_)
                              refine AS.cons (sp_asg (v := .bool _) rfl ?_)
                              refine AS.nil ?_
                              intro _ S
                              refine W.region S ?_
                              refine AS.cons (sp_move (v := .int _ _) rfl ?_)
                              refine AS.cons (sp_add rfl rfl (by first | omega | (simp only [decide_eq_true_eq, decide_eq_false_iff_not] at *; omega)) ?_)
                              refine AS.cons (sp_asg (v := .int _ _) rfl ?_)
                              refine AS.nil ?_
                              intro _ S
                              exact ⟨i + 1, _, by omega, by omega, ⟨by simp [upd], by show Value.bool (decide _) = Value.bool (okAll b); rw [hok', decide_eq_true k5], trivial⟩, trivial, by repeat (first | exact Agr.refl _ _ | exact Agr.msk _ _ _ | refine Agr.upd ?_ _ rfl | refine Agr.upds ?_ rfl | refine Agr.mskIn ?_ rfl), by repeat (first | exact Agr.refl _ _ | exact Agr.msk _ _ _ | refine Agr.upd ?_ _ rfl | refine Agr.upds ?_ rfl | refine Agr.mskIn ?_ rfl), rfl, S⟩
                            · exact absurd k4 (of_decide_eq_false g104)
                          · exact absurd k3 (of_decide_eq_false g99)
                        · exact absurd k2 (of_decide_eq_false g94)
                      · exact absurd k1 (of_decide_eq_false g89)
                    · skip
                      refine W.exit ?_
                      refine W.seq (W.region S ?_)
                      refine AS.cons (sp_move (v := .bool _) rfl ?_)
                      refine AS.cons (sp_asg (v := .bool _) rfl ?_)
                      refine AS.nil ?_
                      intro _ S
                      refine W.ret ?_
                      exact ret1 rfl rfl S fun w' S' => ⟨by first | rfl | exact congrArg Value.bool g72.symm, S'.mod⟩
                  · skip
                    refine AS.cons (sp_skip rfl ?_)
                    refine AS.cons (sp_skip rfl ?_)
                    refine AS.cons (sp_skip rfl ?_)
                    refine AS.cons (sp_skip rfl ?_)
                    refine AS.cons (sp_skip rfl ?_)
                    refine AS.cons (sp_pick_f rfl (v := .bool _) rfl ?_)
                    refine AS.nil ?_
                    intro _ S
                    refine W.cond (b := false) rfl (fun h => nomatch h) (fun _ => ?_)
                    refine W.exit ?_
                    refine W.seq (W.region S ?_)
                    refine AS.cons (sp_move (v := .bool _) rfl ?_)
                    refine AS.cons (sp_asg (v := .bool _) rfl ?_)
                    refine AS.nil ?_
                    intro _ S
                    refine W.ret ?_
                    exact ret1 rfl rfl S fun w' S' => ⟨by first | rfl | exact congrArg Value.bool g72.symm, S'.mod⟩
              · exact absurd hsw (of_decide_eq_false g43)
            · exact absurd h1 (of_decide_eq_false g38)
          · exact absurd h0 (of_decide_eq_false g32)
        · exact absurd (by omega) (of_decide_eq_false g26)
      · exact absurd (by omega) (of_decide_eq_false g20)
    · exact absurd (by omega) (of_decide_eq_false g15)
  · skip
    refine AS.cons (sp_skip rfl ?_)
    refine AS.cons (sp_skip rfl ?_)
    refine AS.cons (sp_skip rfl ?_)
    refine AS.cons (sp_pick_f rfl (v := .bool _) rfl ?_)
    refine AS.cons (sp_move (v := .bool _) rfl ?_)
    refine AS.cons (sp_skip rfl ?_)
    refine AS.cons (sp_skip rfl ?_)
    refine AS.cons (sp_skip rfl ?_)
    refine AS.cons (sp_pick_f rfl (v := .bool _) rfl ?_)
    refine AS.cons (sp_move (v := .bool _) rfl ?_)
    refine AS.cons (sp_skip rfl ?_)
    refine AS.cons (sp_skip rfl ?_)
    refine AS.cons (sp_skip rfl ?_)
    refine AS.cons (sp_skip rfl ?_)
    refine AS.cons (sp_pick_f rfl (v := .bool _) rfl ?_)
    refine AS.cons (sp_move (v := .bool _) rfl ?_)
    refine AS.cons (sp_skip rfl ?_)
    refine AS.cons (sp_skip rfl ?_)
    refine AS.cons (sp_skip rfl ?_)
    refine AS.cons (sp_skip rfl ?_)
    refine AS.cons (sp_pick_f rfl (v := .bool _) rfl ?_)
    refine AS.cons (sp_move (v := .bool _) rfl ?_)
    refine AS.cons (sp_skip rfl ?_)
    refine AS.cons (sp_skip rfl ?_)
    refine AS.cons (sp_skip rfl ?_)
    refine AS.cons (sp_skip rfl ?_)
    refine AS.cons (sp_pick_f rfl (v := .bool _) rfl ?_)
    refine AS.cons (sp_move (v := .bool _) rfl ?_)
    refine AS.cons (sp_skip rfl ?_)
    refine AS.cons (sp_skip rfl ?_)
    refine AS.cons (sp_skip rfl ?_)
    refine AS.cons (sp_pick_f rfl (v := .bool _) rfl ?_)
    refine AS.cons (sp_move (v := .bool _) rfl ?_)
    refine AS.cons (sp_skip rfl ?_)
    refine AS.cons (sp_skip rfl ?_)
    refine AS.cons (sp_skip rfl ?_)
    refine AS.cons (sp_skip rfl ?_)
    refine AS.cons (sp_pick_f rfl (v := .bool _) rfl ?_)
    refine AS.cons (sp_asg (v := .bool _) rfl ?_)
    refine AS.nil ?_
    intro _ S
    refine W.seq (W.seq (W.region S ?_))
    refine AS.cons (sp_asg rfl ?_)
    refine AS.nil ?_
    intro _ S
    refine W.block ?_
    refine W.loopS S [3, 4, 49, 50, 51, 52, 53, 54, 55, 56, 57, 58, 59, 60, 61, 62, 63, 64, 65, 66, 67, 68, 69, 70] [] (fun (j : Nat) => [(4, iv j), (3, .bool (okAll b))]) (fun _ => []) (fun j => j ≤ b.land.length) (fun j => b.land.length - j) 0 (by omega) ⟨rfl, by first | (show Value.bool (decide ((b.cries.length : Int) ≤ 8)) = Value.bool (okAll b); rw [hok, decide_eq_true (by omega)]) | (show Value.bool false = Value.bool (okAll b); cases e : okAll b with | false => rfl | true => exact absurd (chk_zero.2 e) (of_decide_eq_false g10)), trivial⟩ trivial ?_
    rintro j σ M w1 hj S
    refine W.seq (W.seq (W.region S ?_))
    refine AS.cons (sp_move (v := .bool _) rfl ?_)
    refine AS.cons (sp_move (v := .bool _) rfl ?_)
    refine AS.split 50 rfl (fun g50 => ?_) (fun g50 => ?_)
    · skip
      refine AS.cons (sp_move (v := .int _ _) rfl ?_)
      refine AS.cons (sp_fa rfl fo_26_2_2 ?_)
      refine AS.cons (sp_ld 1 rfl rfl sc_22 rfl ?_)
      refine AS.cons (sp_len rfl sl_22_3_1 ?_)
      refine AS.cons (sp_lss rfl rfl ?_)
      refine AS.cons (sp_pick_t rfl (v := .bool _) rfl ?_)
      refine AS.nil ?_
      intro _ S
      refine W.cond rfl (fun c56 => ?_) (fun c56 => ?_)
      · skip
        have hlt : j < b.land.length := by have := of_decide_eq_true c56; omega
        obtain ⟨n, hx⟩ := get_some hlt
        have hok' : okAll b = true := g50
        have hbk' := okAll_ok hok'
        have hb' := hbk'.num
        have hw' := hb'.1
        have hh' := hb'.2.1
        have hm' := mulS (a := b.wide) (b := b.high) (by omega) (by omega)
        refine W.skip ?_
        refine W.seq (W.block ?_)
        refine W.draw S mixed (fun i => ([KD.q [], KD.q [1], KD.q [], KD.q [], KD.q [], KD.q [], KD.q [1], KD.q [], KD.q [1], KD.q [], KD.q [], KD.e [] [], KD.q []] : List KD)[i]?) [] [0, 1, 2, 3, 4, 5, 6, 7, 8, 9, 10, 11, 12] (by kernel_rfl) ?_
        refine AW.cons rfl rfl (sp_fa rfl fo_26_2_2 ?_)
        refine AW.cons rfl rfl (sp_ld 1 rfl rfl sc_22 rfl ?_)
        refine AW.cons rfl rfl (sp_move (v := .int _ _) rfl ?_)
        refine AW.cons rfl rfl (sp_iaR hl rfl rfl sl_22_3_1 (by first | omega | (simp only [decide_eq_true_eq, decide_eq_false_iff_not] at *; omega)) ?_)
        refine AW.cons rfl rfl (sp_ldR 0 hl (fun _ h => h) rfl sc_3 (ints_at hx) (by first | omega | (simp only [decide_eq_true_eq, decide_eq_false_iff_not] at *; omega)) ?_)
        refine AW.cons rfl rfl (sp_fa rfl fo_26_0_0 ?_)
        refine AW.cons rfl rfl (sp_ld 1 rfl rfl sc_3 rfl ?_)
        refine AW.cons rfl rfl (sp_fa rfl fo_26_1_1 ?_)
        refine AW.cons rfl rfl (sp_ld 1 rfl rfl sc_3 rfl ?_)
        refine AW.cons rfl rfl (sp_mul rfl rfl (mulB (by first | omega | (simp only [decide_eq_true_eq, decide_eq_false_iff_not] at *; omega)) (by first | omega | (simp only [decide_eq_true_eq, decide_eq_false_iff_not] at *; omega))) ?_)
        refine AW.cons rfl rfl (sp_sub rfl rfl (by first | omega | (simp only [decide_eq_true_eq, decide_eq_false_iff_not] at *; omega)) ?_)
        refine AW.cons rfl rfl (sp_call [] rfl rfl cf_44 (fun F w _ S => between _ _ _ w) ?_)
        refine AW.cons rfl rfl (sp_asg (v := .bool _) rfl ?_)
        refine AW.nil ?_
        intro _ S
        refine W.region S ?_
        refine AS.cons (sp_move (v := .int _ _) rfl ?_)
        refine AS.cons (sp_add rfl rfl (by first | omega | (simp only [decide_eq_true_eq, decide_eq_false_iff_not] at *; omega)) ?_)
        refine AS.cons (sp_asg (v := .int _ _) rfl ?_)
        refine AS.nil ?_
        intro _ S
        exact ⟨j + 1, _, by omega, by omega, ⟨by simp [upd], by show Value.bool (decide _) = Value.bool (okAll b); rw [hok', decide_eq_true (hbk'.land n (List.mem_of_getElem? hx))], trivial⟩, trivial, by repeat (first | exact Agr.refl _ _ | exact Agr.msk _ _ _ | refine Agr.upd ?_ _ rfl | refine Agr.upds ?_ rfl | refine Agr.mskIn ?_ rfl), by repeat (first | exact Agr.refl _ _ | exact Agr.msk _ _ _ | refine Agr.upd ?_ _ rfl | refine Agr.upds ?_ rfl | refine Agr.mskIn ?_ rfl), rfl, S⟩
      · skip
        refine W.exit ?_
        refine W.seq (W.seq (W.region S ?_))
        refine AS.cons (sp_asg rfl ?_)
        refine AS.nil ?_
        intro _ S
        refine W.block ?_
        refine W.loopS S [3, 5, 6, 71, 72, 73, 74, 75, 76, 77, 78, 79, 80, 81, 82, 83, 84, 85, 86, 87, 88, 89, 90, 91, 92, 93, 94, 95, 96, 97, 98, 99, 100, 101, 102, 103, 104, 105, 106, 107, 108] [6] (fun (j : Nat) => [(5, iv j), (3, .bool (okAll b))]) (fun _ => []) (fun j => j ≤ b.cries.length) (fun j => b.cries.length - j) 0 (by omega) ⟨rfl, by first | rfl | exact congrArg Value.bool g50.symm, trivial⟩ trivial ?_
        rintro i σ M w1 hi S
        refine W.seq (W.seq (W.region S ?_))
        refine AS.cons (sp_move (v := .bool _) rfl ?_)
        refine AS.cons (sp_move (v := .bool _) rfl ?_)
        refine AS.split 72 rfl (fun g72 => ?_) (fun g72 => ?_)
        · skip
          refine AS.cons (sp_move (v := .int _ _) rfl ?_)
          refine AS.cons (sp_fa rfl fo_26_5_6 ?_)
          refine AS.cons (sp_ld 1 rfl rfl sc_24 rfl ?_)
          refine AS.cons (sp_len rfl sl_24_46_7 ?_)
          refine AS.cons (sp_lss rfl rfl ?_)
          refine AS.cons (sp_pick_t rfl (v := .bool _) rfl ?_)
          refine AS.nil ?_
          intro _ S
          refine W.cond rfl (fun c78 => ?_) (fun c78 => ?_)
          · skip
            have hlt : i < b.cries.length := by have := of_decide_eq_true c78; omega
            obtain ⟨c, hxc⟩ := get_some hlt
            have hok' : okAll b = true := g72
            obtain ⟨k1, k2, k3, k4, k5, _⟩ := (okAll_ok hok').cry c (List.mem_of_getElem? hxc)
            refine W.skip ?_
            refine W.seq (W.block ?_)
            refine W.seq (W.region S ?_)
            refine AS.cons (sp_fa rfl fo_26_5_6 ?_)
            refine AS.cons (sp_ld 1 rfl rfl sc_24 rfl ?_)
            refine AS.cons (sp_move (v := .int _ _) rfl ?_)
            refine AS.cons (sp_iaR hC rfl rfl sl_24_46_7 (by first | omega | (simp only [decide_eq_true_eq, decide_eq_false_iff_not] at *; omega)) ?_)
            refine AS.cons (sp_ldaR 0 hC (fun _ h => h) rfl ag_46_7 (cries_at hxc) (by first | omega | (simp only [decide_eq_true_eq, decide_eq_false_iff_not] at *; omega)) ?_)
            refine AS.cons (sp_alloc 6 zv_46 rfl (fun b6 => ?_))
            refine AS.cons (sp_st 6 rfl rfl rfl rfl sz_46_7 rfl rfl ?_)
            refine AS.nil ?_
            intro _ S
            refine W.region S ?_
            refine AS.cons (sp_fa rfl fo_46_0_0 ?_)
            refine AS.cons (sp_ld 6 rfl rfl sc_3 rfl ?_)
            refine AS.cons (sp_call [] rfl rfl cf_44 (fun F w _ S => between _ _ _ w) ?_)
            refine AS.cons (sp_move (v := .bool _) rfl ?_)
            refine AS.split 89 rfl (fun g89 => ?_) (fun g89 => ?_)
            · skip
              refine AS.cons (sp_fa rfl fo_46_1_1 ?_)
              refine AS.cons (sp_ld 6 rfl rfl sc_3 rfl ?_)
              refine AS.cons (sp_call [] rfl rfl cf_44 (fun F w _ S => between _ _ _ w) ?_)
              refine AS.cons (sp_pick_t rfl (v := .bool _) rfl ?_)
              refine AS.cons (sp_move (v := .bool _) rfl ?_)
              refine AS.split 94 rfl (fun g94 => ?_) (fun g94 => ?_)
              · skip
                refine AS.cons (sp_fa rfl fo_46_2_2 ?_)
                refine AS.cons (sp_ld 6 rfl rfl sc_3 rfl ?_)
                refine AS.cons (sp_call [] rfl rfl cf_44 (fun F w _ S => between _ _ _ w) ?_)
                refine AS.cons (sp_pick_t rfl (v := .bool _) rfl ?_)
                refine AS.cons (sp_move (v := .bool _) rfl ?_)
                refine AS.split 99 rfl (fun g99 => ?_) (fun g99 => ?_)
                · skip
                  refine AS.cons (sp_fa rfl fo_46_3_3 ?_)
                  refine AS.cons (sp_lda 6 2 rfl rfl ag_44_2 rfl ?_)
                  refine AS.cons (sp_call [] rfl rfl cf_48 (fun F w _ S => turns _ _ w) ?_)
                  refine AS.cons (sp_pick_t rfl (v := .bool _) rfl ?_)
                  refine AS.cons (sp_move (v := .bool _) rfl ?_)
                  refine AS.split 104 rfl (fun g104 => ?_) (fun g104 => ?_)
                  · skip
                    refine AS.cons (sp_fa rfl fo_46_4_5 ?_)
                    refine AS.cons (sp_lda 6 2 rfl rfl ag_44_2 rfl ?_)
                    refine AS.cons (sp_call [] rfl rfl cf_48 (fun F w _ S => turns _ _ w) ?_)
                    refine AS.cons (sp_pick_t rfl (v := .bool _) rfl ?_)
                    refine AS.cons (sp_asg (v := .bool _) rfl ?_)
                    refine AS.nil ?_
                    intro _ S
                    refine W.region S ?_
                    refine AS.cons (sp_move (v := .int _ _) rfl ?_)
                    refine AS.cons (sp_add rfl rfl (by first | omega | (simp only [decide_eq_true_eq, decide_eq_false_iff_not] at *; omega)) ?_)
                    refine AS.cons (sp_asg (v := .int _ _) rfl ?_)
                    refine AS.nil ?_
                    intro _ S
                    exact ⟨i + 1, _, by omega, by omega, ⟨by simp [upd], by show Value.bool (decide _) = Value.bool (okAll b); rw [hok', decide_eq_true k5], trivial⟩, trivial, by repeat (first | exact Agr.refl _ _ | exact Agr.msk _ _ _ | refine Agr.upd ?_ _ rfl | refine Agr.upds ?_ rfl | refine Agr.mskIn ?_ rfl), by repeat (first | exact Agr.refl _ _ | exact Agr.msk _ _ _ | refine Agr.upd ?_ _ rfl | refine Agr.upds ?_ rfl | refine Agr.mskIn ?_ rfl), rfl, S⟩
                  · exact absurd k4 (of_decide_eq_false g104)
                · exact absurd k3 (of_decide_eq_false g99)
              · exact absurd k2 (of_decide_eq_false g94)
            · exact absurd k1 (of_decide_eq_false g89)
          · skip
            refine W.exit ?_
            refine W.seq (W.region S ?_)
            refine AS.cons (sp_move (v := .bool _) rfl ?_)
            refine AS.cons (sp_asg (v := .bool _) rfl ?_)
            refine AS.nil ?_
            intro _ S
            refine W.ret ?_
            exact ret1 rfl rfl S fun w' S' => ⟨by first | rfl | exact congrArg Value.bool g72.symm, S'.mod⟩
        · skip
          refine AS.cons (sp_skip rfl ?_)
          refine AS.cons (sp_skip rfl ?_)
          refine AS.cons (sp_skip rfl ?_)
          refine AS.cons (sp_skip rfl ?_)
          refine AS.cons (sp_skip rfl ?_)
          refine AS.cons (sp_pick_f rfl (v := .bool _) rfl ?_)
          refine AS.nil ?_
          intro _ S
          refine W.cond (b := false) rfl (fun h => nomatch h) (fun _ => ?_)
          refine W.exit ?_
          refine W.seq (W.region S ?_)
          refine AS.cons (sp_move (v := .bool _) rfl ?_)
          refine AS.cons (sp_asg (v := .bool _) rfl ?_)
          refine AS.nil ?_
          intro _ S
          refine W.ret ?_
          exact ret1 rfl rfl S fun w' S' => ⟨by first | rfl | exact congrArg Value.bool g72.symm, S'.mod⟩
    · skip
      refine AS.cons (sp_skip rfl ?_)
      refine AS.cons (sp_skip rfl ?_)
      refine AS.cons (sp_skip rfl ?_)
      refine AS.cons (sp_skip rfl ?_)
      refine AS.cons (sp_skip rfl ?_)
      refine AS.cons (sp_pick_f rfl (v := .bool _) rfl ?_)
      refine AS.nil ?_
      intro _ S
      refine W.cond (b := false) rfl (fun h => nomatch h) (fun _ => ?_)
      refine W.exit ?_
      refine W.seq (W.seq (W.region S ?_))
      refine AS.cons (sp_asg rfl ?_)
      refine AS.nil ?_
      intro _ S
      refine W.block ?_
      refine W.loopS S [3, 5, 6, 71, 72, 73, 74, 75, 76, 77, 78, 79, 80, 81, 82, 83, 84, 85, 86, 87, 88, 89, 90, 91, 92, 93, 94, 95, 96, 97, 98, 99, 100, 101, 102, 103, 104, 105, 106, 107, 108] [6] (fun (j : Nat) => [(5, iv j), (3, .bool (okAll b))]) (fun _ => []) (fun j => j ≤ b.cries.length) (fun j => b.cries.length - j) 0 (by omega) ⟨rfl, by first | rfl | exact congrArg Value.bool g50.symm, trivial⟩ trivial ?_
      rintro i σ M w1 hi S
      refine W.seq (W.seq (W.region S ?_))
      refine AS.cons (sp_move (v := .bool _) rfl ?_)
      refine AS.cons (sp_move (v := .bool _) rfl ?_)
      refine AS.split 72 rfl (fun g72 => ?_) (fun g72 => ?_)
      · skip
        refine AS.cons (sp_move (v := .int _ _) rfl ?_)
        refine AS.cons (sp_fa rfl fo_26_5_6 ?_)
        refine AS.cons (sp_ld 1 rfl rfl sc_24 rfl ?_)
        refine AS.cons (sp_len rfl sl_24_46_7 ?_)
        refine AS.cons (sp_lss rfl rfl ?_)
        refine AS.cons (sp_pick_t rfl (v := .bool _) rfl ?_)
        refine AS.nil ?_
        intro _ S
        refine W.cond rfl (fun c78 => ?_) (fun c78 => ?_)
        · skip
          have hlt : i < b.cries.length := by have := of_decide_eq_true c78; omega
          obtain ⟨c, hxc⟩ := get_some hlt
          have hok' : okAll b = true := g72
          obtain ⟨k1, k2, k3, k4, k5, _⟩ := (okAll_ok hok').cry c (List.mem_of_getElem? hxc)
          refine W.skip ?_
          refine W.seq (W.block ?_)
          refine W.seq (W.region S ?_)
          refine AS.cons (sp_fa rfl fo_26_5_6 ?_)
          refine AS.cons (sp_ld 1 rfl rfl sc_24 rfl ?_)
          refine AS.cons (sp_move (v := .int _ _) rfl ?_)
          refine AS.cons (sp_iaR hC rfl rfl sl_24_46_7 (by first | omega | (simp only [decide_eq_true_eq, decide_eq_false_iff_not] at *; omega)) ?_)
          refine AS.cons (sp_ldaR 0 hC (fun _ h => h) rfl ag_46_7 (cries_at hxc) (by first | omega | (simp only [decide_eq_true_eq, decide_eq_false_iff_not] at *; omega)) ?_)
          refine AS.cons (sp_alloc 6 zv_46 rfl (fun b6 => ?_))
          refine AS.cons (sp_st 6 rfl rfl rfl rfl sz_46_7 rfl rfl ?_)
          refine AS.nil ?_
          intro _ S
          refine W.region S ?_
          refine AS.cons (sp_fa rfl fo_46_0_0 ?_)
          refine AS.cons (sp_ld 6 rfl rfl sc_3 rfl ?_)
          refine AS.cons (sp_call [] rfl rfl cf_44 (fun F w _ S => between _ _ _ w) ?_)
          refine AS.cons (sp_move (v := .bool _) rfl ?_)
          refine AS.split 89 rfl (fun g89 => ?_) (fun g89 => ?_)
          · skip
            refine AS.cons (sp_fa rfl fo_46_1_1 ?_)
            refine AS.cons (sp_ld 6 rfl rfl sc_3 rfl ?_)
            refine AS.cons (sp_call [] rfl rfl cf_44 (fun F w _ S => between _ _ _ w) ?_)
            refine AS.cons (sp_pick_t rfl (v := .bool _) rfl ?_)
            refine AS.cons (sp_move (v := .bool _) rfl ?_)
            refine AS.split 94 rfl (fun g94 => ?_) (fun g94 => ?_)
            · skip
              refine AS.cons (sp_fa rfl fo_46_2_2 ?_)
              refine AS.cons (sp_ld 6 rfl rfl sc_3 rfl ?_)
              refine AS.cons (sp_call [] rfl rfl cf_44 (fun F w _ S => between _ _ _ w) ?_)
              refine AS.cons (sp_pick_t rfl (v := .bool _) rfl ?_)
              refine AS.cons (sp_move (v := .bool _) rfl ?_)
              refine AS.split 99 rfl (fun g99 => ?_) (fun g99 => ?_)
              · skip
                refine AS.cons (sp_fa rfl fo_46_3_3 ?_)
                refine AS.cons (sp_lda 6 2 rfl rfl ag_44_2 rfl ?_)
                refine AS.cons (sp_call [] rfl rfl cf_48 (fun F w _ S => turns _ _ w) ?_)
                refine AS.cons (sp_pick_t rfl (v := .bool _) rfl ?_)
                refine AS.cons (sp_move (v := .bool _) rfl ?_)
                refine AS.split 104 rfl (fun g104 => ?_) (fun g104 => ?_)
                · skip
                  refine AS.cons (sp_fa rfl fo_46_4_5 ?_)
                  refine AS.cons (sp_lda 6 2 rfl rfl ag_44_2 rfl ?_)
                  refine AS.cons (sp_call [] rfl rfl cf_48 (fun F w _ S => turns _ _ w) ?_)
                  refine AS.cons (sp_pick_t rfl (v := .bool _) rfl ?_)
                  refine AS.cons (sp_asg (v := .bool _) rfl ?_)
                  refine AS.nil ?_
                  intro _ S
                  refine W.region S ?_
                  refine AS.cons (sp_move (v := .int _ _) rfl ?_)
                  refine AS.cons (sp_add rfl rfl (by first | omega | (simp only [decide_eq_true_eq, decide_eq_false_iff_not] at *; omega)) ?_)
                  refine AS.cons (sp_asg (v := .int _ _) rfl ?_)
                  refine AS.nil ?_
                  intro _ S
                  exact ⟨i + 1, _, by omega, by omega, ⟨by simp [upd], by show Value.bool (decide _) = Value.bool (okAll b); rw [hok', decide_eq_true k5], trivial⟩, trivial, by repeat (first | exact Agr.refl _ _ | exact Agr.msk _ _ _ | refine Agr.upd ?_ _ rfl | refine Agr.upds ?_ rfl | refine Agr.mskIn ?_ rfl), by repeat (first | exact Agr.refl _ _ | exact Agr.msk _ _ _ | refine Agr.upd ?_ _ rfl | refine Agr.upds ?_ rfl | refine Agr.mskIn ?_ rfl), rfl, S⟩
                · exact absurd k4 (of_decide_eq_false g104)
              · exact absurd k3 (of_decide_eq_false g99)
            · exact absurd k2 (of_decide_eq_false g94)
          · exact absurd k1 (of_decide_eq_false g89)
        · skip
          refine W.exit ?_
          refine W.seq (W.region S ?_)
          refine AS.cons (sp_move (v := .bool _) rfl ?_)
          refine AS.cons (sp_asg (v := .bool _) rfl ?_)
          refine AS.nil ?_
          intro _ S
          refine W.ret ?_
          exact ret1 rfl rfl S fun w' S' => ⟨by first | rfl | exact congrArg Value.bool g72.symm, S'.mod⟩
      · skip
        refine AS.cons (sp_skip rfl ?_)
        refine AS.cons (sp_skip rfl ?_)
        refine AS.cons (sp_skip rfl ?_)
        refine AS.cons (sp_skip rfl ?_)
        refine AS.cons (sp_skip rfl ?_)
        refine AS.cons (sp_pick_f rfl (v := .bool _) rfl ?_)
        refine AS.nil ?_
        intro _ S
        refine W.cond (b := false) rfl (fun h => nomatch h) (fun _ => ?_)
        refine W.exit ?_
        refine W.seq (W.region S ?_)
        refine AS.cons (sp_move (v := .bool _) rfl ?_)
        refine AS.cons (sp_asg (v := .bool _) rfl ?_)
        refine AS.nil ?_
        intro _ S
        refine W.ret ?_
        exact ret1 rfl rfl S fun w' S' => ⟨by first | rfl | exact congrArg Value.bool g72.symm, S'.mod⟩
/-- The squares of water, as far as j. -/
def wtI (b : Bk) (j : Nat) : List Int := (wtU b j).map fun (n : Nat) => (n : Int)
theorem wtI_succ (b : Bk) (j : Nat) : wtI b (j + 1) = if (j : Int) ∈ b.land then wtI b j else wtI b j ++ [(j : Int)] := by
  unfold wtI
  rw [wtU_succ]
  split <;> simp
theorem wtI_len (b : Bk) (j : Nat) : (wtI b j).length ≤ j := by unfold wtI; rw [List.length_map]; exact wtU_len b j
theorem waterF (hbk : BookOk b) (w : World) (hl : Ints w la lc b.land) : Ct Tryd.prog 51 #[.agg (bkL b la lc ca cc).toArray] w
    (fun u w' => ∃ i, ((∃ a c, u = .slice a (wtI b (sq b)).length c ∧ (wtI b (sq b)).length ≤ c) ∧ i = slc 3 1 u (wtI b (sq b)).length ((wtI b (sq b)).map iv)) ∧ St no w w' (upd eL 0 i) []) := by
  refine fn_intro (args := [.agg (bkL b la lc ca cc).toArray]) Tryd.func51 rfl rfl (by kernel_rfl) ?_
  have S := St.start no w
  have hb := hbk.num
  have hsq := sq_le hb
  have hw := hb.1
  have hh := hb.2.1
  have hll := hbk.ll
  have hm := mulS (a := b.wide) (b := b.high) (by omega) (by omega)
  refine W.seq (W.region S ?_)
  refine AS.cons (sp_boxa 1 rfl (fun b1 => ?_))
  refine AS.cons (sp_asg rfl ?_)
  refine AS.nil ?_
  intro _ S
  refine W.seq (W.region S ?_)
  refine AS.cons (sp_asg rfl ?_)
  refine AS.nil ?_
  intro _ S
  refine W.seq (W.seq (W.region S ?_))
  refine AS.cons (sp_asg rfl ?_)
  refine AS.nil ?_
  intro _ S
  have S := (S.drop 901).weak (k := 901) (i := slc 3 1 nilS 0 []) (fun f hf => by rw [upd_same] at hf; exact slc_nil 3 1 f hf)
  refine W.block ?_
  refine W.loopS S [3, 4, 5, 6, 7, 8, 9, 10, 11, 12, 13, 14, 15, 16, 17, 18, 19, 20, 21, 22] [21, 22, 901] (fun (z : Nat × Value) => [(4, iv z.1), (3, z.2)]) (fun z => [(901, slc 3 1 z.2 (wtI b z.1).length ((wtI b z.1).map iv))]) (fun z => z.1 ≤ sq b ∧ ∃ a c, z.2 = .slice a (wtI b z.1).length c) (fun z => sq b - z.1) (0, nilS) ⟨by omega, none, 0, rfl⟩ ⟨rfl, rfl, trivial⟩ ⟨rfl, trivial⟩ ?_
  rintro ⟨j, v⟩ σ M w1 ⟨hj, a, c, hva⟩ S
  replace hj : j ≤ sq b := hj
  replace hva : v = .slice a (wtI b j).length c := hva
  subst hva
  have hbl := wtI_len b j
  refine W.seq (W.seq (W.region S ?_))
  refine AS.cons (sp_move (v := .int _ _) rfl ?_)
  refine AS.cons (sp_fa rfl fo_26_0_0 ?_)
  refine AS.cons (sp_ld 1 rfl rfl sc_3 rfl ?_)
  refine AS.cons (sp_fa rfl fo_26_1_1 ?_)
  refine AS.cons (sp_ld 1 rfl rfl sc_3 rfl ?_)
  refine AS.cons (sp_mul rfl rfl (mulB (by first | omega | (simp only [decide_eq_true_eq, decide_eq_false_iff_not] at *; omega)) (by first | omega | (simp only [decide_eq_true_eq, decide_eq_false_iff_not] at *; omega))) ?_)
  refine AS.cons (sp_lss rfl rfl ?_)
  refine AS.nil ?_
  intro _ S
  refine W.condd rfl (fun c11 => ?_) (fun c11 => ?_)
  · skip
    have hlt : j < sq b := by omega
    refine W.skip ?_
    refine W.seq (W.block ?_)
    refine W.seq (W.region S ?_)
    refine AS.cons (sp_fa rfl fo_26_2_2 ?_)
    refine AS.cons (sp_ld 1 rfl rfl sc_22 rfl ?_)
    refine AS.cons (sp_move (v := .int _ _) rfl ?_)
    refine AS.cons (sp_call [] rfl rfl cf_41 (fun F w _ S => place _ _ _ _ (by omega) w (hl.ext S.mod)) ?_)
    refine AS.cons (sp_lss rfl rfl ?_)
    refine AS.nil ?_
    intro _ S
    refine W.condd rfl (fun c18 => ?_) (fun c18 => ?_)
    · skip
      have hnl := (ix_lt b.land j).1 c18
      have hw : wtI b (j + 1) = wtI b j ++ [(j : Int)] := by rw [wtI_succ, if_neg hnl]
      refine W.region S ?_
      refine AS.cons (sp_move rfl ?_)
      refine AS.cons (sp_move (v := .int _ _) rfl ?_)
      refine AS.cons (sp_bs 21 [.tmp 20] _ sl_22_3_1 zs_3_1 rfl rfl rfl rfl rfl rfl (fun b21 => ?_))
      refine AS.cons (sp_app 901 [21] rfl rfl sl_22_3_1 zs_3_1 rfl (fun F w hF S => rd_pt (S.get ((hF 21 (by simp)).trans rfl)).1 rfl (by omega) (by omega)) rfl (by first | omega | (simp only [] at *; omega)) (fun a22 c22 => ?_))
      refine AS.cons (sp_asg rfl ?_)
      refine AS.nil ?_
      intro _ S
      refine W.region S ?_
      refine AS.cons (sp_move (v := .int _ _) rfl ?_)
      refine AS.cons (sp_add rfl rfl (by first | omega | (simp only [decide_eq_true_eq, decide_eq_false_iff_not] at *; omega)) ?_)
      refine AS.cons (sp_asg (v := .int _ _) rfl ?_)
      refine AS.nil ?_
      intro _ S
      first | exact ⟨(j + 1, .slice a22 ((wtI b j).length + 1) c22), _, ⟨by show j + 1 ≤ sq b; omega, a22, c22, by show _ = Value.slice a22 (wtI b (j + 1)).length c22; rw [hw, List.length_append]; rfl⟩, by show sq b - (j + 1) < sq b - j; omega, ⟨by simp [upd], rfl, trivial⟩, ⟨by show slc 3 1 _ _ _ = slc 3 1 _ _ _; rw [hw, List.length_append, List.map_append]; rfl, trivial⟩, by repeat (first | exact Agr.refl _ _ | exact Agr.msk _ _ _ | refine Agr.upd ?_ _ rfl | refine Agr.upds ?_ rfl | refine Agr.mskIn ?_ rfl), by repeat (first | exact Agr.refl _ _ | exact Agr.msk _ _ _ | refine Agr.upd ?_ _ rfl | refine Agr.upds ?_ rfl | refine Agr.mskIn ?_ rfl), rfl, S⟩ | exact ⟨(j + 1, .slice a (wtI b j).length c), _, ⟨by show j + 1 ≤ sq b; omega, a, c, by rw [hw]⟩, by show sq b - (j + 1) < sq b - j; omega, ⟨by simp [upd], rfl, trivial⟩, ⟨by show slc 3 1 _ _ _ = slc 3 1 _ _ _; rw [hw], trivial⟩, by repeat (first | exact Agr.refl _ _ | exact Agr.msk _ _ _ | refine Agr.upd ?_ _ rfl | refine Agr.upds ?_ rfl | refine Agr.mskIn ?_ rfl), by repeat (first | exact Agr.refl _ _ | exact Agr.msk _ _ _ | refine Agr.upd ?_ _ rfl | refine Agr.upds ?_ rfl | refine Agr.mskIn ?_ rfl), rfl, S⟩
    · skip
      have hil : (j : Int) ∈ b.land := Decidable.not_not.1 fun hn => c18 ((ix_lt b.land j).2 hn)
      have hw : wtI b (j + 1) = wtI b j := by rw [wtI_succ, if_pos hil]
      refine W.skip ?_
      refine W.region S ?_
      refine AS.cons (sp_move (v := .int _ _) rfl ?_)
      refine AS.cons (sp_add rfl rfl (by first | omega | (simp only [decide_eq_true_eq, decide_eq_false_iff_not] at *; omega)) ?_)
      refine AS.cons (sp_asg (v := .int _ _) rfl ?_)
      refine AS.nil ?_
      intro _ S
      first | exact ⟨(j + 1, .slice a22 ((wtI b j).length + 1) c22), _, ⟨by show j + 1 ≤ sq b; omega, a22, c22, by show _ = Value.slice a22 (wtI b (j + 1)).length c22; rw [hw, List.length_append]; rfl⟩, by show sq b - (j + 1) < sq b - j; omega, ⟨by simp [upd], rfl, trivial⟩, ⟨by show slc 3 1 _ _ _ = slc 3 1 _ _ _; rw [hw, List.length_append, List.map_append]; rfl, trivial⟩, by repeat (first | exact Agr.refl _ _ | exact Agr.msk _ _ _ | refine Agr.upd ?_ _ rfl | refine Agr.upds ?_ rfl | refine Agr.mskIn ?_ rfl), by repeat (first | exact Agr.refl _ _ | exact Agr.msk _ _ _ | refine Agr.upd ?_ _ rfl | refine Agr.upds ?_ rfl | refine Agr.mskIn ?_ rfl), rfl, S⟩ | exact ⟨(j + 1, .slice a (wtI b j).length c), _, ⟨by show j + 1 ≤ sq b; omega, a, c, by rw [hw]⟩, by show sq b - (j + 1) < sq b - j; omega, ⟨by simp [upd], rfl, trivial⟩, ⟨by show slc 3 1 _ _ _ = slc 3 1 _ _ _; rw [hw], trivial⟩, by repeat (first | exact Agr.refl _ _ | exact Agr.msk _ _ _ | refine Agr.upd ?_ _ rfl | refine Agr.upds ?_ rfl | refine Agr.mskIn ?_ rfl), by repeat (first | exact Agr.refl _ _ | exact Agr.msk _ _ _ | refine Agr.upd ?_ _ rfl | refine Agr.upds ?_ rfl | refine Agr.mskIn ?_ rfl), rfl, S⟩
  · skip
    obtain rfl : j = sq b := by omega
    refine W.exit ?_
    refine W.seq (W.region S ?_)
    refine AS.cons (sp_move rfl ?_)
    refine AS.cons (sp_asg rfl ?_)
    refine AS.nil ?_
    intro _ S
    refine W.ret ?_
    exact ret1 rfl rfl S fun w' S' => let ⟨_, a1, c1, hv1, hv2, _⟩ := S'.slc_form (k := 901) rfl; ⟨_, ⟨⟨a1, c1, hv1, hv2⟩, rfl⟩, S'.only 901⟩
/-- The number of a list to which any number leads. -/
def pickV (l : List Int) (n : Int) : Int := if l.length < 1 then 0 else l.getD (if (l.length : Int) < 2 then 0 else n % l.length).toNat 0
theorem pickV_mem {l : List Int} (h : 0 < l.length) (n : Int) : pickV l n ∈ l := by
  unfold pickV
  rw [if_neg (by omega)]
  have hx : (if (l.length : Int) < 2 then 0 else n % l.length).toNat < l.length := by
    split
    · simpa using h
    · have := Int.emod_lt_of_pos n (show (0 : Int) < l.length by omega)
      have := Int.emod_nonneg n (show (l.length : Int) ≠ 0 by omega)
      omega
  rw [List.getD_eq_getElem?_getD, List.getElem?_eq_getElem hx]
  exact List.getElem_mem hx
theorem pickF (ga : Option Addr) (gc : Nat) (l : List Int) (hn : l.length ≤ 1000000) (n : Int) (w : World) (hg : Ints w ga gc l) : Ct Tryd.prog 94 #[.slice ga l.length gc, iv n] w (fun u w' => u = iv (pickV l n) ∧ Ext w w') := by
  refine fn_intro (args := [.slice ga l.length gc, iv n]) Tryd.func94 rfl rfl (by kernel_rfl) ?_
  have S := St.start no w
  refine W.seq (W.region S ?_)
  refine AS.cons (sp_asg rfl ?_)
  refine AS.nil ?_
  intro _ S
  refine W.seq (W.seq (W.region S ?_))
  refine AS.cons (sp_move rfl ?_)
  refine AS.cons (sp_len rfl sl_22_3_1 ?_)
  refine AS.cons (sp_lss rfl rfl ?_)
  refine AS.nil ?_
  intro _ S
  refine W.condd rfl (fun c7 => ?_) (fun c7 => ?_)
  · skip
    have hv : pickV l n = 0 := by unfold pickV; rw [if_pos (by omega)]
    refine W.seq (W.region S ?_)
    refine AS.cons (sp_asg rfl ?_)
    refine AS.nil ?_
    intro _ S
    refine W.ret ?_
    exact ret1 rfl rfl S fun w' S' => ⟨congrArg iv hv.symm, S'.mod⟩
  · skip
    obtain ⟨i, hi⟩ : ∃ i : Nat, (if (l.length : Int) < 2 then 0 else n % l.length) = (i : Int) := ⟨(if (l.length : Int) < 2 then 0 else n % l.length).toNat, by
      rw [Int.toNat_of_nonneg]; split
      · omega
      · exact Int.emod_nonneg n (by omega)⟩
    have hil : i < l.length := by
      split at hi
      · omega
      · have := Int.emod_lt_of_pos n (show (0 : Int) < l.length by omega)
        omega
    obtain ⟨x, hx⟩ := get_some hil
    have hv : pickV l n = x := by unfold pickV; rw [if_neg (by omega), hi, Int.toNat_natCast, List.getD_eq_getElem?_getD, hx]; rfl
    refine W.skip ?_
    refine W.seq (W.region S ?_)
    refine AS.cons (sp_move rfl ?_)
    refine AS.cons (sp_move (v := .int _ _) rfl ?_)
    refine AS.cons (sp_move rfl ?_)
    refine AS.cons (sp_len rfl sl_22_3_1 ?_)
    refine AS.cons (sp_call [] rfl rfl cf_40 (fun F w _ S => by have h := wheel n (l.length : Int) (by omega) w; rw [hi] at h; exact h) ?_)
    refine AS.cons (sp_iaR hg rfl rfl sl_22_3_1 (by first | omega | (simp only [decide_eq_true_eq, decide_eq_false_iff_not] at *; omega)) ?_)
    refine AS.cons (sp_ldR 0 hg (fun _ h => h) rfl sc_3 (ints_at hx) (by first | omega | (simp only [decide_eq_true_eq, decide_eq_false_iff_not] at *; omega)) ?_)
    refine AS.cons (sp_asg (v := .int _ _) rfl ?_)
    refine AS.nil ?_
    intro _ S
    refine W.ret ?_
    exact ret1 rfl rfl S fun w' S' => ⟨congrArg iv hv.symm, S'.mod⟩
theorem risesF (ga : Option Addr) (gc : Nat) (l : List Int) (N : Nat) (hN : N ≤ 1000000) (hu : Up 0 N l) (w : World) (hg : Ints w ga gc l) : Ct Tryd.prog 42 #[.slice ga l.length gc, iv N] w (fun u w' => u = .bool true ∧ Ext w w') := by
  refine fn_intro (args := [.slice ga l.length gc, iv N]) Tryd.func42 rfl rfl (by kernel_rfl) ?_
  have S := St.start no w
  have hln : l.length ≤ 9223372036854775807 := hg.2.1
  refine W.seq (W.region S ?_)
  refine AS.cons (sp_asg rfl ?_)
  refine AS.nil ?_
  intro _ S
  refine W.seq (W.region S ?_)
  refine AS.cons (sp_asg rfl ?_)
  refine AS.nil ?_
  intro _ S
  refine W.seq (W.seq (W.region S ?_))
  refine AS.cons (sp_asg rfl ?_)
  refine AS.nil ?_
  intro _ S
  refine W.block ?_
  refine W.loopS S [4, 5, 6, 7, 8, 9, 10, 11, 12, 13, 14, 15, 16, 17, 18, 19, 20, 21, 22, 23, 24, 25, 26] [] (fun (z : Nat × Int) => [(6, iv z.1), (5, iv z.2)]) (fun _ => []) (fun z => z.1 ≤ l.length ∧ 0 ≤ z.2 ∧ z.2 ≤ N ∧ Up z.2 N (l.drop z.1)) (fun z => l.length - z.1) (0, 0) ⟨by omega, Int.le_refl 0, by omega, hu⟩ ⟨rfl, rfl, trivial⟩ trivial ?_
  rintro ⟨j, m⟩ σ M w1 ⟨hj, hm0, hmN, hud⟩ S
  replace hj : j ≤ l.length := hj
  replace hm0 : 0 ≤ m := hm0
  replace hmN : m ≤ N := hmN
  replace hud : Up m N (l.drop j) := hud
  refine W.seq (W.seq (W.region S ?_))
  refine AS.cons (sp_move (v := .int _ _) rfl ?_)
  refine AS.cons (sp_move rfl ?_)
  refine AS.cons (sp_len rfl sl_22_3_1 ?_)
  refine AS.cons (sp_lss rfl rfl ?_)
  refine AS.nil ?_
  intro _ S
  refine W.condd rfl (fun c10 => ?_) (fun c10 => ?_)
  · skip
    have hlt : j < l.length := by omega
    obtain ⟨x, hx⟩ := get_some hlt
    obtain ⟨hxl, hxe⟩ := List.getElem?_eq_some_iff.1 hx
    rw [List.drop_eq_getElem_cons hlt, hxe] at hud
    obtain ⟨hx1, hx2, hud'⟩ := hud
    refine W.skip ?_
    refine W.seq (W.block ?_)
    refine W.seq (W.seq (W.region S ?_))
    refine AS.cons (sp_move rfl ?_)
    refine AS.cons (sp_move (v := .int _ _) rfl ?_)
    refine AS.cons (sp_iaR hg rfl rfl sl_22_3_1 (by first | omega | (simp only [decide_eq_true_eq, decide_eq_false_iff_not] at *; omega)) ?_)
    refine AS.cons (sp_ldR 0 hg (fun _ h => h) rfl sc_3 (ints_at hx) (by first | omega | (simp only [decide_eq_true_eq, decide_eq_false_iff_not] at *; omega)) ?_)
    refine AS.cons (sp_move (v := .int _ _) rfl ?_)
    refine AS.cons (sp_move (v := .int _ _) rfl ?_)
    refine AS.cons (sp_sub rfl rfl (by first | omega | (simp only [decide_eq_true_eq, decide_eq_false_iff_not] at *; omega)) ?_)
    refine AS.cons (sp_call [] rfl rfl cf_44 (fun F w _ S => between _ _ _ w) ?_)
    refine AS.cons (sp_not rfl ?_)
    refine AS.nil ?_
    intro _ S
    refine W.cond rfl (fun c21 => ?_) (fun c21 => ?_)
    · exfalso; rw [decide_eq_true (show m ≤ x ∧ x ≤ (N : Int) - 1 by omega)] at c21; cases c21
    · skip
      refine W.skip ?_
      refine W.region S ?_
      refine AS.cons (sp_move rfl ?_)
      refine AS.cons (sp_move (v := .int _ _) rfl ?_)
      refine AS.cons (sp_iaR hg rfl rfl sl_22_3_1 (by first | omega | (simp only [decide_eq_true_eq, decide_eq_false_iff_not] at *; omega)) ?_)
      refine AS.cons (sp_ldR 0 hg (fun _ h => h) rfl sc_3 (ints_at hx) (by first | omega | (simp only [decide_eq_true_eq, decide_eq_false_iff_not] at *; omega)) ?_)
      refine AS.cons (sp_add rfl rfl (by first | omega | (simp only [decide_eq_true_eq, decide_eq_false_iff_not] at *; omega)) ?_)
      refine AS.cons (sp_asg (v := .int _ _) rfl ?_)
      refine AS.nil ?_
      intro _ S
      refine W.region S ?_
      refine AS.cons (sp_move (v := .int _ _) rfl ?_)
      refine AS.cons (sp_add rfl rfl (by first | omega | (simp only [decide_eq_true_eq, decide_eq_false_iff_not] at *; omega)) ?_)
      refine AS.cons (sp_asg (v := .int _ _) rfl ?_)
      refine AS.nil ?_
      intro _ S
      exact ⟨(j + 1, x + 1), _, ⟨hlt, by show 0 ≤ x + 1; omega, by show x + 1 ≤ (N : Int); omega, hud'⟩, by show l.length - (j + 1) < l.length - j; omega, ⟨by simp [upd], rfl, trivial⟩, trivial, by repeat (first | exact Agr.refl _ _ | exact Agr.msk _ _ _ | refine Agr.upd ?_ _ rfl | refine Agr.upds ?_ rfl | refine Agr.mskIn ?_ rfl), by repeat (first | exact Agr.refl _ _ | exact Agr.msk _ _ _ | refine Agr.upd ?_ _ rfl | refine Agr.upds ?_ rfl | refine Agr.mskIn ?_ rfl), rfl, S⟩
  · skip
    refine W.exit ?_
    refine W.seq (W.region S ?_)
    refine AS.cons (sp_asg rfl ?_)
    refine AS.nil ?_
    intro _ S
    refine W.ret ?_
    exact ret1 rfl rfl S fun w' S' => ⟨rfl, S'.mod⟩
theorem withoutL (ga : Option Addr) (gc : Nat) (l : List Int) (hln : l.length ≤ 1000000) (hn : b.cries.length ≤ 60) (w : World) (hC : Cries w ca cc b.cries) (hg : Ints w ga gc l) : Ct Tryd.prog 52 #[.agg (bkL b la lc ca cc).toArray, .slice ga l.length gc] w
    (fun u w' => ∃ i, CrR (wo b (inQ l)) la lc u i ∧ St no w w' (upd eL 0 i) []) := by
  refine fn_intro (args := [.agg (bkL b la lc ca cc).toArray, .slice ga l.length gc]) Tryd.func52 rfl rfl (by kernel_rfl) ?_
  have S := St.start no w
  refine W.seq (W.region S ?_)
  refine AS.cons (sp_boxa 2 rfl (fun b2 => ?_))
  refine AS.cons (sp_alloc 4 zv_26 rfl (fun b4 => ?_))
  refine AS.nil ?_
  intro _ S
  refine W.seq (W.region S ?_)
  refine AS.cons (sp_ldw 2 rfl rfl ag_26_7 ?_)
  refine AS.cons (sp_alloc 5 zv_26 rfl (fun b5 => ?_))
  refine AS.cons (sp_st 5 rfl rfl rfl rfl sz_26_7 rfl rfl ?_)
  refine AS.nil ?_
  intro _ S
  refine W.seq (W.region S ?_)
  refine AS.cons (sp_fa rfl fo_26_5_6 ?_)
  refine AS.cons (sp_st 5 rfl rfl rfl rfl sz_24_1 rfl rfl ?_)
  refine AS.nil ?_
  intro _ S
  refine W.seq (W.seq (W.region S ?_))
  refine AS.cons (sp_asg rfl ?_)
  refine AS.nil ?_
  intro _ S
  have S := (S.drop 901).weak (k := 901) (i := slc 46 7 nilS 0 []) (fun f hf => by rw [upd_same] at hf; exact slc_nil 46 7 f hf)
  refine W.block ?_
  refine W.loopS S [6, 9, 10, 11, 12, 13, 14, 15, 16, 17, 18, 19, 20, 21, 22, 23, 24, 25, 26, 27, 28, 29] [5, 27, 28, 901] (fun (z : Nat × Option Addr × Nat) => [(6, iv z.1)]) (fun z => [(5, pt b5 (.cells (bkL (woU b (inQ l) z.1) la lc z.2.1 z.2.2).toArray 26 (0, 0))), (901, CrS (woU b (inQ l) z.1) z.2.1 z.2.2)]) (fun z => z.1 ≤ b.cries.length) (fun z => b.cries.length - z.1) (0, none, 0) (Nat.zero_le _) ⟨rfl, trivial⟩ ⟨rfl, rfl, trivial⟩ ?_
  rintro ⟨j, a, c⟩ σ M w1 hj S
  replace hj : j ≤ b.cries.length := hj
  have hkl := kpU_len b.cries (inQ l) j
  refine W.seq (W.seq (W.region S ?_))
  refine AS.cons (sp_move (v := .int _ _) rfl ?_)
  refine AS.cons (sp_fa rfl fo_26_5_6 ?_)
  refine AS.cons (sp_ld 2 rfl rfl sc_24 rfl ?_)
  refine AS.cons (sp_len rfl sl_24_46_7 ?_)
  refine AS.cons (sp_lss rfl rfl ?_)
  refine AS.nil ?_
  intro _ S
  refine W.condd rfl (fun c13 => ?_) (fun c13 => ?_)
  · skip
    have hlt : j < b.cries.length := by omega
    obtain ⟨x, hx⟩ := get_some hlt
    refine W.skip ?_
    refine W.seq (W.block ?_)
    refine W.seq (W.region S ?_)
    refine AS.cons (sp_move rfl ?_)
    refine AS.cons (sp_move (v := .int _ _) rfl ?_)
    refine AS.cons (sp_call [] rfl rfl cf_41 (fun F w _ S => place ga gc l j hln w (hg.ext S.mod)) ?_)
    refine AS.cons (sp_lss rfl rfl ?_)
    refine AS.nil ?_
    intro _ S
    refine W.condd rfl (fun c19 => ?_) (fun c19 => ?_)
    · skip
      have hq : inQ l j = false := decide_eq_false ((ix_lt l j).1 c19)
      have hw : kpU b.cries (inQ l) (j + 1) = kpU b.cries (inQ l) j ++ [x] := by rw [kpU_succ hx, if_neg (by simp [hq])]
      refine W.draw S mixed (fun i => ([KD.q [], KD.q [5], KD.q [], KD.q [2], KD.q [], KD.q [], KD.q [], KD.a 27, KD.e [901, 27] [901], KD.q [], KD.e [5] [5]] : List KD)[i]?) [] [0, 1, 2, 3, 4, 5, 6, 7, 8, 9, 10] (by kernel_rfl) ?_
      refine AW.cons rfl rfl (sp_fa rfl fo_26_5_6 ?_)
      refine AW.cons rfl rfl (sp_ld 5 rfl rfl sc_24 rfl ?_)
      refine AW.cons rfl rfl (sp_fa rfl fo_26_5_6 ?_)
      refine AW.cons rfl rfl (sp_ld 2 rfl rfl sc_24 rfl ?_)
      refine AW.cons rfl rfl (sp_move (v := .int _ _) rfl ?_)
      refine AW.cons rfl rfl (sp_iaR hC rfl rfl sl_24_46_7 (by first | omega | (simp only [decide_eq_true_eq, decide_eq_false_iff_not] at *; omega)) ?_)
      refine AW.cons rfl rfl (sp_ldaR 0 hC (fun _ h => h) rfl ag_46_7 (cries_at hx) (by first | omega | (simp only [decide_eq_true_eq, decide_eq_false_iff_not] at *; omega)) ?_)
      refine AW.cons rfl rfl (sp_bs 27 [.tmp 26] _ sl_24_46_7 zs_46_7 rfl rfl rfl rfl rfl rfl (fun b27 => ?_))
      refine AW.cons rfl rfl (sp_app 901 [27] rfl rfl sl_24_46_7 zs_46_7 rfl (fun F w hF S => rd_pt (S.get ((hF 27 (by simp)).trans rfl)).1 rfl (by omega) (by omega)) rfl (by first | omega | (simp only [] at *; omega)) (fun a28 c28 => ?_))
      refine AW.cons rfl rfl (sp_fa rfl fo_26_5_6 ?_)
      refine AW.cons rfl rfl (sp_st 5 rfl rfl rfl rfl sz_24_1 rfl rfl ?_)
      refine AW.nil ?_
      intro _ S
      refine W.region S ?_
      refine AS.cons (sp_move (v := .int _ _) rfl ?_)
      refine AS.cons (sp_add rfl rfl (by first | omega | (simp only [decide_eq_true_eq, decide_eq_false_iff_not] at *; omega)) ?_)
      refine AS.cons (sp_asg (v := .int _ _) rfl ?_)
      refine AS.nil ?_
      intro _ S
      first | exact ⟨(j + 1, a28, c28), _, hlt, by show b.cries.length - (j + 1) < b.cries.length - j; omega, ⟨by simp [upd], trivial⟩, ⟨by show pt b5 _ = pt b5 (.cells [iv b.wide, iv b.high, .slice la b.land.length lc, iv b.h0, iv b.h1, iv b.swim, .slice a28 (kpU b.cries (inQ l) (j + 1)).length c28].toArray 26 (0, 0)); rw [hw, List.length_append]; rfl, by show slc 46 7 _ _ _ = slc 46 7 (.slice a28 (kpU b.cries (inQ l) (j + 1)).length c28) (kpU b.cries (inQ l) (j + 1)).length ((kpU b.cries (inQ l) (j + 1)).flatMap cyL); rw [hw, List.length_append, List.flatMap_append]; rfl, trivial⟩, by repeat (first | exact Agr.refl _ _ | exact Agr.msk _ _ _ | refine Agr.upd ?_ _ rfl | refine Agr.upds ?_ rfl | refine Agr.mskIn ?_ rfl), by repeat (first | exact Agr.refl _ _ | exact Agr.msk _ _ _ | refine Agr.upd ?_ _ rfl | refine Agr.upds ?_ rfl | refine Agr.mskIn ?_ rfl), rfl, S⟩ | exact ⟨(j + 1, a, c), _, hlt, by show b.cries.length - (j + 1) < b.cries.length - j; omega, ⟨by simp [upd], trivial⟩, ⟨by show pt b5 _ = pt b5 (.cells [iv b.wide, iv b.high, .slice la b.land.length lc, iv b.h0, iv b.h1, iv b.swim, .slice a (kpU b.cries (inQ l) (j + 1)).length c].toArray 26 (0, 0)); rw [hw], by show slc 46 7 _ _ _ = slc 46 7 (.slice a (kpU b.cries (inQ l) (j + 1)).length c) (kpU b.cries (inQ l) (j + 1)).length ((kpU b.cries (inQ l) (j + 1)).flatMap cyL); rw [hw], trivial⟩, by repeat (first | exact Agr.refl _ _ | exact Agr.msk _ _ _ | refine Agr.upd ?_ _ rfl | refine Agr.upds ?_ rfl | refine Agr.mskIn ?_ rfl), by repeat (first | exact Agr.refl _ _ | exact Agr.msk _ _ _ | refine Agr.upd ?_ _ rfl | refine Agr.upds ?_ rfl | refine Agr.mskIn ?_ rfl), rfl, S⟩
    · skip
      have hq : inQ l j = true := decide_eq_true (Decidable.not_not.1 fun hn => c19 ((ix_lt l j).2 hn))
      have hw : kpU b.cries (inQ l) (j + 1) = kpU b.cries (inQ l) j := by rw [kpU_succ hx, if_pos hq]
      refine W.skip ?_
      refine W.region S ?_
      refine AS.cons (sp_move (v := .int _ _) rfl ?_)
      refine AS.cons (sp_add rfl rfl (by first | omega | (simp only [decide_eq_true_eq, decide_eq_false_iff_not] at *; omega)) ?_)
      refine AS.cons (sp_asg (v := .int _ _) rfl ?_)
      refine AS.nil ?_
      intro _ S
      first | exact ⟨(j + 1, a28, c28), _, hlt, by show b.cries.length - (j + 1) < b.cries.length - j; omega, ⟨by simp [upd], trivial⟩, ⟨by show pt b5 _ = pt b5 (.cells [iv b.wide, iv b.high, .slice la b.land.length lc, iv b.h0, iv b.h1, iv b.swim, .slice a28 (kpU b.cries (inQ l) (j + 1)).length c28].toArray 26 (0, 0)); rw [hw, List.length_append]; rfl, by show slc 46 7 _ _ _ = slc 46 7 (.slice a28 (kpU b.cries (inQ l) (j + 1)).length c28) (kpU b.cries (inQ l) (j + 1)).length ((kpU b.cries (inQ l) (j + 1)).flatMap cyL); rw [hw, List.length_append, List.flatMap_append]; rfl, trivial⟩, by repeat (first | exact Agr.refl _ _ | exact Agr.msk _ _ _ | refine Agr.upd ?_ _ rfl | refine Agr.upds ?_ rfl | refine Agr.mskIn ?_ rfl), by repeat (first | exact Agr.refl _ _ | exact Agr.msk _ _ _ | refine Agr.upd ?_ _ rfl | refine Agr.upds ?_ rfl | refine Agr.mskIn ?_ rfl), rfl, S⟩ | exact ⟨(j + 1, a, c), _, hlt, by show b.cries.length - (j + 1) < b.cries.length - j; omega, ⟨by simp [upd], trivial⟩, ⟨by show pt b5 _ = pt b5 (.cells [iv b.wide, iv b.high, .slice la b.land.length lc, iv b.h0, iv b.h1, iv b.swim, .slice a (kpU b.cries (inQ l) (j + 1)).length c].toArray 26 (0, 0)); rw [hw], by show slc 46 7 _ _ _ = slc 46 7 (.slice a (kpU b.cries (inQ l) (j + 1)).length c) (kpU b.cries (inQ l) (j + 1)).length ((kpU b.cries (inQ l) (j + 1)).flatMap cyL); rw [hw], trivial⟩, by repeat (first | exact Agr.refl _ _ | exact Agr.msk _ _ _ | refine Agr.upd ?_ _ rfl | refine Agr.upds ?_ rfl | refine Agr.mskIn ?_ rfl), by repeat (first | exact Agr.refl _ _ | exact Agr.msk _ _ _ | refine Agr.upd ?_ _ rfl | refine Agr.upds ?_ rfl | refine Agr.mskIn ?_ rfl), rfl, S⟩
  · skip
    obtain rfl : j = b.cries.length := by omega
    refine W.exit ?_
    refine W.seq (W.region S ?_)
    refine AS.cons (sp_ldw 5 rfl rfl ag_26_7 ?_)
    refine AS.cons (sp_st 4 rfl rfl rfl rfl sz_26_7 rfl rfl ?_)
    refine AS.nil ?_
    intro _ S
    refine W.ret ?_
    refine retc (l := bkL (wo b (inQ l)) la lc a c) 4 ag_26_7 rfl rfl rfl rfl rfl S fun w' S' => ?_
    exact ⟨_, ⟨a, c, rfl, St.slc_le S' 901 rfl, rfl⟩, S'.only 901⟩
end
end Go.Proofs.YtmpclgepoemneaaDoor
