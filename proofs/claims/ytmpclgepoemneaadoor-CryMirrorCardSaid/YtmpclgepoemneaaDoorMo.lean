/-
  Lemmas of this proof, several texts one behind the other; no condition beyond what each says.
-/
import Derived.Test.YtmpclgepoemneaaDoorMk
namespace Go.Proofs.YtmpclgepoemneaaDoor
open Go.Hu
theorem cf_49 : cfB Tryd.prog 49 = true := by kernel_rfl
theorem cf_50 : cfB Tryd.prog 50 = true := by kernel_rfl
theorem sz_23_2 : szB Tryd.prog 23 2 = true := by kernel_rfl
end Go.Proofs.YtmpclgepoemneaaDoor
/-
  How far squares are apart, and which seines inclose them.
-/
namespace Go.Proofs.YtmpclgepoemneaaDoor
open Go.Hu Go.RowKit
theorem rowA_spec (b : Bk) (l : List Int) (x acc : Int) : ∀ k, k ≤ l.length → acc ≤ rowA b l x acc k ∧ (∀ i, i < k → apX b x (l.getD i 0) ≤ rowA b l x acc k) ∧ (rowA b l x acc k = acc ∨ ∃ y ∈ l, rowA b l x acc k = apX b x y)
  | 0, _ => ⟨Int.le_refl _, fun i h => by omega, .inl rfl⟩
  | k + 1, hk => by
    obtain ⟨h1, h2, h3⟩ := rowA_spec b l x acc k (by omega)
    have hm : l.getD k 0 ∈ l := by rw [List.getD_eq_getElem?_getD, List.getElem?_eq_getElem (by omega)]; exact List.getElem_mem (by omega)
    refine ⟨?_, fun i hi => ?_, ?_⟩
    · show acc ≤ max _ _; omega
    · show _ ≤ max _ _
      rcases Nat.lt_succ_iff_lt_or_eq.1 hi with h | rfl
      · have := h2 i h; omega
      · omega
    · show max _ _ = acc ∨ ∃ y ∈ l, max _ _ = apX b x y
      rcases Int.le_total (rowA b l x acc k) (apX b x (l.getD k 0)) with h | h
      · exact .inr ⟨_, hm, Int.max_eq_right h⟩
      · rw [Int.max_eq_left h]; exact h3
theorem colA_spec (b : Bk) (l : List Int) : ∀ i, i ≤ l.length → 0 ≤ colA b l i ∧ (∀ j, j < i → ∀ y ∈ l, apX b (l.getD j 0) y ≤ colA b l i) ∧ (colA b l i = 0 ∨ ∃ x ∈ l, ∃ y ∈ l, colA b l i = apX b x y)
  | 0, _ => ⟨Int.le_refl _, fun i h => by omega, .inl rfl⟩
  | i + 1, hi => by
    obtain ⟨h1, h2, h3⟩ := colA_spec b l i (by omega)
    have hm : l.getD i 0 ∈ l := by rw [List.getD_eq_getElem?_getD, List.getElem?_eq_getElem (by omega)]; exact List.getElem_mem (by omega)
    obtain ⟨g1, g2, g3⟩ := rowA_spec b l (l.getD i 0) (colA b l i) l.length (Nat.le_refl _)
    refine ⟨Int.le_trans h1 g1, fun j hj y hy => ?_, ?_⟩
    · rcases Nat.lt_succ_iff_lt_or_eq.1 hj with h | rfl
      · exact Int.le_trans (h2 j h y hy) g1
      · obtain ⟨k, hk, rfl⟩ := List.mem_iff_getElem.1 hy
        have := g2 k hk
        rwa [List.getD_eq_getElem?_getD (i := k), List.getElem?_eq_getElem hk] at this
    · show rowA _ _ _ _ _ = 0 ∨ ∃ x ∈ l, ∃ y ∈ l, rowA _ _ _ _ _ = apX b x y
      rcases g3 with h | ⟨y, hy, h⟩
      · rw [h]; exact h3
      · exact .inr ⟨_, hm, y, hy, h⟩
theorem min_of {f : Int → Int} : ∀ {l : List Int}, l ≠ [] → ∃ x ∈ l, ∀ y ∈ l, f x ≤ f y
  | [], h => absurd rfl h
  | [x], _ => ⟨x, by simp, fun y hy => by rw [List.mem_singleton.1 hy]; exact Int.le_refl _⟩
  | x :: z :: l, _ => by
    obtain ⟨m, hm, hall⟩ := min_of (f := f) (l := z :: l) (by simp)
    by_cases h : f x ≤ f m
    · refine ⟨x, by simp, fun y hy => ?_⟩
      rcases List.mem_cons.1 hy with rfl | hy
      · exact Int.le_refl _
      · exact Int.le_trans h (hall y hy)
    · refine ⟨m, by simp [hm], fun y hy => ?_⟩
      rcases List.mem_cons.1 hy with rfl | hy
      · omega
      · exact hall y hy
abbrev incI (b : Bk) (l : List Int) (wi hi a : Int) : Bool := l.all fun z => decide (HoldsP b.wide a wi hi z)
theorem shotN_ge {b : Bk} {l : List Int} {wi hi : Int} {n : Nat} (hn : n < sq b) (h : incI b l wi hi n = true) : 0 ≤ shotN b l wi hi ∧ shotN b l wi hi ≤ n := by
  have h0 : 0 ≤ shotN b l wi hi := by
    refine Int.not_lt.1 fun hlt => ?_
    have := fstN_neg hlt n hn
    rw [show inc b l wi hi n = incI b l wi hi n from rfl, h] at this; cases this
  refine ⟨h0, ?_⟩
  obtain ⟨k, hk, _, _, hmin⟩ := fstN_spec h0
  have hk' : shotN b l wi hi = k := hk
  rw [hk']
  refine Int.not_lt.1 fun hlt => ?_
  have := hmin n (by omega)
  rw [show inc b l wi hi n = incI b l wi hi n from rfl, h] at this; cases this
theorem incI_of {b : Bk} {l : List Int} {wi hi a : Int} (h : ∀ z ∈ l, HoldsP b.wide a wi hi z) : incI b l wi hi a = true := by
  rw [List.all_eq_true]
  exact fun z hz => decide_eq_true (h z hz)
/-- A seine of one more than they are apart incloses them. -/
theorem apart_in {b : Bk} (hb : Num b) {l : List Int} (hl : l ≠ []) (hx : ∀ z ∈ l, 0 ≤ z ∧ z < sq b) : 0 ≤ shotN b l (colA b l l.length + 1) (colA b l l.length + 1) := by
  obtain ⟨_, hmax, _⟩ := colA_spec b l l.length (Nat.le_refl _)
  have hmx : ∀ x ∈ l, ∀ y ∈ l, apX b x y ≤ colA b l l.length := fun x hxm y hy => by
    obtain ⟨k, hk, rfl⟩ := List.mem_iff_getElem.1 hxm
    have := hmax k hk y hy
    rwa [List.getD_eq_getElem?_getD, List.getElem?_eq_getElem hk] at this
  obtain ⟨c, hc, hcm⟩ := min_of (f := fun z => z % b.wide) hl
  obtain ⟨r, hr, hrm⟩ := min_of (f := fun z => z / b.wide) hl
  have hxy : ∀ z ∈ l, (0 ≤ z % b.wide ∧ z % b.wide < b.wide) ∧ (0 ≤ z / b.wide ∧ z / b.wide < b.high) := fun z hz => by
    obtain ⟨h0, h1⟩ := hx z hz
    have := sq_xy hb (n := z.toNat) (by omega)
    rw [Int.toNat_of_nonneg h0] at this
    exact ⟨this.1, this.2.1⟩
  obtain ⟨e1, e2, e3, e4⟩ := xy_sq hb (hxy c hc).1 (hxy r hr).2
  refine (shotN_ge (n := (r / b.wide * b.wide + c % b.wide).toNat) e2 (incI_of fun z hz => ?_)).1
  rw [Int.toNat_of_nonneg e1]
  unfold HoldsP
  rw [e3, e4]
  have h1 := hcm z hz
  have h2 := hrm z hz
  have h3 := hmx z hz c hc
  have h4 := hmx z hz r hr
  unfold apX at h3 h4
  omega
theorem apart_out {b : Bk} {l : List Int} (h : 0 < colA b l l.length) : shotN b l (colA b l l.length) (colA b l l.length) < 0 := by
  refine Int.not_le.1 fun hle => ?_
  obtain ⟨_, _, h3⟩ := colA_spec b l l.length (Nat.le_refl _)
  obtain ⟨n, _, _, hall, _⟩ := shotN_spec hle
  rcases h3 with h3 | ⟨x, hx, y, hy, h3⟩
  · omega
  · have h1 := hall x hx
    have h2 := hall y hy
    unfold HoldsP at h1 h2
    unfold apX at h3
    omega
theorem shot_mono {b : Bk} {l : List Int} {wi hi wi' hi' : Int} (h1 : wi ≤ wi') (h2 : hi ≤ hi') (h : 0 ≤ shotN b l wi hi) : 0 ≤ shotN b l wi' hi' := by
  obtain ⟨n, _, hn, hall, _⟩ := shotN_spec h
  refine (shotN_ge hn (incI_of fun z hz => ?_)).1
  have := hall z hz
  unfold HoldsP at this ⊢
  omega
theorem apart_le {b : Bk} (hb : Num b) {l : List Int} (hx : ∀ z ∈ l, 0 ≤ z ∧ z < sq b) : colA b l l.length ≤ 9 := by
  obtain ⟨_, _, h3⟩ := colA_spec b l l.length (Nat.le_refl _)
  have hxy : ∀ z ∈ l, (0 ≤ z % b.wide ∧ z % b.wide < b.wide) ∧ (0 ≤ z / b.wide ∧ z / b.wide < b.high) := fun z hz => by
    obtain ⟨h0, h1⟩ := hx z hz
    have := sq_xy hb (n := z.toNat) (by omega)
    rw [Int.toNat_of_nonneg h0] at this
    exact ⟨this.1, this.2.1⟩
  rcases h3 with h3 | ⟨x, hxm, y, hy, h3⟩
  · omega
  · have h1 := hxy x hxm
    have h2 := hxy y hy
    obtain ⟨w1, w2, _⟩ := hb
    unfold apX at h3
    omega
theorem shotE_two {b : Bk} (h1 : okAll b = true) (h2 : canB b = true) {m x y : Int} (hp : ShotP m x y) : (shotE b m x y = 0 ∧ 0 ≤ shotN b (whs b m.toNat) x y ∧ shotV b m x y = shotN b (whs b m.toNat) x y) ∨ (shotE b m x y = 4 ∧ shotN b (whs b m.toNat) x y < 0 ∧ shotV b m x y = 0) := by
  have ha : askV b (decide (ShotP m x y)) = 0 := ask_of h1 h2 (decide_eq_true hp)
  by_cases h : 0 ≤ shotN b (whs b m.toNat) x y
  · have he : shotE b m x y = 0 := by unfold shotE; rw [if_pos ha, if_pos h]
    exact .inl ⟨he, h, by unfold shotV; rw [if_pos he]⟩
  · have he : shotE b m x y = 4 := by unfold shotE; rw [if_pos ha, if_neg h]
    exact .inr ⟨he, by omega, by unfold shotV; rw [if_neg (by rw [he]; decide)]⟩
/-- What is answered of a minute and a seine. -/
theorem shot_sum {b : Bk} (hbk : BookOk b) {m wi hi : Int} (hm : 0 ≤ m ∧ m ≤ 30) (hwi : 1 ≤ wi ∧ wi ≤ 9) (hhi : 1 ≤ hi ∧ hi ≤ 9) :
    ∃ wl e ap at_ g, whereL b m = wl ∧ askV b (decide (0 ≤ m ∧ m ≤ 30)) = e ∧ apartV b m = ap ∧ shotV b m wi hi = at_ ∧ shotE b m wi hi = g ∧ wl.length ≤ 80 ∧ (∀ z ∈ wl, 0 ≤ z ∧ z < sq b) ∧
      ((e = 12 ∧ g = 12 ∧ ap = 0 ∧ at_ = 0) ∨
       (e = 0 ∧ (0 ≤ ap ∧ ap ≤ 9) ∧ ((g = 0 ∧ (0 ≤ at_ ∧ at_ < sq b) ∧ incI b wl wi hi at_ = true) ∨ (g = 4 ∧ at_ = 0)) ∧ shotE b m (ap + 1) (ap + 1) = 0 ∧ (0 < ap → shotE b m ap ap = 4) ∧
        (g = 0 → shotE b m (wi + 1) hi = 0 ∧ shotE b m wi (hi + 1) = 0) ∧ ∀ o : Int, 0 ≤ o ∧ o < sq b → incI b wl wi hi o = true → g = 0 ∧ at_ ≤ o)) := by
  have hok := ok_of hbk
  have hb := hbk.num
  have hx : ∀ z ∈ whereL b m, 0 ≤ z ∧ z < sq b := fun z hz => by
    rw [whereL_whs hbk hm] at hz
    exact (whs_fact (show m.toNat ≤ 30 by omega) hz).1
  refine ⟨_, _, _, _, _, rfl, rfl, rfl, rfl, rfl, whereL_len b m, hx, ?_⟩
  rcases where_of hok hm with ⟨hcan, ha, hw⟩ | ⟨hcan, ha, hw⟩
  · rw [hw] at hx ⊢
    have hne : whs b m.toNat ≠ [] := whs_some hb (by omega) hcan
    have hap : apartV b m = colA b (whs b m.toNat) (whs b m.toNat).length := by unfold apartV; rw [if_pos ha]
    rw [hap]
    have h0 := (colA_spec b (whs b m.toNat) (whs b m.toNat).length (Nat.le_refl _)).1
    have h9 := apart_le hb hx
    have hE : ∀ {x y : Int}, 1 ≤ x ∧ x ≤ 10 → 1 ≤ y ∧ y ≤ 10 → (0 ≤ shotN b (whs b m.toNat) x y → shotE b m x y = 0 ∧ shotV b m x y = shotN b (whs b m.toNat) x y) ∧ (shotN b (whs b m.toNat) x y < 0 → shotE b m x y = 4 ∧ shotV b m x y = 0) := fun {x y} h1 h2 => by
      rcases shotE_two hok hcan (show ShotP m x y from ⟨hm, h1, h2⟩) with ⟨g1, g2, g3⟩ | ⟨g1, g2, g3⟩
      · exact ⟨fun _ => ⟨g1, g3⟩, fun h => absurd g2 (by omega)⟩
      · exact ⟨fun h => absurd g2 (by omega), fun _ => ⟨g1, g3⟩⟩
    refine .inr ⟨ha, ⟨h0, h9⟩, ?_, ?_, fun h => ?_, fun h => ?_, fun o ho hi' => ?_⟩
    · by_cases h : 0 ≤ shotN b (whs b m.toNat) wi hi
      · obtain ⟨n, hn, hnl, hall, _⟩ := shotN_spec h
        obtain ⟨g1, g2⟩ := (hE (x := wi) (y := hi) (by omega) (by omega)).1 h
        refine .inl ⟨g1, by rw [g2, hn]; omega, ?_⟩
        rw [g2, hn]
        exact incI_of hall
      · exact .inr ((hE (x := wi) (y := hi) (by omega) (by omega)).2 (by omega))
    · exact ((hE (by omega) (by omega)).1 (apart_in hb hne hx)).1
    · exact ((hE (by omega) (by omega)).2 (apart_out h)).1
    · have hge : 0 ≤ shotN b (whs b m.toNat) wi hi := by
        refine Int.not_lt.1 fun hlt => ?_
        have := ((hE (x := wi) (y := hi) (by omega) (by omega)).2 hlt).1
        rw [h] at this; cases this
      exact ⟨((hE (by omega) (by omega)).1 (shot_mono (by omega) (Int.le_refl _) hge)).1, ((hE (by omega) (by omega)).1 (shot_mono (Int.le_refl _) (by omega) hge)).1⟩
    · obtain ⟨k, rfl⟩ : ∃ k : Nat, o = k := ⟨o.toNat, by omega⟩
      obtain ⟨g1, g2⟩ := shotN_ge (n := k) (by omega) hi'
      obtain ⟨g3, g4⟩ := (hE (x := wi) (y := hi) (by omega) (by omega)).1 g1
      exact ⟨g3, by rw [g4]; exact g2⟩
  · have hsp : askV b (decide (ShotP m wi hi)) = 12 := by unfold askV; rw [hok, hcan, decide_eq_true (show ShotP m wi hi from ⟨hm, by omega, by omega⟩)]; rfl
    have hE : shotE b m wi hi = 12 := by unfold shotE; rw [if_neg (by rw [hsp]; decide)]; exact hsp
    exact .inl ⟨ha, hE, by unfold apartV; rw [if_neg (by rw [ha]; decide)], by unfold shotV; rw [if_neg (by rw [hE]; decide)]⟩
end Go.Proofs.YtmpclgepoemneaaDoor

/-
  Books without cries, or with one; water.
-/
namespace Go.Proofs.YtmpclgepoemneaaDoor
open Go.Hu Go.RowKit
theorem Up_ext {N : Nat} {l m : List Int} (hl : Up 0 N l) (hm : Up 0 N m) (h : ∀ x, x ∈ l ↔ x ∈ m) : l = m := by
  have e1 := Up.range (N := N) (K := N) (lo := 0) (by omega) (by simpa using hl)
  have e2 := Up.range (N := N) (K := N) (lo := 0) (by omega) (by simpa using hm)
  rw [e1, e2]
  congr 1
  refine List.filter_congr fun n _ => ?_
  exact decide_eq_decide.2 (h n)
theorem wtI_up (b : Bk) : Up 0 (sq b) (wtI b (sq b)) := by
  unfold wtI wtU
  have := up_map (sq b) 0 (fun (n : Nat) => decide (n < sq b) && decide (¬ (n : Int) ∈ b.land)) (sq b) (fun n hn => by rw [Bool.and_eq_true] at hn; exact of_decide_eq_true hn.1)
  rw [List.range_eq_range']
  have e : (List.range' 0 (sq b)).filter (fun (n : Nat) => decide (n < sq b) && decide (¬ (n : Int) ∈ b.land)) = (List.range' 0 (sq b)).filter fun (n : Nat) => decide (¬ (n : Int) ∈ b.land) := by
    refine List.filter_congr fun n hn => ?_
    rw [List.mem_range'_1] at hn
    rw [decide_eq_true (show n < sq b by omega)]; rfl
  rw [← e]
  simpa using this
theorem cries_fld {l : List Cry} {j f : Nat} {c : Cry} (hx : l[j]? = some c) (hf : f < 7) : (l.flatMap cyL)[((j : Nat) : Int).toNat * 7 + f]? = (cyL c)[f]? := by
  have := (rdL_spec (cries_at hx)).2 f hf
  simpa using this
/-- A book without cries. -/
def clr (b : Bk) : Bk := { b with cries := [] }
def one (b : Bk) (c : Cry) : Bk := { b with cries := [c] }
theorem clr_ok {b : Bk} (h : BookOk b) : BookOk (clr b) := ⟨h.num, h.ll, Nat.zero_le _, h.land, h.nd, fun c hc => by cases hc⟩
theorem one_ok {b : Bk} (h : BookOk b) {c : Cry} (hc : CryOk c) : BookOk (one b c) := ⟨h.num, h.ll, (show 1 ≤ 8 by decide), h.land, h.nd, fun x hx => by rw [List.mem_singleton.1 hx]; exact hc⟩
theorem stay {b : Bk} (hb : Num b) {t : Nat} (h : ∀ i : Nat, i ≤ 30 → alw b (i : Int) t = true) : Path b (fun _ => t) 0 30 :=
  ⟨fun i _ hi => h i hi, fun i _ _ => by have := hb.2.2.2.2; unfold NearP; omega⟩
theorem wtI_mem' {b : Bk} {x : Int} : x ∈ wtI b (sq b) ↔ ∃ t : Nat, x = t ∧ t ∈ wtr b := by
  unfold wtI wtr
  rw [List.mem_map]
  constructor
  · rintro ⟨t, h, rfl⟩; exact ⟨t, rfl, h⟩
  · rintro ⟨t, rfl, h⟩; exact ⟨t, h, rfl⟩
theorem clr_whs {b : Bk} (hb : Num b) {m : Nat} (hm : m ≤ 30) : whs (clr b) m = wtI b (sq b) := by
  refine Up_ext (whs_up (clr b) hm) (wtI_up b) fun x => ?_
  rw [wtI_mem', whs_mem]
  constructor
  · rintro ⟨t, _, h, rfl⟩
    obtain ⟨h1, h2, _⟩ := alw_fact (cnd_lt hm h).2
    exact ⟨t, rfl, wtr_mem.2 ⟨h1, h2⟩⟩
  · rintro ⟨t, rfl, h⟩
    obtain ⟨h1, h2⟩ := wtr_mem.1 h
    have h80 := (sq_le hb).1
    refine ⟨t, by omega, ?_, rfl⟩
    exact cnd_of (b := clr b) hb (stay (b := clr b) hb fun i _ => alw_mk h1 h2 fun c hc => by cases hc) hm
theorem one_mem {b : Bk} (hb : Num b) {c : Cry} (hc : CryOk c) {x : Int} : x ∈ whs (one b c) c.m.toNat ↔ x ∈ wtI b (sq b) ∧ decide (Btw b c (x % b.wide) (x / b.wide)) = decide (c.k = 0) := by
  have hm := hc.2.1
  rw [wtI_mem', whs_mem]
  constructor
  · rintro ⟨t, _, h, rfl⟩
    obtain ⟨h1, h2, h3⟩ := alw_fact (cnd_lt (show c.m.toNat ≤ 30 by omega) h).2
    exact ⟨⟨t, rfl, wtr_mem.2 ⟨h1, h2⟩⟩, h3 c (by simp [one]) (by omega)⟩
  · rintro ⟨⟨t, rfl, h⟩, hx⟩
    obtain ⟨h1, h2⟩ := wtr_mem.1 h
    have h80 := (sq_le hb).1
    refine ⟨t, by omega, ?_, rfl⟩
    exact cnd_of (b := one b c) hb (stay (b := one b c) hb fun i _ => alw_mk h1 h2 fun c' hc' _ => by rw [List.mem_singleton.1 hc']; exact hx) (by omega)
theorem seenU_mem {b : Bk} {c : Cry} {x : Int} : x ∈ seenU b c (sq b) ↔ x ∈ wtI b (sq b) ∧ decide (Btw b c (x % b.wide) (x / b.wide)) = true := by
  unfold seenU wtI
  simp only [List.mem_map, List.mem_filter]
  constructor
  · rintro ⟨n, ⟨h1, h2⟩, rfl⟩; exact ⟨⟨n, h1, rfl⟩, h2⟩
  · rintro ⟨⟨n, h1, rfl⟩, h2⟩; exact ⟨n, ⟨h1, h2⟩, rfl⟩
theorem Up_filter {N : Nat} {p : Int → Bool} : ∀ {l : List Int} {lo : Int}, Up lo N l → Up lo N (l.filter p)
  | [], _, _ => trivial
  | x :: l, lo, ⟨h1, h2, h3⟩ => by
    rw [List.filter_cons]
    split
    · exact ⟨h1, h2, Up_filter h3⟩
    · exact Up.mono (by omega) (Up_filter h3)
theorem seenU_filter (b : Bk) (c : Cry) : seenU b c (sq b) = (wtI b (sq b)).filter fun x => decide (Btw b c (x % b.wide) (x / b.wide)) := by
  unfold seenU wtI
  rw [List.filter_map]
  rfl
theorem len_filter {α : Type} (p : α → Bool) : ∀ l : List α, (l.filter p).length + (l.filter fun x => !p x).length = l.length
  | [] => rfl
  | x :: l => by
    have := len_filter p l
    cases h : p x <;> simp [h] <;> omega
/-- What is answered of a book without cries. -/
theorem open_sum {b : Bk} (hbk : BookOk b) {m : Int} (hm : 0 ≤ m ∧ m ≤ 30) : ∃ ws e, wtI b (sq b) = ws ∧ whereL (clr b) m = ws ∧ askV (clr b) (decide (0 ≤ m ∧ m ≤ 30)) = e ∧ ws.length ≤ 80 ∧ canB (clr b) = decide ((0 : Int) < ws.length) ∧ decide (e = 0) = decide ((0 : Int) < ws.length) := by
  have hb := hbk.num
  have hck := clr_ok hbk
  have hw : whereL (clr b) m = wtI b (sq b) := (whereL_whs hck hm).trans (clr_whs hb (by omega))
  have h80 := (sq_le hb).1
  have hcan : canB (clr b) = decide ((0 : Int) < (wtI b (sq b)).length) := by
    rw [Bool.eq_iff_iff, decide_eq_true_eq]
    constructor
    · intro h
      have := whs_some (b := clr b) hb (Nat.zero_le 30) h
      rw [clr_whs hb (Nat.zero_le 30)] at this
      have := List.length_pos_iff.2 this
      omega
    · intro h
      refine Classical.byContradiction fun hn => ?_
      have := whs_none (b := clr b) hb (Nat.zero_le 30) (by simpa using hn)
      rw [clr_whs hb (Nat.zero_le 30)] at this
      rw [this] at h; simp at h
  refine ⟨_, _, rfl, hw, rfl, Nat.le_trans (wtI_len b (sq b)) h80, hcan, ?_⟩
  rw [← hcan]
  rcases where_of (ok_of hck) hm with ⟨h1, h2, _⟩ | ⟨h1, h2, _⟩
  · rw [h1, h2]; rfl
  · rw [h1, h2]; rfl
/-- What is answered of a book with one cry. -/
theorem one_sum {b : Bk} (hbk : BookOk b) {c : Cry} (hc : CryOk c) {j : Nat} (hj : b.cries[j]? = some c) : ∃ sl ol h, seenL b (j : Int) = sl ∧ seenE b (j : Int) = 0 ∧ whereL (one b c) c.m = ol ∧ askV (one b c) (decide (0 ≤ c.m ∧ c.m ≤ 30)) = h ∧ sl.length ≤ 80 ∧ ol.length ≤ 80 ∧ (c.k = 0 → ol = sl) ∧ (¬ c.k = 0 → (ol.length : Int) = ((wtI b (sq b)).length : Int) - sl.length) ∧ decide (h = 0) = decide ((0 : Int) < ol.length) := by
  have hb := hbk.num
  have hok := ok_of hbk
  have hck := one_ok hbk hc
  have hm := hc.2.1
  have hjl := (List.getElem?_eq_some_iff.1 hj).1
  have hse : seenE b (j : Int) = 0 := by unfold seenE; rw [if_pos hok, if_pos (by omega)]
  have hsl : seenL b (j : Int) = seenU b c (sq b) := by
    unfold seenL
    rw [if_pos hse, Int.toNat_natCast, List.getD_eq_getElem?_getD, hj]; rfl
  have hw := whereL_whs hck hm
  have h80 := (sq_le hb).1
  refine ⟨_, _, _, rfl, hse, rfl, rfl, seenL_80 b j, whereL_len (one b c) c.m, fun hk => ?_, fun hk => ?_, ?_⟩
  · rw [hw, hsl, seenU_filter]
    refine Up_ext (whs_up (one b c) (by omega)) (Up_filter (wtI_up b)) fun x => ?_
    rw [one_mem hb hc, List.mem_filter, decide_eq_true hk]
  · rw [hw, hsl, seenU_filter]
    have e : whs (one b c) c.m.toNat = (wtI b (sq b)).filter fun x => !decide (Btw b c (x % b.wide) (x / b.wide)) := by
      refine Up_ext (whs_up (one b c) (by omega)) (Up_filter (wtI_up b)) fun x => ?_
      rw [one_mem hb hc, List.mem_filter, decide_eq_false hk, Bool.not_eq_true']
    rw [e]
    have := len_filter (fun x => decide (Btw b c (x % b.wide) (x / b.wide))) (wtI b (sq b))
    omega
  · rcases where_of (ok_of hck) hm with ⟨h1, h2, h3⟩ | ⟨h1, h2, h3⟩
    · rw [h2, h3]
      have := List.length_pos_iff.2 (whs_some hck.num (show c.m.toNat ≤ 30 by omega) h1)
      rw [decide_eq_true (show (0 : Int) < ((whs (one b c) c.m.toNat).length : Int) by omega)]; rfl
    · rw [h2, h3]; rfl
end Go.Proofs.YtmpclgepoemneaaDoor

/-
  A bay whose columns are counted from the other side.
-/
namespace Go.Proofs.YtmpclgepoemneaaDoor
open Go.Hu Go.RowKit
def flI (b : Bk) (z : Int) : Int := z - 2 * (z % b.wide) + b.wide - 1
def mcC (c : Cry) : Cry := { c with fa := -c.ta, fo := c.tO, ta := -c.fa, tO := c.fo }
def mir (b : Bk) : Bk := { wide := b.wide, high := b.high, land := b.land.map (flI b), h0 := b.wide - 1 - b.h0, h1 := b.wide - 1 - b.h1, swim := b.swim, cries := b.cries.map mcC }
theorem mir_sq (b : Bk) : sq (mir b) = sq b := rfl
/-- A square's other side: the same row, the column from the other side. -/
theorem fl_xy {b : Bk} (hb : Num b) {z : Int} (h0 : 0 ≤ z) (h1 : z < sq b) : (0 ≤ flI b z ∧ flI b z < sq b) ∧ flI b z % b.wide = b.wide - 1 - z % b.wide ∧ flI b z / b.wide = z / b.wide := by
  have hs := sq_xy hb (n := z.toNat) (by omega)
  rw [Int.toNat_of_nonneg h0] at hs
  obtain ⟨⟨x0, x1⟩, ⟨y0, y1⟩, he⟩ := hs
  have e : flI b z = z / b.wide * b.wide + (b.wide - 1 - z % b.wide) := by
    unfold flI
    generalize z / b.wide * b.wide = q at he ⊢
    omega
  obtain ⟨k1, k2, k3, k4⟩ := xy_sq hb (x := b.wide - 1 - z % b.wide) (y := z / b.wide) (by omega) ⟨y0, y1⟩
  rw [e]
  exact ⟨⟨k1, by omega⟩, k3, k4⟩
theorem fl_fl {b : Bk} (hb : Num b) {z : Int} (h0 : 0 ≤ z) (h1 : z < sq b) : flI b (flI b z) = z := by
  obtain ⟨_, k2, _⟩ := fl_xy hb h0 h1
  show flI b z - 2 * (flI b z % b.wide) + b.wide - 1 = z
  rw [k2]
  unfold flI
  omega
theorem mir_btw {b : Bk} {c : Cry} {x y : Int} : Btw (mir b) (mcC c) (b.wide - 1 - x) y ↔ Btw b c x y := by
  have hh : hd (mir b) (mcC c).h = b.wide - 1 - hd b c.h := by
    show (if c.h = 0 then b.wide - 1 - b.h0 else b.wide - 1 - b.h1) = b.wide - 1 - (if c.h = 0 then b.h0 else b.h1)
    split <;> rfl
  unfold Btw
  rw [hh]
  show c.tO * (b.wide - 1 - x - (b.wide - 1 - hd b c.h)) ≤ -c.ta * (y + 1) ∧ (y + 1) * -c.fa ≤ (b.wide - 1 - x - (b.wide - 1 - hd b c.h)) * c.fo ↔ _
  rw [show b.wide - 1 - x - (b.wide - 1 - hd b c.h) = -(x - hd b c.h) by omega, Int.mul_neg, Int.neg_mul, Int.mul_neg, Int.neg_mul, Int.mul_comm c.tO, Int.mul_comm c.ta, Int.mul_comm (y + 1) c.fa, Int.mul_comm _ c.fo]
  constructor
  · rintro ⟨h1, h2⟩; exact ⟨by omega, by omega⟩
  · rintro ⟨h1, h2⟩; exact ⟨by omega, by omega⟩
theorem mir_cry {c : Cry} (h : CryOk c) : CryOk (mcC c) := by
  obtain ⟨h1, h2, h3, h4, h5, h6⟩ := h
  refine ⟨h1, h2, h3, (show PtOk (-c.ta) c.tO from ⟨by omega, h5.2⟩), (show PtOk (-c.fa) c.fo from ⟨by omega, h4.2⟩), ?_⟩
  show c.tO * -c.fa ≤ -c.ta * c.fo
  rw [Int.mul_neg, Int.neg_mul, Int.mul_comm c.tO, Int.mul_comm c.ta]
  omega
/-- The huers can stand on the other side. -/
abbrev MirOk (b : Bk) : Prop := (-5 ≤ b.wide - 1 - b.h0 ∧ b.wide - 1 - b.h0 ≤ 15) ∧ (-5 ≤ b.wide - 1 - b.h1 ∧ b.wide - 1 - b.h1 ≤ 15)
theorem mir_num {b : Bk} (hb : Num b) (hm : MirOk b) : Num (mir b) := ⟨hb.1, hb.2.1, hm.1, hm.2, hb.2.2.2.2⟩
theorem mir_land {b : Bk} (h : BookOk b) {z : Int} (h0 : 0 ≤ z) (h1 : z < sq b) : flI b z ∈ (mir b).land ↔ z ∈ b.land := by
  have hsq := sq_le h.num
  show flI b z ∈ b.land.map (flI b) ↔ _
  rw [List.mem_map]
  constructor
  · rintro ⟨y, hy, he⟩
    have hyb := h.land y hy
    have := congrArg (flI b) he
    rw [fl_fl h.num hyb.1 (by omega), fl_fl h.num h0 h1] at this
    rw [← this]; exact hy
  · intro hz; exact ⟨z, hz, rfl⟩
theorem mir_ok {b : Bk} (h : BookOk b) (hm : MirOk b) : BookOk (mir b) := by
  have hsq := sq_le h.num
  refine ⟨mir_num h.num hm, by show (b.land.map (flI b)).length ≤ 10; rw [List.length_map]; exact h.ll, by show (b.cries.map mcC).length ≤ 8; rw [List.length_map]; exact h.lc, fun n hn => ?_, fun i hi hc => ?_, fun c hc => ?_⟩
  · obtain ⟨y, hy, rfl⟩ := List.mem_map.1 hn
    have hyb := h.land y hy
    have := (fl_xy h.num hyb.1 (by omega)).1
    show 0 ≤ flI b y ∧ flI b y ≤ b.wide * b.high - 1
    omega
  · have hi' : i < b.land.length := by have hi2 : i < (b.land.map (flI b)).length := hi; rwa [List.length_map] at hi2
    have e : (mir b).land.getD i 0 = flI b (b.land.getD i 0) := by
      show (b.land.map (flI b)).getD i 0 = _
      rw [List.getD_eq_getElem?_getD, List.getElem?_map, List.getElem?_eq_getElem hi', List.getD_eq_getElem?_getD, List.getElem?_eq_getElem hi']; rfl
    rw [e] at hc
    have hc' : flI b (b.land.getD i 0) ∈ (b.land.take i).map (flI b) := by
      have : (mir b).land.take i = (b.land.take i).map (flI b) := by show (b.land.map (flI b)).take i = _; rw [List.map_take]
      rwa [this] at hc
    obtain ⟨y, hy, he⟩ := List.mem_map.1 hc'
    have hg : b.land.getD i 0 ∈ b.land := by rw [List.getD_eq_getElem?_getD, List.getElem?_eq_getElem hi']; exact List.getElem_mem hi'
    have hyl := List.mem_of_mem_take hy
    have h1 := h.land y hyl
    have h2 := h.land _ hg
    have := congrArg (flI b) he
    rw [fl_fl h.num h1.1 (by omega), fl_fl h.num h2.1 (by omega)] at this
    rw [this] at hy
    exact h.nd i hi' hy
  · obtain ⟨c', hc', rfl⟩ := List.mem_map.1 hc
    exact mir_cry (h.cry c' hc')
/-- The same, of squares by their numbers. -/
def flN (b : Bk) (t : Nat) : Nat := (flI b t).toNat
theorem flN_spec {b : Bk} (hb : Num b) {t : Nat} (ht : t < sq b) : ((flN b t : Nat) : Int) = flI b t ∧ flN b t < sq b ∧ flN b (flN b t) = t := by
  have h := (fl_xy hb (z := t) (by omega) (by omega)).1
  have e : ((flN b t : Nat) : Int) = flI b t := Int.toNat_of_nonneg h.1
  refine ⟨e, by omega, ?_⟩
  have := fl_fl hb (z := t) (by omega) (by omega)
  unfold flN at e ⊢
  rw [e, this]; omega
theorem mir_alw {b : Bk} (h : BookOk b) {m : Int} {t : Nat} (ht : t < sq b) : alw (mir b) m (flN b t) = alw b m t := by
  obtain ⟨e1, e2, e3⟩ := flN_spec h.num ht
  obtain ⟨_, k2, k3⟩ := fl_xy h.num (z := t) (by omega) (by omega)
  have key : ∀ c, decide (Btw (mir b) (mcC c) (((flN b t : Nat) : Int) % b.wide) (((flN b t : Nat) : Int) / b.wide)) = decide (Btw b c ((t : Int) % b.wide) ((t : Int) / b.wide)) := fun c => by
    rw [e1, k2, k3]
    exact decide_eq_decide.2 mir_btw
  rw [Bool.eq_iff_iff]
  constructor
  · intro ha
    obtain ⟨f1, f2, f3⟩ := alw_fact ha
    refine alw_mk ht (fun hn => f2 ?_) fun c hc hm => ?_
    · rw [e1]; exact (mir_land h (by omega) (by omega)).2 hn
    · rw [← key c]; exact f3 (mcC c) (List.mem_map.2 ⟨c, hc, rfl⟩) hm
  · intro ha
    obtain ⟨f1, f2, f3⟩ := alw_fact ha
    refine alw_mk (show flN b t < sq (mir b) from e2) (fun hn => f2 ?_) fun c hc hm => ?_
    · rw [e1] at hn; exact (mir_land h (by omega) (by omega)).1 hn
    · obtain ⟨c', hc', rfl⟩ := List.mem_map.1 hc
      exact (key c').trans (f3 c' hc' hm)
theorem mir_near {b : Bk} (hb : Num b) {s t : Nat} (hs : s < sq b) (ht : t < sq b) (h : NearP b.wide s t b.swim) : NearP b.wide (flN b s) (flN b t) b.swim := by
  obtain ⟨e1, _, _⟩ := flN_spec hb hs
  obtain ⟨e2, _, _⟩ := flN_spec hb ht
  obtain ⟨_, k2, k3⟩ := fl_xy hb (z := s) (by omega) (by omega)
  obtain ⟨_, k4, k5⟩ := fl_xy hb (z := t) (by omega) (by omega)
  unfold NearP at h ⊢
  rw [e1, e2, k2, k3, k4, k5]
  omega
theorem mir_cnd {b : Bk} (h : BookOk b) (hm : MirOk b) {m t : Nat} (hm30 : m ≤ 30) (ht : t < sq b) : cnd (mir b) m (flN b t) = cnd b m t := by
  have hb := h.num
  have hb' := mir_num hb hm
  rw [Bool.eq_iff_iff]
  constructor
  · intro hc
    obtain ⟨p, hp, hP⟩ := path_of hm30 hc
    have hlt : ∀ i, i ≤ 30 → p i < sq b := fun i hi => (alw_fact (hP.ok i (Nat.zero_le _) hi)).1
    have hQ : Path b (fun i => flN b (p i)) 0 30 := ⟨fun i _ hi => by
      have h1 := hP.ok i (Nat.zero_le _) hi
      obtain ⟨_, e2, e3⟩ := flN_spec hb (hlt i hi)
      have := mir_alw h (m := (i : Int)) e2
      rw [e3] at this
      rw [← this]; exact h1, fun i _ hi => mir_near hb (hlt i (by omega)) (hlt (i + 1) (by omega)) (hP.near i (Nat.zero_le _) hi)⟩
    have := cnd_of hb hQ hm30
    simp only [hp] at this
    rwa [(flN_spec hb ht).2.2] at this
  · intro hc
    obtain ⟨p, hp, hP⟩ := path_of hm30 hc
    have hlt : ∀ i, i ≤ 30 → p i < sq b := fun i hi => (alw_fact (hP.ok i (Nat.zero_le _) hi)).1
    have hQ : Path (mir b) (fun i => flN b (p i)) 0 30 := ⟨fun i _ hi => by
      rw [mir_alw h (hlt i hi)]; exact hP.ok i (Nat.zero_le _) hi, fun i _ hi => mir_near hb (hlt i (by omega)) (hlt (i + 1) (by omega)) (hP.near i (Nat.zero_le _) hi)⟩
    have := cnd_of (b := mir b) hb' hQ hm30
    simpa only [hp] using this
theorem mir_whs {b : Bk} (h : BookOk b) (hm : MirOk b) {m : Nat} (hm30 : m ≤ 30) {z : Int} (hz : z ∈ whs b m) : flI b z ∈ whs (mir b) m := by
  obtain ⟨t, _, hc, rfl⟩ := whs_mem.1 hz
  have ht := (cnd_lt hm30 hc).1
  obtain ⟨e1, e2, _⟩ := flN_spec h.num ht
  have h80 := (sq_le h.num).1
  exact whs_mem.2 ⟨flN b t, by omega, by rw [mir_cnd h hm hm30 ht]; exact hc, e1.symm⟩
theorem mir_whs' {b : Bk} (h : BookOk b) (hm : MirOk b) {m : Nat} (hm30 : m ≤ 30) {z : Int} (hz : z ∈ whs (mir b) m) : flI b z ∈ whs b m := by
  obtain ⟨t, _, hc, rfl⟩ := whs_mem.1 hz
  have ht : t < sq b := (cnd_lt hm30 hc).1
  obtain ⟨e1, e2, e3⟩ := flN_spec h.num ht
  have h80 := (sq_le h.num).1
  refine whs_mem.2 ⟨flN b t, by omega, ?_, e1.symm⟩
  rw [← mir_cnd h hm hm30 e2, e3]; exact hc
theorem mir_can {b : Bk} (h : BookOk b) (hm : MirOk b) : canB (mir b) = canB b := by
  have hb := h.num
  have hb' := mir_num hb hm
  rw [Bool.eq_iff_iff, can_iff b hb (Nat.zero_le 30), can_iff (mir b) hb' (Nat.zero_le 30)]
  constructor
  · rintro ⟨t, ht⟩
    have hlt : t < sq b := (cnd_lt (Nat.zero_le 30) ht).1
    obtain ⟨e1, e2, e3⟩ := flN_spec hb hlt
    exact ⟨flN b t, by rw [← mir_cnd h hm (Nat.zero_le 30) e2, e3]; exact ht⟩
  · rintro ⟨t, ht⟩
    have hlt : t < sq b := (cnd_lt (Nat.zero_le 30) ht).1
    exact ⟨flN b t, by rw [mir_cnd h hm (Nat.zero_le 30) hlt]; exact ht⟩
theorem nodup_len : ∀ (l m : List Int), l.Nodup → (∀ x ∈ l, x ∈ m) → l.length ≤ m.length
  | [], _, _, _ => Nat.zero_le _
  | x :: l, m, hn, h => by
    have hx := h x (by simp)
    obtain ⟨hxl, hn'⟩ := List.nodup_cons.1 hn
    have := nodup_len l (m.erase x) hn' fun y hy => (List.mem_erase_of_ne (by rintro rfl; exact hxl hy)).2 (h y (by simp [hy]))
    have h1 := List.length_erase_of_mem hx
    have h2 := List.length_pos_of_mem hx
    simp only [List.length_cons]; omega
theorem Up_nodup {N : Nat} : ∀ {l : List Int} {lo : Int}, Up lo N l → l.Nodup
  | [], _, _ => List.nodup_nil
  | x :: l, lo, ⟨_, _, h3⟩ => List.nodup_cons.2 ⟨fun hm => by have := (Up.mem h3 x hm).1; omega, Up_nodup h3⟩
theorem nodup_map {f : Int → Int} : ∀ {l : List Int}, l.Nodup → (∀ x ∈ l, ∀ y ∈ l, f x = f y → x = y) → (l.map f).Nodup
  | [], _, _ => List.nodup_nil
  | x :: l, hn, hf => by
    obtain ⟨hx, hn'⟩ := List.nodup_cons.1 hn
    rw [List.map_cons]
    refine List.nodup_cons.2 ⟨fun hm => ?_, nodup_map hn' fun a ha c hc => hf a (by simp [ha]) c (by simp [hc])⟩
    obtain ⟨y, hy, he⟩ := List.mem_map.1 hm
    exact hx (hf y (by simp [hy]) x (by simp) he ▸ hy)
theorem fl_inj {b : Bk} (hb : Num b) {m : Nat} (hm30 : m ≤ 30) : ∀ x ∈ whs b m, ∀ y ∈ whs b m, flI b x = flI b y → x = y := fun x hx y hy h => by
  have h1 := (whs_fact hm30 hx).1
  have h2 := (whs_fact hm30 hy).1
  have := congrArg (flI b) h
  rwa [fl_fl hb h1.1 h1.2, fl_fl hb h2.1 h2.2] at this
theorem mir_len {b : Bk} (h : BookOk b) (hm : MirOk b) {m : Nat} (hm30 : m ≤ 30) : (whs (mir b) m).length = (whs b m).length := by
  have h1 := nodup_len ((whs b m).map (flI b)) (whs (mir b) m) (nodup_map (Up_nodup (whs_up b hm30)) (fl_inj h.num hm30)) fun x hx => by
    obtain ⟨z, hz, rfl⟩ := List.mem_map.1 hx
    exact mir_whs h hm hm30 hz
  have hinj : ∀ x ∈ whs (mir b) m, ∀ y ∈ whs (mir b) m, flI b x = flI b y → x = y := fun x hx y hy he => by
    have h1 := (whs_fact hm30 hx).1
    have h2 := (whs_fact hm30 hy).1
    rw [mir_sq] at h1 h2
    have := congrArg (flI b) he
    rwa [fl_fl h.num h1.1 h1.2, fl_fl h.num h2.1 h2.2] at this
  have h2 := nodup_len ((whs (mir b) m).map (flI b)) (whs b m) (nodup_map (Up_nodup (whs_up (mir b) hm30)) hinj) fun x hx => by
    obtain ⟨z, hz, rfl⟩ := List.mem_map.1 hx
    exact mir_whs' h hm hm30 hz
  rw [List.length_map] at h1 h2
  omega
theorem kpU_map (l : List Cry) (q : Nat → Bool) : ∀ j, kpU (l.map mcC) q j = (kpU l q j).map mcC
  | 0 => rfl
  | j + 1 => by
    unfold kpU
    rw [List.map_filterMap]
    congr 1
    funext i
    rw [List.getElem?_map]
theorem mir_wo (b : Bk) (q : Nat → Bool) : wo (mir b) q = mir (wo b q) := by
  unfold wo mir
  simp only [List.length_map, kpU_map]
  rfl
theorem mir_wrong {b : Bk} (h : BookOk b) (hm : MirOk b) : wrongL (mir b) = wrongL b ∧ wrongE (mir b) = wrongE b := by
  have hP : Pw (mir b) = Pw b := by
    funext s
    unfold Pw
    rw [mir_wo, mir_can (wo_ok h _) hm]
  have hO : wrongO (mir b) = wrongO b := by
    unfold wrongO
    rw [hP, show (mir b).cries.length = b.cries.length from List.length_map ..]
  unfold wrongL wrongE
  rw [hO, ok_of h, ok_of (mir_ok h hm)]
  exact ⟨rfl, rfl⟩
theorem colA_mx {b : Bk} {l : List Int} {x y : Int} (hx : x ∈ l) (hy : y ∈ l) : apX b x y ≤ colA b l l.length := by
  obtain ⟨_, hmax, _⟩ := colA_spec b l l.length (Nat.le_refl _)
  obtain ⟨k, hk, rfl⟩ := List.mem_iff_getElem.1 hx
  have := hmax k hk y hy
  rwa [List.getD_eq_getElem?_getD, List.getElem?_eq_getElem hk] at this
/-- Squares on the other side are as far apart. -/
theorem colA_le {b b' : Bk} {l l' : List Int} (f : Int → Int) (hf : ∀ z ∈ l, f z ∈ l' ∧ f z % b'.wide = b.wide - 1 - z % b.wide ∧ f z / b'.wide = z / b.wide) : colA b l l.length ≤ colA b' l' l'.length := by
  obtain ⟨_, _, h3⟩ := colA_spec b l l.length (Nat.le_refl _)
  have h0 := (colA_spec b' l' l'.length (Nat.le_refl _)).1
  rcases h3 with h3 | ⟨x, hx, y, hy, h3⟩
  · omega
  · obtain ⟨x1, x2, x3⟩ := hf x hx
    obtain ⟨y1, y2, y3⟩ := hf y hy
    have a1 := colA_mx (b := b') x1 y1
    have a2 := colA_mx (b := b') y1 x1
    unfold apX at a1 a2 h3
    omega
theorem mir_apart {b : Bk} (h : BookOk b) (hm : MirOk b) {m : Nat} (hm30 : m ≤ 30) : colA (mir b) (whs (mir b) m) (whs (mir b) m).length = colA b (whs b m) (whs b m).length := by
  have hb := h.num
  refine Int.le_antisymm (colA_le (flI b) fun z hz => ?_) (colA_le (flI b) fun z hz => ?_)
  · have h1 := (whs_fact hm30 hz).1
    rw [mir_sq] at h1
    have := fl_xy hb h1.1 h1.2
    exact ⟨mir_whs' h hm hm30 hz, this.2.1, this.2.2⟩
  · have h1 := (whs_fact hm30 hz).1
    have := fl_xy hb h1.1 h1.2
    exact ⟨mir_whs h hm hm30 hz, this.2.1, this.2.2⟩
/-- What is answered of both sides. -/
theorem mir_sum {b : Bk} (h : BookOk b) (hm : MirOk b) {m : Int} (hm30 : 0 ≤ m ∧ m ≤ 30) :
    ∃ wl wk e, whereL b m = wl ∧ whereL (mir b) m = wk ∧ askV b (decide (0 ≤ m ∧ m ≤ 30)) = e ∧ askV (mir b) (decide (0 ≤ m ∧ m ≤ 30)) = e ∧ apartV (mir b) m = apartV b m ∧ wl.length ≤ 80 ∧ wk.length = wl.length ∧ ∀ z ∈ wl, (0 ≤ z ∧ z ≤ 1000) ∧ flI b z ∈ wk := by
  have hmk := mir_ok h hm
  have h1 := whereL_whs h hm30
  have h2 := whereL_whs hmk hm30
  have hea : askV (mir b) (decide (0 ≤ m ∧ m ≤ 30)) = askV b (decide (0 ≤ m ∧ m ≤ 30)) := by unfold askV; rw [ok_of h, ok_of hmk, mir_can h hm]
  have hsq := sq_le h.num
  refine ⟨_, _, _, rfl, rfl, rfl, hea, ?_, whereL_len b m, ?_, fun z hz => ?_⟩
  · unfold apartV; rw [hea, mir_apart h hm (show m.toNat ≤ 30 by omega)]
  · rw [h1, h2]; exact mir_len h hm (by omega)
  · rw [h1] at hz
    have := (whs_fact (show m.toNat ≤ 30 by omega) hz).1
    exact ⟨by omega, by rw [h2]; exact mir_whs h hm (by omega) hz⟩
end Go.Proofs.YtmpclgepoemneaaDoor

/-
  The other side's bay; its law, walked.
-/
namespace Go.Proofs.YtmpclgepoemneaaDoor
set_option maxRecDepth 100000
open Go.Hu Go.RowKit
section
variable (b : Bk) (la : Option Addr) (lc : Nat) (ca : Option Addr) (cc : Nat)
/-- The land on the other side, as far as j; then the cries. -/
abbrev mU1 (j : Nat) : Bk := { b with land := (b.land.map (flI b)).take j, cries := [] }
abbrev mU2 (j : Nat) : Bk := { mir b with cries := (b.cries.map mcC).take j }
/-- A book whose land and cries are in memory of one's own. -/
def MirR (b : Bk) (u : Value) (i j : HP) : Prop := ∃ a c a' c', u = .agg (bkL b a c a' c').toArray ∧ i = slc 3 1 (.slice a b.land.length c) b.land.length (b.land.map iv) ∧ j = CrS b a' c'
theorem mirrorF (hbk : BookOk b) (hmo : MirOk b) (w : World) (hl : Ints w la lc b.land) (hC : Cries w ca cc b.cries) : Ct Tryd.prog 49 #[.agg (bkL b la lc ca cc).toArray] w
    (fun u w' => ∃ i j, MirR (mir b) u i j ∧ St no w w' (upd eL 0 (sep i j)) []) := by
  refine fn_intro (args := [.agg (bkL b la lc ca cc).toArray]) Tryd.func49 rfl rfl (by kernel_rfl) ?_
  have S := St.start no w
  have hb := hbk.num
  have hsq := sq_le hb
  have hw := hb.1
  have h0b := hb.2.2.1
  have h1b := hb.2.2.2.1
  have hll := hbk.ll
  have hcl := hbk.lc
  have hml : (b.land.map (flI b)).length = b.land.length := List.length_map ..
  have hmc : (b.cries.map mcC).length = b.cries.length := List.length_map ..
  refine W.seq (W.region S ?_)
  refine AS.cons (sp_boxa 1 rfl (fun b1 => ?_))
  refine AS.cons (sp_alloc 2 zv_26 rfl (fun b2 => ?_))
  refine AS.nil ?_
  intro _ S
  refine W.seq (W.region S ?_)
  refine AS.cons (sp_ldw 1 rfl rfl ag_26_7 ?_)
  refine AS.cons (sp_alloc 3 zv_26 rfl (fun b3 => ?_))
  refine AS.cons (sp_st 3 rfl rfl rfl rfl sz_26_7 rfl rfl ?_)
  refine AS.nil ?_
  intro _ S
  refine W.seq (W.region S ?_)
  refine AS.cons (sp_fa rfl fo_26_2_2 ?_)
  refine AS.cons (sp_st 3 rfl rfl rfl rfl sz_22_1 rfl rfl ?_)
  refine AS.cons (sp_fa rfl fo_26_5_6 ?_)
  refine AS.cons (sp_st 3 rfl rfl rfl rfl sz_24_1 rfl rfl ?_)
  refine AS.nil ?_
  intro _ S
  refine W.seq (W.seq (W.region S ?_))
  refine AS.cons (sp_asg rfl ?_)
  refine AS.nil ?_
  intro _ S
  have S := (S.drop 901).weak (k := 901) (i := slc 3 1 nilS 0 []) (fun f hf => by rw [upd_same] at hf; exact slc_nil 3 1 f hf)
  refine W.block ?_
  refine W.loopS S [4, 10, 11, 12, 13, 14, 15, 16, 17, 18, 19, 20, 21, 22, 23, 24, 25, 26, 27, 28] [3, 26, 27, 901] (fun (z : Nat × Option Addr × Nat) => [(4, iv z.1)]) (fun z => [(3, pt b3 (.cells (bkL (mU1 b z.1) z.2.1 z.2.2 none 0).toArray 26 (0, 0))), (901, slc 3 1 (.slice z.2.1 (mU1 b z.1).land.length z.2.2) (mU1 b z.1).land.length ((mU1 b z.1).land.map iv))]) (fun z => z.1 ≤ b.land.length) (fun z => b.land.length - z.1) (0, none, 0) (Nat.zero_le _) ⟨rfl, trivial⟩ ⟨rfl, rfl, trivial⟩ ?_
  rintro ⟨j, a, c⟩ σ M w1 hj S
  replace hj : j ≤ b.land.length := hj
  have htl : ((b.land.map (flI b)).take j).length = j := by rw [List.length_take, hml]; omega
  refine W.seq (W.seq (W.region S ?_))
  refine AS.cons (sp_move (v := .int _ _) rfl ?_)
  refine AS.cons (sp_fa rfl fo_26_2_2 ?_)
  refine AS.cons (sp_ld 1 rfl rfl sc_22 rfl ?_)
  refine AS.cons (sp_len rfl sl_22_3_1 ?_)
  refine AS.cons (sp_lss rfl rfl ?_)
  refine AS.nil ?_
  intro _ S
  refine W.condd rfl (fun c14 => ?_) (fun c14 => ?_)
  · skip
    have hlt : j < b.land.length := by omega
    obtain ⟨x, hx⟩ := get_some hlt
    have hxb := hbk.land x (List.mem_of_getElem? hx)
    have hst : (b.land.map (flI b)).take (j + 1) = (b.land.map (flI b)).take j ++ [flI b x] := by rw [List.take_add_one, List.getElem?_map, hx]; rfl
    refine W.skip ?_
    refine W.seq (W.block ?_)
    refine W.draw S mixed (fun i => ([KD.q [], KD.q [3], KD.q [1], KD.q [], KD.q [1], KD.q [], KD.q [], KD.q [], KD.e [] [], KD.a 26, KD.e [901, 26] [901], KD.q [], KD.e [3] [3]] : List KD)[i]?) [] [0, 1, 2, 3, 4, 5, 6, 7, 8, 9, 10, 11, 12] (by kernel_rfl) ?_
    refine AW.cons rfl rfl (sp_fa rfl fo_26_2_2 ?_)
    refine AW.cons rfl rfl (sp_ld 3 rfl rfl sc_22 rfl ?_)
    refine AW.cons rfl rfl (sp_ldw 1 rfl rfl ag_26_7 ?_)
    refine AW.cons rfl rfl (sp_fa rfl fo_26_2_2 ?_)
    refine AW.cons rfl rfl (sp_ld 1 rfl rfl sc_22 rfl ?_)
    refine AW.cons rfl rfl (sp_move (v := .int _ _) rfl ?_)
    refine AW.cons rfl rfl (sp_iaR hl rfl rfl sl_22_3_1 (by first | omega | (simp only [decide_eq_true_eq, decide_eq_false_iff_not] at *; omega)) ?_)
    refine AW.cons rfl rfl (sp_ldR 0 hl (fun _ h => h) rfl sc_3 (ints_at hx) (by first | omega | (simp only [decide_eq_true_eq, decide_eq_false_iff_not] at *; omega)) ?_)
    refine AW.cons rfl rfl (sp_call [] rfl rfl cf_50 (fun F w _ S => flip b la lc ca cc hb x (by omega) w) ?_)
    refine AW.cons rfl rfl (sp_bs 26 [.tmp 25] _ sl_22_3_1 zs_3_1 rfl rfl rfl rfl rfl rfl (fun b26 => ?_))
    refine AW.cons rfl rfl (sp_app 901 [26] rfl rfl sl_22_3_1 zs_3_1 rfl (fun F w hF S => rd_pt (S.get ((hF 26 (by simp)).trans rfl)).1 rfl (by omega) (by omega)) rfl (by first | omega | (simp only [] at *; omega)) (fun a27 c27 => ?_))
    refine AW.cons rfl rfl (sp_fa rfl fo_26_2_2 ?_)
    refine AW.cons rfl rfl (sp_st 3 rfl rfl rfl rfl sz_22_1 rfl rfl ?_)
    refine AW.nil ?_
    intro _ S
    refine W.region S ?_
    refine AS.cons (sp_move (v := .int _ _) rfl ?_)
    refine AS.cons (sp_add rfl rfl (by first | omega | (simp only [decide_eq_true_eq, decide_eq_false_iff_not] at *; omega)) ?_)
    refine AS.cons (sp_asg (v := .int _ _) rfl ?_)
    refine AS.nil ?_
    intro _ S
    exact ⟨(j + 1, a27, c27), _, hlt, by show b.land.length - (j + 1) < b.land.length - j; omega, ⟨by simp [upd], trivial⟩, ⟨by show pt b3 _ = pt b3 (.cells [iv b.wide, iv b.high, .slice a27 ((b.land.map (flI b)).take (j + 1)).length c27, iv b.h0, iv b.h1, iv b.swim, .slice none 0 0].toArray 26 (0, 0)); rw [hst, List.length_append]; rfl, by show slc 3 1 _ _ _ = slc 3 1 (.slice a27 ((b.land.map (flI b)).take (j + 1)).length c27) ((b.land.map (flI b)).take (j + 1)).length (((b.land.map (flI b)).take (j + 1)).map iv); rw [hst, List.length_append, List.map_append]; rfl, trivial⟩, by repeat (first | exact Agr.refl _ _ | exact Agr.msk _ _ _ | refine Agr.upd ?_ _ rfl | refine Agr.upds ?_ rfl | refine Agr.mskIn ?_ rfl), by repeat (first | exact Agr.refl _ _ | exact Agr.msk _ _ _ | refine Agr.upd ?_ _ rfl | refine Agr.upds ?_ rfl | refine Agr.mskIn ?_ rfl), rfl, S⟩
  · skip
    obtain rfl : j = b.land.length := by omega
    have hfin : (b.land.map (flI b)).take b.land.length = b.land.map (flI b) := by rw [← hml, List.take_length]
    have S := (show St no w _ (upds [(3, pt b3 (.cells [iv b.wide, iv b.high, .slice a ((b.land.map (flI b)).take b.land.length).length c, iv b.h0, iv b.h1, iv b.swim, .slice none 0 0].toArray 26 (0, 0))), (901, slc 3 1 (.slice a ((b.land.map (flI b)).take b.land.length).length c) ((b.land.map (flI b)).take b.land.length).length (((b.land.map (flI b)).take b.land.length).map iv))] _) [] from S)
    rw [hfin] at S
    refine W.exit ?_
    refine W.seq (W.region S ?_)
    refine AS.cons (sp_fa rfl fo_26_0_0 ?_)
    refine AS.cons (sp_ld 1 rfl rfl sc_3 rfl ?_)
    refine AS.cons (sp_sub rfl rfl (by first | omega | (simp only [decide_eq_true_eq, decide_eq_false_iff_not] at *; omega)) ?_)
    refine AS.cons (sp_fa rfl fo_26_3_3 ?_)
    refine AS.cons (sp_iaa rfl rfl ar_23_2_3_1 (by first | omega | (simp only [decide_eq_true_eq, decide_eq_false_iff_not] at *; omega)) ?_)
    refine AS.cons (sp_ld 1 rfl rfl sc_3 rfl ?_)
    refine AS.cons (sp_sub rfl rfl (by first | omega | (simp only [decide_eq_true_eq, decide_eq_false_iff_not] at *; omega)) ?_)
    refine AS.cons (sp_fa rfl fo_26_0_0 ?_)
    refine AS.cons (sp_ld 1 rfl rfl sc_3 rfl ?_)
    refine AS.cons (sp_sub rfl rfl (by first | omega | (simp only [decide_eq_true_eq, decide_eq_false_iff_not] at *; omega)) ?_)
    refine AS.cons (sp_fa rfl fo_26_3_3 ?_)
    refine AS.cons (sp_iaa rfl rfl ar_23_2_3_1 (by first | omega | (simp only [decide_eq_true_eq, decide_eq_false_iff_not] at *; omega)) ?_)
    refine AS.cons (sp_ld 1 rfl rfl sc_3 rfl ?_)
    refine AS.cons (sp_sub rfl rfl (by first | omega | (simp only [decide_eq_true_eq, decide_eq_false_iff_not] at *; omega)) ?_)
    refine AS.cons (sp_build [iv (b.wide - 1 - b.h0), iv (b.wide - 1 - b.h1)] (by kernel_rfl) ?_)
    refine AS.cons (sp_fa rfl fo_26_3_3 ?_)
    refine AS.cons (sp_st 3 rfl rfl rfl rfl sz_23_2 rfl rfl ?_)
    refine AS.nil ?_
    intro _ S
    refine W.seq (W.seq (W.region S ?_))
    refine AS.cons (sp_asg rfl ?_)
    refine AS.nil ?_
    intro _ S
    have S := (S.drop 902).weak (k := 902) (i := slc 46 7 nilS 0 []) (fun f hf => by rw [upd_same] at hf; exact slc_nil 46 7 f hf)
    refine W.block ?_
    refine W.loopS S [5, 6, 45, 46, 47, 48, 49, 50, 51, 52, 53, 54, 55, 56, 57, 58, 59, 60, 61, 62, 63, 64, 65, 66, 67, 68, 69, 70, 71, 72, 73, 74, 75, 76, 77, 78, 79, 80, 81, 82, 83, 84, 85, 86, 87, 88, 89, 90, 91, 92, 93, 94, 95, 96] [3, 6, 94, 95, 902] (fun (z : Nat × Option Addr × Nat) => [(5, iv z.1)]) (fun z => [(3, pt b3 (.cells (bkL (mU2 b z.1) a c z.2.1 z.2.2).toArray 26 (0, 0))), (902, CrS (mU2 b z.1) z.2.1 z.2.2)]) (fun z => z.1 ≤ b.cries.length) (fun z => b.cries.length - z.1) (0, none, 0) (Nat.zero_le _) ⟨rfl, trivial⟩ ⟨rfl, rfl, trivial⟩ ?_
    rintro ⟨i, a', c'⟩ σ M w2 hi S
    replace hi : i ≤ b.cries.length := hi
    have htl2 : ((b.cries.map mcC).take i).length = i := by rw [List.length_take, hmc]; omega
    refine W.seq (W.seq (W.region S ?_))
    refine AS.cons (sp_move (v := .int _ _) rfl ?_)
    refine AS.cons (sp_fa rfl fo_26_5_6 ?_)
    refine AS.cons (sp_ld 1 rfl rfl sc_24 rfl ?_)
    refine AS.cons (sp_len rfl sl_24_46_7 ?_)
    refine AS.cons (sp_lss rfl rfl ?_)
    refine AS.nil ?_
    intro _ S
    refine W.condd rfl (fun c49 => ?_) (fun c49 => ?_)
    · skip
      have hlt : i < b.cries.length := by omega
      obtain ⟨x, hxc⟩ := get_some hlt
      obtain ⟨k1, k2, k3, ⟨k4, k4'⟩, ⟨k5, k5'⟩, k6⟩ := hbk.cry x (List.mem_of_getElem? hxc)
      have hst : (b.cries.map mcC).take (i + 1) = (b.cries.map mcC).take i ++ [mcC x] := by rw [List.take_add_one, List.getElem?_map, hxc]; rfl
      refine W.skip ?_
      refine W.seq (W.block ?_)
      refine W.seq (W.region S ?_)
      refine AS.cons (sp_fa rfl fo_26_5_6 ?_)
      refine AS.cons (sp_ld 1 rfl rfl sc_24 rfl ?_)
      refine AS.cons (sp_move (v := .int _ _) rfl ?_)
      refine AS.cons (sp_iaR hC rfl rfl sl_24_46_7 (by first | omega | (simp only [decide_eq_true_eq, decide_eq_false_iff_not] at *; omega)) ?_)
      refine AS.cons (sp_ldaR 0 hC (fun _ h => h) rfl ag_46_7 (cries_at hxc) (by first | omega | (simp only [decide_eq_true_eq, decide_eq_false_iff_not] at *; omega)) ?_)
      refine AS.cons (sp_alloc 6 zv_46 rfl (fun b6 => ?_))
      refine AS.cons (sp_st 6 rfl rfl rfl rfl sz_46_7 rfl rfl ?_)
      refine AS.nil ?_
      intro _ S
      refine W.seq (W.draw S mixed (fun i => ([KD.q [], KD.q [1], KD.q [], KD.q [], KD.q [], KD.q [], KD.q [], KD.q [], KD.q [], KD.q [1], KD.q [], KD.q [], KD.q [], KD.q [], KD.q [], KD.e [] [], KD.q [], KD.q [1], KD.q [], KD.q [], KD.q [], KD.q [], KD.q [], KD.q [], KD.q [], KD.q [1], KD.q [], KD.q [], KD.q [], KD.q [], KD.q [], KD.e [] [], KD.q [], KD.e [6] [6], KD.q [], KD.e [6] [6]] : List KD)[i]?) [] [0, 1, 2, 3, 4, 5, 6, 7, 8, 9, 10, 11, 12, 13, 14, 15, 16, 17, 18, 19, 20, 21, 22, 23, 24, 25, 26, 27, 28, 29, 30, 31, 32, 33, 34, 35] (by kernel_rfl) ?_)
      refine AW.cons rfl rfl (sp_fa rfl fo_26_5_6 ?_)
      refine AW.cons rfl rfl (sp_ld 1 rfl rfl sc_24 rfl ?_)
      refine AW.cons rfl rfl (sp_move (v := .int _ _) rfl ?_)
      refine AW.cons rfl rfl (sp_iaR hC rfl rfl sl_24_46_7 (by first | omega | (simp only [decide_eq_true_eq, decide_eq_false_iff_not] at *; omega)) ?_)
      refine AW.cons rfl rfl (sp_fa rfl fo_46_4_5 ?_)
      refine AW.cons rfl rfl (sp_fa rfl fo_44_0_0 ?_)
      refine AW.cons rfl rfl (sp_ldR 5 hC (fun _ h => h) rfl sc_3 (v := iv x.ta) (cries_fld hxc (by decide)) (by omega) ?_)
      refine AW.cons rfl rfl (sp_neg rfl (by first | omega | (simp only [decide_eq_true_eq, decide_eq_false_iff_not] at *; omega)) ?_)
      refine AW.cons rfl rfl (sp_fa rfl fo_26_5_6 ?_)
      refine AW.cons rfl rfl (sp_ld 1 rfl rfl sc_24 rfl ?_)
      refine AW.cons rfl rfl (sp_move (v := .int _ _) rfl ?_)
      refine AW.cons rfl rfl (sp_iaR hC rfl rfl sl_24_46_7 (by first | omega | (simp only [decide_eq_true_eq, decide_eq_false_iff_not] at *; omega)) ?_)
      refine AW.cons rfl rfl (sp_fa rfl fo_46_4_5 ?_)
      refine AW.cons rfl rfl (sp_fa rfl fo_44_1_1 ?_)
      refine AW.cons rfl rfl (sp_ldR 6 hC (fun _ h => h) rfl sc_3 (v := iv x.tO) (cries_fld hxc (by decide)) (by omega) ?_)
      refine AW.cons rfl rfl (sp_call [] rfl rfl cf_57 (fun F w _ S => point _ _ w) ?_)
      refine AW.cons rfl rfl (sp_fa rfl fo_26_5_6 ?_)
      refine AW.cons rfl rfl (sp_ld 1 rfl rfl sc_24 rfl ?_)
      refine AW.cons rfl rfl (sp_move (v := .int _ _) rfl ?_)
      refine AW.cons rfl rfl (sp_iaR hC rfl rfl sl_24_46_7 (by first | omega | (simp only [decide_eq_true_eq, decide_eq_false_iff_not] at *; omega)) ?_)
      refine AW.cons rfl rfl (sp_fa rfl fo_46_3_3 ?_)
      refine AW.cons rfl rfl (sp_fa rfl fo_44_0_0 ?_)
      refine AW.cons rfl rfl (sp_ldR 3 hC (fun _ h => h) rfl sc_3 (v := iv x.fa) (cries_fld hxc (by decide)) (by omega) ?_)
      refine AW.cons rfl rfl (sp_neg rfl (by first | omega | (simp only [decide_eq_true_eq, decide_eq_false_iff_not] at *; omega)) ?_)
      refine AW.cons rfl rfl (sp_fa rfl fo_26_5_6 ?_)
      refine AW.cons rfl rfl (sp_ld 1 rfl rfl sc_24 rfl ?_)
      refine AW.cons rfl rfl (sp_move (v := .int _ _) rfl ?_)
      refine AW.cons rfl rfl (sp_iaR hC rfl rfl sl_24_46_7 (by first | omega | (simp only [decide_eq_true_eq, decide_eq_false_iff_not] at *; omega)) ?_)
      refine AW.cons rfl rfl (sp_fa rfl fo_46_3_3 ?_)
      refine AW.cons rfl rfl (sp_fa rfl fo_44_1_1 ?_)
      refine AW.cons rfl rfl (sp_ldR 4 hC (fun _ h => h) rfl sc_3 (v := iv x.fo) (cries_fld hxc (by decide)) (by omega) ?_)
      refine AW.cons rfl rfl (sp_call [] rfl rfl cf_57 (fun F w _ S => point _ _ w) ?_)
      refine AW.cons rfl rfl (sp_fa rfl fo_46_3_3 ?_)
      refine AW.cons rfl rfl (sp_st 6 rfl rfl rfl rfl sz_44_2 rfl rfl ?_)
      refine AW.cons rfl rfl (sp_fa rfl fo_46_4_5 ?_)
      refine AW.cons rfl rfl (sp_st 6 rfl rfl rfl rfl sz_44_2 rfl rfl ?_)
      refine AW.nil ?_
      intro _ S
      refine W.region S ?_
      refine AS.cons (sp_fa rfl fo_26_5_6 ?_)
      refine AS.cons (sp_ld 3 rfl rfl sc_24 rfl ?_)
      refine AS.cons (sp_ldw 6 rfl rfl ag_46_7 ?_)
      refine AS.cons (sp_bs 94 [.tmp 93] _ sl_24_46_7 zs_46_7 rfl rfl rfl rfl rfl rfl (fun b94 => ?_))
      refine AS.cons (sp_app 902 [94] rfl rfl sl_24_46_7 zs_46_7 rfl (fun F w hF S => rd_pt (S.get ((hF 94 (by simp)).trans rfl)).1 rfl (by omega) (by omega)) rfl (by first | omega | (simp only [] at *; omega)) (fun a95 c95 => ?_))
      refine AS.cons (sp_fa rfl fo_26_5_6 ?_)
      refine AS.cons (sp_st 3 rfl rfl rfl rfl sz_24_1 rfl rfl ?_)
      refine AS.nil ?_
      intro _ S
      refine W.region S ?_
      refine AS.cons (sp_move (v := .int _ _) rfl ?_)
      refine AS.cons (sp_add rfl rfl (by first | omega | (simp only [decide_eq_true_eq, decide_eq_false_iff_not] at *; omega)) ?_)
      refine AS.cons (sp_asg (v := .int _ _) rfl ?_)
      refine AS.nil ?_
      intro _ S
      exact ⟨(i + 1, a95, c95), _, hlt, by show b.cries.length - (i + 1) < b.cries.length - i; omega, ⟨by simp [upd], trivial⟩, ⟨by show pt b3 _ = pt b3 (.cells [iv b.wide, iv b.high, .slice a (b.land.map (flI b)).length c, iv (b.wide - 1 - b.h0), iv (b.wide - 1 - b.h1), iv b.swim, .slice a95 ((b.cries.map mcC).take (i + 1)).length c95].toArray 26 (0, 0)); rw [hst, List.length_append]; rfl, by show slc 46 7 _ _ _ = slc 46 7 (.slice a95 ((b.cries.map mcC).take (i + 1)).length c95) ((b.cries.map mcC).take (i + 1)).length (((b.cries.map mcC).take (i + 1)).flatMap cyL); rw [hst, List.length_append, List.flatMap_append]; rfl, trivial⟩, by repeat (first | exact Agr.refl _ _ | exact Agr.msk _ _ _ | refine Agr.upd ?_ _ rfl | refine Agr.upds ?_ rfl | refine Agr.mskIn ?_ rfl), by repeat (first | exact Agr.refl _ _ | exact Agr.msk _ _ _ | refine Agr.upd ?_ _ rfl | refine Agr.upds ?_ rfl | refine Agr.mskIn ?_ rfl), rfl, S⟩
    · skip
      obtain rfl : i = b.cries.length := by omega
      have hfin2 : mU2 b b.cries.length = mir b := by
        show ({ mir b with cries := (b.cries.map mcC).take b.cries.length } : Bk) = mir b
        rw [← hmc, List.take_length]; rfl
      have S := (show St no w _ (upds [(3, pt b3 (.cells (bkL (mU2 b b.cries.length) a c a' c').toArray 26 (0, 0))), (902, CrS (mU2 b b.cries.length) a' c')] _) [] from S)
      rw [hfin2] at S
      refine W.exit ?_
      refine W.seq (W.region S ?_)
      refine AS.cons (sp_ldw 3 rfl rfl ag_26_7 ?_)
      refine AS.cons (sp_st 2 rfl rfl rfl rfl sz_26_7 rfl rfl ?_)
      refine AS.nil ?_
      intro _ S
      refine W.ret ?_
      refine retc (E := 26) (fr := (0, 0)) (b := b2) (l := bkL (mir b) a c a' c') 2 ag_26_7 rfl rfl rfl rfl rfl S fun w' S' => ?_
      have S2 := (S'.fold (k := 901) (k' := 902) (by decide)).only 901
      exact ⟨_, _, ⟨a, c, a', c', rfl, rfl, rfl⟩, S2⟩
set_option maxHeartbeats 4000000 in
theorem mirrorL (n : Int) (w : World) (hK : Kinds w) (hl : Ints w la lc b.land) (hC : Cries w ca cc b.cries) : Ct Tryd.prog 11 #[.agg (bkL b la lc ca cc).toArray, iv n] w (fun u w' => u = .bool true ∧ Ext w w') := by
  refine fn_intro (args := [.agg (bkL b la lc ca cc).toArray, iv n]) Tryd.func11 rfl rfl (by kernel_rfl) ?_
  have S := St.start no w
  refine W.seq (W.region S ?_)
  refine AS.cons (sp_boxa 2 rfl (fun b2 => ?_))
  refine AS.cons (sp_asg rfl ?_)
  refine AS.nil ?_
  intro _ S
  refine W.seq (W.seq (W.region S ?_))
  refine AS.cons (sp_ldw 2 rfl rfl ag_26_7 ?_)
  refine AS.cons (sp_call [] rfl rfl cf_37 (fun F w _ S => soundF _ _ _ _ _ w (hl.ext S.mod) (hC.ext S.mod)) ?_)
  refine AS.cons (sp_not rfl ?_)
  refine AS.cons (sp_move (v := .bool _) rfl ?_)
  refine AS.split 23 rfl (fun g23 => ?_) (fun g23 => ?_)
  · skip
    refine AS.cons (sp_skip rfl ?_)
    refine AS.cons (sp_skip rfl ?_)
    refine AS.cons (sp_skip rfl ?_)
    refine AS.cons (sp_skip rfl ?_)
    refine AS.cons (sp_skip rfl ?_)
    refine AS.cons (sp_skip rfl ?_)
    refine AS.cons (sp_skip rfl ?_)
    refine AS.cons (sp_skip rfl ?_)
    refine AS.cons (sp_skip rfl ?_)
    refine AS.cons (sp_pick_t rfl (v := .bool _) rfl ?_)
    refine AS.cons (sp_move (v := .bool _) rfl ?_)
    refine AS.cons (sp_skip rfl ?_)
    refine AS.cons (sp_skip rfl ?_)
    refine AS.cons (sp_skip rfl ?_)
    refine AS.cons (sp_skip rfl ?_)
    refine AS.cons (sp_skip rfl ?_)
    refine AS.cons (sp_skip rfl ?_)
    refine AS.cons (sp_skip rfl ?_)
    refine AS.cons (sp_skip rfl ?_)
    refine AS.cons (sp_skip rfl ?_)
    refine AS.cons (sp_pick_t rfl (v := .bool _) rfl ?_)
    refine AS.nil ?_
    intro _ S
    refine W.cond (b := true) rfl (fun _ => ?_) (fun h => nomatch h)
    refine W.seq (W.region S ?_)
    refine AS.cons (sp_call [] rfl rfl cf_28 (fun F w _ S => cried w (hK.ext S.mod)) ?_)
    refine AS.cons (sp_asg (v := .bool _) rfl ?_)
    refine AS.nil ?_
    intro _ S
    refine W.ret ?_
    exact ret1 rfl rfl S fun w' S' => ⟨rfl, S'.mod⟩
  · skip
    have hok : okAll b = true := by rw [Bool.not_eq_false'] at g23; exact g23
    have hbk := okAll_ok hok
    have hb := hbk.num
    have hw := hb.1
    have h0b := hb.2.2.1
    have h1b := hb.2.2.2.1
    refine AS.cons (sp_fa rfl fo_26_0_0 ?_)
    refine AS.cons (sp_ld 2 rfl rfl sc_3 rfl ?_)
    refine AS.cons (sp_sub rfl rfl (by first | omega | (simp only [decide_eq_true_eq, decide_eq_false_iff_not] at *; omega)) ?_)
    refine AS.cons (sp_fa rfl fo_26_3_3 ?_)
    refine AS.cons (sp_iaa rfl rfl ar_23_2_3_1 (by first | omega | (simp only [decide_eq_true_eq, decide_eq_false_iff_not] at *; omega)) ?_)
    refine AS.cons (sp_ld 2 rfl rfl sc_3 rfl ?_)
    refine AS.cons (sp_sub rfl rfl (by first | omega | (simp only [decide_eq_true_eq, decide_eq_false_iff_not] at *; omega)) ?_)
    refine AS.cons (sp_call [] rfl rfl cf_44 (fun F w _ S => between _ _ _ w) ?_)
    refine AS.cons (sp_not rfl ?_)
    refine AS.cons (sp_pick_f rfl (v := .bool _) rfl ?_)
    refine AS.cons (sp_move (v := .bool _) rfl ?_)
    refine AS.split 34 rfl (fun g34 => ?_) (fun g34 => ?_)
    · skip
      refine AS.cons (sp_skip rfl ?_)
      refine AS.cons (sp_skip rfl ?_)
      refine AS.cons (sp_skip rfl ?_)
      refine AS.cons (sp_skip rfl ?_)
      refine AS.cons (sp_skip rfl ?_)
      refine AS.cons (sp_skip rfl ?_)
      refine AS.cons (sp_skip rfl ?_)
      refine AS.cons (sp_skip rfl ?_)
      refine AS.cons (sp_skip rfl ?_)
      refine AS.cons (sp_pick_t rfl (v := .bool _) rfl ?_)
      refine AS.nil ?_
      intro _ S
      refine W.cond (b := true) rfl (fun _ => ?_) (fun h => nomatch h)
      refine W.seq (W.region S ?_)
      refine AS.cons (sp_call [] rfl rfl cf_28 (fun F w _ S => cried w (hK.ext S.mod)) ?_)
      refine AS.cons (sp_asg (v := .bool _) rfl ?_)
      refine AS.nil ?_
      intro _ S
      refine W.ret ?_
      exact ret1 rfl rfl S fun w' S' => ⟨rfl, S'.mod⟩
    · skip
      refine AS.cons (sp_fa rfl fo_26_0_0 ?_)
      refine AS.cons (sp_ld 2 rfl rfl sc_3 rfl ?_)
      refine AS.cons (sp_sub rfl rfl (by first | omega | (simp only [decide_eq_true_eq, decide_eq_false_iff_not] at *; omega)) ?_)
      refine AS.cons (sp_fa rfl fo_26_3_3 ?_)
      refine AS.cons (sp_iaa rfl rfl ar_23_2_3_1 (by first | omega | (simp only [decide_eq_true_eq, decide_eq_false_iff_not] at *; omega)) ?_)
      refine AS.cons (sp_ld 2 rfl rfl sc_3 rfl ?_)
      refine AS.cons (sp_sub rfl rfl (by first | omega | (simp only [decide_eq_true_eq, decide_eq_false_iff_not] at *; omega)) ?_)
      refine AS.cons (sp_call [] rfl rfl cf_44 (fun F w _ S => between _ _ _ w) ?_)
      refine AS.cons (sp_not rfl ?_)
      refine AS.cons (sp_pick_f rfl (v := .bool _) rfl ?_)
      refine AS.nil ?_
      intro _ S
      refine W.cond rfl (fun c44 => ?_) (fun c44 => ?_)
      · skip
        refine W.seq (W.region S ?_)
        refine AS.cons (sp_call [] rfl rfl cf_28 (fun F w _ S => cried w (hK.ext S.mod)) ?_)
        refine AS.cons (sp_asg (v := .bool _) rfl ?_)
        refine AS.nil ?_
        intro _ S
        refine W.ret ?_
        exact ret1 rfl rfl S fun w' S' => ⟨rfl, S'.mod⟩
      · skip
        refine W.skip ?_
        have hmo : MirOk b := by
          rw [Bool.not_eq_false'] at g34 c44
          exact ⟨of_decide_eq_true g34, of_decide_eq_true c44⟩
        have hmk := mir_ok hbk hmo
        have hcl := hbk.lc
        have hll := hbk.ll
        have hml : (mir b).land.length = b.land.length := List.length_map ..
        have hmc : (mir b).cries.length = b.cries.length := List.length_map ..
        have hn1 := Int.emod_nonneg n (show (31 : Int) ≠ 0 by decide)
        have hn2 := Int.emod_lt_of_pos n (show (0 : Int) < 31 by decide)
        obtain ⟨m, hmn⟩ : ∃ m, n % 31 = m := ⟨_, rfl⟩
        obtain ⟨wl, wk, e, hwl, hwk, hee, hek, hap, hl80, hkl, hfl⟩ := mir_sum hbk hmo (show 0 ≤ m ∧ m ≤ 30 by omega)
        obtain ⟨hwL, hwE⟩ := mir_wrong hbk hmo
        obtain ⟨wr, hwr⟩ : ∃ wr, wrongL b = wr := ⟨_, rfl⟩
        obtain ⟨we, hwe⟩ : ∃ we, wrongE b = we := ⟨_, rfl⟩
        obtain ⟨ap, hap2⟩ : ∃ ap, apartV b m = ap := ⟨_, rfl⟩
        have hwr8 : wr.length ≤ 8 := hwr ▸ wrongL_len b
        rw [hwr] at hwL
        rw [hwe] at hwE
        rw [hap2] at hap
        refine W.seq (W.region S ?_)
        refine AS.cons (sp_ldw 2 rfl rfl ag_26_7 ?_)
        refine AS.cons (sp_call1s 47 904 [] _ (by decide) rfl rfl cf_49 (fun F w _ S => mirrorF b la lc ca cc hbk hmo w (hl.ext S.mod) (hC.ext S.mod)) ?_ (by simp))
        rintro v47 i47 j47 ⟨a, c, a', c', rfl, rfl, rfl⟩
        refine AS.cons (sp_move (v := .int _ _) rfl ?_)
        refine AS.cons (sp_call [] rfl rfl cf_40 (fun F w _ S => by have h := wheel n 31 (by decide) w; rw [if_neg (by decide), hmn] at h; exact h) ?_)
        refine AS.cons (sp_alloc 5 zv_26 rfl (fun b5 => ?_))
        refine AS.cons (sp_st 5 rfl rfl rfl rfl sz_26_7 rfl rfl ?_)
        refine AS.cons (sp_asg (v := .int _ _) rfl ?_)
        refine AS.nil ?_
        intro _ S
        refine W.seq (W.region S ?_)
        refine AS.cons (sp_ldw 2 rfl rfl ag_26_7 ?_)
        refine AS.cons (sp_move (v := .int _ _) rfl ?_)
        refine AS.cons (sp_call1 53 [] _ rfl rfl cf_22 (fun F w hF S => by have h := whereP b la lc ca cc m w (hK.ext S.mod) (hl.ext S.mod) (hC.ext S.mod); rw [hwl, hee] at h; exact h) ?_ (by simp))
        rintro v53 i53 ⟨a53, c53, h53, rfl, rfl⟩
        refine AS.cons (sp_move rfl ?_)
        refine AS.cons (sp_ext rfl rfl ?_)
        refine AS.cons (sp_ext rfl rfl ?_)
        refine AS.cons (sp_asg rfl ?_)
        refine AS.cons (sp_asg (v := .int _ _) rfl ?_)
        refine AS.nil ?_
        intro _ S
        refine W.seq (W.region S ?_)
        refine AS.cons (sp_ldw (l := bkL (mir b) a c a' c') 5 rfl rfl ag_26_7 ?_)
        refine AS.cons (sp_move (v := .int _ _) rfl ?_)
        refine AS.cons (sp_call1 59 [47, 904] _ rfl rfl cf_22 (fun F w hF S => by have h := whereP (mir b) a c a' c' m w (hK.ext S.mod) (S.slc_rd (k := 47) ((hF 47 (by simp)).trans rfl) (by omega)) (S.slc_rd (k := 904) ((hF 904 (by simp)).trans rfl) (by omega)); rw [hwk, hek] at h; exact h) ?_ (by simp))
        rintro v59 i59 ⟨a59, c59, h59, rfl, rfl⟩
        refine AS.cons (sp_move rfl ?_)
        refine AS.cons (sp_ext rfl rfl ?_)
        refine AS.cons (sp_ext rfl rfl ?_)
        refine AS.cons (sp_asg rfl ?_)
        refine AS.cons (sp_asg (v := .int _ _) rfl ?_)
        refine AS.nil ?_
        intro _ S
        refine W.seq (W.region S ?_)
        refine AS.cons (sp_ldw 2 rfl rfl ag_26_7 ?_)
        refine AS.cons (sp_call1 64 [] _ rfl rfl cf_35 (fun F w hF S => by have h := wrongP b la lc ca cc w (hK.ext S.mod) (hl.ext S.mod) (hC.ext S.mod); rw [hwr, hwe] at h; exact h) ?_ (by simp))
        rintro v64 i64 ⟨a64, c64, h64, rfl, rfl⟩
        refine AS.cons (sp_move rfl ?_)
        refine AS.cons (sp_ext rfl rfl ?_)
        refine AS.cons (sp_ext rfl rfl ?_)
        refine AS.cons (sp_asg rfl ?_)
        refine AS.cons (sp_asg (v := .int _ _) rfl ?_)
        refine AS.nil ?_
        intro _ S
        refine W.seq (W.region S ?_)
        refine AS.cons (sp_ldw (l := bkL (mir b) a c a' c') 5 rfl rfl ag_26_7 ?_)
        refine AS.cons (sp_call1 69 [47, 904] _ rfl rfl cf_35 (fun F w hF S => by have h := wrongP (mir b) a c a' c' w (hK.ext S.mod) (S.slc_rd (k := 47) ((hF 47 (by simp)).trans rfl) (by omega)) (S.slc_rd (k := 904) ((hF 904 (by simp)).trans rfl) (by omega)); rw [hwL, hwE] at h; exact h) ?_ (by simp))
        rintro v69 i69 ⟨a69, c69, h69, rfl, rfl⟩
        refine AS.cons (sp_move rfl ?_)
        refine AS.cons (sp_ext rfl rfl ?_)
        refine AS.cons (sp_ext rfl rfl ?_)
        refine AS.cons (sp_asg rfl ?_)
        refine AS.cons (sp_asg (v := .int _ _) rfl ?_)
        refine AS.nil ?_
        intro _ S
        refine W.seq (W.region S ?_)
        refine AS.cons (sp_ldw 2 rfl rfl ag_26_7 ?_)
        refine AS.cons (sp_move (v := .int _ _) rfl ?_)
        refine AS.cons (sp_call [] rfl rfl cf_26 (fun F w hF S => by have h := apartP b la lc ca cc m w (hK.ext S.mod) (hl.ext S.mod) (hC.ext S.mod); rw [hap2, hee] at h; exact h) ?_)
        refine AS.cons (sp_move rfl ?_)
        refine AS.cons (sp_ext rfl rfl ?_)
        refine AS.cons (sp_ext rfl rfl ?_)
        refine AS.cons (sp_asg (v := .int _ _) rfl ?_)
        refine AS.cons (sp_asg (v := .int _ _) rfl ?_)
        refine AS.nil ?_
        intro _ S
        refine W.seq (W.region S ?_)
        refine AS.cons (sp_ldw (l := bkL (mir b) a c a' c') 5 rfl rfl ag_26_7 ?_)
        refine AS.cons (sp_move (v := .int _ _) rfl ?_)
        refine AS.cons (sp_call [47, 904] rfl rfl cf_26 (fun F w hF S => by have h := apartP (mir b) a c a' c' m w (hK.ext S.mod) (S.slc_rd (k := 47) ((hF 47 (by simp)).trans rfl) (by omega)) (S.slc_rd (k := 904) ((hF 904 (by simp)).trans rfl) (by omega)); rw [hap, hek] at h; exact h) ?_)
        refine AS.cons (sp_move rfl ?_)
        refine AS.cons (sp_ext rfl rfl ?_)
        refine AS.cons (sp_ext rfl rfl ?_)
        refine AS.cons (sp_asg (v := .int _ _) rfl ?_)
        refine AS.cons (sp_asg (v := .int _ _) rfl ?_)
        refine AS.nil ?_
        intro _ S
        refine W.seq (W.seq (W.region S ?_))
        refine AS.cons (sp_move (v := .int _ _) rfl ?_)
        refine AS.cons (sp_move (v := .int _ _) rfl ?_)
        refine AS.cons (sp_neq rfl rfl ?_)
        refine AS.cons (sp_move (v := .bool _) rfl ?_)
        refine AS.split 87 rfl (fun g87 => ?_) (fun g87 => ?_)
        · exact (no_neq g87).elim
        · skip
          refine AS.cons (sp_move (v := .int _ _) rfl ?_)
          refine AS.cons (sp_move (v := .int _ _) rfl ?_)
          refine AS.cons (sp_neq rfl rfl ?_)
          refine AS.cons (sp_pick_f rfl (v := .bool _) rfl ?_)
          refine AS.cons (sp_move (v := .bool _) rfl ?_)
          refine AS.split 92 rfl (fun g92 => ?_) (fun g92 => ?_)
          · exact (no_neq g92).elim
          · skip
            refine AS.cons (sp_move rfl ?_)
            refine AS.cons (sp_move rfl ?_)
            refine AS.cons (sp_call [64, 69] rfl rfl cf_17 (fun F w hF S => same a64 c64 wr a69 c69 wr w (S.slc_rd (k := 64) ((hF 64 (by simp)).trans rfl) (by omega)) (S.slc_rd (k := 69) ((hF 69 (by simp)).trans rfl) (by omega))) ?_)
            refine AS.cons (sp_not rfl ?_)
            refine AS.cons (sp_pick_f rfl (v := .bool _) rfl ?_)
            refine AS.cons (sp_move (v := .bool _) rfl ?_)
            refine AS.split 98 rfl (fun g98 => ?_) (fun g98 => ?_)
            · exact (no_same g98).elim
            · skip
              refine AS.cons (sp_move (v := .int _ _) rfl ?_)
              refine AS.cons (sp_move (v := .int _ _) rfl ?_)
              refine AS.cons (sp_neq rfl rfl ?_)
              refine AS.cons (sp_pick_f rfl (v := .bool _) rfl ?_)
              refine AS.cons (sp_move (v := .bool _) rfl ?_)
              refine AS.split 103 rfl (fun g103 => ?_) (fun g103 => ?_)
              · exact (no_neq g103).elim
              · skip
                refine AS.cons (sp_move (v := .int _ _) rfl ?_)
                refine AS.cons (sp_move (v := .int _ _) rfl ?_)
                refine AS.cons (sp_neq rfl rfl ?_)
                refine AS.cons (sp_pick_f rfl (v := .bool _) rfl ?_)
                refine AS.cons (sp_move (v := .bool _) rfl ?_)
                refine AS.split 108 rfl (fun g108 => ?_) (fun g108 => ?_)
                · exact (no_neq g108).elim
                · skip
                  refine AS.cons (sp_move rfl ?_)
                  refine AS.cons (sp_len rfl sl_22_3_1 ?_)
                  refine AS.cons (sp_move rfl ?_)
                  refine AS.cons (sp_len rfl sl_22_3_1 ?_)
                  refine AS.cons (sp_neq rfl rfl ?_)
                  refine AS.cons (sp_pick_f rfl (v := .bool _) rfl ?_)
                  refine AS.nil ?_
                  intro _ S
                  refine W.cond rfl (fun c114 => ?_) (fun c114 => ?_)
                  · exfalso; have h1 := of_decide_eq_true c114; omega
                  · skip
                    refine W.skip ?_
                    refine W.seq (W.seq (W.region S ?_))
                    refine AS.cons (sp_asg rfl ?_)
                    refine AS.nil ?_
                    intro _ S
                    refine W.block ?_
                    refine W.loopS S [4, 19, 115, 116, 117, 118, 119, 120, 121, 122, 123, 124, 125, 126, 127, 128, 129] [] (fun (j : Nat) => [(19, iv j)]) (fun _ => []) (fun j => j ≤ wl.length) (fun j => wl.length - j) 0 (by omega) ⟨rfl, trivial⟩ trivial ?_
                    rintro j σ M w1 hj S
                    refine W.seq (W.seq (W.region S ?_))
                    refine AS.cons (sp_move (v := .int _ _) rfl ?_)
                    refine AS.cons (sp_move rfl ?_)
                    refine AS.cons (sp_len rfl sl_22_3_1 ?_)
                    refine AS.cons (sp_lss rfl rfl ?_)
                    refine AS.nil ?_
                    intro _ S
                    refine W.condd rfl (fun c118 => ?_) (fun c118 => ?_)
                    · skip
                      have hjl : j < wl.length := by omega
                      obtain ⟨z, hz⟩ := get_some hjl
                      obtain ⟨hzx, hzk⟩ := hfl z (List.mem_of_getElem? hz)
                      refine W.skip ?_
                      refine W.seq (W.block ?_)
                      refine W.seq (W.draw S mixed (fun i => ([KD.q [], KD.q [2], KD.q [], KD.q [], KD.q [53], KD.q [53], KD.e [] [], KD.e [59] [], KD.q []] : List KD)[i]?) [] [0, 1, 2, 3, 4, 5, 6, 7, 8] (by kernel_rfl) ?_)
                      refine AW.cons rfl rfl (sp_move rfl ?_)
                      refine AW.cons rfl rfl (sp_ldw 2 rfl rfl ag_26_7 ?_)
                      refine AW.cons rfl rfl (sp_move rfl ?_)
                      refine AW.cons rfl rfl (sp_move (v := .int _ _) rfl ?_)
                      refine AW.cons rfl rfl (sp_iaS 53 rfl rfl rfl sl_22_3_1 (by omega) ?_)
                      refine AW.cons rfl rfl (sp_ldS 53 rfl rfl sc_3 (ints_of hz) (by omega) ?_)
                      refine AW.cons rfl rfl (sp_call [] rfl rfl cf_50 (fun F w _ S => flip b la lc ca cc hb z hzx w) ?_)
                      refine AW.cons rfl rfl (sp_call [59] rfl rfl cf_41 (fun F w hF S => place a59 c59 wk (flI b z) (by omega) w (S.slc_rd (k := 59) ((hF 59 (by simp)).trans rfl) (by omega))) ?_)
                      refine AW.cons rfl rfl (sp_lss rfl rfl ?_)
                      refine AW.nil ?_
                      intro _ S
                      refine W.condd rfl (fun c129 => ?_) (fun c129 => ?_)
                      · exact absurd hzk ((ix_lt _ _).1 c129)
                      · skip
                        refine W.skip ?_
                        refine W.region S ?_
                        refine AS.cons (sp_move (v := .int _ _) rfl ?_)
                        refine AS.cons (sp_add rfl rfl (by first | omega | (simp only [decide_eq_true_eq, decide_eq_false_iff_not] at *; omega)) ?_)
                        refine AS.cons (sp_asg (v := .int _ _) rfl ?_)
                        refine AS.nil ?_
                        intro _ S
                        exact ⟨j + 1, _, by omega, by omega, ⟨by simp [upd], trivial⟩, trivial, by repeat (first | exact Agr.refl _ _ | exact Agr.msk _ _ _ | refine Agr.upd ?_ _ rfl | refine Agr.upds ?_ rfl | refine Agr.mskIn ?_ rfl), by repeat (first | exact Agr.refl _ _ | exact Agr.msk _ _ _ | refine Agr.upd ?_ _ rfl | refine Agr.upds ?_ rfl | refine Agr.mskIn ?_ rfl), rfl, S⟩
                    · skip
                      refine W.exit ?_
                      refine W.seq (W.region S ?_)
                      refine AS.cons (sp_call [] rfl rfl cf_28 (fun F w _ S => cried w (hK.ext S.mod)) ?_)
                      refine AS.cons (sp_asg (v := .bool _) rfl ?_)
                      refine AS.nil ?_
                      intro _ S
                      refine W.ret ?_
                      exact ret1 rfl rfl S fun w' S' => ⟨rfl, S'.mod⟩
end
end Go.Proofs.YtmpclgepoemneaaDoor
