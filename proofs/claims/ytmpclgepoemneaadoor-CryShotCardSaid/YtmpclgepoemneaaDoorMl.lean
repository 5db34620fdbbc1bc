/-
  Lemmas of this proof, several texts one behind the other; no condition beyond what each says.
-/
import Derived.Test.YtmpclgepoemneaaDoorMk
namespace Go.Proofs.YtmpclgepoemneaaDoor
open Go.Hu
theorem ar_62_4_3_1 : arB Tryd.prog 62 4 3 1 = true := by kernel_rfl
theorem cf_43 : cfB Tryd.prog 43 = true := by kernel_rfl
theorem cf_47 : cfB Tryd.prog 47 = true := by kernel_rfl
end Go.Proofs.YtmpclgepoemneaaDoor
/-
  How far squares are apart, and which seines inclose them.
-/
namespace Go.Proofs.YtmpclgepoemneaaDoor
open Go.Hu Go.RowKit
theorem rowA_spec (b : Bk) (l : List Int) (x acc : Int) : ∀ k, k ≤ l.length → acc ≤ rowA b l x acc k ∧ (∀ i, i < k → apX b x (l.getD i 0) ≤ rowA b l x acc k) ∧ (rowA b l x acc k = acc ∨ ∃ y ∈ l, rowA b l x acc k = apX b x y)
  | 0, _ => ⟨Int.le_refl _, fun i h => by omega, .inl rfl⟩
  | k + 1, hk => by
    obtain ⟨h1, h2, h3⟩ := rowA_spec b l x acc k (by omega)
    have hm : l.getD k 0 ∈ l := by rw [List.getD_eq_getElem?_getD, List.getElem?_eq_getElem (by omega)]; exact List.getElem_mem (by omega)
    refine ⟨?_, fun i hi => ?_, ?_⟩
    · show acc ≤ max _ _; omega
    · show _ ≤ max _ _
      rcases Nat.lt_succ_iff_lt_or_eq.1 hi with h | rfl
      · have := h2 i h; omega
      · omega
    · show max _ _ = acc ∨ ∃ y ∈ l, max _ _ = apX b x y
      rcases Int.le_total (rowA b l x acc k) (apX b x (l.getD k 0)) with h | h
      · exact .inr ⟨_, hm, Int.max_eq_right h⟩
      · rw [Int.max_eq_left h]; exact h3
theorem colA_spec (b : Bk) (l : List Int) : ∀ i, i ≤ l.length → 0 ≤ colA b l i ∧ (∀ j, j < i → ∀ y ∈ l, apX b (l.getD j 0) y ≤ colA b l i) ∧ (colA b l i = 0 ∨ ∃ x ∈ l, ∃ y ∈ l, colA b l i = apX b x y)
  | 0, _ => ⟨Int.le_refl _, fun i h => by omega, .inl rfl⟩
  | i + 1, hi => by
    obtain ⟨h1, h2, h3⟩ := colA_spec b l i (by omega)
    have hm : l.getD i 0 ∈ l := by rw [List.getD_eq_getElem?_getD, List.getElem?_eq_getElem (by omega)]; exact List.getElem_mem (by omega)
    obtain ⟨g1, g2, g3⟩ := rowA_spec b l (l.getD i 0) (colA b l i) l.length (Nat.le_refl _)
    refine ⟨Int.le_trans h1 g1, fun j hj y hy => ?_, ?_⟩
    · rcases Nat.lt_succ_iff_lt_or_eq.1 hj with h | rfl
      · exact Int.le_trans (h2 j h y hy) g1
      · obtain ⟨k, hk, rfl⟩ := List.mem_iff_getElem.1 hy
        have := g2 k hk
        rwa [List.getD_eq_getElem?_getD (i := k), List.getElem?_eq_getElem hk] at this
    · show rowA _ _ _ _ _ = 0 ∨ ∃ x ∈ l, ∃ y ∈ l, rowA _ _ _ _ _ = apX b x y
      rcases g3 with h | ⟨y, hy, h⟩
      · rw [h]; exact h3
      · exact .inr ⟨_, hm, y, hy, h⟩
theorem min_of {f : Int → Int} : ∀ {l : List Int}, l ≠ [] → ∃ x ∈ l, ∀ y ∈ l, f x ≤ f y
  | [], h => absurd rfl h
  | [x], _ => ⟨x, by simp, fun y hy => by rw [List.mem_singleton.1 hy]; exact Int.le_refl _⟩
  | x :: z :: l, _ => by
    obtain ⟨m, hm, hall⟩ := min_of (f := f) (l := z :: l) (by simp)
    by_cases h : f x ≤ f m
    · refine ⟨x, by simp, fun y hy => ?_⟩
      rcases List.mem_cons.1 hy with rfl | hy
      · exact Int.le_refl _
      · exact Int.le_trans h (hall y hy)
    · refine ⟨m, by simp [hm], fun y hy => ?_⟩
      rcases List.mem_cons.1 hy with rfl | hy
      · omega
      · exact hall y hy
abbrev incI (b : Bk) (l : List Int) (wi hi a : Int) : Bool := l.all fun z => decide (HoldsP b.wide a wi hi z)
theorem shotN_ge {b : Bk} {l : List Int} {wi hi : Int} {n : Nat} (hn : n < sq b) (h : incI b l wi hi n = true) : 0 ≤ shotN b l wi hi ∧ shotN b l wi hi ≤ n := by
  have h0 : 0 ≤ shotN b l wi hi := by
    refine Int.not_lt.1 fun hlt => ?_
    have := fstN_neg hlt n hn
    rw [show inc b l wi hi n = incI b l wi hi n from rfl, h] at this; cases this
  refine ⟨h0, ?_⟩
  obtain ⟨k, hk, _, _, hmin⟩ := fstN_spec h0
  have hk' : shotN b l wi hi = k := hk
  rw [hk']
  refine Int.not_lt.1 fun hlt => ?_
  have := hmin n (by omega)
  rw [show inc b l wi hi n = incI b l wi hi n from rfl, h] at this; cases this
theorem incI_of {b : Bk} {l : List Int} {wi hi a : Int} (h : ∀ z ∈ l, HoldsP b.wide a wi hi z) : incI b l wi hi a = true := by
  rw [List.all_eq_true]
  exact fun z hz => decide_eq_true (h z hz)
/-- A seine of one more than they are apart incloses them. -/
theorem apart_in {b : Bk} (hb : Num b) {l : List Int} (hl : l ≠ []) (hx : ∀ z ∈ l, 0 ≤ z ∧ z < sq b) : 0 ≤ shotN b l (colA b l l.length + 1) (colA b l l.length + 1) := by
  obtain ⟨_, hmax, _⟩ := colA_spec b l l.length (Nat.le_refl _)
  have hmx : ∀ x ∈ l, ∀ y ∈ l, apX b x y ≤ colA b l l.length := fun x hxm y hy => by
    obtain ⟨k, hk, rfl⟩ := List.mem_iff_getElem.1 hxm
    have := hmax k hk y hy
    rwa [List.getD_eq_getElem?_getD, List.getElem?_eq_getElem hk] at this
  obtain ⟨c, hc, hcm⟩ := min_of (f := fun z => z % b.wide) hl
  obtain ⟨r, hr, hrm⟩ := min_of (f := fun z => z / b.wide) hl
  have hxy : ∀ z ∈ l, (0 ≤ z % b.wide ∧ z % b.wide < b.wide) ∧ (0 ≤ z / b.wide ∧ z / b.wide < b.high) := fun z hz => by
    obtain ⟨h0, h1⟩ := hx z hz
    have := sq_xy hb (n := z.toNat) (by omega)
    rw [Int.toNat_of_nonneg h0] at this
    exact ⟨this.1, this.2.1⟩
  obtain ⟨e1, e2, e3, e4⟩ := xy_sq hb (hxy c hc).1 (hxy r hr).2
  refine (shotN_ge (n := (r / b.wide * b.wide + c % b.wide).toNat) e2 (incI_of fun z hz => ?_)).1
  rw [Int.toNat_of_nonneg e1]
  unfold HoldsP
  rw [e3, e4]
  have h1 := hcm z hz
  have h2 := hrm z hz
  have h3 := hmx z hz c hc
  have h4 := hmx z hz r hr
  unfold apX at h3 h4
  omega
theorem apart_out {b : Bk} {l : List Int} (h : 0 < colA b l l.length) : shotN b l (colA b l l.length) (colA b l l.length) < 0 := by
  refine Int.not_le.1 fun hle => ?_
  obtain ⟨_, _, h3⟩ := colA_spec b l l.length (Nat.le_refl _)
  obtain ⟨n, _, _, hall, _⟩ := shotN_spec hle
  rcases h3 with h3 | ⟨x, hx, y, hy, h3⟩
  · omega
  · have h1 := hall x hx
    have h2 := hall y hy
    unfold HoldsP at h1 h2
    unfold apX at h3
    omega
theorem shot_mono {b : Bk} {l : List Int} {wi hi wi' hi' : Int} (h1 : wi ≤ wi') (h2 : hi ≤ hi') (h : 0 ≤ shotN b l wi hi) : 0 ≤ shotN b l wi' hi' := by
  obtain ⟨n, _, hn, hall, _⟩ := shotN_spec h
  refine (shotN_ge hn (incI_of fun z hz => ?_)).1
  have := hall z hz
  unfold HoldsP at this ⊢
  omega
theorem apart_le {b : Bk} (hb : Num b) {l : List Int} (hx : ∀ z ∈ l, 0 ≤ z ∧ z < sq b) : colA b l l.length ≤ 9 := by
  obtain ⟨_, _, h3⟩ := colA_spec b l l.length (Nat.le_refl _)
  have hxy : ∀ z ∈ l, (0 ≤ z % b.wide ∧ z % b.wide < b.wide) ∧ (0 ≤ z / b.wide ∧ z / b.wide < b.high) := fun z hz => by
    obtain ⟨h0, h1⟩ := hx z hz
    have := sq_xy hb (n := z.toNat) (by omega)
    rw [Int.toNat_of_nonneg h0] at this
    exact ⟨this.1, this.2.1⟩
  rcases h3 with h3 | ⟨x, hxm, y, hy, h3⟩
  · omega
  · have h1 := hxy x hxm
    have h2 := hxy y hy
    obtain ⟨w1, w2, _⟩ := hb
    unfold apX at h3
    omega
theorem shotE_two {b : Bk} (h1 : okAll b = true) (h2 : canB b = true) {m x y : Int} (hp : ShotP m x y) : (shotE b m x y = 0 ∧ 0 ≤ shotN b (whs b m.toNat) x y ∧ shotV b m x y = shotN b (whs b m.toNat) x y) ∨ (shotE b m x y = 4 ∧ shotN b (whs b m.toNat) x y < 0 ∧ shotV b m x y = 0) := by
  have ha : askV b (decide (ShotP m x y)) = 0 := ask_of h1 h2 (decide_eq_true hp)
  by_cases h : 0 ≤ shotN b (whs b m.toNat) x y
  · have he : shotE b m x y = 0 := by unfold shotE; rw [if_pos ha, if_pos h]
    exact .inl ⟨he, h, by unfold shotV; rw [if_pos he]⟩
  · have he : shotE b m x y = 4 := by unfold shotE; rw [if_pos ha, if_neg h]
    exact .inr ⟨he, by omega, by unfold shotV; rw [if_neg (by rw [he]; decide)]⟩
/-- What is answered of a minute and a seine. -/
theorem shot_sum {b : Bk} (hbk : BookOk b) {m wi hi : Int} (hm : 0 ≤ m ∧ m ≤ 30) (hwi : 1 ≤ wi ∧ wi ≤ 9) (hhi : 1 ≤ hi ∧ hi ≤ 9) :
    ∃ wl e ap at_ g, whereL b m = wl ∧ askV b (decide (0 ≤ m ∧ m ≤ 30)) = e ∧ apartV b m = ap ∧ shotV b m wi hi = at_ ∧ shotE b m wi hi = g ∧ wl.length ≤ 80 ∧ (∀ z ∈ wl, 0 ≤ z ∧ z < sq b) ∧
      ((e = 12 ∧ g = 12 ∧ ap = 0 ∧ at_ = 0) ∨
       (e = 0 ∧ (0 ≤ ap ∧ ap ≤ 9) ∧ ((g = 0 ∧ (0 ≤ at_ ∧ at_ < sq b) ∧ incI b wl wi hi at_ = true) ∨ (g = 4 ∧ at_ = 0)) ∧ shotE b m (ap + 1) (ap + 1) = 0 ∧ (0 < ap → shotE b m ap ap = 4) ∧
        (g = 0 → shotE b m (wi + 1) hi = 0 ∧ shotE b m wi (hi + 1) = 0) ∧ ∀ o : Int, 0 ≤ o ∧ o < sq b → incI b wl wi hi o = true → g = 0 ∧ at_ ≤ o)) := by
  have hok := ok_of hbk
  have hb := hbk.num
  have hx : ∀ z ∈ whereL b m, 0 ≤ z ∧ z < sq b := fun z hz => by
    rw [whereL_whs hbk hm] at hz
    exact (whs_fact (show m.toNat ≤ 30 by omega) hz).1
  refine ⟨_, _, _, _, _, rfl, rfl, rfl, rfl, rfl, whereL_len b m, hx, ?_⟩
  rcases where_of hok hm with ⟨hcan, ha, hw⟩ | ⟨hcan, ha, hw⟩
  · rw [hw] at hx ⊢
    have hne : whs b m.toNat ≠ [] := whs_some hb (by omega) hcan
    have hap : apartV b m = colA b (whs b m.toNat) (whs b m.toNat).length := by unfold apartV; rw [if_pos ha]
    rw [hap]
    have h0 := (colA_spec b (whs b m.toNat) (whs b m.toNat).length (Nat.le_refl _)).1
    have h9 := apart_le hb hx
    have hE : ∀ {x y : Int}, 1 ≤ x ∧ x ≤ 10 → 1 ≤ y ∧ y ≤ 10 → (0 ≤ shotN b (whs b m.toNat) x y → shotE b m x y = 0 ∧ shotV b m x y = shotN b (whs b m.toNat) x y) ∧ (shotN b (whs b m.toNat) x y < 0 → shotE b m x y = 4 ∧ shotV b m x y = 0) := fun {x y} h1 h2 => by
      rcases shotE_two hok hcan (show ShotP m x y from ⟨hm, h1, h2⟩) with ⟨g1, g2, g3⟩ | ⟨g1, g2, g3⟩
      · exact ⟨fun _ => ⟨g1, g3⟩, fun h => absurd g2 (by omega)⟩
      · exact ⟨fun h => absurd g2 (by omega), fun _ => ⟨g1, g3⟩⟩
    refine .inr ⟨ha, ⟨h0, h9⟩, ?_, ?_, fun h => ?_, fun h => ?_, fun o ho hi' => ?_⟩
    · by_cases h : 0 ≤ shotN b (whs b m.toNat) wi hi
      · obtain ⟨n, hn, hnl, hall, _⟩ := shotN_spec h
        obtain ⟨g1, g2⟩ := (hE (x := wi) (y := hi) (by omega) (by omega)).1 h
        refine .inl ⟨g1, by rw [g2, hn]; omega, ?_⟩
        rw [g2, hn]
        exact incI_of hall
      · exact .inr ((hE (x := wi) (y := hi) (by omega) (by omega)).2 (by omega))
    · exact ((hE (by omega) (by omega)).1 (apart_in hb hne hx)).1
    · exact ((hE (by omega) (by omega)).2 (apart_out h)).1
    · have hge : 0 ≤ shotN b (whs b m.toNat) wi hi := by
        refine Int.not_lt.1 fun hlt => ?_
        have := ((hE (x := wi) (y := hi) (by omega) (by omega)).2 hlt).1
        rw [h] at this; cases this
      exact ⟨((hE (by omega) (by omega)).1 (shot_mono (by omega) (Int.le_refl _) hge)).1, ((hE (by omega) (by omega)).1 (shot_mono (Int.le_refl _) (by omega) hge)).1⟩
    · obtain ⟨k, rfl⟩ : ∃ k : Nat, o = k := ⟨o.toNat, by omega⟩
      obtain ⟨g1, g2⟩ := shotN_ge (n := k) (by omega) hi'
      obtain ⟨g3, g4⟩ := (hE (x := wi) (y := hi) (by omega) (by omega)).1 g1
      exact ⟨g3, by rw [g4]; exact g2⟩
  · have hsp : askV b (decide (ShotP m wi hi)) = 12 := by unfold askV; rw [hok, hcan, decide_eq_true (show ShotP m wi hi from ⟨hm, by omega, by omega⟩)]; rfl
    have hE : shotE b m wi hi = 12 := by unfold shotE; rw [if_neg (by rw [hsp]; decide)]; exact hsp
    exact .inl ⟨ha, hE, by unfold apartV; rw [if_neg (by rw [ha]; decide)], by unfold shotV; rw [if_neg (by rw [hE]; decide)]⟩
end Go.Proofs.YtmpclgepoemneaaDoor

/-
  The law of the shots, walked.
-/
namespace Go.Proofs.YtmpclgepoemneaaDoor
set_option maxRecDepth 100000
open Go.Hu Go.RowKit
section
variable (b : Bk) (la : Option Addr) (lc : Nat) (ca : Option Addr) (cc : Nat)
/-- Are the first j all such squares? -/
def alU (p : Int → Bool) (l : List Int) (j : Nat) : Bool := (l.take j).all p
theorem alU_succ {p : Int → Bool} {l : List Int} {j : Nat} {x : Int} (hx : l[j]? = some x) : alU p l (j + 1) = (alU p l j && p x) := by
  unfold alU
  rw [List.take_add_one, hx, List.all_append]
  simp
theorem allF (hb : Num b) (ga : Option Addr) (gc : Nat) (l : List Int) (hlx : ∀ z ∈ l, 0 ≤ z ∧ z ≤ 1000) (a wi hi : Int) (ha : 0 ≤ a ∧ a ≤ 1000) (hwi : 1 ≤ wi ∧ wi ≤ 10) (hhi : 1 ≤ hi ∧ hi ≤ 10) (w : World) (hg : Ints w ga gc l) :
    Ct Tryd.prog 47 #[.agg (bkL b la lc ca cc).toArray, iv a, iv wi, iv hi, .slice ga l.length gc] w (fun u w' => u = .bool (incI b l wi hi a) ∧ Ext w w') := by
  refine fn_intro (args := [.agg (bkL b la lc ca cc).toArray, iv a, iv wi, iv hi, .slice ga l.length gc]) Tryd.func47 rfl rfl (by kernel_rfl) ?_
  have S := St.start no w
  have hln : l.length ≤ 9223372036854775807 := hg.2.1
  refine W.seq (W.region S ?_)
  refine AS.cons (sp_boxa 5 rfl (fun b5 => ?_))
  refine AS.cons (sp_asg rfl ?_)
  refine AS.nil ?_
  intro _ S
  refine W.seq (W.region S ?_)
  refine AS.cons (sp_asg rfl ?_)
  refine AS.nil ?_
  intro _ S
  refine W.seq (W.seq (W.region S ?_))
  refine AS.cons (sp_asg rfl ?_)
  refine AS.nil ?_
  intro _ S
  refine W.block ?_
  refine W.loopS S [11, 12, 13, 14, 15, 16, 17, 18, 19, 20, 21, 22, 23, 24, 25, 26, 27, 28, 29, 30] [] (fun (j : Nat) => [(12, iv j), (11, .bool (alU (fun z => decide (HoldsP b.wide a wi hi z)) l j))]) (fun _ => []) (fun j => j ≤ l.length) (fun j => l.length - j) 0 (by omega) ⟨rfl, rfl, trivial⟩ trivial ?_
  rintro j σ M w1 hj S
  refine W.seq (W.seq (W.region S ?_))
  refine AS.cons (sp_move (v := .int _ _) rfl ?_)
  refine AS.cons (sp_move rfl ?_)
  refine AS.cons (sp_len rfl sl_22_3_1 ?_)
  refine AS.cons (sp_lss rfl rfl ?_)
  refine AS.nil ?_
  intro _ S
  refine W.condd rfl (fun c16 => ?_) (fun c16 => ?_)
  · skip
    have hjl : j < l.length := by omega
    obtain ⟨x, hx⟩ := get_some hjl
    have hxb := hlx x (List.mem_of_getElem? hx)
    refine W.skip ?_
    refine W.seq (W.block ?_)
    refine W.draw S mixed (fun i => ([KD.q [], KD.q [], KD.q [5], KD.q [], KD.q [], KD.q [], KD.q [], KD.q [], KD.q [], KD.q [], KD.e [] [], KD.q [], KD.q []] : List KD)[i]?) [] [0, 1, 2, 3, 4, 5, 6, 7, 8, 9, 10, 11, 12] (by kernel_rfl) ?_
    refine AW.cons rfl rfl (sp_move (v := .bool _) rfl ?_)
    refine AW.cons rfl rfl (sp_move (v := .bool _) rfl ?_)
    refine AW.split 20 rfl (fun g20 => ?_) (fun g20 => ?_)
    · skip
      refine AW.cons rfl rfl (sp_ldw 5 rfl rfl ag_26_7 ?_)
      refine AW.cons rfl rfl (sp_move (v := .int _ _) rfl ?_)
      refine AW.cons rfl rfl (sp_move (v := .int _ _) rfl ?_)
      refine AW.cons rfl rfl (sp_move (v := .int _ _) rfl ?_)
      refine AW.cons rfl rfl (sp_move rfl ?_)
      refine AW.cons rfl rfl (sp_move (v := .int _ _) rfl ?_)
      refine AW.cons rfl rfl (sp_iaR hg rfl rfl sl_22_3_1 (by first | omega | (simp only [decide_eq_true_eq, decide_eq_false_iff_not] at *; omega)) ?_)
      refine AW.cons rfl rfl (sp_ldR 0 hg (fun _ h => h) rfl sc_3 (ints_at hx) (by first | omega | (simp only [decide_eq_true_eq, decide_eq_false_iff_not] at *; omega)) ?_)
      refine AW.cons rfl rfl (sp_call [] rfl rfl cf_43 (fun F w _ S => holdsF b la lc ca cc hb a wi hi x ha hxb (by omega) (by omega) w) ?_)
      refine AW.cons rfl rfl (sp_pick_t rfl (v := .bool _) rfl ?_)
      refine AW.cons rfl rfl (sp_asg (v := .bool _) rfl ?_)
      refine AW.nil ?_
      intro _ S
      refine W.region S ?_
      refine AS.cons (sp_move (v := .int _ _) rfl ?_)
      refine AS.cons (sp_add rfl rfl (by first | omega | (simp only [decide_eq_true_eq, decide_eq_false_iff_not] at *; omega)) ?_)
      refine AS.cons (sp_asg (v := .int _ _) rfl ?_)
      refine AS.nil ?_
      intro _ S
      exact ⟨j + 1, _, by omega, by omega, ⟨by simp [upd], by show Value.bool _ = Value.bool (alU _ l (j + 1)); rw [alU_succ hx, g20]; rfl, trivial⟩, trivial, by repeat (first | exact Agr.refl _ _ | exact Agr.msk _ _ _ | refine Agr.upd ?_ _ rfl | refine Agr.upds ?_ rfl | refine Agr.mskIn ?_ rfl), by repeat (first | exact Agr.refl _ _ | exact Agr.msk _ _ _ | refine Agr.upd ?_ _ rfl | refine Agr.upds ?_ rfl | refine Agr.mskIn ?_ rfl), rfl, S⟩
    · skip
      refine AW.cons rfl rfl (sp_skip rfl ?_)
      refine AW.cons rfl rfl (sp_skip rfl ?_)
      refine AW.cons rfl rfl (sp_skip rfl ?_)
      refine AW.cons rfl rfl (sp_skip rfl ?_)
      refine AW.cons rfl rfl (sp_skip rfl ?_)
      refine AW.cons rfl rfl (sp_skip rfl ?_)
      refine AW.cons rfl rfl (sp_skip rfl ?_)
      refine AW.cons rfl rfl (sp_skip rfl ?_)
      refine AW.cons rfl rfl (sp_skip rfl ?_)
      refine AW.cons rfl rfl (sp_pick_f rfl (v := .bool _) rfl ?_)
      refine AW.cons rfl rfl (sp_asg (v := .bool _) rfl ?_)
      refine AW.nil ?_
      intro _ S
      refine W.region S ?_
      refine AS.cons (sp_move (v := .int _ _) rfl ?_)
      refine AS.cons (sp_add rfl rfl (by first | omega | (simp only [decide_eq_true_eq, decide_eq_false_iff_not] at *; omega)) ?_)
      refine AS.cons (sp_asg (v := .int _ _) rfl ?_)
      refine AS.nil ?_
      intro _ S
      exact ⟨j + 1, _, by omega, by omega, ⟨by simp [upd], by show Value.bool _ = Value.bool (alU _ l (j + 1)); rw [alU_succ hx, g20]; rfl, trivial⟩, trivial, by repeat (first | exact Agr.refl _ _ | exact Agr.msk _ _ _ | refine Agr.upd ?_ _ rfl | refine Agr.upds ?_ rfl | refine Agr.mskIn ?_ rfl), by repeat (first | exact Agr.refl _ _ | exact Agr.msk _ _ _ | refine Agr.upd ?_ _ rfl | refine Agr.upds ?_ rfl | refine Agr.mskIn ?_ rfl), rfl, S⟩
  · skip
    obtain rfl : j = l.length := by omega
    refine W.exit ?_
    refine W.seq (W.region S ?_)
    refine AS.cons (sp_move (v := .bool _) rfl ?_)
    refine AS.cons (sp_asg (v := .bool _) rfl ?_)
    refine AS.nil ?_
    intro _ S
    refine W.ret ?_
    exact ret1 rfl rfl S fun w' S' => ⟨congrArg Value.bool (by unfold alU; rw [List.take_length]), S'.mod⟩
set_option maxHeartbeats 4000000 in
theorem shotL (n0 n1 n2 n3 : Int) (w : World) (hK : Kinds w) (hl : Ints w la lc b.land) (hC : Cries w ca cc b.cries) : Ct Tryd.prog 9 #[.agg (bkL b la lc ca cc).toArray, .agg [iv n0, iv n1, iv n2, iv n3].toArray] w (fun u w' => u = .bool true ∧ Ext w w') := by
  refine fn_intro (args := [.agg (bkL b la lc ca cc).toArray, .agg [iv n0, iv n1, iv n2, iv n3].toArray]) Tryd.func9 rfl rfl (by kernel_rfl) ?_
  have S := St.start no w
  refine W.seq (W.region S ?_)
  refine AS.cons (sp_boxa 2 rfl (fun b2 => ?_))
  refine AS.cons (sp_boxa 3 rfl (fun b3 => ?_))
  refine AS.cons (sp_asg rfl ?_)
  refine AS.nil ?_
  intro _ S
  refine W.seq (W.seq (W.region S ?_))
  refine AS.cons (sp_ldw 2 rfl rfl ag_26_7 ?_)
  refine AS.cons (sp_call [] rfl rfl cf_37 (fun F w _ S => soundF _ _ _ _ _ w (hl.ext S.mod) (hC.ext S.mod)) ?_)
  refine AS.cons (sp_not rfl ?_)
  refine AS.nil ?_
  intro _ S
  refine W.cond rfl (fun c25 => ?_) (fun c25 => ?_)
  · skip
    refine W.seq (W.region S ?_)
    refine AS.cons (sp_call [] rfl rfl cf_28 (fun F w _ S => cried w (hK.ext S.mod)) ?_)
    refine AS.cons (sp_asg (v := .bool _) rfl ?_)
    refine AS.nil ?_
    intro _ S
    refine W.ret ?_
    exact ret1 rfl rfl S fun w' S' => ⟨rfl, S'.mod⟩
  · skip
    refine W.skip ?_
    have hok : okAll b = true := by rw [Bool.not_eq_false'] at c25; exact c25
    have hbk := okAll_ok hok
    have hb := hbk.num
    have hsq := sq_le hb
    have hw := hb.1
    have hh := hb.2.1
    have hm := mulS (a := b.wide) (b := b.high) (by omega) (by omega)
    have hn0 := Int.emod_nonneg n0 (show (31 : Int) ≠ 0 by decide)
    have hn0' := Int.emod_lt_of_pos n0 (show (0 : Int) < 31 by decide)
    have hn1 := Int.emod_nonneg n1 (show (9 : Int) ≠ 0 by decide)
    have hn1' := Int.emod_lt_of_pos n1 (show (0 : Int) < 9 by decide)
    have hn2 := Int.emod_nonneg n2 (show (9 : Int) ≠ 0 by decide)
    have hn2' := Int.emod_lt_of_pos n2 (show (0 : Int) < 9 by decide)
    obtain ⟨m, hme⟩ : ∃ m, n0 % 31 = m := ⟨_, rfl⟩
    obtain ⟨wi, hwe⟩ : ∃ wi, 1 + n1 % 9 = wi := ⟨_, rfl⟩
    obtain ⟨hi, hhe⟩ : ∃ hi, 1 + n2 % 9 = hi := ⟨_, rfl⟩
    obtain ⟨o, hoe⟩ : ∃ o, (if b.wide * b.high < 2 then 0 else n3 % (b.wide * b.high)) = o := ⟨_, rfl⟩
    have ho : 0 ≤ o ∧ o < sq b := by
      rw [← hoe]
      split
      · omega
      · have h1 := Int.emod_nonneg n3 (show b.wide * b.high ≠ 0 by omega)
        have h2 := Int.emod_lt_of_pos n3 (show 0 < b.wide * b.high by omega)
        omega
    obtain ⟨wl, e, ap, at_, g, hwl, hee, hap, hat, hg, hl80, hlx0, hsum⟩ := shot_sum hbk (show 0 ≤ m ∧ m ≤ 30 by omega) (show 1 ≤ wi ∧ wi ≤ 9 by omega) (show 1 ≤ hi ∧ hi ≤ 9 by omega)
    have hlx : ∀ z ∈ wl, 0 ≤ z ∧ z ≤ 1000 := fun z hz => by have := hlx0 z hz; omega
    have hapb : 0 ≤ ap ∧ ap ≤ 9 := by rcases hsum with h | h <;> omega
    have hatb : 0 ≤ at_ ∧ at_ ≤ 1000 := by
      rcases hsum with h | ⟨_, _, h, _⟩
      · omega
      · rcases h with h | h <;> omega
    obtain ⟨g1, hg1⟩ : ∃ g1, shotE b m (ap + 1) (ap + 1) = g1 := ⟨_, rfl⟩
    obtain ⟨v1, hv1⟩ : ∃ v1, shotV b m (ap + 1) (ap + 1) = v1 := ⟨_, rfl⟩
    obtain ⟨g2, hg2⟩ : ∃ g2, shotE b m ap ap = g2 := ⟨_, rfl⟩
    obtain ⟨v2, hv2⟩ : ∃ v2, shotV b m ap ap = v2 := ⟨_, rfl⟩
    obtain ⟨g3, hg3⟩ : ∃ g3, shotE b m (wi + 1) hi = g3 := ⟨_, rfl⟩
    obtain ⟨v3, hv3⟩ : ∃ v3, shotV b m (wi + 1) hi = v3 := ⟨_, rfl⟩
    obtain ⟨g4, hg4⟩ : ∃ g4, shotE b m wi (hi + 1) = g4 := ⟨_, rfl⟩
    obtain ⟨v4, hv4⟩ : ∃ v4, shotV b m wi (hi + 1) = v4 := ⟨_, rfl⟩
    rw [hg1, hg2, hg3, hg4] at hsum
    refine W.seq (W.draw S mixed (fun i => ([KD.q [], KD.q [3], KD.e [] [], KD.q [], KD.q [3], KD.e [] [], KD.q [], KD.q [], KD.q [3], KD.e [] [], KD.q [], KD.q [], KD.q [], KD.q []] : List KD)[i]?) [5] [0, 1, 2, 3, 4, 5, 6, 7, 8, 9, 10, 11, 12, 13] (by kernel_rfl) ?_)
    refine AW.cons rfl rfl (sp_iaa rfl rfl ar_62_4_3_1 (by first | omega | (simp only [decide_eq_true_eq, decide_eq_false_iff_not] at *; omega)) ?_)
    refine AW.cons rfl rfl (sp_ld 3 rfl rfl sc_3 rfl ?_)
    refine AW.cons rfl rfl (sp_call [] rfl rfl cf_40 (fun F w _ S => by have h := wheel n0 31 (by decide) w; rw [if_neg (by decide), hme] at h; exact h) ?_)
    refine AW.cons rfl rfl (sp_iaa rfl rfl ar_62_4_3_1 (by first | omega | (simp only [decide_eq_true_eq, decide_eq_false_iff_not] at *; omega)) ?_)
    refine AW.cons rfl rfl (sp_ld 3 rfl rfl sc_3 rfl ?_)
    refine AW.cons rfl rfl (sp_call [] rfl rfl cf_40 (fun F w _ S => by have h := wheel n1 9 (by decide) w; rw [if_neg (by decide)] at h; exact h) ?_)
    refine AW.cons rfl rfl (sp_add rfl rfl (by first | omega | (simp only [decide_eq_true_eq, decide_eq_false_iff_not] at *; omega)) ?_)
    refine AW.cons rfl rfl (sp_iaa rfl rfl ar_62_4_3_1 (by first | omega | (simp only [decide_eq_true_eq, decide_eq_false_iff_not] at *; omega)) ?_)
    refine AW.cons rfl rfl (sp_ld 3 rfl rfl sc_3 rfl ?_)
    refine AW.cons rfl rfl (sp_call [] rfl rfl cf_40 (fun F w _ S => by have h := wheel n2 9 (by decide) w; rw [if_neg (by decide)] at h; exact h) ?_)
    refine AW.cons rfl rfl (sp_add rfl rfl (by first | omega | (simp only [decide_eq_true_eq, decide_eq_false_iff_not] at *; omega)) ?_)
    refine AW.cons rfl rfl (sp_asg (v := .int _ _) rfl ?_)
    refine AW.cons rfl rfl (sp_asg (v := .int _ _) rfl ?_)
    refine AW.cons rfl rfl (sp_asg (v := .int _ _) rfl ?_)
    refine AW.nil ?_
    intro _ S
    rw [hwe, hhe]
    refine W.seq (W.region S ?_)
    refine AS.cons (sp_ldw 2 rfl rfl ag_26_7 ?_)
    refine AS.cons (sp_move (v := .int _ _) rfl ?_)
    refine AS.cons (sp_call1 41 [] _ rfl rfl cf_22 (fun F w hF S => by have h := whereP b la lc ca cc m w (hK.ext S.mod) (hl.ext S.mod) (hC.ext S.mod); rw [hwl, hee] at h; exact h) ?_ (by simp))
    rintro v41 i41 ⟨a41, c41, h41, rfl, rfl⟩
    refine AS.cons (sp_move rfl ?_)
    refine AS.cons (sp_ext rfl rfl ?_)
    refine AS.cons (sp_ext rfl rfl ?_)
    refine AS.cons (sp_asg rfl ?_)
    refine AS.cons (sp_asg (v := .int _ _) rfl ?_)
    refine AS.nil ?_
    intro _ S
    refine W.seq (W.region S ?_)
    refine AS.cons (sp_ldw 2 rfl rfl ag_26_7 ?_)
    refine AS.cons (sp_move (v := .int _ _) rfl ?_)
    refine AS.cons (sp_call [] rfl rfl cf_26 (fun F w hF S => by have h := apartP b la lc ca cc m w (hK.ext S.mod) (hl.ext S.mod) (hC.ext S.mod); rw [hap, hee] at h; exact h) ?_)
    refine AS.cons (sp_move rfl ?_)
    refine AS.cons (sp_ext rfl rfl ?_)
    refine AS.cons (sp_ext rfl rfl ?_)
    refine AS.cons (sp_asg (v := .int _ _) rfl ?_)
    refine AS.cons (sp_asg (v := .int _ _) rfl ?_)
    refine AS.nil ?_
    intro _ S
    refine W.seq (W.region S ?_)
    refine AS.cons (sp_ldw 2 rfl rfl ag_26_7 ?_)
    refine AS.cons (sp_move (v := .int _ _) rfl ?_)
    refine AS.cons (sp_move (v := .int _ _) rfl ?_)
    refine AS.cons (sp_move (v := .int _ _) rfl ?_)
    refine AS.cons (sp_call [] rfl rfl cf_29 (fun F w hF S => by have h := shotP b la lc ca cc m wi hi w (hK.ext S.mod) (hl.ext S.mod) (hC.ext S.mod); rw [hat, hg] at h; exact h) ?_)
    refine AS.cons (sp_move rfl ?_)
    refine AS.cons (sp_ext rfl rfl ?_)
    refine AS.cons (sp_ext rfl rfl ?_)
    refine AS.cons (sp_asg (v := .int _ _) rfl ?_)
    refine AS.cons (sp_asg (v := .int _ _) rfl ?_)
    refine AS.nil ?_
    intro _ S
    refine W.seq (W.seq (W.region S ?_))
    refine AS.cons (sp_move (v := .int _ _) rfl ?_)
    refine AS.cons (sp_move (v := .int _ _) rfl ?_)
    refine AS.cons (sp_neq rfl rfl ?_)
    refine AS.cons (sp_move (v := .bool _) rfl ?_)
    refine AS.split 61 rfl (fun g61 => ?_) (fun g61 => ?_)
    · exact (no_neq g61).elim
    · skip
      refine AS.cons (sp_move (v := .int _ _) rfl ?_)
      refine AS.cons (sp_neq rfl rfl ?_)
      refine AS.cons (sp_pick_f rfl (v := .bool _) rfl ?_)
      refine AS.nil ?_
      intro _ S
      refine W.cond rfl (fun c64 => ?_) (fun c64 => ?_)
      · skip
        have hdead : e = 12 ∧ g = 12 ∧ ap = 0 ∧ at_ = 0 := by
          have h1 := of_decide_eq_true c64
          rcases hsum with h | h
          · exact h
          · exact absurd h.1 h1
        refine W.seq (W.region S ?_)
        refine AS.cons (sp_move (v := .int _ _) rfl ?_)
        refine AS.cons (sp_move (v := .int _ _) rfl ?_)
        refine AS.cons (sp_eql rfl rfl ?_)
        refine AS.cons (sp_move (v := .bool _) rfl ?_)
        refine AS.split 68 rfl (fun g68 => ?_) (fun g68 => ?_)
        · skip
          refine AS.cons (sp_move (v := .int _ _) rfl ?_)
          refine AS.cons (sp_move (v := .int _ _) rfl ?_)
          refine AS.cons (sp_eql rfl rfl ?_)
          refine AS.cons (sp_pick_t rfl (v := .bool _) rfl ?_)
          refine AS.cons (sp_move (v := .bool _) rfl ?_)
          refine AS.split 73 rfl (fun g73 => ?_) (fun g73 => ?_)
          · skip
            refine AS.cons (sp_move (v := .int _ _) rfl ?_)
            refine AS.cons (sp_eql rfl rfl ?_)
            refine AS.cons (sp_pick_t rfl (v := .bool _) rfl ?_)
            refine AS.cons (sp_move (v := .bool _) rfl ?_)
            refine AS.split 77 rfl (fun g77 => ?_) (fun g77 => ?_)
            · skip
              refine AS.cons (sp_move (v := .int _ _) rfl ?_)
              refine AS.cons (sp_move (v := .int _ _) rfl ?_)
              refine AS.cons (sp_add rfl rfl (by first | omega | (simp only [decide_eq_true_eq, decide_eq_false_iff_not] at *; omega)) ?_)
              refine AS.cons (sp_eql rfl rfl ?_)
              refine AS.cons (sp_pick_t rfl (v := .bool _) rfl ?_)
              refine AS.cons (sp_move (v := .bool _) rfl ?_)
              refine AS.split 83 rfl (fun g83 => ?_) (fun g83 => ?_)
              · skip
                refine AS.cons (sp_call [] rfl rfl cf_28 (fun F w _ S => cried w (hK.ext S.mod)) ?_)
                refine AS.cons (sp_pick_t rfl (v := .bool _) rfl ?_)
                refine AS.cons (sp_asg (v := .bool _) rfl ?_)
                refine AS.nil ?_
                intro _ S
                refine W.ret ?_
                exact ret1 rfl rfl S fun w' S' => ⟨rfl, S'.mod⟩
              · exfalso; have h1 := of_decide_eq_false g83; omega
            · exact absurd hdead.1 (of_decide_eq_false g77)
          · exact absurd (hdead.2.1.trans hdead.1.symm) (of_decide_eq_false g73)
        · exact (no_eq g68).elim
      · skip
        refine W.skip ?_
        have he0 : e = 0 := Decidable.not_not.1 (of_decide_eq_false c64)
        have hsum2 := hsum.resolve_left (fun h => by rw [he0] at h; exact absurd h.1 (by decide))
        obtain ⟨_, hap9, hgor, hs1, hs2, hs3, hs4⟩ := hsum2
        refine W.seq (W.seq (W.region S ?_))
        refine AS.cons (sp_move (v := .int _ _) rfl ?_)
        refine AS.cons (sp_call [] rfl rfl cf_44 (fun F w _ S => between _ _ _ w) ?_)
        refine AS.cons (sp_not rfl ?_)
        refine AS.cons (sp_move (v := .bool _) rfl ?_)
        refine AS.split 89 rfl (fun g89 => ?_) (fun g89 => ?_)
        · exfalso; rw [decide_eq_true hap9] at g89; cases g89
        · skip
          refine AS.cons (sp_move (v := .int _ _) rfl ?_)
          refine AS.cons (sp_neq rfl rfl ?_)
          refine AS.cons (sp_move (v := .bool _) rfl ?_)
          refine AS.split 92 rfl (fun g92 => ?_) (fun g92 => ?_)
          · skip
            refine AS.cons (sp_move (v := .int _ _) rfl ?_)
            refine AS.cons (sp_neq rfl rfl ?_)
            refine AS.cons (sp_move (v := .bool _) rfl ?_)
            refine AS.split 95 rfl (fun g95 => ?_) (fun g95 => ?_)
            · exfalso; have h1 := of_decide_eq_true g95; have h2 := of_decide_eq_true g92; rcases hgor with h | h; exact h2 h.1; exact h1 h.1
            · skip
              refine AS.cons (sp_move (v := .int _ _) rfl ?_)
              refine AS.cons (sp_neq rfl rfl ?_)
              refine AS.cons (sp_pick_f rfl (v := .bool _) rfl ?_)
              refine AS.cons (sp_pick_t rfl (v := .bool _) rfl ?_)
              refine AS.cons (sp_pick_f rfl (v := .bool _) rfl ?_)
              refine AS.cons (sp_move (v := .bool _) rfl ?_)
              refine AS.split 101 rfl (fun g101 => ?_) (fun g101 => ?_)
              · exfalso; have h1 := of_decide_eq_true g101; have h2 := of_decide_eq_true g92; rcases hgor with h | h; exact h2 h.1; exact h1 h.2
              · skip
                refine AS.cons (sp_move (v := .int _ _) rfl ?_)
                refine AS.cons (sp_eql rfl rfl ?_)
                refine AS.cons (sp_move (v := .bool _) rfl ?_)
                refine AS.split 104 rfl (fun g104 => ?_) (fun g104 => ?_)
                · skip
                  refine AS.cons (sp_move (v := .int _ _) rfl ?_)
                  refine AS.cons (sp_fa rfl fo_26_0_0 ?_)
                  refine AS.cons (sp_ld 2 rfl rfl sc_3 rfl ?_)
                  refine AS.cons (sp_fa rfl fo_26_1_1 ?_)
                  refine AS.cons (sp_ld 2 rfl rfl sc_3 rfl ?_)
                  refine AS.cons (sp_mul rfl rfl (mulB (by first | omega | (simp only [decide_eq_true_eq, decide_eq_false_iff_not] at *; omega)) (by first | omega | (simp only [decide_eq_true_eq, decide_eq_false_iff_not] at *; omega))) ?_)
                  refine AS.cons (sp_sub rfl rfl (by first | omega | (simp only [decide_eq_true_eq, decide_eq_false_iff_not] at *; omega)) ?_)
                  refine AS.cons (sp_call [] rfl rfl cf_44 (fun F w _ S => between _ _ _ w) ?_)
                  refine AS.cons (sp_not rfl ?_)
                  refine AS.cons (sp_pick_t rfl (v := .bool _) rfl ?_)
                  refine AS.cons (sp_pick_f rfl (v := .bool _) rfl ?_)
                  refine AS.nil ?_
                  intro _ S
                  refine W.cond rfl (fun c115 => ?_) (fun c115 => ?_)
                  · exfalso; have h1 := of_decide_eq_true g104; rcases hgor with h | h; (rw [decide_eq_true (show 0 ≤ at_ ∧ at_ ≤ b.wide * b.high - 1 by omega)] at c115; cases c115); exact absurd (h.1.symm.trans h1) (by decide)
                  · skip
                    refine W.skip ?_
                    refine W.seq (W.seq (W.region S ?_))
                    refine AS.cons (sp_ldw 2 rfl rfl ag_26_7 ?_)
                    refine AS.cons (sp_move (v := .int _ _) rfl ?_)
                    refine AS.cons (sp_move (v := .int _ _) rfl ?_)
                    refine AS.cons (sp_add rfl rfl (by first | omega | (simp only [decide_eq_true_eq, decide_eq_false_iff_not] at *; omega)) ?_)
                    refine AS.cons (sp_move (v := .int _ _) rfl ?_)
                    refine AS.cons (sp_add rfl rfl (by first | omega | (simp only [decide_eq_true_eq, decide_eq_false_iff_not] at *; omega)) ?_)
                    refine AS.cons (sp_call [] rfl rfl cf_29 (fun F w hF S => by have h := shotP b la lc ca cc m (ap + 1) (ap + 1) w (hK.ext S.mod) (hl.ext S.mod) (hC.ext S.mod); rw [hv1, hg1] at h; exact h) ?_)
                    refine AS.cons (sp_move rfl ?_)
                    refine AS.cons (sp_ext rfl rfl ?_)
                    refine AS.cons (sp_ext rfl rfl ?_)
                    refine AS.cons (sp_asg (v := .int _ _) rfl ?_)
                    refine AS.cons (sp_asg (v := .int _ _) rfl ?_)
                    refine AS.nil ?_
                    intro _ S
                    refine W.seq (W.region S ?_)
                    refine AS.cons (sp_move (v := .int _ _) rfl ?_)
                    refine AS.cons (sp_neq rfl rfl ?_)
                    refine AS.nil ?_
                    intro _ S
                    refine W.condd rfl (fun c127 => ?_) (fun c127 => ?_)
                    · exact absurd hs1 c127
                    · skip
                      refine W.skip ?_
                      refine W.seq (W.seq (W.region S ?_))
                      refine AS.cons (sp_move (v := .int _ _) rfl ?_)
                      refine AS.cons (sp_gtr rfl rfl ?_)
                      refine AS.nil ?_
                      intro _ S
                      refine W.condd rfl (fun c129 => ?_) (fun c129 => ?_)
                      · skip
                        refine W.seq (W.region S ?_)
                        refine AS.cons (sp_ldw 2 rfl rfl ag_26_7 ?_)
                        refine AS.cons (sp_move (v := .int _ _) rfl ?_)
                        refine AS.cons (sp_move (v := .int _ _) rfl ?_)
                        refine AS.cons (sp_move (v := .int _ _) rfl ?_)
                        refine AS.cons (sp_call [] rfl rfl cf_29 (fun F w hF S => by have h := shotP b la lc ca cc m ap ap w (hK.ext S.mod) (hl.ext S.mod) (hC.ext S.mod); rw [hv2, hg2] at h; exact h) ?_)
                        refine AS.cons (sp_move rfl ?_)
                        refine AS.cons (sp_ext rfl rfl ?_)
                        refine AS.cons (sp_ext rfl rfl ?_)
                        refine AS.cons (sp_asg (v := .int _ _) rfl ?_)
                        refine AS.cons (sp_asg (v := .int _ _) rfl ?_)
                        refine AS.nil ?_
                        intro _ S
                        refine W.seq (W.region S ?_)
                        refine AS.cons (sp_move (v := .int _ _) rfl ?_)
                        refine AS.cons (sp_neq rfl rfl ?_)
                        refine AS.nil ?_
                        intro _ S
                        refine W.condd rfl (fun c139 => ?_) (fun c139 => ?_)
                        · exact absurd (hs2 c129) c139
                        · skip
                          refine W.skip ?_
                          refine W.seq (W.seq (W.region S ?_))
                          refine AS.cons (sp_move (v := .int _ _) rfl ?_)
                          refine AS.cons (sp_eql rfl rfl ?_)
                          refine AS.nil ?_
                          intro _ S
                          refine W.condd rfl (fun c141 => ?_) (fun c141 => ?_)
                          · skip
                            refine W.seq (W.region S ?_)
                            refine AS.cons (sp_ldw 2 rfl rfl ag_26_7 ?_)
                            refine AS.cons (sp_move (v := .int _ _) rfl ?_)
                            refine AS.cons (sp_move (v := .int _ _) rfl ?_)
                            refine AS.cons (sp_add rfl rfl (by first | omega | (simp only [decide_eq_true_eq, decide_eq_false_iff_not] at *; omega)) ?_)
                            refine AS.cons (sp_move (v := .int _ _) rfl ?_)
                            refine AS.cons (sp_call [] rfl rfl cf_29 (fun F w hF S => by have h := shotP b la lc ca cc m (wi + 1) hi w (hK.ext S.mod) (hl.ext S.mod) (hC.ext S.mod); rw [hv3, hg3] at h; exact h) ?_)
                            refine AS.cons (sp_move rfl ?_)
                            refine AS.cons (sp_ext rfl rfl ?_)
                            refine AS.cons (sp_ext rfl rfl ?_)
                            refine AS.cons (sp_asg (v := .int _ _) rfl ?_)
                            refine AS.cons (sp_asg (v := .int _ _) rfl ?_)
                            refine AS.nil ?_
                            intro _ S
                            refine W.seq (W.region S ?_)
                            refine AS.cons (sp_ldw 2 rfl rfl ag_26_7 ?_)
                            refine AS.cons (sp_move (v := .int _ _) rfl ?_)
                            refine AS.cons (sp_move (v := .int _ _) rfl ?_)
                            refine AS.cons (sp_move (v := .int _ _) rfl ?_)
                            refine AS.cons (sp_add rfl rfl (by first | omega | (simp only [decide_eq_true_eq, decide_eq_false_iff_not] at *; omega)) ?_)
                            refine AS.cons (sp_call [] rfl rfl cf_29 (fun F w hF S => by have h := shotP b la lc ca cc m wi (hi + 1) w (hK.ext S.mod) (hl.ext S.mod) (hC.ext S.mod); rw [hv4, hg4] at h; exact h) ?_)
                            refine AS.cons (sp_move rfl ?_)
                            refine AS.cons (sp_ext rfl rfl ?_)
                            refine AS.cons (sp_ext rfl rfl ?_)
                            refine AS.cons (sp_asg (v := .int _ _) rfl ?_)
                            refine AS.cons (sp_asg (v := .int _ _) rfl ?_)
                            refine AS.nil ?_
                            intro _ S
                            refine W.seq (W.region S ?_)
                            refine AS.cons (sp_move (v := .int _ _) rfl ?_)
                            refine AS.cons (sp_neq rfl rfl ?_)
                            refine AS.cons (sp_move (v := .bool _) rfl ?_)
                            refine AS.split 162 rfl (fun g162 => ?_) (fun g162 => ?_)
                            · exact absurd (hs3 c141).1 (of_decide_eq_true g162)
                            · skip
                              refine AS.cons (sp_move (v := .int _ _) rfl ?_)
                              refine AS.cons (sp_neq rfl rfl ?_)
                              refine AS.cons (sp_pick_f rfl (v := .bool _) rfl ?_)
                              refine AS.cons (sp_move (v := .bool _) rfl ?_)
                              refine AS.split 166 rfl (fun g166 => ?_) (fun g166 => ?_)
                              · exact absurd (hs3 c141).2 (of_decide_eq_true g166)
                              · skip
                                refine AS.cons (sp_ldw 2 rfl rfl ag_26_7 ?_)
                                refine AS.cons (sp_move (v := .int _ _) rfl ?_)
                                refine AS.cons (sp_move (v := .int _ _) rfl ?_)
                                refine AS.cons (sp_move (v := .int _ _) rfl ?_)
                                refine AS.cons (sp_move rfl ?_)
                                refine AS.cons (sp_call [41] rfl rfl cf_47 (fun F w hF S => allF b la lc ca cc hb a41 c41 wl hlx at_ wi hi hatb (by omega) (by omega) w (S.slc_rd (k := 41) ((hF 41 (by simp)).trans rfl) (by omega))) ?_)
                                refine AS.cons (sp_not rfl ?_)
                                refine AS.cons (sp_pick_f rfl (v := .bool _) rfl ?_)
                                refine AS.nil ?_
                                intro _ S
                                refine W.cond rfl (fun c174 => ?_) (fun c174 => ?_)
                                · exfalso; rcases hgor with h | h; (rw [h.2.2] at c174; cases c174); exact absurd (h.1.symm.trans c141) (by decide)
                                · skip
                                  refine W.skip ?_
                                  refine W.seq (W.region S ?_)
                                  refine AS.cons (sp_iaa rfl rfl ar_62_4_3_1 (by first | omega | (simp only [decide_eq_true_eq, decide_eq_false_iff_not] at *; omega)) ?_)
                                  refine AS.cons (sp_ld 3 rfl rfl sc_3 rfl ?_)
                                  refine AS.cons (sp_fa rfl fo_26_0_0 ?_)
                                  refine AS.cons (sp_ld 2 rfl rfl sc_3 rfl ?_)
                                  refine AS.cons (sp_fa rfl fo_26_1_1 ?_)
                                  refine AS.cons (sp_ld 2 rfl rfl sc_3 rfl ?_)
                                  refine AS.cons (sp_mul rfl rfl (mulB (by first | omega | (simp only [decide_eq_true_eq, decide_eq_false_iff_not] at *; omega)) (by first | omega | (simp only [decide_eq_true_eq, decide_eq_false_iff_not] at *; omega))) ?_)
                                  refine AS.cons (sp_call [] rfl rfl cf_40 (fun F w _ S => by have h := wheel n3 (b.wide * b.high) (by omega) w; rw [hoe] at h; exact h) ?_)
                                  refine AS.cons (sp_asg (v := .int _ _) rfl ?_)
                                  refine AS.nil ?_
                                  intro _ S
                                  refine W.seq (W.region S ?_)
                                  refine AS.cons (sp_ldw 2 rfl rfl ag_26_7 ?_)
                                  refine AS.cons (sp_move (v := .int _ _) rfl ?_)
                                  refine AS.cons (sp_move (v := .int _ _) rfl ?_)
                                  refine AS.cons (sp_move (v := .int _ _) rfl ?_)
                                  refine AS.cons (sp_move rfl ?_)
                                  refine AS.cons (sp_call [41] rfl rfl cf_47 (fun F w hF S => allF b la lc ca cc hb a41 c41 wl hlx o wi hi (by omega) (by omega) (by omega) w (S.slc_rd (k := 41) ((hF 41 (by simp)).trans rfl) (by omega))) ?_)
                                  refine AS.cons (sp_not rfl ?_)
                                  refine AS.cons (sp_move (v := .bool _) rfl ?_)
                                  refine AS.split 190 rfl (fun g190 => ?_) (fun g190 => ?_)
                                  · skip
                                    refine AS.cons (sp_skip rfl ?_)
                                    refine AS.cons (sp_skip rfl ?_)
                                    refine AS.cons (sp_skip rfl ?_)
                                    refine AS.cons (sp_skip rfl ?_)
                                    refine AS.cons (sp_skip rfl ?_)
                                    refine AS.cons (sp_skip rfl ?_)
                                    refine AS.cons (sp_skip rfl ?_)
                                    refine AS.cons (sp_pick_t rfl (v := .bool _) rfl ?_)
                                    refine AS.cons (sp_move (v := .bool _) rfl ?_)
                                    refine AS.cons (sp_call [] rfl rfl cf_28 (fun F w _ S => cried w (hK.ext S.mod)) ?_)
                                    refine AS.cons (sp_pick_t rfl (v := .bool _) rfl ?_)
                                    refine AS.cons (sp_asg (v := .bool _) rfl ?_)
                                    refine AS.nil ?_
                                    intro _ S
                                    refine W.ret ?_
                                    exact ret1 rfl rfl S fun w' S' => ⟨rfl, S'.mod⟩
                                  · skip
                                    refine AS.cons (sp_move (v := .int _ _) rfl ?_)
                                    refine AS.cons (sp_eql rfl rfl ?_)
                                    refine AS.cons (sp_move (v := .bool _) rfl ?_)
                                    refine AS.split 193 rfl (fun g193 => ?_) (fun g193 => ?_)
                                    · skip
                                      refine AS.cons (sp_move (v := .int _ _) rfl ?_)
                                      refine AS.cons (sp_move (v := .int _ _) rfl ?_)
                                      refine AS.cons (sp_leq rfl rfl ?_)
                                      refine AS.cons (sp_pick_t rfl (v := .bool _) rfl ?_)
                                      refine AS.cons (sp_pick_f rfl (v := .bool _) rfl ?_)
                                      refine AS.cons (sp_move (v := .bool _) rfl ?_)
                                      refine AS.split 199 rfl (fun g199 => ?_) (fun g199 => ?_)
                                      · skip
                                        refine AS.cons (sp_call [] rfl rfl cf_28 (fun F w _ S => cried w (hK.ext S.mod)) ?_)
                                        refine AS.cons (sp_pick_t rfl (v := .bool _) rfl ?_)
                                        refine AS.cons (sp_asg (v := .bool _) rfl ?_)
                                        refine AS.nil ?_
                                        intro _ S
                                        refine W.ret ?_
                                        exact ret1 rfl rfl S fun w' S' => ⟨rfl, S'.mod⟩
                                      · exfalso; rw [Bool.not_eq_false'] at g190; exact absurd (hs4 o ho g190).2 (of_decide_eq_false g199)
                                    · exfalso; rw [Bool.not_eq_false'] at g190; exact absurd (hs4 o ho g190).1 (of_decide_eq_false g193)
                          · skip
                            refine W.skip ?_
                            refine W.seq (W.region S ?_)
                            refine AS.cons (sp_iaa rfl rfl ar_62_4_3_1 (by first | omega | (simp only [decide_eq_true_eq, decide_eq_false_iff_not] at *; omega)) ?_)
                            refine AS.cons (sp_ld 3 rfl rfl sc_3 rfl ?_)
                            refine AS.cons (sp_fa rfl fo_26_0_0 ?_)
                            refine AS.cons (sp_ld 2 rfl rfl sc_3 rfl ?_)
                            refine AS.cons (sp_fa rfl fo_26_1_1 ?_)
                            refine AS.cons (sp_ld 2 rfl rfl sc_3 rfl ?_)
                            refine AS.cons (sp_mul rfl rfl (mulB (by first | omega | (simp only [decide_eq_true_eq, decide_eq_false_iff_not] at *; omega)) (by first | omega | (simp only [decide_eq_true_eq, decide_eq_false_iff_not] at *; omega))) ?_)
                            refine AS.cons (sp_call [] rfl rfl cf_40 (fun F w _ S => by have h := wheel n3 (b.wide * b.high) (by omega) w; rw [hoe] at h; exact h) ?_)
                            refine AS.cons (sp_asg (v := .int _ _) rfl ?_)
                            refine AS.nil ?_
                            intro _ S
                            refine W.seq (W.region S ?_)
                            refine AS.cons (sp_ldw 2 rfl rfl ag_26_7 ?_)
                            refine AS.cons (sp_move (v := .int _ _) rfl ?_)
                            refine AS.cons (sp_move (v := .int _ _) rfl ?_)
                            refine AS.cons (sp_move (v := .int _ _) rfl ?_)
                            refine AS.cons (sp_move rfl ?_)
                            refine AS.cons (sp_call [41] rfl rfl cf_47 (fun F w hF S => allF b la lc ca cc hb a41 c41 wl hlx o wi hi (by omega) (by omega) (by omega) w (S.slc_rd (k := 41) ((hF 41 (by simp)).trans rfl) (by omega))) ?_)
                            refine AS.cons (sp_not rfl ?_)
                            refine AS.cons (sp_move (v := .bool _) rfl ?_)
                            refine AS.split 190 rfl (fun g190 => ?_) (fun g190 => ?_)
                            · skip
                              refine AS.cons (sp_skip rfl ?_)
                              refine AS.cons (sp_skip rfl ?_)
                              refine AS.cons (sp_skip rfl ?_)
                              refine AS.cons (sp_skip rfl ?_)
                              refine AS.cons (sp_skip rfl ?_)
                              refine AS.cons (sp_skip rfl ?_)
                              refine AS.cons (sp_skip rfl ?_)
                              refine AS.cons (sp_pick_t rfl (v := .bool _) rfl ?_)
                              refine AS.cons (sp_move (v := .bool _) rfl ?_)
                              refine AS.cons (sp_call [] rfl rfl cf_28 (fun F w _ S => cried w (hK.ext S.mod)) ?_)
                              refine AS.cons (sp_pick_t rfl (v := .bool _) rfl ?_)
                              refine AS.cons (sp_asg (v := .bool _) rfl ?_)
                              refine AS.nil ?_
                              intro _ S
                              refine W.ret ?_
                              exact ret1 rfl rfl S fun w' S' => ⟨rfl, S'.mod⟩
                            · skip
                              refine AS.cons (sp_move (v := .int _ _) rfl ?_)
                              refine AS.cons (sp_eql rfl rfl ?_)
                              refine AS.cons (sp_move (v := .bool _) rfl ?_)
                              refine AS.split 193 rfl (fun g193 => ?_) (fun g193 => ?_)
                              · skip
                                refine AS.cons (sp_move (v := .int _ _) rfl ?_)
                                refine AS.cons (sp_move (v := .int _ _) rfl ?_)
                                refine AS.cons (sp_leq rfl rfl ?_)
                                refine AS.cons (sp_pick_t rfl (v := .bool _) rfl ?_)
                                refine AS.cons (sp_pick_f rfl (v := .bool _) rfl ?_)
                                refine AS.cons (sp_move (v := .bool _) rfl ?_)
                                refine AS.split 199 rfl (fun g199 => ?_) (fun g199 => ?_)
                                · skip
                                  refine AS.cons (sp_call [] rfl rfl cf_28 (fun F w _ S => cried w (hK.ext S.mod)) ?_)
                                  refine AS.cons (sp_pick_t rfl (v := .bool _) rfl ?_)
                                  refine AS.cons (sp_asg (v := .bool _) rfl ?_)
                                  refine AS.nil ?_
                                  intro _ S
                                  refine W.ret ?_
                                  exact ret1 rfl rfl S fun w' S' => ⟨rfl, S'.mod⟩
                                · exfalso; rw [Bool.not_eq_false'] at g190; exact absurd (hs4 o ho g190).2 (of_decide_eq_false g199)
                              · exfalso; rw [Bool.not_eq_false'] at g190; exact absurd (hs4 o ho g190).1 (of_decide_eq_false g193)
                      · skip
                        refine W.skip ?_
                        refine W.seq (W.seq (W.region S ?_))
                        refine AS.cons (sp_move (v := .int _ _) rfl ?_)
                        refine AS.cons (sp_eql rfl rfl ?_)
                        refine AS.nil ?_
                        intro _ S
                        refine W.condd rfl (fun c141 => ?_) (fun c141 => ?_)
                        · skip
                          refine W.seq (W.region S ?_)
                          refine AS.cons (sp_ldw 2 rfl rfl ag_26_7 ?_)
                          refine AS.cons (sp_move (v := .int _ _) rfl ?_)
                          refine AS.cons (sp_move (v := .int _ _) rfl ?_)
                          refine AS.cons (sp_add rfl rfl (by first | omega | (simp only [decide_eq_true_eq, decide_eq_false_iff_not] at *; omega)) ?_)
                          refine AS.cons (sp_move (v := .int _ _) rfl ?_)
                          refine AS.cons (sp_call [] rfl rfl cf_29 (fun F w hF S => by have h := shotP b la lc ca cc m (wi + 1) hi w (hK.ext S.mod) (hl.ext S.mod) (hC.ext S.mod); rw [hv3, hg3] at h; exact h) ?_)
                          refine AS.cons (sp_move rfl ?_)
                          refine AS.cons (sp_ext rfl rfl ?_)
                          refine AS.cons (sp_ext rfl rfl ?_)
                          refine AS.cons (sp_asg (v := .int _ _) rfl ?_)
                          refine AS.cons (sp_asg (v := .int _ _) rfl ?_)
                          refine AS.nil ?_
                          intro _ S
                          refine W.seq (W.region S ?_)
                          refine AS.cons (sp_ldw 2 rfl rfl ag_26_7 ?_)
                          refine AS.cons (sp_move (v := .int _ _) rfl ?_)
                          refine AS.cons (sp_move (v := .int _ _) rfl ?_)
                          refine AS.cons (sp_move (v := .int _ _) rfl ?_)
                          refine AS.cons (sp_add rfl rfl (by first | omega | (simp only [decide_eq_true_eq, decide_eq_false_iff_not] at *; omega)) ?_)
                          refine AS.cons (sp_call [] rfl rfl cf_29 (fun F w hF S => by have h := shotP b la lc ca cc m wi (hi + 1) w (hK.ext S.mod) (hl.ext S.mod) (hC.ext S.mod); rw [hv4, hg4] at h; exact h) ?_)
                          refine AS.cons (sp_move rfl ?_)
                          refine AS.cons (sp_ext rfl rfl ?_)
                          refine AS.cons (sp_ext rfl rfl ?_)
                          refine AS.cons (sp_asg (v := .int _ _) rfl ?_)
                          refine AS.cons (sp_asg (v := .int _ _) rfl ?_)
                          refine AS.nil ?_
                          intro _ S
                          refine W.seq (W.region S ?_)
                          refine AS.cons (sp_move (v := .int _ _) rfl ?_)
                          refine AS.cons (sp_neq rfl rfl ?_)
                          refine AS.cons (sp_move (v := .bool _) rfl ?_)
                          refine AS.split 162 rfl (fun g162 => ?_) (fun g162 => ?_)
                          · exact absurd (hs3 c141).1 (of_decide_eq_true g162)
                          · skip
                            refine AS.cons (sp_move (v := .int _ _) rfl ?_)
                            refine AS.cons (sp_neq rfl rfl ?_)
                            refine AS.cons (sp_pick_f rfl (v := .bool _) rfl ?_)
                            refine AS.cons (sp_move (v := .bool _) rfl ?_)
                            refine AS.split 166 rfl (fun g166 => ?_) (fun g166 => ?_)
                            · exact absurd (hs3 c141).2 (of_decide_eq_true g166)
                            · skip
                              refine AS.cons (sp_ldw 2 rfl rfl ag_26_7 ?_)
                              refine AS.cons (sp_move (v := .int _ _) rfl ?_)
                              refine AS.cons (sp_move (v := .int _ _) rfl ?_)
                              refine AS.cons (sp_move (v := .int _ _) rfl ?_)
                              refine AS.cons (sp_move rfl ?_)
                              refine AS.cons (sp_call [41] rfl rfl cf_47 (fun F w hF S => allF b la lc ca cc hb a41 c41 wl hlx at_ wi hi hatb (by omega) (by omega) w (S.slc_rd (k := 41) ((hF 41 (by simp)).trans rfl) (by omega))) ?_)
                              refine AS.cons (sp_not rfl ?_)
                              refine AS.cons (sp_pick_f rfl (v := .bool _) rfl ?_)
                              refine AS.nil ?_
                              intro _ S
                              refine W.cond rfl (fun c174 => ?_) (fun c174 => ?_)
                              · exfalso; rcases hgor with h | h; (rw [h.2.2] at c174; cases c174); exact absurd (h.1.symm.trans c141) (by decide)
                              · skip
                                refine W.skip ?_
                                refine W.seq (W.region S ?_)
                                refine AS.cons (sp_iaa rfl rfl ar_62_4_3_1 (by first | omega | (simp only [decide_eq_true_eq, decide_eq_false_iff_not] at *; omega)) ?_)
                                refine AS.cons (sp_ld 3 rfl rfl sc_3 rfl ?_)
                                refine AS.cons (sp_fa rfl fo_26_0_0 ?_)
                                refine AS.cons (sp_ld 2 rfl rfl sc_3 rfl ?_)
                                refine AS.cons (sp_fa rfl fo_26_1_1 ?_)
                                refine AS.cons (sp_ld 2 rfl rfl sc_3 rfl ?_)
                                refine AS.cons (sp_mul rfl rfl (mulB (by first | omega | (simp only [decide_eq_true_eq, decide_eq_false_iff_not] at *; omega)) (by first | omega | (simp only [decide_eq_true_eq, decide_eq_false_iff_not] at *; omega))) ?_)
                                refine AS.cons (sp_call [] rfl rfl cf_40 (fun F w _ S => by have h := wheel n3 (b.wide * b.high) (by omega) w; rw [hoe] at h; exact h) ?_)
                                refine AS.cons (sp_asg (v := .int _ _) rfl ?_)
                                refine AS.nil ?_
                                intro _ S
                                refine W.seq (W.region S ?_)
                                refine AS.cons (sp_ldw 2 rfl rfl ag_26_7 ?_)
                                refine AS.cons (sp_move (v := .int _ _) rfl ?_)
                                refine AS.cons (sp_move (v := .int _ _) rfl ?_)
                                refine AS.cons (sp_move (v := .int _ _) rfl ?_)
                                refine AS.cons (sp_move rfl ?_)
                                refine AS.cons (sp_call [41] rfl rfl cf_47 (fun F w hF S => allF b la lc ca cc hb a41 c41 wl hlx o wi hi (by omega) (by omega) (by omega) w (S.slc_rd (k := 41) ((hF 41 (by simp)).trans rfl) (by omega))) ?_)
                                refine AS.cons (sp_not rfl ?_)
                                refine AS.cons (sp_move (v := .bool _) rfl ?_)
                                refine AS.split 190 rfl (fun g190 => ?_) (fun g190 => ?_)
                                · skip
                                  refine AS.cons (sp_skip rfl ?_)
                                  refine AS.cons (sp_skip rfl ?_)
                                  refine AS.cons (sp_skip rfl ?_)
                                  refine AS.cons (sp_skip rfl ?_)
                                  refine AS.cons (sp_skip rfl ?_)
                                  refine AS.cons (sp_skip rfl ?_)
                                  refine AS.cons (sp_skip rfl ?_)
                                  refine AS.cons (sp_pick_t rfl (v := .bool _) rfl ?_)
                                  refine AS.cons (sp_move (v := .bool _) rfl ?_)
                                  refine AS.cons (sp_call [] rfl rfl cf_28 (fun F w _ S => cried w (hK.ext S.mod)) ?_)
                                  refine AS.cons (sp_pick_t rfl (v := .bool _) rfl ?_)
                                  refine AS.cons (sp_asg (v := .bool _) rfl ?_)
                                  refine AS.nil ?_
                                  intro _ S
                                  refine W.ret ?_
                                  exact ret1 rfl rfl S fun w' S' => ⟨rfl, S'.mod⟩
                                · skip
                                  refine AS.cons (sp_move (v := .int _ _) rfl ?_)
                                  refine AS.cons (sp_eql rfl rfl ?_)
                                  refine AS.cons (sp_move (v := .bool _) rfl ?_)
                                  refine AS.split 193 rfl (fun g193 => ?_) (fun g193 => ?_)
                                  · skip
                                    refine AS.cons (sp_move (v := .int _ _) rfl ?_)
                                    refine AS.cons (sp_move (v := .int _ _) rfl ?_)
                                    refine AS.cons (sp_leq rfl rfl ?_)
                                    refine AS.cons (sp_pick_t rfl (v := .bool _) rfl ?_)
                                    refine AS.cons (sp_pick_f rfl (v := .bool _) rfl ?_)
                                    refine AS.cons (sp_move (v := .bool _) rfl ?_)
                                    refine AS.split 199 rfl (fun g199 => ?_) (fun g199 => ?_)
                                    · skip
                                      refine AS.cons (sp_call [] rfl rfl cf_28 (fun F w _ S => cried w (hK.ext S.mod)) ?_)
                                      refine AS.cons (sp_pick_t rfl (v := .bool _) rfl ?_)
                                      refine AS.cons (sp_asg (v := .bool _) rfl ?_)
                                      refine AS.nil ?_
                                      intro _ S
                                      refine W.ret ?_
                                      exact ret1 rfl rfl S fun w' S' => ⟨rfl, S'.mod⟩
                                    · exfalso; rw [Bool.not_eq_false'] at g190; exact absurd (hs4 o ho g190).2 (of_decide_eq_false g199)
                                  · exfalso; rw [Bool.not_eq_false'] at g190; exact absurd (hs4 o ho g190).1 (of_decide_eq_false g193)
                        · skip
                          refine W.skip ?_
                          refine W.seq (W.region S ?_)
                          refine AS.cons (sp_iaa rfl rfl ar_62_4_3_1 (by first | omega | (simp only [decide_eq_true_eq, decide_eq_false_iff_not] at *; omega)) ?_)
                          refine AS.cons (sp_ld 3 rfl rfl sc_3 rfl ?_)
                          refine AS.cons (sp_fa rfl fo_26_0_0 ?_)
                          refine AS.cons (sp_ld 2 rfl rfl sc_3 rfl ?_)
                          refine AS.cons (sp_fa rfl fo_26_1_1 ?_)
                          refine AS.cons (sp_ld 2 rfl rfl sc_3 rfl ?_)
                          refine AS.cons (sp_mul rfl rfl (mulB (by first | omega | (simp only [decide_eq_true_eq, decide_eq_false_iff_not] at *; omega)) (by first | omega | (simp only [decide_eq_true_eq, decide_eq_false_iff_not] at *; omega))) ?_)
                          refine AS.cons (sp_call [] rfl rfl cf_40 (fun F w _ S => by have h := wheel n3 (b.wide * b.high) (by omega) w; rw [hoe] at h; exact h) ?_)
                          refine AS.cons (sp_asg (v := .int _ _) rfl ?_)
                          refine AS.nil ?_
                          intro _ S
                          refine W.seq (W.region S ?_)
                          refine AS.cons (sp_ldw 2 rfl rfl ag_26_7 ?_)
                          refine AS.cons (sp_move (v := .int _ _) rfl ?_)
                          refine AS.cons (sp_move (v := .int _ _) rfl ?_)
                          refine AS.cons (sp_move (v := .int _ _) rfl ?_)
                          refine AS.cons (sp_move rfl ?_)
                          refine AS.cons (sp_call [41] rfl rfl cf_47 (fun F w hF S => allF b la lc ca cc hb a41 c41 wl hlx o wi hi (by omega) (by omega) (by omega) w (S.slc_rd (k := 41) ((hF 41 (by simp)).trans rfl) (by omega))) ?_)
                          refine AS.cons (sp_not rfl ?_)
                          refine AS.cons (sp_move (v := .bool _) rfl ?_)
                          refine AS.split 190 rfl (fun g190 => ?_) (fun g190 => ?_)
                          · skip
                            refine AS.cons (sp_skip rfl ?_)
                            refine AS.cons (sp_skip rfl ?_)
                            refine AS.cons (sp_skip rfl ?_)
                            refine AS.cons (sp_skip rfl ?_)
                            refine AS.cons (sp_skip rfl ?_)
                            refine AS.cons (sp_skip rfl ?_)
                            refine AS.cons (sp_skip rfl ?_)
                            refine AS.cons (sp_pick_t rfl (v := .bool _) rfl ?_)
                            refine AS.cons (sp_move (v := .bool _) rfl ?_)
                            refine AS.cons (sp_call [] rfl rfl cf_28 (fun F w _ S => cried w (hK.ext S.mod)) ?_)
                            refine AS.cons (sp_pick_t rfl (v := .bool _) rfl ?_)
                            refine AS.cons (sp_asg (v := .bool _) rfl ?_)
                            refine AS.nil ?_
                            intro _ S
                            refine W.ret ?_
                            exact ret1 rfl rfl S fun w' S' => ⟨rfl, S'.mod⟩
                          · skip
                            refine AS.cons (sp_move (v := .int _ _) rfl ?_)
                            refine AS.cons (sp_eql rfl rfl ?_)
                            refine AS.cons (sp_move (v := .bool _) rfl ?_)
                            refine AS.split 193 rfl (fun g193 => ?_) (fun g193 => ?_)
                            · skip
                              refine AS.cons (sp_move (v := .int _ _) rfl ?_)
                              refine AS.cons (sp_move (v := .int _ _) rfl ?_)
                              refine AS.cons (sp_leq rfl rfl ?_)
                              refine AS.cons (sp_pick_t rfl (v := .bool _) rfl ?_)
                              refine AS.cons (sp_pick_f rfl (v := .bool _) rfl ?_)
                              refine AS.cons (sp_move (v := .bool _) rfl ?_)
                              refine AS.split 199 rfl (fun g199 => ?_) (fun g199 => ?_)
                              · skip
                                refine AS.cons (sp_call [] rfl rfl cf_28 (fun F w _ S => cried w (hK.ext S.mod)) ?_)
                                refine AS.cons (sp_pick_t rfl (v := .bool _) rfl ?_)
                                refine AS.cons (sp_asg (v := .bool _) rfl ?_)
                                refine AS.nil ?_
                                intro _ S
                                refine W.ret ?_
                                exact ret1 rfl rfl S fun w' S' => ⟨rfl, S'.mod⟩
                              · exfalso; rw [Bool.not_eq_false'] at g190; exact absurd (hs4 o ho g190).2 (of_decide_eq_false g199)
                            · exfalso; rw [Bool.not_eq_false'] at g190; exact absurd (hs4 o ho g190).1 (of_decide_eq_false g193)
                · skip
                  refine AS.cons (sp_skip rfl ?_)
                  refine AS.cons (sp_skip rfl ?_)
                  refine AS.cons (sp_skip rfl ?_)
                  refine AS.cons (sp_skip rfl ?_)
                  refine AS.cons (sp_skip rfl ?_)
                  refine AS.cons (sp_skip rfl ?_)
                  refine AS.cons (sp_skip rfl ?_)
                  refine AS.cons (sp_skip rfl ?_)
                  refine AS.cons (sp_skip rfl ?_)
                  refine AS.cons (sp_pick_f rfl (v := .bool _) rfl ?_)
                  refine AS.cons (sp_pick_f rfl (v := .bool _) rfl ?_)
                  refine AS.nil ?_
                  intro _ S
                  refine W.cond (b := false) rfl (fun h => nomatch h) (fun _ => ?_)
                  refine W.skip ?_
                  refine W.seq (W.seq (W.region S ?_))
                  refine AS.cons (sp_ldw 2 rfl rfl ag_26_7 ?_)
                  refine AS.cons (sp_move (v := .int _ _) rfl ?_)
                  refine AS.cons (sp_move (v := .int _ _) rfl ?_)
                  refine AS.cons (sp_add rfl rfl (by first | omega | (simp only [decide_eq_true_eq, decide_eq_false_iff_not] at *; omega)) ?_)
                  refine AS.cons (sp_move (v := .int _ _) rfl ?_)
                  refine AS.cons (sp_add rfl rfl (by first | omega | (simp only [decide_eq_true_eq, decide_eq_false_iff_not] at *; omega)) ?_)
                  refine AS.cons (sp_call [] rfl rfl cf_29 (fun F w hF S => by have h := shotP b la lc ca cc m (ap + 1) (ap + 1) w (hK.ext S.mod) (hl.ext S.mod) (hC.ext S.mod); rw [hv1, hg1] at h; exact h) ?_)
                  refine AS.cons (sp_move rfl ?_)
                  refine AS.cons (sp_ext rfl rfl ?_)
                  refine AS.cons (sp_ext rfl rfl ?_)
                  refine AS.cons (sp_asg (v := .int _ _) rfl ?_)
                  refine AS.cons (sp_asg (v := .int _ _) rfl ?_)
                  refine AS.nil ?_
                  intro _ S
                  refine W.seq (W.region S ?_)
                  refine AS.cons (sp_move (v := .int _ _) rfl ?_)
                  refine AS.cons (sp_neq rfl rfl ?_)
                  refine AS.nil ?_
                  intro _ S
                  refine W.condd rfl (fun c127 => ?_) (fun c127 => ?_)
                  · exact absurd hs1 c127
                  · skip
                    refine W.skip ?_
                    refine W.seq (W.seq (W.region S ?_))
                    refine AS.cons (sp_move (v := .int _ _) rfl ?_)
                    refine AS.cons (sp_gtr rfl rfl ?_)
                    refine AS.nil ?_
                    intro _ S
                    refine W.condd rfl (fun c129 => ?_) (fun c129 => ?_)
                    · skip
                      refine W.seq (W.region S ?_)
                      refine AS.cons (sp_ldw 2 rfl rfl ag_26_7 ?_)
                      refine AS.cons (sp_move (v := .int _ _) rfl ?_)
                      refine AS.cons (sp_move (v := .int _ _) rfl ?_)
                      refine AS.cons (sp_move (v := .int _ _) rfl ?_)
                      refine AS.cons (sp_call [] rfl rfl cf_29 (fun F w hF S => by have h := shotP b la lc ca cc m ap ap w (hK.ext S.mod) (hl.ext S.mod) (hC.ext S.mod); rw [hv2, hg2] at h; exact h) ?_)
                      refine AS.cons (sp_move rfl ?_)
                      refine AS.cons (sp_ext rfl rfl ?_)
                      refine AS.cons (sp_ext rfl rfl ?_)
                      refine AS.cons (sp_asg (v := .int _ _) rfl ?_)
                      refine AS.cons (sp_asg (v := .int _ _) rfl ?_)
                      refine AS.nil ?_
                      intro _ S
                      refine W.seq (W.region S ?_)
                      refine AS.cons (sp_move (v := .int _ _) rfl ?_)
                      refine AS.cons (sp_neq rfl rfl ?_)
                      refine AS.nil ?_
                      intro _ S
                      refine W.condd rfl (fun c139 => ?_) (fun c139 => ?_)
                      · exact absurd (hs2 c129) c139
                      · skip
                        refine W.skip ?_
                        refine W.seq (W.seq (W.region S ?_))
                        refine AS.cons (sp_move (v := .int _ _) rfl ?_)
                        refine AS.cons (sp_eql rfl rfl ?_)
                        refine AS.nil ?_
                        intro _ S
                        refine W.condd rfl (fun c141 => ?_) (fun c141 => ?_)
                        · skip
                          refine W.seq (W.region S ?_)
                          refine AS.cons (sp_ldw 2 rfl rfl ag_26_7 ?_)
                          refine AS.cons (sp_move (v := .int _ _) rfl ?_)
                          refine AS.cons (sp_move (v := .int _ _) rfl ?_)
                          refine AS.cons (sp_add rfl rfl (by first | omega | (simp only [decide_eq_true_eq, decide_eq_false_iff_not] at *; omega)) ?_)
                          refine AS.cons (sp_move (v := .int _ _) rfl ?_)
                          refine AS.cons (sp_call [] rfl rfl cf_29 (fun F w hF S => by have h := shotP b la lc ca cc m (wi + 1) hi w (hK.ext S.mod) (hl.ext S.mod) (hC.ext S.mod); rw [hv3, hg3] at h; exact h) ?_)
                          refine AS.cons (sp_move rfl ?_)
                          refine AS.cons (sp_ext rfl rfl ?_)
                          refine AS.cons (sp_ext rfl rfl ?_)
                          refine AS.cons (sp_asg (v := .int _ _) rfl ?_)
                          refine AS.cons (sp_asg (v := .int _ _) rfl ?_)
                          refine AS.nil ?_
                          intro _ S
                          refine W.seq (W.region S ?_)
                          refine AS.cons (sp_ldw 2 rfl rfl ag_26_7 ?_)
                          refine AS.cons (sp_move (v := .int _ _) rfl ?_)
                          refine AS.cons (sp_move (v := .int _ _) rfl ?_)
                          refine AS.cons (sp_move (v := .int _ _) rfl ?_)
                          refine AS.cons (sp_add rfl rfl (by first | omega | (simp only [decide_eq_true_eq, decide_eq_false_iff_not] at *; omega)) ?_)
                          refine AS.cons (sp_call [] rfl rfl cf_29 (fun F w hF S => by have h := shotP b la lc ca cc m wi (hi + 1) w (hK.ext S.mod) (hl.ext S.mod) (hC.ext S.mod); rw [hv4, hg4] at h; exact h) ?_)
                          refine AS.cons (sp_move rfl ?_)
                          refine AS.cons (sp_ext rfl rfl ?_)
                          refine AS.cons (sp_ext rfl rfl ?_)
                          refine AS.cons (sp_asg (v := .int _ _) rfl ?_)
                          refine AS.cons (sp_asg (v := .int _ _) rfl ?_)
                          refine AS.nil ?_
                          intro _ S
                          refine W.seq (W.region S ?_)
                          refine AS.cons (sp_move (v := .int _ _) rfl ?_)
                          refine AS.cons (sp_neq rfl rfl ?_)
                          refine AS.cons (sp_move (v := .bool _) rfl ?_)
                          refine AS.split 162 rfl (fun g162 => ?_) (fun g162 => ?_)
                          · exact absurd (hs3 c141).1 (of_decide_eq_true g162)
                          · skip
                            refine AS.cons (sp_move (v := .int _ _) rfl ?_)
                            refine AS.cons (sp_neq rfl rfl ?_)
                            refine AS.cons (sp_pick_f rfl (v := .bool _) rfl ?_)
                            refine AS.cons (sp_move (v := .bool _) rfl ?_)
                            refine AS.split 166 rfl (fun g166 => ?_) (fun g166 => ?_)
                            · exact absurd (hs3 c141).2 (of_decide_eq_true g166)
                            · skip
                              refine AS.cons (sp_ldw 2 rfl rfl ag_26_7 ?_)
                              refine AS.cons (sp_move (v := .int _ _) rfl ?_)
                              refine AS.cons (sp_move (v := .int _ _) rfl ?_)
                              refine AS.cons (sp_move (v := .int _ _) rfl ?_)
                              refine AS.cons (sp_move rfl ?_)
                              refine AS.cons (sp_call [41] rfl rfl cf_47 (fun F w hF S => allF b la lc ca cc hb a41 c41 wl hlx at_ wi hi hatb (by omega) (by omega) w (S.slc_rd (k := 41) ((hF 41 (by simp)).trans rfl) (by omega))) ?_)
                              refine AS.cons (sp_not rfl ?_)
                              refine AS.cons (sp_pick_f rfl (v := .bool _) rfl ?_)
                              refine AS.nil ?_
                              intro _ S
                              refine W.cond rfl (fun c174 => ?_) (fun c174 => ?_)
                              · exfalso; rcases hgor with h | h; (rw [h.2.2] at c174; cases c174); exact absurd (h.1.symm.trans c141) (by decide)
                              · skip
                                refine W.skip ?_
                                refine W.seq (W.region S ?_)
                                refine AS.cons (sp_iaa rfl rfl ar_62_4_3_1 (by first | omega | (simp only [decide_eq_true_eq, decide_eq_false_iff_not] at *; omega)) ?_)
                                refine AS.cons (sp_ld 3 rfl rfl sc_3 rfl ?_)
                                refine AS.cons (sp_fa rfl fo_26_0_0 ?_)
                                refine AS.cons (sp_ld 2 rfl rfl sc_3 rfl ?_)
                                refine AS.cons (sp_fa rfl fo_26_1_1 ?_)
                                refine AS.cons (sp_ld 2 rfl rfl sc_3 rfl ?_)
                                refine AS.cons (sp_mul rfl rfl (mulB (by first | omega | (simp only [decide_eq_true_eq, decide_eq_false_iff_not] at *; omega)) (by first | omega | (simp only [decide_eq_true_eq, decide_eq_false_iff_not] at *; omega))) ?_)
                                refine AS.cons (sp_call [] rfl rfl cf_40 (fun F w _ S => by have h := wheel n3 (b.wide * b.high) (by omega) w; rw [hoe] at h; exact h) ?_)
                                refine AS.cons (sp_asg (v := .int _ _) rfl ?_)
                                refine AS.nil ?_
                                intro _ S
                                refine W.seq (W.region S ?_)
                                refine AS.cons (sp_ldw 2 rfl rfl ag_26_7 ?_)
                                refine AS.cons (sp_move (v := .int _ _) rfl ?_)
                                refine AS.cons (sp_move (v := .int _ _) rfl ?_)
                                refine AS.cons (sp_move (v := .int _ _) rfl ?_)
                                refine AS.cons (sp_move rfl ?_)
                                refine AS.cons (sp_call [41] rfl rfl cf_47 (fun F w hF S => allF b la lc ca cc hb a41 c41 wl hlx o wi hi (by omega) (by omega) (by omega) w (S.slc_rd (k := 41) ((hF 41 (by simp)).trans rfl) (by omega))) ?_)
                                refine AS.cons (sp_not rfl ?_)
                                refine AS.cons (sp_move (v := .bool _) rfl ?_)
                                refine AS.split 190 rfl (fun g190 => ?_) (fun g190 => ?_)
                                · skip
                                  refine AS.cons (sp_skip rfl ?_)
                                  refine AS.cons (sp_skip rfl ?_)
                                  refine AS.cons (sp_skip rfl ?_)
                                  refine AS.cons (sp_skip rfl ?_)
                                  refine AS.cons (sp_skip rfl ?_)
                                  refine AS.cons (sp_skip rfl ?_)
                                  refine AS.cons (sp_skip rfl ?_)
                                  refine AS.cons (sp_pick_t rfl (v := .bool _) rfl ?_)
                                  refine AS.cons (sp_move (v := .bool _) rfl ?_)
                                  refine AS.cons (sp_call [] rfl rfl cf_28 (fun F w _ S => cried w (hK.ext S.mod)) ?_)
                                  refine AS.cons (sp_pick_t rfl (v := .bool _) rfl ?_)
                                  refine AS.cons (sp_asg (v := .bool _) rfl ?_)
                                  refine AS.nil ?_
                                  intro _ S
                                  refine W.ret ?_
                                  exact ret1 rfl rfl S fun w' S' => ⟨rfl, S'.mod⟩
                                · skip
                                  refine AS.cons (sp_move (v := .int _ _) rfl ?_)
                                  refine AS.cons (sp_eql rfl rfl ?_)
                                  refine AS.cons (sp_move (v := .bool _) rfl ?_)
                                  refine AS.split 193 rfl (fun g193 => ?_) (fun g193 => ?_)
                                  · skip
                                    refine AS.cons (sp_move (v := .int _ _) rfl ?_)
                                    refine AS.cons (sp_move (v := .int _ _) rfl ?_)
                                    refine AS.cons (sp_leq rfl rfl ?_)
                                    refine AS.cons (sp_pick_t rfl (v := .bool _) rfl ?_)
                                    refine AS.cons (sp_pick_f rfl (v := .bool _) rfl ?_)
                                    refine AS.cons (sp_move (v := .bool _) rfl ?_)
                                    refine AS.split 199 rfl (fun g199 => ?_) (fun g199 => ?_)
                                    · skip
                                      refine AS.cons (sp_call [] rfl rfl cf_28 (fun F w _ S => cried w (hK.ext S.mod)) ?_)
                                      refine AS.cons (sp_pick_t rfl (v := .bool _) rfl ?_)
                                      refine AS.cons (sp_asg (v := .bool _) rfl ?_)
                                      refine AS.nil ?_
                                      intro _ S
                                      refine W.ret ?_
                                      exact ret1 rfl rfl S fun w' S' => ⟨rfl, S'.mod⟩
                                    · exfalso; rw [Bool.not_eq_false'] at g190; exact absurd (hs4 o ho g190).2 (of_decide_eq_false g199)
                                  · exfalso; rw [Bool.not_eq_false'] at g190; exact absurd (hs4 o ho g190).1 (of_decide_eq_false g193)
                        · skip
                          refine W.skip ?_
                          refine W.seq (W.region S ?_)
                          refine AS.cons (sp_iaa rfl rfl ar_62_4_3_1 (by first | omega | (simp only [decide_eq_true_eq, decide_eq_false_iff_not] at *; omega)) ?_)
                          refine AS.cons (sp_ld 3 rfl rfl sc_3 rfl ?_)
                          refine AS.cons (sp_fa rfl fo_26_0_0 ?_)
                          refine AS.cons (sp_ld 2 rfl rfl sc_3 rfl ?_)
                          refine AS.cons (sp_fa rfl fo_26_1_1 ?_)
                          refine AS.cons (sp_ld 2 rfl rfl sc_3 rfl ?_)
                          refine AS.cons (sp_mul rfl rfl (mulB (by first | omega | (simp only [decide_eq_true_eq, decide_eq_false_iff_not] at *; omega)) (by first | omega | (simp only [decide_eq_true_eq, decide_eq_false_iff_not] at *; omega))) ?_)
                          refine AS.cons (sp_call [] rfl rfl cf_40 (fun F w _ S => by have h := wheel n3 (b.wide * b.high) (by omega) w; rw [hoe] at h; exact h) ?_)
                          refine AS.cons (sp_asg (v := .int _ _) rfl ?_)
                          refine AS.nil ?_
                          intro _ S
                          refine W.seq (W.region S ?_)
                          refine AS.cons (sp_ldw 2 rfl rfl ag_26_7 ?_)
                          refine AS.cons (sp_move (v := .int _ _) rfl ?_)
                          refine AS.cons (sp_move (v := .int _ _) rfl ?_)
                          refine AS.cons (sp_move (v := .int _ _) rfl ?_)
                          refine AS.cons (sp_move rfl ?_)
                          refine AS.cons (sp_call [41] rfl rfl cf_47 (fun F w hF S => allF b la lc ca cc hb a41 c41 wl hlx o wi hi (by omega) (by omega) (by omega) w (S.slc_rd (k := 41) ((hF 41 (by simp)).trans rfl) (by omega))) ?_)
                          refine AS.cons (sp_not rfl ?_)
                          refine AS.cons (sp_move (v := .bool _) rfl ?_)
                          refine AS.split 190 rfl (fun g190 => ?_) (fun g190 => ?_)
                          · skip
                            refine AS.cons (sp_skip rfl ?_)
                            refine AS.cons (sp_skip rfl ?_)
                            refine AS.cons (sp_skip rfl ?_)
                            refine AS.cons (sp_skip rfl ?_)
                            refine AS.cons (sp_skip rfl ?_)
                            refine AS.cons (sp_skip rfl ?_)
                            refine AS.cons (sp_skip rfl ?_)
                            refine AS.cons (sp_pick_t rfl (v := .bool _) rfl ?_)
                            refine AS.cons (sp_move (v := .bool _) rfl ?_)
                            refine AS.cons (sp_call [] rfl rfl cf_28 (fun F w _ S => cried w (hK.ext S.mod)) ?_)
                            refine AS.cons (sp_pick_t rfl (v := .bool _) rfl ?_)
                            refine AS.cons (sp_asg (v := .bool _) rfl ?_)
                            refine AS.nil ?_
                            intro _ S
                            refine W.ret ?_
                            exact ret1 rfl rfl S fun w' S' => ⟨rfl, S'.mod⟩
                          · skip
                            refine AS.cons (sp_move (v := .int _ _) rfl ?_)
                            refine AS.cons (sp_eql rfl rfl ?_)
                            refine AS.cons (sp_move (v := .bool _) rfl ?_)
                            refine AS.split 193 rfl (fun g193 => ?_) (fun g193 => ?_)
                            · skip
                              refine AS.cons (sp_move (v := .int _ _) rfl ?_)
                              refine AS.cons (sp_move (v := .int _ _) rfl ?_)
                              refine AS.cons (sp_leq rfl rfl ?_)
                              refine AS.cons (sp_pick_t rfl (v := .bool _) rfl ?_)
                              refine AS.cons (sp_pick_f rfl (v := .bool _) rfl ?_)
                              refine AS.cons (sp_move (v := .bool _) rfl ?_)
                              refine AS.split 199 rfl (fun g199 => ?_) (fun g199 => ?_)
                              · skip
                                refine AS.cons (sp_call [] rfl rfl cf_28 (fun F w _ S => cried w (hK.ext S.mod)) ?_)
                                refine AS.cons (sp_pick_t rfl (v := .bool _) rfl ?_)
                                refine AS.cons (sp_asg (v := .bool _) rfl ?_)
                                refine AS.nil ?_
                                intro _ S
                                refine W.ret ?_
                                exact ret1 rfl rfl S fun w' S' => ⟨rfl, S'.mod⟩
                              · exfalso; rw [Bool.not_eq_false'] at g190; exact absurd (hs4 o ho g190).2 (of_decide_eq_false g199)
                            · exfalso; rw [Bool.not_eq_false'] at g190; exact absurd (hs4 o ho g190).1 (of_decide_eq_false g193)
                    · skip
                      refine W.skip ?_
                      refine W.seq (W.seq (W.region S ?_))
                      refine AS.cons (sp_move (v := .int _ _) rfl ?_)
                      refine AS.cons (sp_eql rfl rfl ?_)
                      refine AS.nil ?_
                      intro _ S
                      refine W.condd rfl (fun c141 => ?_) (fun c141 => ?_)
                      · skip
                        refine W.seq (W.region S ?_)
                        refine AS.cons (sp_ldw 2 rfl rfl ag_26_7 ?_)
                        refine AS.cons (sp_move (v := .int _ _) rfl ?_)
                        refine AS.cons (sp_move (v := .int _ _) rfl ?_)
                        refine AS.cons (sp_add rfl rfl (by first | omega | (simp only [decide_eq_true_eq, decide_eq_false_iff_not] at *; omega)) ?_)
                        refine AS.cons (sp_move (v := .int _ _) rfl ?_)
                        refine AS.cons (sp_call [] rfl rfl cf_29 (fun F w hF S => by have h := shotP b la lc ca cc m (wi + 1) hi w (hK.ext S.mod) (hl.ext S.mod) (hC.ext S.mod); rw [hv3, hg3] at h; exact h) ?_)
                        refine AS.cons (sp_move rfl ?_)
                        refine AS.cons (sp_ext rfl rfl ?_)
                        refine AS.cons (sp_ext rfl rfl ?_)
                        refine AS.cons (sp_asg (v := .int _ _) rfl ?_)
                        refine AS.cons (sp_asg (v := .int _ _) rfl ?_)
                        refine AS.nil ?_
                        intro _ S
                        refine W.seq (W.region S ?_)
                        refine AS.cons (sp_ldw 2 rfl rfl ag_26_7 ?_)
                        refine AS.cons (sp_move (v := .int _ _) rfl ?_)
                        refine AS.cons (sp_move (v := .int _ _) rfl ?_)
                        refine AS.cons (sp_move (v := .int _ _) rfl ?_)
                        refine AS.cons (sp_add rfl rfl (by first | omega | (simp only [decide_eq_true_eq, decide_eq_false_iff_not] at *; omega)) ?_)
                        refine AS.cons (sp_call [] rfl rfl cf_29 (fun F w hF S => by have h := shotP b la lc ca cc m wi (hi + 1) w (hK.ext S.mod) (hl.ext S.mod) (hC.ext S.mod); rw [hv4, hg4] at h; exact h) ?_)
                        refine AS.cons (sp_move rfl ?_)
                        refine AS.cons (sp_ext rfl rfl ?_)
                        refine AS.cons (sp_ext rfl rfl ?_)
                        refine AS.cons (sp_asg (v := .int _ _) rfl ?_)
                        refine AS.cons (sp_asg (v := .int _ _) rfl ?_)
                        refine AS.nil ?_
                        intro _ S
                        refine W.seq (W.region S ?_)
                        refine AS.cons (sp_move (v := .int _ _) rfl ?_)
                        refine AS.cons (sp_neq rfl rfl ?_)
                        refine AS.cons (sp_move (v := .bool _) rfl ?_)
                        refine AS.split 162 rfl (fun g162 => ?_) (fun g162 => ?_)
                        · exact absurd (hs3 c141).1 (of_decide_eq_true g162)
                        · skip
                          refine AS.cons (sp_move (v := .int _ _) rfl ?_)
                          refine AS.cons (sp_neq rfl rfl ?_)
                          refine AS.cons (sp_pick_f rfl (v := .bool _) rfl ?_)
                          refine AS.cons (sp_move (v := .bool _) rfl ?_)
                          refine AS.split 166 rfl (fun g166 => ?_) (fun g166 => ?_)
                          · exact absurd (hs3 c141).2 (of_decide_eq_true g166)
                          · skip
                            refine AS.cons (sp_ldw 2 rfl rfl ag_26_7 ?_)
                            refine AS.cons (sp_move (v := .int _ _) rfl ?_)
                            refine AS.cons (sp_move (v := .int _ _) rfl ?_)
                            refine AS.cons (sp_move (v := .int _ _) rfl ?_)
                            refine AS.cons (sp_move rfl ?_)
                            refine AS.cons (sp_call [41] rfl rfl cf_47 (fun F w hF S => allF b la lc ca cc hb a41 c41 wl hlx at_ wi hi hatb (by omega) (by omega) w (S.slc_rd (k := 41) ((hF 41 (by simp)).trans rfl) (by omega))) ?_)
                            refine AS.cons (sp_not rfl ?_)
                            refine AS.cons (sp_pick_f rfl (v := .bool _) rfl ?_)
                            refine AS.nil ?_
                            intro _ S
                            refine W.cond rfl (fun c174 => ?_) (fun c174 => ?_)
                            · exfalso; rcases hgor with h | h; (rw [h.2.2] at c174; cases c174); exact absurd (h.1.symm.trans c141) (by decide)
                            · skip
                              refine W.skip ?_
                              refine W.seq (W.region S ?_)
                              refine AS.cons (sp_iaa rfl rfl ar_62_4_3_1 (by first | omega | (simp only [decide_eq_true_eq, decide_eq_false_iff_not] at *; omega)) ?_)
                              refine AS.cons (sp_ld 3 rfl rfl sc_3 rfl ?_)
                              refine AS.cons (sp_fa rfl fo_26_0_0 ?_)
                              refine AS.cons (sp_ld 2 rfl rfl sc_3 rfl ?_)
                              refine AS.cons (sp_fa rfl fo_26_1_1 ?_)
                              refine AS.cons (sp_ld 2 rfl rfl sc_3 rfl ?_)
                              refine AS.cons (sp_mul rfl rfl (mulB (by first | omega | (simp only [decide_eq_true_eq, decide_eq_false_iff_not] at *; omega)) (by first | omega | (simp only [decide_eq_true_eq, decide_eq_false_iff_not] at *; omega))) ?_)
                              refine AS.cons (sp_call [] rfl rfl cf_40 (fun F w _ S => by have h := wheel n3 (b.wide * b.high) (by omega) w; rw [hoe] at h; exact h) ?_)
                              refine AS.cons (sp_asg (v := .int _ _) rfl ?_)
                              refine AS.nil ?_
                              intro _ S
                              refine W.seq (W.region S ?_)
                              refine AS.cons (sp_ldw 2 rfl rfl ag_26_7 ?_)
                              refine AS.cons (sp_move (v := .int _ _) rfl ?_)
                              refine AS.cons (sp_move (v := .int _ _) rfl ?_)
                              refine AS.cons (sp_move (v := .int _ _) rfl ?_)
                              refine AS.cons (sp_move rfl ?_)
                              refine AS.cons (sp_call [41] rfl rfl cf_47 (fun F w hF S => allF b la lc ca cc hb a41 c41 wl hlx o wi hi (by omega) (by omega) (by omega) w (S.slc_rd (k := 41) ((hF 41 (by simp)).trans rfl) (by omega))) ?_)
                              refine AS.cons (sp_not rfl ?_)
                              refine AS.cons (sp_move (v := .bool _) rfl ?_)
                              refine AS.split 190 rfl (fun g190 => ?_) (fun g190 => ?_)
                              · skip
                                refine AS.cons (sp_skip rfl ?_)
                                refine AS.cons (sp_skip rfl ?_)
                                refine AS.cons (sp_skip rfl ?_)
                                refine AS.cons (sp_skip rfl ?_)
                                refine AS.cons (sp_skip rfl ?_)
                                refine AS.cons (sp_skip rfl ?_)
                                refine AS.cons (sp_skip rfl ?_)
                                refine AS.cons (sp_pick_t rfl (v := .bool _) rfl ?_)
                                refine AS.cons (sp_move (v := .bool _) rfl ?_)
                                refine AS.cons (sp_call [] rfl rfl cf_28 (fun F w _ S => cried w (hK.ext S.mod)) ?_)
                                refine AS.cons (sp_pick_t rfl (v := .bool _) rfl ?_)
                                refine AS.cons (sp_asg (v := .bool _) rfl ?_)
                                refine AS.nil ?_
                                intro _ S
                                refine W.ret ?_
                                exact ret1 rfl rfl S fun w' S' => ⟨rfl, S'.mod⟩
                              · skip
                                refine AS.cons (sp_move (v := .int _ _) rfl ?_)
                                refine AS.cons (sp_eql rfl rfl ?_)
                                refine AS.cons (sp_move (v := .bool _) rfl ?_)
                                refine AS.split 193 rfl (fun g193 => ?_) (fun g193 => ?_)
                                · skip
                                  refine AS.cons (sp_move (v := .int _ _) rfl ?_)
                                  refine AS.cons (sp_move (v := .int _ _) rfl ?_)
                                  refine AS.cons (sp_leq rfl rfl ?_)
                                  refine AS.cons (sp_pick_t rfl (v := .bool _) rfl ?_)
                                  refine AS.cons (sp_pick_f rfl (v := .bool _) rfl ?_)
                                  refine AS.cons (sp_move (v := .bool _) rfl ?_)
                                  refine AS.split 199 rfl (fun g199 => ?_) (fun g199 => ?_)
                                  · skip
                                    refine AS.cons (sp_call [] rfl rfl cf_28 (fun F w _ S => cried w (hK.ext S.mod)) ?_)
                                    refine AS.cons (sp_pick_t rfl (v := .bool _) rfl ?_)
                                    refine AS.cons (sp_asg (v := .bool _) rfl ?_)
                                    refine AS.nil ?_
                                    intro _ S
                                    refine W.ret ?_
                                    exact ret1 rfl rfl S fun w' S' => ⟨rfl, S'.mod⟩
                                  · exfalso; rw [Bool.not_eq_false'] at g190; exact absurd (hs4 o ho g190).2 (of_decide_eq_false g199)
                                · exfalso; rw [Bool.not_eq_false'] at g190; exact absurd (hs4 o ho g190).1 (of_decide_eq_false g193)
                      · skip
                        refine W.skip ?_
                        refine W.seq (W.region S ?_)
                        refine AS.cons (sp_iaa rfl rfl ar_62_4_3_1 (by first | omega | (simp only [decide_eq_true_eq, decide_eq_false_iff_not] at *; omega)) ?_)
                        refine AS.cons (sp_ld 3 rfl rfl sc_3 rfl ?_)
                        refine AS.cons (sp_fa rfl fo_26_0_0 ?_)
                        refine AS.cons (sp_ld 2 rfl rfl sc_3 rfl ?_)
                        refine AS.cons (sp_fa rfl fo_26_1_1 ?_)
                        refine AS.cons (sp_ld 2 rfl rfl sc_3 rfl ?_)
                        refine AS.cons (sp_mul rfl rfl (mulB (by first | omega | (simp only [decide_eq_true_eq, decide_eq_false_iff_not] at *; omega)) (by first | omega | (simp only [decide_eq_true_eq, decide_eq_false_iff_not] at *; omega))) ?_)
                        refine AS.cons (sp_call [] rfl rfl cf_40 (fun F w _ S => by have h := wheel n3 (b.wide * b.high) (by omega) w; rw [hoe] at h; exact h) ?_)
                        refine AS.cons (sp_asg (v := .int _ _) rfl ?_)
                        refine AS.nil ?_
                        intro _ S
                        refine W.seq (W.region S ?_)
                        refine AS.cons (sp_ldw 2 rfl rfl ag_26_7 ?_)
                        refine AS.cons (sp_move (v := .int _ _) rfl ?_)
                        refine AS.cons (sp_move (v := .int _ _) rfl ?_)
                        refine AS.cons (sp_move (v := .int _ _) rfl ?_)
                        refine AS.cons (sp_move rfl ?_)
                        refine AS.cons (sp_call [41] rfl rfl cf_47 (fun F w hF S => allF b la lc ca cc hb a41 c41 wl hlx o wi hi (by omega) (by omega) (by omega) w (S.slc_rd (k := 41) ((hF 41 (by simp)).trans rfl) (by omega))) ?_)
                        refine AS.cons (sp_not rfl ?_)
                        refine AS.cons (sp_move (v := .bool _) rfl ?_)
                        refine AS.split 190 rfl (fun g190 => ?_) (fun g190 => ?_)
                        · skip
                          refine AS.cons (sp_skip rfl ?_)
                          refine AS.cons (sp_skip rfl ?_)
                          refine AS.cons (sp_skip rfl ?_)
                          refine AS.cons (sp_skip rfl ?_)
                          refine AS.cons (sp_skip rfl ?_)
                          refine AS.cons (sp_skip rfl ?_)
                          refine AS.cons (sp_skip rfl ?_)
                          refine AS.cons (sp_pick_t rfl (v := .bool _) rfl ?_)
                          refine AS.cons (sp_move (v := .bool _) rfl ?_)
                          refine AS.cons (sp_call [] rfl rfl cf_28 (fun F w _ S => cried w (hK.ext S.mod)) ?_)
                          refine AS.cons (sp_pick_t rfl (v := .bool _) rfl ?_)
                          refine AS.cons (sp_asg (v := .bool _) rfl ?_)
                          refine AS.nil ?_
                          intro _ S
                          refine W.ret ?_
                          exact ret1 rfl rfl S fun w' S' => ⟨rfl, S'.mod⟩
                        · skip
                          refine AS.cons (sp_move (v := .int _ _) rfl ?_)
                          refine AS.cons (sp_eql rfl rfl ?_)
                          refine AS.cons (sp_move (v := .bool _) rfl ?_)
                          refine AS.split 193 rfl (fun g193 => ?_) (fun g193 => ?_)
                          · skip
                            refine AS.cons (sp_move (v := .int _ _) rfl ?_)
                            refine AS.cons (sp_move (v := .int _ _) rfl ?_)
                            refine AS.cons (sp_leq rfl rfl ?_)
                            refine AS.cons (sp_pick_t rfl (v := .bool _) rfl ?_)
                            refine AS.cons (sp_pick_f rfl (v := .bool _) rfl ?_)
                            refine AS.cons (sp_move (v := .bool _) rfl ?_)
                            refine AS.split 199 rfl (fun g199 => ?_) (fun g199 => ?_)
                            · skip
                              refine AS.cons (sp_call [] rfl rfl cf_28 (fun F w _ S => cried w (hK.ext S.mod)) ?_)
                              refine AS.cons (sp_pick_t rfl (v := .bool _) rfl ?_)
                              refine AS.cons (sp_asg (v := .bool _) rfl ?_)
                              refine AS.nil ?_
                              intro _ S
                              refine W.ret ?_
                              exact ret1 rfl rfl S fun w' S' => ⟨rfl, S'.mod⟩
                            · exfalso; rw [Bool.not_eq_false'] at g190; exact absurd (hs4 o ho g190).2 (of_decide_eq_false g199)
                          · exfalso; rw [Bool.not_eq_false'] at g190; exact absurd (hs4 o ho g190).1 (of_decide_eq_false g193)
          · skip
            refine AS.cons (sp_skip rfl ?_)
            refine AS.cons (sp_skip rfl ?_)
            refine AS.cons (sp_skip rfl ?_)
            refine AS.cons (sp_skip rfl ?_)
            refine AS.cons (sp_skip rfl ?_)
            refine AS.cons (sp_skip rfl ?_)
            refine AS.cons (sp_pick_f rfl (v := .bool _) rfl ?_)
            refine AS.cons (sp_pick_f rfl (v := .bool _) rfl ?_)
            refine AS.cons (sp_move (v := .bool _) rfl ?_)
            refine AS.cons (sp_move (v := .int _ _) rfl ?_)
            refine AS.cons (sp_eql rfl rfl ?_)
            refine AS.cons (sp_move (v := .bool _) rfl ?_)
            refine AS.split 104 rfl (fun g104 => ?_) (fun g104 => ?_)
            · skip
              refine AS.cons (sp_move (v := .int _ _) rfl ?_)
              refine AS.cons (sp_fa rfl fo_26_0_0 ?_)
              refine AS.cons (sp_ld 2 rfl rfl sc_3 rfl ?_)
              refine AS.cons (sp_fa rfl fo_26_1_1 ?_)
              refine AS.cons (sp_ld 2 rfl rfl sc_3 rfl ?_)
              refine AS.cons (sp_mul rfl rfl (mulB (by first | omega | (simp only [decide_eq_true_eq, decide_eq_false_iff_not] at *; omega)) (by first | omega | (simp only [decide_eq_true_eq, decide_eq_false_iff_not] at *; omega))) ?_)
              refine AS.cons (sp_sub rfl rfl (by first | omega | (simp only [decide_eq_true_eq, decide_eq_false_iff_not] at *; omega)) ?_)
              refine AS.cons (sp_call [] rfl rfl cf_44 (fun F w _ S => between _ _ _ w) ?_)
              refine AS.cons (sp_not rfl ?_)
              refine AS.cons (sp_pick_t rfl (v := .bool _) rfl ?_)
              refine AS.cons (sp_pick_f rfl (v := .bool _) rfl ?_)
              refine AS.nil ?_
              intro _ S
              refine W.cond rfl (fun c115 => ?_) (fun c115 => ?_)
              · exfalso; have h1 := of_decide_eq_true g104; rcases hgor with h | h; (rw [decide_eq_true (show 0 ≤ at_ ∧ at_ ≤ b.wide * b.high - 1 by omega)] at c115; cases c115); exact absurd (h.1.symm.trans h1) (by decide)
              · skip
                refine W.skip ?_
                refine W.seq (W.seq (W.region S ?_))
                refine AS.cons (sp_ldw 2 rfl rfl ag_26_7 ?_)
                refine AS.cons (sp_move (v := .int _ _) rfl ?_)
                refine AS.cons (sp_move (v := .int _ _) rfl ?_)
                refine AS.cons (sp_add rfl rfl (by first | omega | (simp only [decide_eq_true_eq, decide_eq_false_iff_not] at *; omega)) ?_)
                refine AS.cons (sp_move (v := .int _ _) rfl ?_)
                refine AS.cons (sp_add rfl rfl (by first | omega | (simp only [decide_eq_true_eq, decide_eq_false_iff_not] at *; omega)) ?_)
                refine AS.cons (sp_call [] rfl rfl cf_29 (fun F w hF S => by have h := shotP b la lc ca cc m (ap + 1) (ap + 1) w (hK.ext S.mod) (hl.ext S.mod) (hC.ext S.mod); rw [hv1, hg1] at h; exact h) ?_)
                refine AS.cons (sp_move rfl ?_)
                refine AS.cons (sp_ext rfl rfl ?_)
                refine AS.cons (sp_ext rfl rfl ?_)
                refine AS.cons (sp_asg (v := .int _ _) rfl ?_)
                refine AS.cons (sp_asg (v := .int _ _) rfl ?_)
                refine AS.nil ?_
                intro _ S
                refine W.seq (W.region S ?_)
                refine AS.cons (sp_move (v := .int _ _) rfl ?_)
                refine AS.cons (sp_neq rfl rfl ?_)
                refine AS.nil ?_
                intro _ S
                refine W.condd rfl (fun c127 => ?_) (fun c127 => ?_)
                · exact absurd hs1 c127
                · skip
                  refine W.skip ?_
                  refine W.seq (W.seq (W.region S ?_))
                  refine AS.cons (sp_move (v := .int _ _) rfl ?_)
                  refine AS.cons (sp_gtr rfl rfl ?_)
                  refine AS.nil ?_
                  intro _ S
                  refine W.condd rfl (fun c129 => ?_) (fun c129 => ?_)
                  · skip
                    refine W.seq (W.region S ?_)
                    refine AS.cons (sp_ldw 2 rfl rfl ag_26_7 ?_)
                    refine AS.cons (sp_move (v := .int _ _) rfl ?_)
                    refine AS.cons (sp_move (v := .int _ _) rfl ?_)
                    refine AS.cons (sp_move (v := .int _ _) rfl ?_)
                    refine AS.cons (sp_call [] rfl rfl cf_29 (fun F w hF S => by have h := shotP b la lc ca cc m ap ap w (hK.ext S.mod) (hl.ext S.mod) (hC.ext S.mod); rw [hv2, hg2] at h; exact h) ?_)
                    refine AS.cons (sp_move rfl ?_)
                    refine AS.cons (sp_ext rfl rfl ?_)
                    refine AS.cons (sp_ext rfl rfl ?_)
                    refine AS.cons (sp_asg (v := .int _ _) rfl ?_)
                    refine AS.cons (sp_asg (v := .int _ _) rfl ?_)
                    refine AS.nil ?_
                    intro _ S
                    refine W.seq (W.region S ?_)
                    refine AS.cons (sp_move (v := .int _ _) rfl ?_)
                    refine AS.cons (sp_neq rfl rfl ?_)
                    refine AS.nil ?_
                    intro _ S
                    refine W.condd rfl (fun c139 => ?_) (fun c139 => ?_)
                    · exact absurd (hs2 c129) c139
                    · skip
                      refine W.skip ?_
                      refine W.seq (W.seq (W.region S ?_))
                      refine AS.cons (sp_move (v := .int _ _) rfl ?_)
                      refine AS.cons (sp_eql rfl rfl ?_)
                      refine AS.nil ?_
                      intro _ S
                      refine W.condd rfl (fun c141 => ?_) (fun c141 => ?_)
                      · skip
                        refine W.seq (W.region S ?_)
                        refine AS.cons (sp_ldw 2 rfl rfl ag_26_7 ?_)
                        refine AS.cons (sp_move (v := .int _ _) rfl ?_)
                        refine AS.cons (sp_move (v := .int _ _) rfl ?_)
                        refine AS.cons (sp_add rfl rfl (by first | omega | (simp only [decide_eq_true_eq, decide_eq_false_iff_not] at *; omega)) ?_)
                        refine AS.cons (sp_move (v := .int _ _) rfl ?_)
                        refine AS.cons (sp_call [] rfl rfl cf_29 (fun F w hF S => by have h := shotP b la lc ca cc m (wi + 1) hi w (hK.ext S.mod) (hl.ext S.mod) (hC.ext S.mod); rw [hv3, hg3] at h; exact h) ?_)
                        refine AS.cons (sp_move rfl ?_)
                        refine AS.cons (sp_ext rfl rfl ?_)
                        refine AS.cons (sp_ext rfl rfl ?_)
                        refine AS.cons (sp_asg (v := .int _ _) rfl ?_)
                        refine AS.cons (sp_asg (v := .int _ _) rfl ?_)
                        refine AS.nil ?_
                        intro _ S
                        refine W.seq (W.region S ?_)
                        refine AS.cons (sp_ldw 2 rfl rfl ag_26_7 ?_)
                        refine AS.cons (sp_move (v := .int _ _) rfl ?_)
                        refine AS.cons (sp_move (v := .int _ _) rfl ?_)
                        refine AS.cons (sp_move (v := .int _ _) rfl ?_)
                        refine AS.cons (sp_add rfl rfl (by first | omega | (simp only [decide_eq_true_eq, decide_eq_false_iff_not] at *; omega)) ?_)
                        refine AS.cons (sp_call [] rfl rfl cf_29 (fun F w hF S => by have h := shotP b la lc ca cc m wi (hi + 1) w (hK.ext S.mod) (hl.ext S.mod) (hC.ext S.mod); rw [hv4, hg4] at h; exact h) ?_)
                        refine AS.cons (sp_move rfl ?_)
                        refine AS.cons (sp_ext rfl rfl ?_)
                        refine AS.cons (sp_ext rfl rfl ?_)
                        refine AS.cons (sp_asg (v := .int _ _) rfl ?_)
                        refine AS.cons (sp_asg (v := .int _ _) rfl ?_)
                        refine AS.nil ?_
                        intro _ S
                        refine W.seq (W.region S ?_)
                        refine AS.cons (sp_move (v := .int _ _) rfl ?_)
                        refine AS.cons (sp_neq rfl rfl ?_)
                        refine AS.cons (sp_move (v := .bool _) rfl ?_)
                        refine AS.split 162 rfl (fun g162 => ?_) (fun g162 => ?_)
                        · exact absurd (hs3 c141).1 (of_decide_eq_true g162)
                        · skip
                          refine AS.cons (sp_move (v := .int _ _) rfl ?_)
                          refine AS.cons (sp_neq rfl rfl ?_)
                          refine AS.cons (sp_pick_f rfl (v := .bool _) rfl ?_)
                          refine AS.cons (sp_move (v := .bool _) rfl ?_)
                          refine AS.split 166 rfl (fun g166 => ?_) (fun g166 => ?_)
                          · exact absurd (hs3 c141).2 (of_decide_eq_true g166)
                          · skip
                            refine AS.cons (sp_ldw 2 rfl rfl ag_26_7 ?_)
                            refine AS.cons (sp_move (v := .int _ _) rfl ?_)
                            refine AS.cons (sp_move (v := .int _ _) rfl ?_)
                            refine AS.cons (sp_move (v := .int _ _) rfl ?_)
                            refine AS.cons (sp_move rfl ?_)
                            refine AS.cons (sp_call [41] rfl rfl cf_47 (fun F w hF S => allF b la lc ca cc hb a41 c41 wl hlx at_ wi hi hatb (by omega) (by omega) w (S.slc_rd (k := 41) ((hF 41 (by simp)).trans rfl) (by omega))) ?_)
                            refine AS.cons (sp_not rfl ?_)
                            refine AS.cons (sp_pick_f rfl (v := .bool _) rfl ?_)
                            refine AS.nil ?_
                            intro _ S
                            refine W.cond rfl (fun c174 => ?_) (fun c174 => ?_)
                            · exfalso; rcases hgor with h | h; (rw [h.2.2] at c174; cases c174); exact absurd (h.1.symm.trans c141) (by decide)
                            · skip
                              refine W.skip ?_
                              refine W.seq (W.region S ?_)
                              refine AS.cons (sp_iaa rfl rfl ar_62_4_3_1 (by first | omega | (simp only [decide_eq_true_eq, decide_eq_false_iff_not] at *; omega)) ?_)
                              refine AS.cons (sp_ld 3 rfl rfl sc_3 rfl ?_)
                              refine AS.cons (sp_fa rfl fo_26_0_0 ?_)
                              refine AS.cons (sp_ld 2 rfl rfl sc_3 rfl ?_)
                              refine AS.cons (sp_fa rfl fo_26_1_1 ?_)
                              refine AS.cons (sp_ld 2 rfl rfl sc_3 rfl ?_)
                              refine AS.cons (sp_mul rfl rfl (mulB (by first | omega | (simp only [decide_eq_true_eq, decide_eq_false_iff_not] at *; omega)) (by first | omega | (simp only [decide_eq_true_eq, decide_eq_false_iff_not] at *; omega))) ?_)
                              refine AS.cons (sp_call [] rfl rfl cf_40 (fun F w _ S => by have h := wheel n3 (b.wide * b.high) (by omega) w; rw [hoe] at h; exact h) ?_)
                              refine AS.cons (sp_asg (v := .int _ _) rfl ?_)
                              refine AS.nil ?_
                              intro _ S
                              refine W.seq (W.region S ?_)
                              refine AS.cons (sp_ldw 2 rfl rfl ag_26_7 ?_)
                              refine AS.cons (sp_move (v := .int _ _) rfl ?_)
                              refine AS.cons (sp_move (v := .int _ _) rfl ?_)
                              refine AS.cons (sp_move (v := .int _ _) rfl ?_)
                              refine AS.cons (sp_move rfl ?_)
                              refine AS.cons (sp_call [41] rfl rfl cf_47 (fun F w hF S => allF b la lc ca cc hb a41 c41 wl hlx o wi hi (by omega) (by omega) (by omega) w (S.slc_rd (k := 41) ((hF 41 (by simp)).trans rfl) (by omega))) ?_)
                              refine AS.cons (sp_not rfl ?_)
                              refine AS.cons (sp_move (v := .bool _) rfl ?_)
                              refine AS.split 190 rfl (fun g190 => ?_) (fun g190 => ?_)
                              · skip
                                refine AS.cons (sp_skip rfl ?_)
                                refine AS.cons (sp_skip rfl ?_)
                                refine AS.cons (sp_skip rfl ?_)
                                refine AS.cons (sp_skip rfl ?_)
                                refine AS.cons (sp_skip rfl ?_)
                                refine AS.cons (sp_skip rfl ?_)
                                refine AS.cons (sp_skip rfl ?_)
                                refine AS.cons (sp_pick_t rfl (v := .bool _) rfl ?_)
                                refine AS.cons (sp_move (v := .bool _) rfl ?_)
                                refine AS.cons (sp_call [] rfl rfl cf_28 (fun F w _ S => cried w (hK.ext S.mod)) ?_)
                                refine AS.cons (sp_pick_t rfl (v := .bool _) rfl ?_)
                                refine AS.cons (sp_asg (v := .bool _) rfl ?_)
                                refine AS.nil ?_
                                intro _ S
                                refine W.ret ?_
                                exact ret1 rfl rfl S fun w' S' => ⟨rfl, S'.mod⟩
                              · skip
                                refine AS.cons (sp_move (v := .int _ _) rfl ?_)
                                refine AS.cons (sp_eql rfl rfl ?_)
                                refine AS.cons (sp_move (v := .bool _) rfl ?_)
                                refine AS.split 193 rfl (fun g193 => ?_) (fun g193 => ?_)
                                · skip
                                  refine AS.cons (sp_move (v := .int _ _) rfl ?_)
                                  refine AS.cons (sp_move (v := .int _ _) rfl ?_)
                                  refine AS.cons (sp_leq rfl rfl ?_)
                                  refine AS.cons (sp_pick_t rfl (v := .bool _) rfl ?_)
                                  refine AS.cons (sp_pick_f rfl (v := .bool _) rfl ?_)
                                  refine AS.cons (sp_move (v := .bool _) rfl ?_)
                                  refine AS.split 199 rfl (fun g199 => ?_) (fun g199 => ?_)
                                  · skip
                                    refine AS.cons (sp_call [] rfl rfl cf_28 (fun F w _ S => cried w (hK.ext S.mod)) ?_)
                                    refine AS.cons (sp_pick_t rfl (v := .bool _) rfl ?_)
                                    refine AS.cons (sp_asg (v := .bool _) rfl ?_)
                                    refine AS.nil ?_
                                    intro _ S
                                    refine W.ret ?_
                                    exact ret1 rfl rfl S fun w' S' => ⟨rfl, S'.mod⟩
                                  · exfalso; rw [Bool.not_eq_false'] at g190; exact absurd (hs4 o ho g190).2 (of_decide_eq_false g199)
                                · exfalso; rw [Bool.not_eq_false'] at g190; exact absurd (hs4 o ho g190).1 (of_decide_eq_false g193)
                      · skip
                        refine W.skip ?_
                        refine W.seq (W.region S ?_)
                        refine AS.cons (sp_iaa rfl rfl ar_62_4_3_1 (by first | omega | (simp only [decide_eq_true_eq, decide_eq_false_iff_not] at *; omega)) ?_)
                        refine AS.cons (sp_ld 3 rfl rfl sc_3 rfl ?_)
                        refine AS.cons (sp_fa rfl fo_26_0_0 ?_)
                        refine AS.cons (sp_ld 2 rfl rfl sc_3 rfl ?_)
                        refine AS.cons (sp_fa rfl fo_26_1_1 ?_)
                        refine AS.cons (sp_ld 2 rfl rfl sc_3 rfl ?_)
                        refine AS.cons (sp_mul rfl rfl (mulB (by first | omega | (simp only [decide_eq_true_eq, decide_eq_false_iff_not] at *; omega)) (by first | omega | (simp only [decide_eq_true_eq, decide_eq_false_iff_not] at *; omega))) ?_)
                        refine AS.cons (sp_call [] rfl rfl cf_40 (fun F w _ S => by have h := wheel n3 (b.wide * b.high) (by omega) w; rw [hoe] at h; exact h) ?_)
                        refine AS.cons (sp_asg (v := .int _ _) rfl ?_)
                        refine AS.nil ?_
                        intro _ S
                        refine W.seq (W.region S ?_)
                        refine AS.cons (sp_ldw 2 rfl rfl ag_26_7 ?_)
                        refine AS.cons (sp_move (v := .int _ _) rfl ?_)
                        refine AS.cons (sp_move (v := .int _ _) rfl ?_)
                        refine AS.cons (sp_move (v := .int _ _) rfl ?_)
                        refine AS.cons (sp_move rfl ?_)
                        refine AS.cons (sp_call [41] rfl rfl cf_47 (fun F w hF S => allF b la lc ca cc hb a41 c41 wl hlx o wi hi (by omega) (by omega) (by omega) w (S.slc_rd (k := 41) ((hF 41 (by simp)).trans rfl) (by omega))) ?_)
                        refine AS.cons (sp_not rfl ?_)
                        refine AS.cons (sp_move (v := .bool _) rfl ?_)
                        refine AS.split 190 rfl (fun g190 => ?_) (fun g190 => ?_)
                        · skip
                          refine AS.cons (sp_skip rfl ?_)
                          refine AS.cons (sp_skip rfl ?_)
                          refine AS.cons (sp_skip rfl ?_)
                          refine AS.cons (sp_skip rfl ?_)
                          refine AS.cons (sp_skip rfl ?_)
                          refine AS.cons (sp_skip rfl ?_)
                          refine AS.cons (sp_skip rfl ?_)
                          refine AS.cons (sp_pick_t rfl (v := .bool _) rfl ?_)
                          refine AS.cons (sp_move (v := .bool _) rfl ?_)
                          refine AS.cons (sp_call [] rfl rfl cf_28 (fun F w _ S => cried w (hK.ext S.mod)) ?_)
                          refine AS.cons (sp_pick_t rfl (v := .bool _) rfl ?_)
                          refine AS.cons (sp_asg (v := .bool _) rfl ?_)
                          refine AS.nil ?_
                          intro _ S
                          refine W.ret ?_
                          exact ret1 rfl rfl S fun w' S' => ⟨rfl, S'.mod⟩
                        · skip
                          refine AS.cons (sp_move (v := .int _ _) rfl ?_)
                          refine AS.cons (sp_eql rfl rfl ?_)
                          refine AS.cons (sp_move (v := .bool _) rfl ?_)
                          refine AS.split 193 rfl (fun g193 => ?_) (fun g193 => ?_)
                          · skip
                            refine AS.cons (sp_move (v := .int _ _) rfl ?_)
                            refine AS.cons (sp_move (v := .int _ _) rfl ?_)
                            refine AS.cons (sp_leq rfl rfl ?_)
                            refine AS.cons (sp_pick_t rfl (v := .bool _) rfl ?_)
                            refine AS.cons (sp_pick_f rfl (v := .bool _) rfl ?_)
                            refine AS.cons (sp_move (v := .bool _) rfl ?_)
                            refine AS.split 199 rfl (fun g199 => ?_) (fun g199 => ?_)
                            · skip
                              refine AS.cons (sp_call [] rfl rfl cf_28 (fun F w _ S => cried w (hK.ext S.mod)) ?_)
                              refine AS.cons (sp_pick_t rfl (v := .bool _) rfl ?_)
                              refine AS.cons (sp_asg (v := .bool _) rfl ?_)
                              refine AS.nil ?_
                              intro _ S
                              refine W.ret ?_
                              exact ret1 rfl rfl S fun w' S' => ⟨rfl, S'.mod⟩
                            · exfalso; rw [Bool.not_eq_false'] at g190; exact absurd (hs4 o ho g190).2 (of_decide_eq_false g199)
                          · exfalso; rw [Bool.not_eq_false'] at g190; exact absurd (hs4 o ho g190).1 (of_decide_eq_false g193)
                  · skip
                    refine W.skip ?_
                    refine W.seq (W.seq (W.region S ?_))
                    refine AS.cons (sp_move (v := .int _ _) rfl ?_)
                    refine AS.cons (sp_eql rfl rfl ?_)
                    refine AS.nil ?_
                    intro _ S
                    refine W.condd rfl (fun c141 => ?_) (fun c141 => ?_)
                    · skip
                      refine W.seq (W.region S ?_)
                      refine AS.cons (sp_ldw 2 rfl rfl ag_26_7 ?_)
                      refine AS.cons (sp_move (v := .int _ _) rfl ?_)
                      refine AS.cons (sp_move (v := .int _ _) rfl ?_)
                      refine AS.cons (sp_add rfl rfl (by first | omega | (simp only [decide_eq_true_eq, decide_eq_false_iff_not] at *; omega)) ?_)
                      refine AS.cons (sp_move (v := .int _ _) rfl ?_)
                      refine AS.cons (sp_call [] rfl rfl cf_29 (fun F w hF S => by have h := shotP b la lc ca cc m (wi + 1) hi w (hK.ext S.mod) (hl.ext S.mod) (hC.ext S.mod); rw [hv3, hg3] at h; exact h) ?_)
                      refine AS.cons (sp_move rfl ?_)
                      refine AS.cons (sp_ext rfl rfl ?_)
                      refine AS.cons (sp_ext rfl rfl ?_)
                      refine AS.cons (sp_asg (v := .int _ _) rfl ?_)
                      refine AS.cons (sp_asg (v := .int _ _) rfl ?_)
                      refine AS.nil ?_
                      intro _ S
                      refine W.seq (W.region S ?_)
                      refine AS.cons (sp_ldw 2 rfl rfl ag_26_7 ?_)
                      refine AS.cons (sp_move (v := .int _ _) rfl ?_)
                      refine AS.cons (sp_move (v := .int _ _) rfl ?_)
                      refine AS.cons (sp_move (v := .int _ _) rfl ?_)
                      refine AS.cons (sp_add rfl rfl (by first | omega | (simp only [decide_eq_true_eq, decide_eq_false_iff_not] at *; omega)) ?_)
                      refine AS.cons (sp_call [] rfl rfl cf_29 (fun F w hF S => by have h := shotP b la lc ca cc m wi (hi + 1) w (hK.ext S.mod) (hl.ext S.mod) (hC.ext S.mod); rw [hv4, hg4] at h; exact h) ?_)
                      refine AS.cons (sp_move rfl ?_)
                      refine AS.cons (sp_ext rfl rfl ?_)
                      refine AS.cons (sp_ext rfl rfl ?_)
                      refine AS.cons (sp_asg (v := .int _ _) rfl ?_)
                      refine AS.cons (sp_asg (v := .int _ _) rfl ?_)
                      refine AS.nil ?_
                      intro _ S
                      refine W.seq (W.region S ?_)
                      refine AS.cons (sp_move (v := .int _ _) rfl ?_)
                      refine AS.cons (sp_neq rfl rfl ?_)
                      refine AS.cons (sp_move (v := .bool _) rfl ?_)
                      refine AS.split 162 rfl (fun g162 => ?_) (fun g162 => ?_)
                      · exact absurd (hs3 c141).1 (of_decide_eq_true g162)
                      · skip
                        refine AS.cons (sp_move (v := .int _ _) rfl ?_)
                        refine AS.cons (sp_neq rfl rfl ?_)
                        refine AS.cons (sp_pick_f rfl (v := .bool _) rfl ?_)
                        refine AS.cons (sp_move (v := .bool _) rfl ?_)
                        refine AS.split 166 rfl (fun g166 => ?_) (fun g166 => ?_)
                        · exact absurd (hs3 c141).2 (of_decide_eq_true g166)
                        · skip
                          refine AS.cons (sp_ldw 2 rfl rfl ag_26_7 ?_)
                          refine AS.cons (sp_move (v := .int _ _) rfl ?_)
                          refine AS.cons (sp_move (v := .int _ _) rfl ?_)
                          refine AS.cons (sp_move (v := .int _ _) rfl ?_)
                          refine AS.cons (sp_move rfl ?_)
                          refine AS.cons (sp_call [41] rfl rfl cf_47 (fun F w hF S => allF b la lc ca cc hb a41 c41 wl hlx at_ wi hi hatb (by omega) (by omega) w (S.slc_rd (k := 41) ((hF 41 (by simp)).trans rfl) (by omega))) ?_)
                          refine AS.cons (sp_not rfl ?_)
                          refine AS.cons (sp_pick_f rfl (v := .bool _) rfl ?_)
                          refine AS.nil ?_
                          intro _ S
                          refine W.cond rfl (fun c174 => ?_) (fun c174 => ?_)
                          · exfalso; rcases hgor with h | h; (rw [h.2.2] at c174; cases c174); exact absurd (h.1.symm.trans c141) (by decide)
                          · skip
                            refine W.skip ?_
                            refine W.seq (W.region S ?_)
                            refine AS.cons (sp_iaa rfl rfl ar_62_4_3_1 (by first | omega | (simp only [decide_eq_true_eq, decide_eq_false_iff_not] at *; omega)) ?_)
                            refine AS.cons (sp_ld 3 rfl rfl sc_3 rfl ?_)
                            refine AS.cons (sp_fa rfl fo_26_0_0 ?_)
                            refine AS.cons (sp_ld 2 rfl rfl sc_3 rfl ?_)
                            refine AS.cons (sp_fa rfl fo_26_1_1 ?_)
                            refine AS.cons (sp_ld 2 rfl rfl sc_3 rfl ?_)
                            refine AS.cons (sp_mul rfl rfl (mulB (by first | omega | (simp only [decide_eq_true_eq, decide_eq_false_iff_not] at *; omega)) (by first | omega | (simp only [decide_eq_true_eq, decide_eq_false_iff_not] at *; omega))) ?_)
                            refine AS.cons (sp_call [] rfl rfl cf_40 (fun F w _ S => by have h := wheel n3 (b.wide * b.high) (by omega) w; rw [hoe] at h; exact h) ?_)
                            refine AS.cons (sp_asg (v := .int _ _) rfl ?_)
                            refine AS.nil ?_
                            intro _ S
                            refine W.seq (W.region S ?_)
                            refine AS.cons (sp_ldw 2 rfl rfl ag_26_7 ?_)
                            refine AS.cons (sp_move (v := .int _ _) rfl ?_)
                            refine AS.cons (sp_move (v := .int _ _) rfl ?_)
                            refine AS.cons (sp_move (v := .int _ _) rfl ?_)
                            refine AS.cons (sp_move rfl ?_)
                            refine AS.cons (sp_call [41] rfl rfl cf_47 (fun F w hF S => allF b la lc ca cc hb a41 c41 wl hlx o wi hi (by omega) (by omega) (by omega) w (S.slc_rd (k := 41) ((hF 41 (by simp)).trans rfl) (by omega))) ?_)
                            refine AS.cons (sp_not rfl ?_)
                            refine AS.cons (sp_move (v := .bool _) rfl ?_)
                            refine AS.split 190 rfl (fun g190 => ?_) (fun g190 => ?_)
                            · skip
                              refine AS.cons (sp_skip rfl ?_)
                              refine AS.cons (sp_skip rfl ?_)
                              refine AS.cons (sp_skip rfl ?_)
                              refine AS.cons (sp_skip rfl ?_)
                              refine AS.cons (sp_skip rfl ?_)
                              refine AS.cons (sp_skip rfl ?_)
                              refine AS.cons (sp_skip rfl ?_)
                              refine AS.cons (sp_pick_t rfl (v := .bool _) rfl ?_)
                              refine AS.cons (sp_move (v := .bool _) rfl ?_)
                              refine AS.cons (sp_call [] rfl rfl cf_28 (fun F w _ S => cried w (hK.ext S.mod)) ?_)
                              refine AS.cons (sp_pick_t rfl (v := .bool _) rfl ?_)
                              refine AS.cons (sp_asg (v := .bool _) rfl ?_)
                              refine AS.nil ?_
                              intro _ S
                              refine W.ret ?_
                              exact ret1 rfl rfl S fun w' S' => ⟨rfl, S'.mod⟩
                            · skip
                              refine AS.cons (sp_move (v := .int _ _) rfl ?_)
                              refine AS.cons (sp_eql rfl rfl ?_)
                              refine AS.cons (sp_move (v := .bool _) rfl ?_)
                              refine AS.split 193 rfl (fun g193 => ?_) (fun g193 => ?_)
                              · skip
                                refine AS.cons (sp_move (v := .int _ _) rfl ?_)
                                refine AS.cons (sp_move (v := .int _ _) rfl ?_)
                                refine AS.cons (sp_leq rfl rfl ?_)
                                refine AS.cons (sp_pick_t rfl (v := .bool _) rfl ?_)
                                refine AS.cons (sp_pick_f rfl (v := .bool _) rfl ?_)
                                refine AS.cons (sp_move (v := .bool _) rfl ?_)
                                refine AS.split 199 rfl (fun g199 => ?_) (fun g199 => ?_)
                                · skip
                                  refine AS.cons (sp_call [] rfl rfl cf_28 (fun F w _ S => cried w (hK.ext S.mod)) ?_)
                                  refine AS.cons (sp_pick_t rfl (v := .bool _) rfl ?_)
                                  refine AS.cons (sp_asg (v := .bool _) rfl ?_)
                                  refine AS.nil ?_
                                  intro _ S
                                  refine W.ret ?_
                                  exact ret1 rfl rfl S fun w' S' => ⟨rfl, S'.mod⟩
                                · exfalso; rw [Bool.not_eq_false'] at g190; exact absurd (hs4 o ho g190).2 (of_decide_eq_false g199)
                              · exfalso; rw [Bool.not_eq_false'] at g190; exact absurd (hs4 o ho g190).1 (of_decide_eq_false g193)
                    · skip
                      refine W.skip ?_
                      refine W.seq (W.region S ?_)
                      refine AS.cons (sp_iaa rfl rfl ar_62_4_3_1 (by first | omega | (simp only [decide_eq_true_eq, decide_eq_false_iff_not] at *; omega)) ?_)
                      refine AS.cons (sp_ld 3 rfl rfl sc_3 rfl ?_)
                      refine AS.cons (sp_fa rfl fo_26_0_0 ?_)
                      refine AS.cons (sp_ld 2 rfl rfl sc_3 rfl ?_)
                      refine AS.cons (sp_fa rfl fo_26_1_1 ?_)
                      refine AS.cons (sp_ld 2 rfl rfl sc_3 rfl ?_)
                      refine AS.cons (sp_mul rfl rfl (mulB (by first | omega | (simp only [decide_eq_true_eq, decide_eq_false_iff_not] at *; omega)) (by first | omega | (simp only [decide_eq_true_eq, decide_eq_false_iff_not] at *; omega))) ?_)
                      refine AS.cons (sp_call [] rfl rfl cf_40 (fun F w _ S => by have h := wheel n3 (b.wide * b.high) (by omega) w; rw [hoe] at h; exact h) ?_)
                      refine AS.cons (sp_asg (v := .int _ _) rfl ?_)
                      refine AS.nil ?_
                      intro _ S
                      refine W.seq (W.region S ?_)
                      refine AS.cons (sp_ldw 2 rfl rfl ag_26_7 ?_)
                      refine AS.cons (sp_move (v := .int _ _) rfl ?_)
                      refine AS.cons (sp_move (v := .int _ _) rfl ?_)
                      refine AS.cons (sp_move (v := .int _ _) rfl ?_)
                      refine AS.cons (sp_move rfl ?_)
                      refine AS.cons (sp_call [41] rfl rfl cf_47 (fun F w hF S => allF b la lc ca cc hb a41 c41 wl hlx o wi hi (by omega) (by omega) (by omega) w (S.slc_rd (k := 41) ((hF 41 (by simp)).trans rfl) (by omega))) ?_)
                      refine AS.cons (sp_not rfl ?_)
                      refine AS.cons (sp_move (v := .bool _) rfl ?_)
                      refine AS.split 190 rfl (fun g190 => ?_) (fun g190 => ?_)
                      · skip
                        refine AS.cons (sp_skip rfl ?_)
                        refine AS.cons (sp_skip rfl ?_)
                        refine AS.cons (sp_skip rfl ?_)
                        refine AS.cons (sp_skip rfl ?_)
                        refine AS.cons (sp_skip rfl ?_)
                        refine AS.cons (sp_skip rfl ?_)
                        refine AS.cons (sp_skip rfl ?_)
                        refine AS.cons (sp_pick_t rfl (v := .bool _) rfl ?_)
                        refine AS.cons (sp_move (v := .bool _) rfl ?_)
                        refine AS.cons (sp_call [] rfl rfl cf_28 (fun F w _ S => cried w (hK.ext S.mod)) ?_)
                        refine AS.cons (sp_pick_t rfl (v := .bool _) rfl ?_)
                        refine AS.cons (sp_asg (v := .bool _) rfl ?_)
                        refine AS.nil ?_
                        intro _ S
                        refine W.ret ?_
                        exact ret1 rfl rfl S fun w' S' => ⟨rfl, S'.mod⟩
                      · skip
                        refine AS.cons (sp_move (v := .int _ _) rfl ?_)
                        refine AS.cons (sp_eql rfl rfl ?_)
                        refine AS.cons (sp_move (v := .bool _) rfl ?_)
                        refine AS.split 193 rfl (fun g193 => ?_) (fun g193 => ?_)
                        · skip
                          refine AS.cons (sp_move (v := .int _ _) rfl ?_)
                          refine AS.cons (sp_move (v := .int _ _) rfl ?_)
                          refine AS.cons (sp_leq rfl rfl ?_)
                          refine AS.cons (sp_pick_t rfl (v := .bool _) rfl ?_)
                          refine AS.cons (sp_pick_f rfl (v := .bool _) rfl ?_)
                          refine AS.cons (sp_move (v := .bool _) rfl ?_)
                          refine AS.split 199 rfl (fun g199 => ?_) (fun g199 => ?_)
                          · skip
                            refine AS.cons (sp_call [] rfl rfl cf_28 (fun F w _ S => cried w (hK.ext S.mod)) ?_)
                            refine AS.cons (sp_pick_t rfl (v := .bool _) rfl ?_)
                            refine AS.cons (sp_asg (v := .bool _) rfl ?_)
                            refine AS.nil ?_
                            intro _ S
                            refine W.ret ?_
                            exact ret1 rfl rfl S fun w' S' => ⟨rfl, S'.mod⟩
                          · exfalso; rw [Bool.not_eq_false'] at g190; exact absurd (hs4 o ho g190).2 (of_decide_eq_false g199)
                        · exfalso; rw [Bool.not_eq_false'] at g190; exact absurd (hs4 o ho g190).1 (of_decide_eq_false g193)
            · skip
              refine AS.cons (sp_skip rfl ?_)
              refine AS.cons (sp_skip rfl ?_)
              refine AS.cons (sp_skip rfl ?_)
              refine AS.cons (sp_skip rfl ?_)
              refine AS.cons (sp_skip rfl ?_)
              refine AS.cons (sp_skip rfl ?_)
              refine AS.cons (sp_skip rfl ?_)
              refine AS.cons (sp_skip rfl ?_)
              refine AS.cons (sp_skip rfl ?_)
              refine AS.cons (sp_pick_f rfl (v := .bool _) rfl ?_)
              refine AS.cons (sp_pick_f rfl (v := .bool _) rfl ?_)
              refine AS.nil ?_
              intro _ S
              refine W.cond (b := false) rfl (fun h => nomatch h) (fun _ => ?_)
              refine W.skip ?_
              refine W.seq (W.seq (W.region S ?_))
              refine AS.cons (sp_ldw 2 rfl rfl ag_26_7 ?_)
              refine AS.cons (sp_move (v := .int _ _) rfl ?_)
              refine AS.cons (sp_move (v := .int _ _) rfl ?_)
              refine AS.cons (sp_add rfl rfl (by first | omega | (simp only [decide_eq_true_eq, decide_eq_false_iff_not] at *; omega)) ?_)
              refine AS.cons (sp_move (v := .int _ _) rfl ?_)
              refine AS.cons (sp_add rfl rfl (by first | omega | (simp only [decide_eq_true_eq, decide_eq_false_iff_not] at *; omega)) ?_)
              refine AS.cons (sp_call [] rfl rfl cf_29 (fun F w hF S => by have h := shotP b la lc ca cc m (ap + 1) (ap + 1) w (hK.ext S.mod) (hl.ext S.mod) (hC.ext S.mod); rw [hv1, hg1] at h; exact h) ?_)
              refine AS.cons (sp_move rfl ?_)
              refine AS.cons (sp_ext rfl rfl ?_)
              refine AS.cons (sp_ext rfl rfl ?_)
              refine AS.cons (sp_asg (v := .int _ _) rfl ?_)
              refine AS.cons (sp_asg (v := .int _ _) rfl ?_)
              refine AS.nil ?_
              intro _ S
              refine W.seq (W.region S ?_)
              refine AS.cons (sp_move (v := .int _ _) rfl ?_)
              refine AS.cons (sp_neq rfl rfl ?_)
              refine AS.nil ?_
              intro _ S
              refine W.condd rfl (fun c127 => ?_) (fun c127 => ?_)
              · exact absurd hs1 c127
              · skip
                refine W.skip ?_
                refine W.seq (W.seq (W.region S ?_))
                refine AS.cons (sp_move (v := .int _ _) rfl ?_)
                refine AS.cons (sp_gtr rfl rfl ?_)
                refine AS.nil ?_
                intro _ S
                refine W.condd rfl (fun c129 => ?_) (fun c129 => ?_)
                · skip
                  refine W.seq (W.region S ?_)
                  refine AS.cons (sp_ldw 2 rfl rfl ag_26_7 ?_)
                  refine AS.cons (sp_move (v := .int _ _) rfl ?_)
                  refine AS.cons (sp_move (v := .int _ _) rfl ?_)
                  refine AS.cons (sp_move (v := .int _ _) rfl ?_)
                  refine AS.cons (sp_call [] rfl rfl cf_29 (fun F w hF S => by have h := shotP b la lc ca cc m ap ap w (hK.ext S.mod) (hl.ext S.mod) (hC.ext S.mod); rw [hv2, hg2] at h; exact h) ?_)
                  refine AS.cons (sp_move rfl ?_)
                  refine AS.cons (sp_ext rfl rfl ?_)
                  refine AS.cons (sp_ext rfl rfl ?_)
                  refine AS.cons (sp_asg (v := .int _ _) rfl ?_)
                  refine AS.cons (sp_asg (v := .int _ _) rfl ?_)
                  refine AS.nil ?_
                  intro _ S
                  refine W.seq (W.region S ?_)
                  refine AS.cons (sp_move (v := .int _ _) rfl ?_)
                  refine AS.cons (sp_neq rfl rfl ?_)
                  refine AS.nil ?_
                  intro _ S
                  refine W.condd rfl (fun c139 => ?_) (fun c139 => ?_)
                  · exact absurd (hs2 c129) c139
                  · skip
                    refine W.skip ?_
                    refine W.seq (W.seq (W.region S ?_))
                    refine AS.cons (sp_move (v := .int _ _) rfl ?_)
                    refine AS.cons (sp_eql rfl rfl ?_)
                    refine AS.nil ?_
                    intro _ S
                    refine W.condd rfl (fun c141 => ?_) (fun c141 => ?_)
                    · skip
                      refine W.seq (W.region S ?_)
                      refine AS.cons (sp_ldw 2 rfl rfl ag_26_7 ?_)
                      refine AS.cons (sp_move (v := .int _ _) rfl ?_)
                      refine AS.cons (sp_move (v := .int _ _) rfl ?_)
                      refine AS.cons (sp_add rfl rfl (by first | omega | (simp only [decide_eq_true_eq, decide_eq_false_iff_not] at *; omega)) ?_)
                      refine AS.cons (sp_move (v := .int _ _) rfl ?_)
                      refine AS.cons (sp_call [] rfl rfl cf_29 (fun F w hF S => by have h := shotP b la lc ca cc m (wi + 1) hi w (hK.ext S.mod) (hl.ext S.mod) (hC.ext S.mod); rw [hv3, hg3] at h; exact h) ?_)
                      refine AS.cons (sp_move rfl ?_)
                      refine AS.cons (sp_ext rfl rfl ?_)
                      refine AS.cons (sp_ext rfl rfl ?_)
                      refine AS.cons (sp_asg (v := .int _ _) rfl ?_)
                      refine AS.cons (sp_asg (v := .int _ _) rfl ?_)
                      refine AS.nil ?_
                      intro _ S
                      refine W.seq (W.region S ?_)
                      refine AS.cons (sp_ldw 2 rfl rfl ag_26_7 ?_)
                      refine AS.cons (sp_move (v := .int _ _) rfl ?_)
                      refine AS.cons (sp_move (v := .int _ _) rfl ?_)
                      refine AS.cons (sp_move (v := .int _ _) rfl ?_)
                      refine AS.cons (sp_add rfl rfl (by first | omega | (simp only [decide_eq_true_eq, decide_eq_false_iff_not] at *; omega)) ?_)
                      refine AS.cons (sp_call [] rfl rfl cf_29 (fun F w hF S => by have h := shotP b la lc ca cc m wi (hi + 1) w (hK.ext S.mod) (hl.ext S.mod) (hC.ext S.mod); rw [hv4, hg4] at h; exact h) ?_)
                      refine AS.cons (sp_move rfl ?_)
                      refine AS.cons (sp_ext rfl rfl ?_)
                      refine AS.cons (sp_ext rfl rfl ?_)
                      refine AS.cons (sp_asg (v := .int _ _) rfl ?_)
                      refine AS.cons (sp_asg (v := .int _ _) rfl ?_)
                      refine AS.nil ?_
                      intro _ S
                      refine W.seq (W.region S ?_)
                      refine AS.cons (sp_move (v := .int _ _) rfl ?_)
                      refine AS.cons (sp_neq rfl rfl ?_)
                      refine AS.cons (sp_move (v := .bool _) rfl ?_)
                      refine AS.split 162 rfl (fun g162 => ?_) (fun g162 => ?_)
                      · exact absurd (hs3 c141).1 (of_decide_eq_true g162)
                      · skip
                        refine AS.cons (sp_move (v := .int _ _) rfl ?_)
                        refine AS.cons (sp_neq rfl rfl ?_)
                        refine AS.cons (sp_pick_f rfl (v := .bool _) rfl ?_)
                        refine AS.cons (sp_move (v := .bool _) rfl ?_)
                        refine AS.split 166 rfl (fun g166 => ?_) (fun g166 => ?_)
                        · exact absurd (hs3 c141).2 (of_decide_eq_true g166)
                        · skip
                          refine AS.cons (sp_ldw 2 rfl rfl ag_26_7 ?_)
                          refine AS.cons (sp_move (v := .int _ _) rfl ?_)
                          refine AS.cons (sp_move (v := .int _ _) rfl ?_)
                          refine AS.cons (sp_move (v := .int _ _) rfl ?_)
                          refine AS.cons (sp_move rfl ?_)
                          refine AS.cons (sp_call [41] rfl rfl cf_47 (fun F w hF S => allF b la lc ca cc hb a41 c41 wl hlx at_ wi hi hatb (by omega) (by omega) w (S.slc_rd (k := 41) ((hF 41 (by simp)).trans rfl) (by omega))) ?_)
                          refine AS.cons (sp_not rfl ?_)
                          refine AS.cons (sp_pick_f rfl (v := .bool _) rfl ?_)
                          refine AS.nil ?_
                          intro _ S
                          refine W.cond rfl (fun c174 => ?_) (fun c174 => ?_)
                          · exfalso; rcases hgor with h | h; (rw [h.2.2] at c174; cases c174); exact absurd (h.1.symm.trans c141) (by decide)
                          · skip
                            refine W.skip ?_
                            refine W.seq (W.region S ?_)
                            refine AS.cons (sp_iaa rfl rfl ar_62_4_3_1 (by first | omega | (simp only [decide_eq_true_eq, decide_eq_false_iff_not] at *; omega)) ?_)
                            refine AS.cons (sp_ld 3 rfl rfl sc_3 rfl ?_)
                            refine AS.cons (sp_fa rfl fo_26_0_0 ?_)
                            refine AS.cons (sp_ld 2 rfl rfl sc_3 rfl ?_)
                            refine AS.cons (sp_fa rfl fo_26_1_1 ?_)
                            refine AS.cons (sp_ld 2 rfl rfl sc_3 rfl ?_)
                            refine AS.cons (sp_mul rfl rfl (mulB (by first | omega | (simp only [decide_eq_true_eq, decide_eq_false_iff_not] at *; omega)) (by first | omega | (simp only [decide_eq_true_eq, decide_eq_false_iff_not] at *; omega))) ?_)
                            refine AS.cons (sp_call [] rfl rfl cf_40 (fun F w _ S => by have h := wheel n3 (b.wide * b.high) (by omega) w; rw [hoe] at h; exact h) ?_)
                            refine AS.cons (sp_asg (v := .int _ _) rfl ?_)
                            refine AS.nil ?_
                            intro _ S
                            refine W.seq (W.region S ?_)
                            refine AS.cons (sp_ldw 2 rfl rfl ag_26_7 ?_)
                            refine AS.cons (sp_move (v := .int _ _) rfl ?_)
                            refine AS.cons (sp_move (v := .int _ _) rfl ?_)
                            refine AS.cons (sp_move (v := .int _ _) rfl ?_)
                            refine AS.cons (sp_move rfl ?_)
                            refine AS.cons (sp_call [41] rfl rfl cf_47 (fun F w hF S => allF b la lc ca cc hb a41 c41 wl hlx o wi hi (by omega) (by omega) (by omega) w (S.slc_rd (k := 41) ((hF 41 (by simp)).trans rfl) (by omega))) ?_)
                            refine AS.cons (sp_not rfl ?_)
                            refine AS.cons (sp_move (v := .bool _) rfl ?_)
                            refine AS.split 190 rfl (fun g190 => ?_) (fun g190 => ?_)
                            · skip
                              refine AS.cons (sp_skip rfl ?_)
                              refine AS.cons (sp_skip rfl ?_)
                              refine AS.cons (sp_skip rfl ?_)
                              refine AS.cons (sp_skip rfl ?_)
                              refine AS.cons (sp_skip rfl ?_)
                              refine AS.cons (sp_skip rfl ?_)
                              refine AS.cons (sp_skip rfl ?_)
                              refine AS.cons (sp_pick_t rfl (v := .bool _) rfl ?_)
                              refine AS.cons (sp_move (v := .bool _) rfl ?_)
                              refine AS.cons (sp_call [] rfl rfl cf_28 (fun F w _ S => cried w (hK.ext S.mod)) ?_)
                              refine AS.cons (sp_pick_t rfl (v := .bool _) rfl ?_)
                              refine AS.cons (sp_asg (v := .bool _) rfl ?_)
                              refine AS.nil ?_
                              intro _ S
                              refine W.ret ?_
                              exact ret1 rfl rfl S fun w' S' => ⟨rfl, S'.mod⟩
                            · skip
                              refine AS.cons (sp_move (v := .int _ _) rfl ?_)
                              refine AS.cons (sp_eql rfl rfl ?_)
                              refine AS.cons (sp_move (v := .bool _) rfl ?_)
                              refine AS.split 193 rfl (fun g193 => ?_) (fun g193 => ?_)
                              · skip
                                refine AS.cons (sp_move (v := .int _ _) rfl ?_)
                                refine AS.cons (sp_move (v := .int _ _) rfl ?_)
                                refine AS.cons (sp_leq rfl rfl ?_)
                                refine AS.cons (sp_pick_t rfl (v := .bool _) rfl ?_)
                                refine AS.cons (sp_pick_f rfl (v := .bool _) rfl ?_)
                                refine AS.cons (sp_move (v := .bool _) rfl ?_)
                                refine AS.split 199 rfl (fun g199 => ?_) (fun g199 => ?_)
                                · skip
                                  refine AS.cons (sp_call [] rfl rfl cf_28 (fun F w _ S => cried w (hK.ext S.mod)) ?_)
                                  refine AS.cons (sp_pick_t rfl (v := .bool _) rfl ?_)
                                  refine AS.cons (sp_asg (v := .bool _) rfl ?_)
                                  refine AS.nil ?_
                                  intro _ S
                                  refine W.ret ?_
                                  exact ret1 rfl rfl S fun w' S' => ⟨rfl, S'.mod⟩
                                · exfalso; rw [Bool.not_eq_false'] at g190; exact absurd (hs4 o ho g190).2 (of_decide_eq_false g199)
                              · exfalso; rw [Bool.not_eq_false'] at g190; exact absurd (hs4 o ho g190).1 (of_decide_eq_false g193)
                    · skip
                      refine W.skip ?_
                      refine W.seq (W.region S ?_)
                      refine AS.cons (sp_iaa rfl rfl ar_62_4_3_1 (by first | omega | (simp only [decide_eq_true_eq, decide_eq_false_iff_not] at *; omega)) ?_)
                      refine AS.cons (sp_ld 3 rfl rfl sc_3 rfl ?_)
                      refine AS.cons (sp_fa rfl fo_26_0_0 ?_)
                      refine AS.cons (sp_ld 2 rfl rfl sc_3 rfl ?_)
                      refine AS.cons (sp_fa rfl fo_26_1_1 ?_)
                      refine AS.cons (sp_ld 2 rfl rfl sc_3 rfl ?_)
                      refine AS.cons (sp_mul rfl rfl (mulB (by first | omega | (simp only [decide_eq_true_eq, decide_eq_false_iff_not] at *; omega)) (by first | omega | (simp only [decide_eq_true_eq, decide_eq_false_iff_not] at *; omega))) ?_)
                      refine AS.cons (sp_call [] rfl rfl cf_40 (fun F w _ S => by have h := wheel n3 (b.wide * b.high) (by omega) w; rw [hoe] at h; exact h) ?_)
                      refine AS.cons (sp_asg (v := .int _ _) rfl ?_)
                      refine AS.nil ?_
                      intro _ S
                      refine W.seq (W.region S ?_)
                      refine AS.cons (sp_ldw 2 rfl rfl ag_26_7 ?_)
                      refine AS.cons (sp_move (v := .int _ _) rfl ?_)
                      refine AS.cons (sp_move (v := .int _ _) rfl ?_)
                      refine AS.cons (sp_move (v := .int _ _) rfl ?_)
                      refine AS.cons (sp_move rfl ?_)
                      refine AS.cons (sp_call [41] rfl rfl cf_47 (fun F w hF S => allF b la lc ca cc hb a41 c41 wl hlx o wi hi (by omega) (by omega) (by omega) w (S.slc_rd (k := 41) ((hF 41 (by simp)).trans rfl) (by omega))) ?_)
                      refine AS.cons (sp_not rfl ?_)
                      refine AS.cons (sp_move (v := .bool _) rfl ?_)
                      refine AS.split 190 rfl (fun g190 => ?_) (fun g190 => ?_)
                      · skip
                        refine AS.cons (sp_skip rfl ?_)
                        refine AS.cons (sp_skip rfl ?_)
                        refine AS.cons (sp_skip rfl ?_)
                        refine AS.cons (sp_skip rfl ?_)
                        refine AS.cons (sp_skip rfl ?_)
                        refine AS.cons (sp_skip rfl ?_)
                        refine AS.cons (sp_skip rfl ?_)
                        refine AS.cons (sp_pick_t rfl (v := .bool _) rfl ?_)
                        refine AS.cons (sp_move (v := .bool _) rfl ?_)
                        refine AS.cons (sp_call [] rfl rfl cf_28 (fun F w _ S => cried w (hK.ext S.mod)) ?_)
                        refine AS.cons (sp_pick_t rfl (v := .bool _) rfl ?_)
                        refine AS.cons (sp_asg (v := .bool _) rfl ?_)
                        refine AS.nil ?_
                        intro _ S
                        refine W.ret ?_
                        exact ret1 rfl rfl S fun w' S' => ⟨rfl, S'.mod⟩
                      · skip
                        refine AS.cons (sp_move (v := .int _ _) rfl ?_)
                        refine AS.cons (sp_eql rfl rfl ?_)
                        refine AS.cons (sp_move (v := .bool _) rfl ?_)
                        refine AS.split 193 rfl (fun g193 => ?_) (fun g193 => ?_)
                        · skip
                          refine AS.cons (sp_move (v := .int _ _) rfl ?_)
                          refine AS.cons (sp_move (v := .int _ _) rfl ?_)
                          refine AS.cons (sp_leq rfl rfl ?_)
                          refine AS.cons (sp_pick_t rfl (v := .bool _) rfl ?_)
                          refine AS.cons (sp_pick_f rfl (v := .bool _) rfl ?_)
                          refine AS.cons (sp_move (v := .bool _) rfl ?_)
                          refine AS.split 199 rfl (fun g199 => ?_) (fun g199 => ?_)
                          · skip
                            refine AS.cons (sp_call [] rfl rfl cf_28 (fun F w _ S => cried w (hK.ext S.mod)) ?_)
                            refine AS.cons (sp_pick_t rfl (v := .bool _) rfl ?_)
                            refine AS.cons (sp_asg (v := .bool _) rfl ?_)
                            refine AS.nil ?_
                            intro _ S
                            refine W.ret ?_
                            exact ret1 rfl rfl S fun w' S' => ⟨rfl, S'.mod⟩
                          · exfalso; rw [Bool.not_eq_false'] at g190; exact absurd (hs4 o ho g190).2 (of_decide_eq_false g199)
                        · exfalso; rw [Bool.not_eq_false'] at g190; exact absurd (hs4 o ho g190).1 (of_decide_eq_false g193)
                · skip
                  refine W.skip ?_
                  refine W.seq (W.seq (W.region S ?_))
                  refine AS.cons (sp_move (v := .int _ _) rfl ?_)
                  refine AS.cons (sp_eql rfl rfl ?_)
                  refine AS.nil ?_
                  intro _ S
                  refine W.condd rfl (fun c141 => ?_) (fun c141 => ?_)
                  · skip
                    refine W.seq (W.region S ?_)
                    refine AS.cons (sp_ldw 2 rfl rfl ag_26_7 ?_)
                    refine AS.cons (sp_move (v := .int _ _) rfl ?_)
                    refine AS.cons (sp_move (v := .int _ _) rfl ?_)
                    refine AS.cons (sp_add rfl rfl (by first | omega | (simp only [decide_eq_true_eq, decide_eq_false_iff_not] at *; omega)) ?_)
                    refine AS.cons (sp_move (v := .int _ _) rfl ?_)
                    refine AS.cons (sp_call [] rfl rfl cf_29 (fun F w hF S => by have h := shotP b la lc ca cc m (wi + 1) hi w (hK.ext S.mod) (hl.ext S.mod) (hC.ext S.mod); rw [hv3, hg3] at h; exact h) ?_)
                    refine AS.cons (sp_move rfl ?_)
                    refine AS.cons (sp_ext rfl rfl ?_)
                    refine AS.cons (sp_ext rfl rfl ?_)
                    refine AS.cons (sp_asg (v := .int _ _) rfl ?_)
                    refine AS.cons (sp_asg (v := .int _ _) rfl ?_)
                    refine AS.nil ?_
                    intro _ S
                    refine W.seq (W.region S ?_)
                    refine AS.cons (sp_ldw 2 rfl rfl ag_26_7 ?_)
                    refine AS.cons (sp_move (v := .int _ _) rfl ?_)
                    refine AS.cons (sp_move (v := .int _ _) rfl ?_)
                    refine AS.cons (sp_move (v := .int _ _) rfl ?_)
                    refine AS.cons (sp_add rfl rfl (by first | omega | (simp only [decide_eq_true_eq, decide_eq_false_iff_not] at *; omega)) ?_)
                    refine AS.cons (sp_call [] rfl rfl cf_29 (fun F w hF S => by have h := shotP b la lc ca cc m wi (hi + 1) w (hK.ext S.mod) (hl.ext S.mod) (hC.ext S.mod); rw [hv4, hg4] at h; exact h) ?_)
                    refine AS.cons (sp_move rfl ?_)
                    refine AS.cons (sp_ext rfl rfl ?_)
                    refine AS.cons (sp_ext rfl rfl ?_)
                    refine AS.cons (sp_asg (v := .int _ _) rfl ?_)
                    refine AS.cons (sp_asg (v := .int _ _) rfl ?_)
                    refine AS.nil ?_
                    intro _ S
                    refine W.seq (W.region S ?_)
                    refine AS.cons (sp_move (v := .int _ _) rfl ?_)
                    refine AS.cons (sp_neq rfl rfl ?_)
                    refine AS.cons (sp_move (v := .bool _) rfl ?_)
                    refine AS.split 162 rfl (fun g162 => ?_) (fun g162 => ?_)
                    · exact absurd (hs3 c141).1 (of_decide_eq_true g162)
                    · skip
                      refine AS.cons (sp_move (v := .int _ _) rfl ?_)
                      refine AS.cons (sp_neq rfl rfl ?_)
                      refine AS.cons (sp_pick_f rfl (v := .bool _) rfl ?_)
                      refine AS.cons (sp_move (v := .bool _) rfl ?_)
                      refine AS.split 166 rfl (fun g166 => ?_) (fun g166 => ?_)
                      · exact absurd (hs3 c141).2 (of_decide_eq_true g166)
                      · skip
                        refine AS.cons (sp_ldw 2 rfl rfl ag_26_7 ?_)
                        refine AS.cons (sp_move (v := .int _ _) rfl ?_)
                        refine AS.cons (sp_move (v := .int _ _) rfl ?_)
                        refine AS.cons (sp_move (v := .int _ _) rfl ?_)
                        refine AS.cons (sp_move rfl ?_)
                        refine AS.cons (sp_call [41] rfl rfl cf_47 (fun F w hF S => allF b la lc ca cc hb a41 c41 wl hlx at_ wi hi hatb (by omega) (by omega) w (S.slc_rd (k := 41) ((hF 41 (by simp)).trans rfl) (by omega))) ?_)
                        refine AS.cons (sp_not rfl ?_)
                        refine AS.cons (sp_pick_f rfl (v := .bool _) rfl ?_)
                        refine AS.nil ?_
                        intro _ S
                        refine W.cond rfl (fun c174 => ?_) (fun c174 => ?_)
                        · exfalso; rcases hgor with h | h; (rw [h.2.2] at c174; cases c174); exact absurd (h.1.symm.trans c141) (by decide)
                        · skip
                          refine W.skip ?_
                          refine W.seq (W.region S ?_)
                          refine AS.cons (sp_iaa rfl rfl ar_62_4_3_1 (by first | omega | (simp only [decide_eq_true_eq, decide_eq_false_iff_not] at *; omega)) ?_)
                          refine AS.cons (sp_ld 3 rfl rfl sc_3 rfl ?_)
                          refine AS.cons (sp_fa rfl fo_26_0_0 ?_)
                          refine AS.cons (sp_ld 2 rfl rfl sc_3 rfl ?_)
                          refine AS.cons (sp_fa rfl fo_26_1_1 ?_)
                          refine AS.cons (sp_ld 2 rfl rfl sc_3 rfl ?_)
                          refine AS.cons (sp_mul rfl rfl (mulB (by first | omega | (simp only [decide_eq_true_eq, decide_eq_false_iff_not] at *; omega)) (by first | omega | (simp only [decide_eq_true_eq, decide_eq_false_iff_not] at *; omega))) ?_)
                          refine AS.cons (sp_call [] rfl rfl cf_40 (fun F w _ S => by have h := wheel n3 (b.wide * b.high) (by omega) w; rw [hoe] at h; exact h) ?_)
                          refine AS.cons (sp_asg (v := .int _ _) rfl ?_)
                          refine AS.nil ?_
                          intro _ S
                          refine W.seq (W.region S ?_)
                          refine AS.cons (sp_ldw 2 rfl rfl ag_26_7 ?_)
                          refine AS.cons (sp_move (v := .int _ _) rfl ?_)
                          refine AS.cons (sp_move (v := .int _ _) rfl ?_)
                          refine AS.cons (sp_move (v := .int _ _) rfl ?_)
                          refine AS.cons (sp_move rfl ?_)
                          refine AS.cons (sp_call [41] rfl rfl cf_47 (fun F w hF S => allF b la lc ca cc hb a41 c41 wl hlx o wi hi (by omega) (by omega) (by omega) w (S.slc_rd (k := 41) ((hF 41 (by simp)).trans rfl) (by omega))) ?_)
                          refine AS.cons (sp_not rfl ?_)
                          refine AS.cons (sp_move (v := .bool _) rfl ?_)
                          refine AS.split 190 rfl (fun g190 => ?_) (fun g190 => ?_)
                          · skip
                            refine AS.cons (sp_skip rfl ?_)
                            refine AS.cons (sp_skip rfl ?_)
                            refine AS.cons (sp_skip rfl ?_)
                            refine AS.cons (sp_skip rfl ?_)
                            refine AS.cons (sp_skip rfl ?_)
                            refine AS.cons (sp_skip rfl ?_)
                            refine AS.cons (sp_skip rfl ?_)
                            refine AS.cons (sp_pick_t rfl (v := .bool _) rfl ?_)
                            refine AS.cons (sp_move (v := .bool _) rfl ?_)
                            refine AS.cons (sp_call [] rfl rfl cf_28 (fun F w _ S => cried w (hK.ext S.mod)) ?_)
                            refine AS.cons (sp_pick_t rfl (v := .bool _) rfl ?_)
                            refine AS.cons (sp_asg (v := .bool _) rfl ?_)
                            refine AS.nil ?_
                            intro _ S
                            refine W.ret ?_
                            exact ret1 rfl rfl S fun w' S' => ⟨rfl, S'.mod⟩
                          · skip
                            refine AS.cons (sp_move (v := .int _ _) rfl ?_)
                            refine AS.cons (sp_eql rfl rfl ?_)
                            refine AS.cons (sp_move (v := .bool _) rfl ?_)
                            refine AS.split 193 rfl (fun g193 => ?_) (fun g193 => ?_)
                            · skip
                              refine AS.cons (sp_move (v := .int _ _) rfl ?_)
                              refine AS.cons (sp_move (v := .int _ _) rfl ?_)
                              refine AS.cons (sp_leq rfl rfl ?_)
                              refine AS.cons (sp_pick_t rfl (v := .bool _) rfl ?_)
                              refine AS.cons (sp_pick_f rfl (v := .bool _) rfl ?_)
                              refine AS.cons (sp_move (v := .bool _) rfl ?_)
                              refine AS.split 199 rfl (fun g199 => ?_) (fun g199 => ?_)
                              · skip
                                refine AS.cons (sp_call [] rfl rfl cf_28 (fun F w _ S => cried w (hK.ext S.mod)) ?_)
                                refine AS.cons (sp_pick_t rfl (v := .bool _) rfl ?_)
                                refine AS.cons (sp_asg (v := .bool _) rfl ?_)
                                refine AS.nil ?_
                                intro _ S
                                refine W.ret ?_
                                exact ret1 rfl rfl S fun w' S' => ⟨rfl, S'.mod⟩
                              · exfalso; rw [Bool.not_eq_false'] at g190; exact absurd (hs4 o ho g190).2 (of_decide_eq_false g199)
                            · exfalso; rw [Bool.not_eq_false'] at g190; exact absurd (hs4 o ho g190).1 (of_decide_eq_false g193)
                  · skip
                    refine W.skip ?_
                    refine W.seq (W.region S ?_)
                    refine AS.cons (sp_iaa rfl rfl ar_62_4_3_1 (by first | omega | (simp only [decide_eq_true_eq, decide_eq_false_iff_not] at *; omega)) ?_)
                    refine AS.cons (sp_ld 3 rfl rfl sc_3 rfl ?_)
                    refine AS.cons (sp_fa rfl fo_26_0_0 ?_)
                    refine AS.cons (sp_ld 2 rfl rfl sc_3 rfl ?_)
                    refine AS.cons (sp_fa rfl fo_26_1_1 ?_)
                    refine AS.cons (sp_ld 2 rfl rfl sc_3 rfl ?_)
                    refine AS.cons (sp_mul rfl rfl (mulB (by first | omega | (simp only [decide_eq_true_eq, decide_eq_false_iff_not] at *; omega)) (by first | omega | (simp only [decide_eq_true_eq, decide_eq_false_iff_not] at *; omega))) ?_)
                    refine AS.cons (sp_call [] rfl rfl cf_40 (fun F w _ S => by have h := wheel n3 (b.wide * b.high) (by omega) w; rw [hoe] at h; exact h) ?_)
                    refine AS.cons (sp_asg (v := .int _ _) rfl ?_)
                    refine AS.nil ?_
                    intro _ S
                    refine W.seq (W.region S ?_)
                    refine AS.cons (sp_ldw 2 rfl rfl ag_26_7 ?_)
                    refine AS.cons (sp_move (v := .int _ _) rfl ?_)
                    refine AS.cons (sp_move (v := .int _ _) rfl ?_)
                    refine AS.cons (sp_move (v := .int _ _) rfl ?_)
                    refine AS.cons (sp_move rfl ?_)
                    refine AS.cons (sp_call [41] rfl rfl cf_47 (fun F w hF S => allF b la lc ca cc hb a41 c41 wl hlx o wi hi (by omega) (by omega) (by omega) w (S.slc_rd (k := 41) ((hF 41 (by simp)).trans rfl) (by omega))) ?_)
                    refine AS.cons (sp_not rfl ?_)
                    refine AS.cons (sp_move (v := .bool _) rfl ?_)
                    refine AS.split 190 rfl (fun g190 => ?_) (fun g190 => ?_)
                    · skip
                      refine AS.cons (sp_skip rfl ?_)
                      refine AS.cons (sp_skip rfl ?_)
                      refine AS.cons (sp_skip rfl ?_)
                      refine AS.cons (sp_skip rfl ?_)
                      refine AS.cons (sp_skip rfl ?_)
                      refine AS.cons (sp_skip rfl ?_)
                      refine AS.cons (sp_skip rfl ?_)
                      refine AS.cons (sp_pick_t rfl (v := .bool _) rfl ?_)
                      refine AS.cons (sp_move (v := .bool _) rfl ?_)
                      refine AS.cons (sp_call [] rfl rfl cf_28 (fun F w _ S => cried w (hK.ext S.mod)) ?_)
                      refine AS.cons (sp_pick_t rfl (v := .bool _) rfl ?_)
                      refine AS.cons (sp_asg (v := .bool _) rfl ?_)
                      refine AS.nil ?_
                      intro _ S
                      refine W.ret ?_
                      exact ret1 rfl rfl S fun w' S' => ⟨rfl, S'.mod⟩
                    · skip
                      refine AS.cons (sp_move (v := .int _ _) rfl ?_)
                      refine AS.cons (sp_eql rfl rfl ?_)
                      refine AS.cons (sp_move (v := .bool _) rfl ?_)
                      refine AS.split 193 rfl (fun g193 => ?_) (fun g193 => ?_)
                      · skip
                        refine AS.cons (sp_move (v := .int _ _) rfl ?_)
                        refine AS.cons (sp_move (v := .int _ _) rfl ?_)
                        refine AS.cons (sp_leq rfl rfl ?_)
                        refine AS.cons (sp_pick_t rfl (v := .bool _) rfl ?_)
                        refine AS.cons (sp_pick_f rfl (v := .bool _) rfl ?_)
                        refine AS.cons (sp_move (v := .bool _) rfl ?_)
                        refine AS.split 199 rfl (fun g199 => ?_) (fun g199 => ?_)
                        · skip
                          refine AS.cons (sp_call [] rfl rfl cf_28 (fun F w _ S => cried w (hK.ext S.mod)) ?_)
                          refine AS.cons (sp_pick_t rfl (v := .bool _) rfl ?_)
                          refine AS.cons (sp_asg (v := .bool _) rfl ?_)
                          refine AS.nil ?_
                          intro _ S
                          refine W.ret ?_
                          exact ret1 rfl rfl S fun w' S' => ⟨rfl, S'.mod⟩
                        · exfalso; rw [Bool.not_eq_false'] at g190; exact absurd (hs4 o ho g190).2 (of_decide_eq_false g199)
                      · exfalso; rw [Bool.not_eq_false'] at g190; exact absurd (hs4 o ho g190).1 (of_decide_eq_false g193)
end
end Go.Proofs.YtmpclgepoemneaaDoor
