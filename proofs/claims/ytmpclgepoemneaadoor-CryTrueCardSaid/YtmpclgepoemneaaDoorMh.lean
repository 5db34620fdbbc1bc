/-
  Lemmas of this proof, several texts one behind the other; no condition beyond what each says.
-/
import Derived.Test.YtmpclgepoemneaaDoorMg
namespace Go.Proofs.YtmpclgepoemneaaDoor
open Go.Hu
theorem cf_37 : cfB Tryd.prog 37 = true := by kernel_rfl
theorem cf_38 : cfB Tryd.prog 38 = true := by kernel_rfl
theorem cf_39 : cfB Tryd.prog 39 = true := by kernel_rfl
theorem cf_42 : cfB Tryd.prog 42 = true := by kernel_rfl
theorem cf_43 : cfB Tryd.prog 43 = true := by kernel_rfl
theorem cf_46 : cfB Tryd.prog 46 = true := by kernel_rfl
theorem cf_51 : cfB Tryd.prog 51 = true := by kernel_rfl
theorem cf_93 : cfB Tryd.prog 93 = true := by kernel_rfl
theorem cf_94 : cfB Tryd.prog 94 = true := by kernel_rfl
theorem sz_3_1 : szB Tryd.prog 3 1 = true := by kernel_rfl
end Go.Proofs.YtmpclgepoemneaaDoor
/-
  Where a shoal truly swims; what is rightly cried of it; the fourth law, walked.
-/
namespace Go.Proofs.YtmpclgepoemneaaDoor
set_option maxRecDepth 100000
open Go.Hu Go.RowKit
section
variable (b : Bk) (la : Option Addr) (lc : Nat) (ca : Option Addr) (cc : Nat)
theorem wheelG (n k : Int) (hk : k ≤ 9223372036854775807) (w : World) : Ct Tryd.prog 40 #[iv n, iv k] w (fun v w' => v = iv (if k < 2 then 0 else n % k) ∧ Ext w w') := by
  refine fn_intro (args := [iv n, iv k]) Tryd.func40 rfl rfl (by kernel_rfl) ?_
  have S := St.start no w
  have hneg : ¬ k < 2 → n.tmod k < 0 → n % k = n.tmod k + k := fun h1 h2 => by
    rw [Int.tmod_eq_emod] at h2 ⊢
    have := Int.emod_nonneg n (show k ≠ 0 by omega)
    split at h2
    · omega
    · rename_i hh; rw [if_neg hh]; have e : ((k.natAbs : Int)) = k := by omega
      rw [e]; omega
  have hpos : ¬ k < 2 → ¬ n.tmod k < 0 → n % k = n.tmod k := fun h1 h2 => by
    rw [Int.tmod_eq_emod] at h2 ⊢
    have := Int.emod_lt_of_pos n (show 0 < k by omega)
    split at h2
    · rename_i hh; rw [if_pos hh]; omega
    · exfalso; have e : ((k.natAbs : Int)) = k := by omega
      rw [e] at h2; omega
  have hlt : ¬ k < 2 → -k < n.tmod k := fun h1 => by
    have := Int.lt_tmod_of_pos n (show 0 < k by omega)
    omega
  refine W.seq (W.region S ?_)
  refine AS.cons (sp_asg rfl ?_)
  refine AS.nil ?_
  intro _ S
  refine W.seq (W.seq (W.region S ?_))
  refine AS.cons (sp_move (v := .int _ _) rfl ?_)
  refine AS.cons (sp_lss rfl rfl ?_)
  refine AS.nil ?_
  intro _ S
  refine W.condd rfl (fun c7 => ?_) (fun c7 => ?_)
  · skip
    refine W.seq (W.region S ?_)
    refine AS.cons (sp_asg rfl ?_)
    refine AS.nil ?_
    intro _ S
    refine W.ret ?_
    exact ret1 rfl rfl S fun w' S' => ⟨congrArg iv (by first | (rw [if_pos (by assumption)]; done) | (rw [if_neg (by assumption), hneg (by assumption) (by assumption)]; done) | (rw [if_neg (by assumption), hpos (by assumption) (by assumption)]; done)), S'.mod⟩
  · skip
    refine W.skip ?_
    refine W.seq (W.region S ?_)
    refine AS.cons (sp_move (v := .int _ _) rfl ?_)
    refine AS.cons (sp_move (v := .int _ _) rfl ?_)
    refine AS.cons (sp_remt rfl rfl (by omega) ?_)
    refine AS.cons (sp_asg (v := .int _ _) rfl ?_)
    refine AS.nil ?_
    intro _ S
    refine W.seq (W.seq (W.region S ?_))
    refine AS.cons (sp_move (v := .int _ _) rfl ?_)
    refine AS.cons (sp_lss rfl rfl ?_)
    refine AS.nil ?_
    intro _ S
    refine W.condd rfl (fun c12 => ?_) (fun c12 => ?_)
    · skip
      have hlt' := hlt (by assumption)
      refine W.seq (W.region S ?_)
      refine AS.cons (sp_move (v := .int _ _) rfl ?_)
      refine AS.cons (sp_move (v := .int _ _) rfl ?_)
      refine AS.cons (sp_add rfl rfl (by first | omega | (simp only [decide_eq_true_eq, decide_eq_false_iff_not] at *; omega)) ?_)
      refine AS.cons (sp_asg (v := .int _ _) rfl ?_)
      refine AS.nil ?_
      intro _ S
      refine W.ret ?_
      exact ret1 rfl rfl S fun w' S' => ⟨congrArg iv (by first | (rw [if_pos (by assumption)]; done) | (rw [if_neg (by assumption), hneg (by assumption) (by assumption)]; done) | (rw [if_neg (by assumption), hpos (by assumption) (by assumption)]; done)), S'.mod⟩
    · skip
      refine W.skip ?_
      refine W.seq (W.region S ?_)
      refine AS.cons (sp_move (v := .int _ _) rfl ?_)
      refine AS.cons (sp_asg (v := .int _ _) rfl ?_)
      refine AS.nil ?_
      intro _ S
      refine W.ret ?_
      exact ret1 rfl rfl S fun w' S' => ⟨congrArg iv (by first | (rw [if_pos (by assumption)]; done) | (rw [if_neg (by assumption), hneg (by assumption) (by assumption)]; done) | (rw [if_neg (by assumption), hpos (by assumption) (by assumption)]; done)), S'.mod⟩
theorem pickG (ga : Option Addr) (gc : Nat) (l : List Int) (n : Int) (w : World) (hg : Ints w ga gc l) : Ct Tryd.prog 94 #[.slice ga l.length gc, iv n] w (fun u w' => u = iv (pickV l n) ∧ Ext w w') := by
  refine fn_intro (args := [.slice ga l.length gc, iv n]) Tryd.func94 rfl rfl (by kernel_rfl) ?_
  have S := St.start no w
  have hln : l.length ≤ 9223372036854775807 := hg.2.1
  refine W.seq (W.region S ?_)
  refine AS.cons (sp_asg rfl ?_)
  refine AS.nil ?_
  intro _ S
  refine W.seq (W.seq (W.region S ?_))
  refine AS.cons (sp_move rfl ?_)
  refine AS.cons (sp_len rfl sl_22_3_1 ?_)
  refine AS.cons (sp_lss rfl rfl ?_)
  refine AS.nil ?_
  intro _ S
  refine W.condd rfl (fun c7 => ?_) (fun c7 => ?_)
  · skip
    have hv : pickV l n = 0 := by unfold pickV; rw [if_pos (by omega)]
    refine W.seq (W.region S ?_)
    refine AS.cons (sp_asg rfl ?_)
    refine AS.nil ?_
    intro _ S
    refine W.ret ?_
    exact ret1 rfl rfl S fun w' S' => ⟨congrArg iv hv.symm, S'.mod⟩
  · skip
    obtain ⟨i, hi⟩ : ∃ i : Nat, (if (l.length : Int) < 2 then 0 else n % l.length) = (i : Int) := ⟨(if (l.length : Int) < 2 then 0 else n % l.length).toNat, by
      rw [Int.toNat_of_nonneg]; split
      · omega
      · exact Int.emod_nonneg n (by omega)⟩
    have hil : i < l.length := by
      split at hi
      · omega
      · have := Int.emod_lt_of_pos n (show (0 : Int) < l.length by omega)
        omega
    obtain ⟨x, hx⟩ := get_some hil
    have hv : pickV l n = x := by unfold pickV; rw [if_neg (by omega), hi, Int.toNat_natCast, List.getD_eq_getElem?_getD, hx]; rfl
    refine W.skip ?_
    refine W.seq (W.region S ?_)
    refine AS.cons (sp_move rfl ?_)
    refine AS.cons (sp_move (v := .int _ _) rfl ?_)
    refine AS.cons (sp_move rfl ?_)
    refine AS.cons (sp_len rfl sl_22_3_1 ?_)
    refine AS.cons (sp_call [] rfl rfl cf_40 (fun F w _ S => by have h := wheelG n (l.length : Int) (by omega) w; rw [hi] at h; exact h) ?_)
    refine AS.cons (sp_iaR hg rfl rfl sl_22_3_1 (by first | omega | (simp only [decide_eq_true_eq, decide_eq_false_iff_not] at *; omega)) ?_)
    refine AS.cons (sp_ldR 0 hg (fun _ h => h) rfl sc_3 (ints_at hx) (by first | omega | (simp only [decide_eq_true_eq, decide_eq_false_iff_not] at *; omega)) ?_)
    refine AS.cons (sp_asg (v := .int _ _) rfl ?_)
    refine AS.nil ?_
    intro _ S
    refine W.ret ?_
    exact ret1 rfl rfl S fun w' S' => ⟨congrArg iv hv.symm, S'.mod⟩
/-- Those of the first i squares to which the shoal can swim. -/
def toU (b : Bk) (l p : List Int) (m i : Nat) : List Int := (l.take i).filter fun x => decide (m = 0) || decide (NearP b.wide x (p.getD (m - 1) 0) b.swim)
theorem toU_succ {b : Bk} {l p : List Int} {m i : Nat} {x : Int} (hx : l[i]? = some x) : toU b l p m (i + 1) = if (decide (m = 0) || decide (NearP b.wide x (p.getD (m - 1) 0) b.swim)) = true then toU b l p m i ++ [x] else toU b l p m i := by
  unfold toU
  rw [List.take_add_one, hx, List.filter_append]
  show _ ++ List.filter _ [x] = _
  rw [List.filter_cons, List.filter_nil]
  split
  · rfl
  · rw [List.append_nil]
theorem toU_len (b : Bk) (l p : List Int) (m i : Nat) : (toU b l p m i).length ≤ i := by
  unfold toU
  exact Nat.le_trans (List.length_filter_le _ _) (List.length_take_le _ _)
theorem toU_mem {b : Bk} {l p : List Int} {m : Nat} {x : Int} (h : x ∈ toU b l p m l.length) : x ∈ l ∧ (m = 0 ∨ NearP b.wide x (p.getD (m - 1) 0) b.swim) := by
  unfold toU at h
  rw [List.take_length, List.mem_filter] at h
  simpa using h
theorem wtI_mem {b : Bk} {x : Int} : x ∈ wtI b (sq b) ↔ ∃ t : Nat, x = t ∧ t ∈ wtr b := by
  unfold wtI wtr
  rw [List.mem_map]
  constructor
  · rintro ⟨t, h, rfl⟩; exact ⟨t, rfl, h⟩
  · rintro ⟨t, rfl, h⟩; exact ⟨t, h, rfl⟩
/-- The way a shoal swims: whole, or none where there is no water. -/
def SwumR (b : Bk) (u : Value) (i : HP) : Prop := ∃ p a c, u = .slice a (List.length p) c ∧ p.length ≤ c ∧ i = slc 3 1 (.slice a p.length c) p.length (p.map iv) ∧ Way b p ∧ (wtr b = [] → p = []) ∧ (wtr b ≠ [] → p.length = 31)
theorem swumF (hbk : BookOk b) (ba : Option Addr) (bc : Nat) (bits : List Int) (w : World) (hl : Ints w la lc b.land) (hB : Ints w ba bc bits) : Ct Tryd.prog 38 #[.agg (bkL b la lc ca cc).toArray, .slice ba bits.length bc] w
    (fun u w' => ∃ i, SwumR b u i ∧ St no w w' (upd eL 0 i) []) := by
  refine fn_intro (args := [.agg (bkL b la lc ca cc).toArray, .slice ba bits.length bc]) Tryd.func38 rfl rfl (by kernel_rfl) ?_
  have S := St.start no w
  have hb := hbk.num
  have hsq := sq_le hb
  have hw := hb.1
  have hh := hb.2.1
  have hsw := hb.2.2.2.2
  refine W.seq (W.region S ?_)
  refine AS.cons (sp_boxa 2 rfl (fun b2 => ?_))
  refine AS.cons (sp_asg rfl ?_)
  refine AS.nil ?_
  intro _ S
  refine W.seq (W.region S ?_)
  refine AS.cons (sp_ldw 2 rfl rfl ag_26_7 ?_)
  refine AS.cons (sp_call1 11 [] _ rfl rfl cf_51 (fun F w _ S => waterF _ _ _ _ _ (by assumption) w (hl.ext S.mod)) ?_ (by simp))
  rintro v11 i11 ⟨⟨a11, c11, rfl, hac11⟩, rfl⟩
  obtain ⟨l, hll⟩ : ∃ l, wtI b (sq b) = l := ⟨_, rfl⟩
  have hlb := wtI_len b (sq b)
  rw [hll] at hac11 hlb ⊢
  have hlm : ∀ x ∈ l, ∃ t : Nat, x = t ∧ t ∈ wtr b := fun x hx => wtI_mem.1 (hll ▸ hx)
  have hlx : ∀ x ∈ l, 0 ≤ x ∧ x ≤ 1000 := fun x hx => by obtain ⟨t, rfl, ht⟩ := hlm x hx; have := (wtr_mem.1 ht).1; omega
  have hle : l = [] ↔ wtr b = [] := by rw [← hll]; unfold wtI; rw [List.map_eq_nil_iff]; rfl
  refine AS.cons (sp_asg rfl ?_)
  refine AS.nil ?_
  intro _ S
  refine W.seq (W.region S ?_)
  refine AS.cons (sp_asg rfl ?_)
  refine AS.nil ?_
  intro _ S
  have S := (S.drop 901).weak (k := 901) (i := slc 3 1 nilS 0 []) (fun f hf => by rw [upd_same] at hf; exact slc_nil 3 1 f hf)
  refine W.seq (W.seq (W.region S ?_))
  refine AS.cons (sp_asg rfl ?_)
  refine AS.nil ?_
  intro _ S
  refine W.block ?_
  refine W.loopS S [6, 7, 8, 9, 12, 13, 14, 15, 16, 17, 18, 19, 20, 21, 22, 23, 24, 25, 26, 27, 28, 29, 30, 31, 32, 33, 34, 35, 36, 37, 38, 39, 40, 41, 42, 43, 44, 45, 46, 47, 48, 49, 50, 51, 52, 53, 54, 55, 56, 57, 58, 59, 60, 61, 62, 63] [49, 50, 62, 63, 901, 902] (fun (z : Nat × List Int × Option Addr × Nat) => [(7, iv z.1), (6, .slice z.2.2.1 z.1 z.2.2.2)]) (fun z => [(901, slc 3 1 (.slice z.2.2.1 z.1 z.2.2.2) z.1 (z.2.1.map iv))]) (fun z => z.1 ≤ 31 ∧ z.2.1.length = z.1 ∧ Way b z.2.1 ∧ (l = [] → z.1 = 0)) (fun z => 31 - z.1) (0, [], none, 0) ⟨by omega, rfl, Way.nil b, fun _ => rfl⟩ ⟨rfl, rfl, trivial⟩ ⟨rfl, trivial⟩ ?_
  rintro ⟨m, p, a, c⟩ σ M w1 ⟨hm31, hpm, hway, hdry⟩ S
  replace hm31 : m ≤ 31 := hm31
  replace hpm : p.length = m := hpm
  replace hway : Way b p := hway
  replace hdry : l = [] → m = 0 := hdry
  have hpx : ∀ x ∈ p, 0 ≤ x ∧ x ≤ 1000 := fun x hx => by obtain ⟨t, rfl, ht⟩ := hway.wet x hx; have := (wtr_mem.1 ht).1; omega
  refine W.seq (W.seq (W.region S ?_))
  refine AS.cons (sp_move rfl ?_)
  refine AS.cons (sp_len rfl sl_22_3_1 ?_)
  refine AS.cons (sp_gtr rfl rfl ?_)
  refine AS.cons (sp_move (v := .bool _) rfl ?_)
  refine AS.split 15 rfl (fun g15 => ?_) (fun g15 => ?_)
  · skip
    refine AS.cons (sp_move (v := .int _ _) rfl ?_)
    refine AS.cons (sp_leq rfl rfl ?_)
    refine AS.cons (sp_pick_t rfl (v := .bool _) rfl ?_)
    refine AS.nil ?_
    intro _ S
    refine W.cond rfl (fun c18 => ?_) (fun c18 => ?_)
    · skip
      have hp30 : m < 31 := by have := of_decide_eq_true c18; omega
      have hl0 : 0 < l.length := by have := of_decide_eq_true g15; omega
      refine W.skip ?_
      refine W.seq (W.block ?_)
      refine W.seq (W.region S ?_)
      refine AS.cons (sp_asg rfl ?_)
      refine AS.nil ?_
      intro _ S
      refine W.seq (W.seq (W.region S ?_))
      refine AS.cons (sp_asg rfl ?_)
      refine AS.nil ?_
      intro _ S
      have S := (S.drop 902).weak (k := 902) (i := slc 3 1 nilS 0 []) (fun f hf => by rw [upd_same] at hf; exact slc_nil 3 1 f hf)
      refine W.block ?_
      refine W.loopS S [8, 9, 21, 22, 23, 24, 25, 26, 27, 28, 29, 30, 31, 32, 33, 34, 35, 36, 37, 38, 39, 40, 41, 42, 43, 44, 45, 46, 47, 48, 49, 50] [49, 50, 902] (fun (z : Nat × Value) => [(9, iv z.1), (8, z.2)]) (fun z => [(902, slc 3 1 z.2 (toU b l p m z.1).length ((toU b l p m z.1).map iv))]) (fun z => z.1 ≤ l.length ∧ ∃ a c, z.2 = .slice a (toU b l p m z.1).length c) (fun z => l.length - z.1) (0, nilS) ⟨by omega, none, 0, rfl⟩ ⟨rfl, rfl, trivial⟩ ⟨rfl, trivial⟩ ?_
      rintro ⟨j, v⟩ σ M w2 ⟨hj, a2, c2, hva⟩ S
      replace hj : j ≤ l.length := hj
      replace hva : v = .slice a2 (toU b l p m j).length c2 := hva
      subst hva
      have htl := toU_len b l p m j
      refine W.seq (W.seq (W.region S ?_))
      refine AS.cons (sp_move (v := .int _ _) rfl ?_)
      refine AS.cons (sp_move rfl ?_)
      refine AS.cons (sp_len rfl sl_22_3_1 ?_)
      refine AS.cons (sp_lss rfl rfl ?_)
      refine AS.nil ?_
      intro _ S
      refine W.condd rfl (fun c24 => ?_) (fun c24 => ?_)
      · skip
        have hlt : j < l.length := by omega
        obtain ⟨x, hx⟩ := get_some hlt
        have hxb := hlx x (List.mem_of_getElem? hx)
        refine W.skip ?_
        refine W.seq (W.block ?_)
        refine W.seq (W.draw S mixed (fun i => ([KD.q [], KD.q [], KD.q [], KD.q [2], KD.q [], KD.q [], KD.q [11], KD.q [11], KD.q [], KD.q [], KD.q [], KD.q [901], KD.q [901], KD.q [], KD.q [2], KD.e [] [], KD.q []] : List KD)[i]?) [] [0, 1, 2, 3, 4, 5, 6, 7, 8, 9, 10, 11, 12, 13, 14, 15, 16] (by kernel_rfl) ?_)
        refine AW.cons rfl rfl (sp_move (v := .int _ _) rfl ?_)
        refine AW.cons rfl rfl (sp_eql rfl rfl ?_)
        refine AW.cons rfl rfl (sp_move (v := .bool _) rfl ?_)
        refine AW.split 29 rfl (fun g29 => ?_) (fun g29 => ?_)
        · skip
          refine AW.cons rfl rfl (sp_skip rfl ?_)
          refine AW.cons rfl rfl (sp_skip rfl ?_)
          refine AW.cons rfl rfl (sp_skip rfl ?_)
          refine AW.cons rfl rfl (sp_skip rfl ?_)
          refine AW.cons rfl rfl (sp_skip rfl ?_)
          refine AW.cons rfl rfl (sp_skip rfl ?_)
          refine AW.cons rfl rfl (sp_skip rfl ?_)
          refine AW.cons rfl rfl (sp_skip rfl ?_)
          refine AW.cons rfl rfl (sp_skip rfl ?_)
          refine AW.cons rfl rfl (sp_skip rfl ?_)
          refine AW.cons rfl rfl (sp_skip rfl ?_)
          refine AW.cons rfl rfl (sp_skip rfl ?_)
          refine AW.cons rfl rfl (sp_skip rfl ?_)
          refine AW.cons rfl rfl (sp_pick_t rfl (v := .bool _) rfl ?_)
          refine AW.nil ?_
          intro _ S
          refine W.cond (b := true) rfl (fun _ => ?_) (fun h => nomatch h)
          refine W.region S ?_
          have hcond : (decide (m = 0) || decide (NearP b.wide x (p.getD (m - 1) 0) b.swim)) = true := by
            rw [Bool.or_eq_true]
            first | exact .inl (decide_eq_true (by have := of_decide_eq_true g29; omega)) | exact .inr (by rw [hyd]; exact c43)
          have hw : toU b l p m (j + 1) = toU b l p m j ++ [x] := by rw [toU_succ hx, if_pos hcond]
          refine AS.cons (sp_move rfl ?_)
          refine AS.cons (sp_move rfl ?_)
          refine AS.cons (sp_move (v := .int _ _) rfl ?_)
          refine AS.cons (sp_iaS 11 rfl rfl rfl sl_22_3_1 (by omega) ?_)
          refine AS.cons (sp_ldS 11 rfl rfl sc_3 (ints_of hx) (by omega) ?_)
          refine AS.cons (sp_bs 49 [.tmp 48] _ sl_22_3_1 zs_3_1 rfl rfl rfl rfl rfl rfl (fun b49 => ?_))
          refine AS.cons (sp_app 902 [49] rfl rfl sl_22_3_1 zs_3_1 rfl (fun F w hF S => rd_pt (S.get ((hF 49 (by simp)).trans rfl)).1 rfl (by omega) (by omega)) rfl (by first | omega | (simp only [decide_eq_true_eq] at *; omega)) (fun a50 c50 => ?_))
          refine AS.cons (sp_asg rfl ?_)
          refine AS.nil ?_
          intro _ S
          refine W.region S ?_
          refine AS.cons (sp_move (v := .int _ _) rfl ?_)
          refine AS.cons (sp_add rfl rfl (by first | omega | (simp only [decide_eq_true_eq, decide_eq_false_iff_not] at *; omega)) ?_)
          refine AS.cons (sp_asg (v := .int _ _) rfl ?_)
          refine AS.nil ?_
          intro _ S
          first | exact ⟨(j + 1, .slice a50 ((toU b l p m j).length + 1) c50), _, ⟨by show j + 1 ≤ l.length; omega, a50, c50, by show _ = Value.slice a50 (toU b l p m (j + 1)).length c50; rw [hw, List.length_append]; rfl⟩, by show l.length - (j + 1) < l.length - j; omega, ⟨by simp [upd], rfl, trivial⟩, ⟨by show slc 3 1 _ _ _ = slc 3 1 _ _ _; rw [hw, List.length_append, List.map_append]; rfl, trivial⟩, by repeat (first | exact Agr.refl _ _ | exact Agr.msk _ _ _ | refine Agr.upd ?_ _ rfl | refine Agr.upds ?_ rfl | refine Agr.mskIn ?_ rfl), by repeat (first | exact Agr.refl _ _ | exact Agr.msk _ _ _ | refine Agr.upd ?_ _ rfl | refine Agr.upds ?_ rfl | refine Agr.mskIn ?_ rfl), rfl, S⟩ | exact ⟨(j + 1, .slice a2 (toU b l p m j).length c2), _, ⟨by show j + 1 ≤ l.length; omega, a2, c2, by rw [hw]⟩, by show l.length - (j + 1) < l.length - j; omega, ⟨by simp [upd], rfl, trivial⟩, ⟨by show slc 3 1 _ _ _ = slc 3 1 _ _ _; rw [hw], trivial⟩, by repeat (first | exact Agr.refl _ _ | exact Agr.msk _ _ _ | refine Agr.upd ?_ _ rfl | refine Agr.upds ?_ rfl | refine Agr.mskIn ?_ rfl), by repeat (first | exact Agr.refl _ _ | exact Agr.msk _ _ _ | refine Agr.upd ?_ _ rfl | refine Agr.upds ?_ rfl | refine Agr.mskIn ?_ rfl), rfl, S⟩
        · skip
          have hm0 : m ≠ 0 := by have := of_decide_eq_false g29; omega
          obtain ⟨y, hy⟩ := get_some (l := p) (j := m - 1) (by omega)
          have hyb := hpx y (List.mem_of_getElem? hy)
          have hyd : p.getD (m - 1) 0 = y := by rw [List.getD_eq_getElem?_getD, hy]; rfl
          have hm1 : ((m : Nat) : Int) - 1 = ((m - 1 : Nat) : Int) := by omega
          refine AW.cons rfl rfl (sp_ldw 2 rfl rfl ag_26_7 ?_)
          refine AW.cons rfl rfl (sp_move rfl ?_)
          refine AW.cons rfl rfl (sp_move (v := .int _ _) rfl ?_)
          refine AW.cons rfl rfl (sp_iaS 11 rfl rfl rfl sl_22_3_1 (by omega) ?_)
          refine AW.cons rfl rfl (sp_ldS 11 rfl rfl sc_3 (ints_of hx) (by omega) ?_)
          refine AW.cons rfl rfl (sp_move rfl ?_)
          refine AW.cons rfl rfl (sp_move (v := .int _ _) rfl ?_)
          refine AW.cons rfl rfl (sp_sub rfl rfl (by first | omega | (simp only [decide_eq_true_eq, decide_eq_false_iff_not] at *; omega)) ?_)
          refine AW.cons rfl rfl (sp_iaS 901 rfl rfl rfl sl_22_3_1 (by omega) ?_)
          refine AW.cons rfl rfl (sp_ldS 901 (v := iv y) rfl rfl sc_3 (by rw [hm1]; exact ints_of hy) (by omega) ?_)
          refine AW.cons rfl rfl (sp_fa rfl fo_26_4_5 ?_)
          refine AW.cons rfl rfl (sp_ld 2 rfl rfl sc_3 rfl ?_)
          refine AW.cons rfl rfl (sp_call [] rfl rfl cf_93 (fun F w _ S => nearF _ _ _ _ _ (by assumption) _ _ _ (by omega) (by omega) (by omega) w) ?_)
          refine AW.cons rfl rfl (sp_pick_f rfl (v := .bool _) rfl ?_)
          refine AW.nil ?_
          intro _ S
          refine W.cond rfl (fun c43 => ?_) (fun c43 => ?_)
          · skip
            refine W.region S ?_
            have hcond : (decide (m = 0) || decide (NearP b.wide x (p.getD (m - 1) 0) b.swim)) = true := by
              rw [Bool.or_eq_true]
              first | exact .inl (decide_eq_true (by have := of_decide_eq_true g29; omega)) | exact .inr (by rw [hyd]; exact c43)
            have hw : toU b l p m (j + 1) = toU b l p m j ++ [x] := by rw [toU_succ hx, if_pos hcond]
            refine AS.cons (sp_move rfl ?_)
            refine AS.cons (sp_move rfl ?_)
            refine AS.cons (sp_move (v := .int _ _) rfl ?_)
            refine AS.cons (sp_iaS 11 rfl rfl rfl sl_22_3_1 (by omega) ?_)
            refine AS.cons (sp_ldS 11 rfl rfl sc_3 (ints_of hx) (by omega) ?_)
            refine AS.cons (sp_bs 49 [.tmp 48] _ sl_22_3_1 zs_3_1 rfl rfl rfl rfl rfl rfl (fun b49 => ?_))
            refine AS.cons (sp_app 902 [49] rfl rfl sl_22_3_1 zs_3_1 rfl (fun F w hF S => rd_pt (S.get ((hF 49 (by simp)).trans rfl)).1 rfl (by omega) (by omega)) rfl (by first | omega | (simp only [decide_eq_true_eq, decide_eq_false_iff_not] at *; omega)) (fun a50 c50 => ?_))
            refine AS.cons (sp_asg rfl ?_)
            refine AS.nil ?_
            intro _ S
            refine W.region S ?_
            refine AS.cons (sp_move (v := .int _ _) rfl ?_)
            refine AS.cons (sp_add rfl rfl (by first | omega | (simp only [decide_eq_true_eq, decide_eq_false_iff_not] at *; omega)) ?_)
            refine AS.cons (sp_asg (v := .int _ _) rfl ?_)
            refine AS.nil ?_
            intro _ S
            first | exact ⟨(j + 1, .slice a50 ((toU b l p m j).length + 1) c50), _, ⟨by show j + 1 ≤ l.length; omega, a50, c50, by show _ = Value.slice a50 (toU b l p m (j + 1)).length c50; rw [hw, List.length_append]; rfl⟩, by show l.length - (j + 1) < l.length - j; omega, ⟨by simp [upd], rfl, trivial⟩, ⟨by show slc 3 1 _ _ _ = slc 3 1 _ _ _; rw [hw, List.length_append, List.map_append]; rfl, trivial⟩, by repeat (first | exact Agr.refl _ _ | exact Agr.msk _ _ _ | refine Agr.upd ?_ _ rfl | refine Agr.upds ?_ rfl | refine Agr.mskIn ?_ rfl), by repeat (first | exact Agr.refl _ _ | exact Agr.msk _ _ _ | refine Agr.upd ?_ _ rfl | refine Agr.upds ?_ rfl | refine Agr.mskIn ?_ rfl), rfl, S⟩ | exact ⟨(j + 1, .slice a2 (toU b l p m j).length c2), _, ⟨by show j + 1 ≤ l.length; omega, a2, c2, by rw [hw]⟩, by show l.length - (j + 1) < l.length - j; omega, ⟨by simp [upd], rfl, trivial⟩, ⟨by show slc 3 1 _ _ _ = slc 3 1 _ _ _; rw [hw], trivial⟩, by repeat (first | exact Agr.refl _ _ | exact Agr.msk _ _ _ | refine Agr.upd ?_ _ rfl | refine Agr.upds ?_ rfl | refine Agr.mskIn ?_ rfl), by repeat (first | exact Agr.refl _ _ | exact Agr.msk _ _ _ | refine Agr.upd ?_ _ rfl | refine Agr.upds ?_ rfl | refine Agr.mskIn ?_ rfl), rfl, S⟩
          · skip
            have hw : toU b l p m (j + 1) = toU b l p m j := by rw [toU_succ hx, if_neg]; rw [hyd, c43, decide_eq_false hm0]; simp
            refine W.skip ?_
            refine W.region S ?_
            refine AS.cons (sp_move (v := .int _ _) rfl ?_)
            refine AS.cons (sp_add rfl rfl (by first | omega | (simp only [decide_eq_true_eq, decide_eq_false_iff_not] at *; omega)) ?_)
            refine AS.cons (sp_asg (v := .int _ _) rfl ?_)
            refine AS.nil ?_
            intro _ S
            first | exact ⟨(j + 1, .slice a50 ((toU b l p m j).length + 1) c50), _, ⟨by show j + 1 ≤ l.length; omega, a50, c50, by show _ = Value.slice a50 (toU b l p m (j + 1)).length c50; rw [hw, List.length_append]; rfl⟩, by show l.length - (j + 1) < l.length - j; omega, ⟨by simp [upd], rfl, trivial⟩, ⟨by show slc 3 1 _ _ _ = slc 3 1 _ _ _; rw [hw, List.length_append, List.map_append]; rfl, trivial⟩, by repeat (first | exact Agr.refl _ _ | exact Agr.msk _ _ _ | refine Agr.upd ?_ _ rfl | refine Agr.upds ?_ rfl | refine Agr.mskIn ?_ rfl), by repeat (first | exact Agr.refl _ _ | exact Agr.msk _ _ _ | refine Agr.upd ?_ _ rfl | refine Agr.upds ?_ rfl | refine Agr.mskIn ?_ rfl), rfl, S⟩ | exact ⟨(j + 1, .slice a2 (toU b l p m j).length c2), _, ⟨by show j + 1 ≤ l.length; omega, a2, c2, by rw [hw]⟩, by show l.length - (j + 1) < l.length - j; omega, ⟨by simp [upd], rfl, trivial⟩, ⟨by show slc 3 1 _ _ _ = slc 3 1 _ _ _; rw [hw], trivial⟩, by repeat (first | exact Agr.refl _ _ | exact Agr.msk _ _ _ | refine Agr.upd ?_ _ rfl | refine Agr.upds ?_ rfl | refine Agr.mskIn ?_ rfl), by repeat (first | exact Agr.refl _ _ | exact Agr.msk _ _ _ | refine Agr.upd ?_ _ rfl | refine Agr.upds ?_ rfl | refine Agr.mskIn ?_ rfl), rfl, S⟩
      · skip
        obtain rfl : j = l.length := by omega
        have htl2 := toU_len b l p m l.length
        have hto0 : 0 < (toU b l p m l.length).length := by
          refine List.length_pos_of_mem (a := if m = 0 then l.getD 0 0 else p.getD (m - 1) 0) ?_
          unfold toU
          rw [List.take_length, List.mem_filter]
          by_cases h0 : m = 0
          · rw [if_pos h0, decide_eq_true h0]
            exact ⟨by rw [List.getD_eq_getElem?_getD, List.getElem?_eq_getElem hl0]; exact List.getElem_mem hl0, rfl⟩
          · rw [if_neg h0]
            obtain ⟨y, hy⟩ := get_some (l := p) (j := m - 1) (by omega)
            have hyd : p.getD (m - 1) 0 = y := by rw [List.getD_eq_getElem?_getD, hy]; rfl
            rw [hyd]
            refine ⟨by rw [← hll]; exact wtI_mem.2 (hway.wet y (List.mem_of_getElem? hy)), ?_⟩
            rw [Bool.or_eq_true]
            exact .inr (decide_eq_true (by unfold NearP; omega))
        refine W.exit ?_
        refine W.region S ?_
        refine AS.cons (sp_move rfl ?_)
        refine AS.cons (sp_move rfl ?_)
        refine AS.cons (sp_move rfl ?_)
        refine AS.cons (sp_move (v := .int _ _) rfl ?_)
        refine AS.cons (sp_call [] rfl rfl cf_94 (fun F w _ S => pickG ba bc bits (m : Int) w (hB.ext S.mod)) ?_)
        refine AS.cons (sp_move (v := .int _ _) rfl ?_)
        refine AS.cons (sp_move rfl ?_)
        refine AS.cons (sp_call [] rfl rfl cf_94 (fun F w _ S => pickG ba bc bits 2 w (hB.ext S.mod)) ?_)
        refine AS.cons (sp_mulw rfl rfl ?_)
        refine AS.cons (sp_addw rfl rfl ?_)
        refine AS.cons (sp_call [902] rfl rfl cf_94 (fun F w hF S => pickG a2 c2 (toU b l p m l.length) _ w (S.slc_rd (k := 902) ((hF 902 (by simp)).trans rfl) (by omega))) ?_)
        refine AS.cons (sp_bs 62 [.tmp 61] _ sl_22_3_1 zs_3_1 rfl rfl rfl rfl rfl rfl (fun b62 => ?_))
        refine AS.cons (sp_app 901 [62] rfl rfl sl_22_3_1 zs_3_1 rfl (fun F w hF S => rd_pt (S.get ((hF 62 (by simp)).trans rfl)).1 rfl (by omega) (by omega)) rfl (by first | omega | (simp only [decide_eq_true_eq, decide_eq_false_iff_not] at *; omega)) (fun a63 c63 => ?_))
        refine AS.cons (sp_asg rfl ?_)
        refine AS.nil ?_
        intro _ S
        obtain ⟨nx, hnx⟩ : ∃ nx, nx = pickV (toU b l p m l.length) (IntKind.i64.wrap (pickV bits (m : Int) + IntKind.i64.wrap ((m : Int) * pickV bits 2))) := ⟨_, rfl⟩
        have hnm := toU_mem (hnx ▸ pickV_mem hto0 _ : nx ∈ toU b l p m l.length)
        have hway' : Way b (p ++ [nx]) := hway.snoc (hlm nx hnm.1) (fun y hy => by
          rw [List.getLast?_eq_getElem?, hpm] at hy
          rcases hnm.2 with h0 | h0
          · rw [List.eq_nil_of_length_eq_zero (hpm.trans h0)] at hy; simp at hy
          · rw [List.getD_eq_getElem?_getD, hy] at h0; exact h0)
        refine W.region S ?_
        refine AS.cons (sp_move (v := .int _ _) rfl ?_)
        refine AS.cons (sp_add rfl rfl (by first | omega | (simp only [decide_eq_true_eq, decide_eq_false_iff_not] at *; omega)) ?_)
        refine AS.cons (sp_asg (v := .int _ _) rfl ?_)
        refine AS.nil ?_
        intro _ S
        exact ⟨(m + 1, p ++ [nx], a63, c63), _, ⟨hp30, by simp only [List.length_append, List.length_cons, List.length_nil]; omega, hway', fun h => by rw [h] at hl0; simp at hl0⟩, by show 31 - (m + 1) < 31 - m; omega, ⟨rfl, rfl, trivial⟩, ⟨by show slc 3 1 (.slice a63 (m + 1) c63) (m + 1) (p.map iv ++ [iv _]) = slc 3 1 (.slice a63 (m + 1) c63) (m + 1) ((p ++ [nx]).map iv); rw [hnx, List.map_append]; rfl, trivial⟩, by repeat (first | exact Agr.refl _ _ | exact Agr.msk _ _ _ | refine Agr.upd ?_ _ rfl | refine Agr.upds ?_ rfl | refine Agr.mskIn ?_ rfl), by repeat (first | exact Agr.refl _ _ | exact Agr.msk _ _ _ | refine Agr.upd ?_ _ rfl | refine Agr.upds ?_ rfl | refine Agr.mskIn ?_ rfl), rfl, S⟩
    · skip
      refine W.exit ?_
      have hfin : (wtr b = [] → p = []) ∧ (wtr b ≠ [] → p.length = 31) := by
        refine ⟨fun h => List.eq_nil_of_length_eq_zero (hpm.trans (hdry (hle.2 h))), fun h => ?_⟩
        have hl0 : 0 < l.length := Nat.pos_of_ne_zero fun h' => h (hle.1 (List.eq_nil_of_length_eq_zero h'))
        first | (have := of_decide_eq_false c18; omega) | (have := of_decide_eq_false g15; omega)
      refine W.seq (W.region S ?_)
      refine AS.cons (sp_move rfl ?_)
      refine AS.cons (sp_asg rfl ?_)
      refine AS.nil ?_
      intro _ S
      refine W.ret ?_
      exact ret1 rfl rfl S fun w' S' => ⟨_, ⟨p, a, c, by subst hpm; rfl, by subst hpm; exact St.slc_le S' 901 rfl, by subst hpm; rfl, hway, hfin⟩, S'.only 901⟩
  · skip
    refine AS.cons (sp_skip rfl ?_)
    refine AS.cons (sp_skip rfl ?_)
    refine AS.cons (sp_pick_f rfl (v := .bool _) rfl ?_)
    refine AS.nil ?_
    intro _ S
    refine W.cond (b := false) rfl (fun h => nomatch h) (fun _ => ?_)
    refine W.exit ?_
    have hfin : (wtr b = [] → p = []) ∧ (wtr b ≠ [] → p.length = 31) := by
      refine ⟨fun h => List.eq_nil_of_length_eq_zero (hpm.trans (hdry (hle.2 h))), fun h => ?_⟩
      have hl0 : 0 < l.length := Nat.pos_of_ne_zero fun h' => h (hle.1 (List.eq_nil_of_length_eq_zero h'))
      first | (have := of_decide_eq_false c18; omega) | (have := of_decide_eq_false g15; omega)
    refine W.seq (W.region S ?_)
    refine AS.cons (sp_move rfl ?_)
    refine AS.cons (sp_asg rfl ?_)
    refine AS.nil ?_
    intro _ S
    refine W.ret ?_
    exact ret1 rfl rfl S fun w' S' => ⟨_, ⟨p, a, c, by subst hpm; rfl, by subst hpm; exact St.slc_le S' 901 rfl, by subst hpm; rfl, hway, hfin⟩, S'.only 901⟩
end
end Go.Proofs.YtmpclgepoemneaaDoor

/-
  What is rightly cried; the fourth law, walked.
-/
namespace Go.Proofs.YtmpclgepoemneaaDoor
set_option maxRecDepth 100000
open Go.Hu Go.RowKit
section
variable (b : Bk) (la : Option Addr) (lc : Nat) (ca : Option Addr) (cc : Nat)
/-- The cries as they are right, as far as j. -/
abbrev trU' (p : List Int) (j : Nat) : Bk := { b with cries := (b.cries.map (trC b p)).take j }
theorem truthF (hbk : BookOk b) (p : List Int) (hp : p.length = 31) (hpx : ∀ x ∈ p, 0 ≤ x ∧ x ≤ 1000) (pa : Option Addr) (pc : Nat) (w : World) (hC : Cries w ca cc b.cries) (hP : Ints w pa pc p) : Ct Tryd.prog 39 #[.agg (bkL b la lc ca cc).toArray, .slice pa p.length pc] w
    (fun u w' => ∃ i, CrR (truB b p) la lc u i ∧ St no w w' (upd eL 0 i) []) := by
  refine fn_intro (args := [.agg (bkL b la lc ca cc).toArray, .slice pa p.length pc]) Tryd.func39 rfl rfl (by kernel_rfl) ?_
  have S := St.start no w
  have hb := hbk.num
  have hcl := hbk.lc
  have hml : (b.cries.map (trC b p)).length = b.cries.length := List.length_map ..
  refine W.seq (W.region S ?_)
  refine AS.cons (sp_boxa 2 rfl (fun b2 => ?_))
  refine AS.cons (sp_alloc 4 zv_26 rfl (fun b4 => ?_))
  refine AS.nil ?_
  intro _ S
  refine W.seq (W.region S ?_)
  refine AS.cons (sp_ldw 2 rfl rfl ag_26_7 ?_)
  refine AS.cons (sp_alloc 5 zv_26 rfl (fun b5 => ?_))
  refine AS.cons (sp_st 5 rfl rfl rfl rfl sz_26_7 rfl rfl ?_)
  refine AS.nil ?_
  intro _ S
  refine W.seq (W.region S ?_)
  refine AS.cons (sp_fa rfl fo_26_5_6 ?_)
  refine AS.cons (sp_st 5 rfl rfl rfl rfl sz_24_1 rfl rfl ?_)
  refine AS.nil ?_
  intro _ S
  refine W.seq (W.seq (W.region S ?_))
  refine AS.cons (sp_asg rfl ?_)
  refine AS.nil ?_
  intro _ S
  have S := (S.drop 901).weak (k := 901) (i := slc 46 7 nilS 0 []) (fun f hf => by rw [upd_same] at hf; exact slc_nil 46 7 f hf)
  refine W.block ?_
  refine W.loopS S [6, 7, 10, 11, 12, 13, 14, 15, 16, 17, 18, 19, 20, 21, 22, 23, 24, 25, 26, 27, 28, 29, 30, 31, 32, 33, 34, 35, 36, 37] [5, 7, 35, 36, 901] (fun (z : Nat × Option Addr × Nat) => [(6, iv z.1)]) (fun z => [(5, pt b5 (.cells (bkL (trU' b p z.1) la lc z.2.1 z.2.2).toArray 26 (0, 0))), (901, CrS (trU' b p z.1) z.2.1 z.2.2)]) (fun z => z.1 ≤ b.cries.length) (fun z => b.cries.length - z.1) (0, none, 0) (Nat.zero_le _) ⟨rfl, trivial⟩ ⟨rfl, rfl, trivial⟩ ?_
  rintro ⟨j, a, c⟩ σ M w1 hj S
  replace hj : j ≤ b.cries.length := hj
  have htl : ((b.cries.map (trC b p)).take j).length = j := by rw [List.length_take, hml]; omega
  refine W.seq (W.seq (W.region S ?_))
  refine AS.cons (sp_move (v := .int _ _) rfl ?_)
  refine AS.cons (sp_fa rfl fo_26_5_6 ?_)
  refine AS.cons (sp_ld 2 rfl rfl sc_24 rfl ?_)
  refine AS.cons (sp_len rfl sl_24_46_7 ?_)
  refine AS.cons (sp_lss rfl rfl ?_)
  refine AS.nil ?_
  intro _ S
  refine W.condd rfl (fun c14 => ?_) (fun c14 => ?_)
  · skip
    have hlt : j < b.cries.length := by omega
    obtain ⟨x, hx⟩ := get_some hlt
    have hxo := hbk.cry x (List.mem_of_getElem? hx)
    obtain ⟨k1, k2, k3, k4⟩ := hxo
    have hx1 : CryOk { x with k := 1 } := ⟨k1, k2, (show (0 : Int) ≤ 1 ∧ (1 : Int) ≤ 1 from ⟨by decide, by decide⟩), k4⟩
    obtain ⟨s, hs⟩ := get_some (l := p) (j := x.m.toNat) (by omega)
    have hsb := hpx s (List.mem_of_getElem? hs)
    have hsd : p.getD x.m.toNat 0 = s := by rw [List.getD_eq_getElem?_getD, hs]; rfl
    have hwt : (b.cries.map (trC b p)).take (j + 1) = (b.cries.map (trC b p)).take j ++ [trC b p x] := by rw [List.take_add_one, List.getElem?_map, hx]; rfl
    refine W.skip ?_
    refine W.seq (W.block ?_)
    refine W.seq (W.region S ?_)
    refine AS.cons (sp_fa rfl fo_26_5_6 ?_)
    refine AS.cons (sp_ld 2 rfl rfl sc_24 rfl ?_)
    refine AS.cons (sp_move (v := .int _ _) rfl ?_)
    refine AS.cons (sp_iaR hC rfl rfl sl_24_46_7 (by first | omega | (simp only [decide_eq_true_eq, decide_eq_false_iff_not] at *; omega)) ?_)
    refine AS.cons (sp_ldaR 0 hC (fun _ h => h) rfl ag_46_7 (cries_at hx) (by first | omega | (simp only [decide_eq_true_eq, decide_eq_false_iff_not] at *; omega)) ?_)
    refine AS.cons (sp_alloc 7 zv_46 rfl (fun b7 => ?_))
    refine AS.cons (sp_st 7 rfl rfl rfl rfl sz_46_7 rfl rfl ?_)
    refine AS.nil ?_
    intro _ S
    refine W.seq (W.region S ?_)
    refine AS.cons (sp_fa rfl fo_46_2_2 ?_)
    refine AS.cons (sp_st 7 rfl rfl rfl rfl sz_3_1 rfl rfl ?_)
    refine AS.nil ?_
    intro _ S
    refine W.seq (W.seq (W.draw S mixed (fun i => ([KD.q [2], KD.q [7], KD.q [], KD.q [], KD.q [7], KD.q [], KD.q [], KD.e [] []] : List KD)[i]?) [] [0, 1, 2, 3, 4, 5, 6, 7] (by kernel_rfl) ?_))
    refine AW.cons rfl rfl (sp_ldw 2 rfl rfl ag_26_7 ?_)
    refine AW.cons rfl rfl (sp_ldw 7 rfl rfl ag_46_7 ?_)
    refine AW.cons rfl rfl (sp_move rfl ?_)
    refine AW.cons rfl rfl (sp_fa rfl fo_46_1_1 ?_)
    refine AW.cons rfl rfl (sp_ld 7 rfl rfl sc_3 rfl ?_)
    refine AW.cons rfl rfl (sp_iaR hP rfl rfl sl_22_3_1 (by omega) ?_)
    refine AW.cons rfl rfl (sp_ldR 0 hP (fun _ h => h) rfl sc_3 (v := iv s) (by rw [Nat.mul_one]; simp [hs]) (by omega) ?_)
    refine AW.cons rfl rfl (sp_call [] rfl rfl cf_46 (fun F w _ S => seen b la lc ca cc hb { x with k := 1 } hx1 s (by omega) w) ?_)
    refine AW.nil ?_
    intro _ S
    refine W.cond rfl (fun c30 => ?_) (fun c30 => ?_)
    · skip
      have htr : trC b p x = { x with k := 0 } := by unfold trC; rw [hsd, if_pos (of_decide_eq_true c30)]
      refine W.region S ?_
      refine AS.cons (sp_fa rfl fo_46_2_2 ?_)
      refine AS.cons (sp_st 7 rfl rfl rfl rfl sz_3_1 rfl rfl ?_)
      refine AS.nil ?_
      intro _ S
      refine W.region S ?_
      refine AS.cons (sp_fa rfl fo_26_5_6 ?_)
      refine AS.cons (sp_ld 5 rfl rfl sc_24 rfl ?_)
      refine AS.cons (sp_ldw 7 rfl rfl ag_46_7 ?_)
      refine AS.cons (sp_bs 35 [.tmp 34] _ sl_24_46_7 zs_46_7 rfl rfl rfl rfl rfl rfl (fun b35 => ?_))
      refine AS.cons (sp_app 901 [35] rfl rfl sl_24_46_7 zs_46_7 rfl (fun F w hF S => rd_pt (S.get ((hF 35 (by simp)).trans rfl)).1 rfl (by omega) (by omega)) rfl (by first | omega | (simp only [decide_eq_true_eq] at *; omega)) (fun a36 c36 => ?_))
      refine AS.cons (sp_fa rfl fo_26_5_6 ?_)
      refine AS.cons (sp_st 5 rfl rfl rfl rfl sz_24_1 rfl rfl ?_)
      refine AS.nil ?_
      intro _ S
      refine W.region S ?_
      refine AS.cons (sp_move (v := .int _ _) rfl ?_)
      refine AS.cons (sp_add rfl rfl (by first | omega | (simp only [decide_eq_true_eq, decide_eq_false_iff_not] at *; omega)) ?_)
      refine AS.cons (sp_asg (v := .int _ _) rfl ?_)
      refine AS.nil ?_
      intro _ S
      exact ⟨(j + 1, a36, c36), _, hlt, by show b.cries.length - (j + 1) < b.cries.length - j; omega, ⟨by simp [upd], trivial⟩, ⟨by show pt b5 _ = pt b5 (.cells [iv b.wide, iv b.high, .slice la b.land.length lc, iv b.h0, iv b.h1, iv b.swim, .slice a36 ((b.cries.map (trC b p)).take (j + 1)).length c36].toArray 26 (0, 0)); rw [hwt, List.length_append]; rfl, by show slc 46 7 _ _ _ = slc 46 7 (.slice a36 ((b.cries.map (trC b p)).take (j + 1)).length c36) ((b.cries.map (trC b p)).take (j + 1)).length (((b.cries.map (trC b p)).take (j + 1)).flatMap cyL); rw [hwt, htr, List.length_append, List.flatMap_append]; rfl, trivial⟩, by repeat (first | exact Agr.refl _ _ | exact Agr.msk _ _ _ | refine Agr.upd ?_ _ rfl | refine Agr.upds ?_ rfl | refine Agr.mskIn ?_ rfl), by repeat (first | exact Agr.refl _ _ | exact Agr.msk _ _ _ | refine Agr.upd ?_ _ rfl | refine Agr.upds ?_ rfl | refine Agr.mskIn ?_ rfl), rfl, S⟩
    · skip
      have htr : trC b p x = { x with k := 1 } := by unfold trC; rw [hsd, if_neg (of_decide_eq_false c30)]
      refine W.skip ?_
      refine W.region S ?_
      refine AS.cons (sp_fa rfl fo_26_5_6 ?_)
      refine AS.cons (sp_ld 5 rfl rfl sc_24 rfl ?_)
      refine AS.cons (sp_ldw 7 rfl rfl ag_46_7 ?_)
      refine AS.cons (sp_bs 35 [.tmp 34] _ sl_24_46_7 zs_46_7 rfl rfl rfl rfl rfl rfl (fun b35 => ?_))
      refine AS.cons (sp_app 901 [35] rfl rfl sl_24_46_7 zs_46_7 rfl (fun F w hF S => rd_pt (S.get ((hF 35 (by simp)).trans rfl)).1 rfl (by omega) (by omega)) rfl (by first | omega | (simp only [decide_eq_false_iff_not] at *; omega)) (fun a36 c36 => ?_))
      refine AS.cons (sp_fa rfl fo_26_5_6 ?_)
      refine AS.cons (sp_st 5 rfl rfl rfl rfl sz_24_1 rfl rfl ?_)
      refine AS.nil ?_
      intro _ S
      refine W.region S ?_
      refine AS.cons (sp_move (v := .int _ _) rfl ?_)
      refine AS.cons (sp_add rfl rfl (by first | omega | (simp only [decide_eq_true_eq, decide_eq_false_iff_not] at *; omega)) ?_)
      refine AS.cons (sp_asg (v := .int _ _) rfl ?_)
      refine AS.nil ?_
      intro _ S
      exact ⟨(j + 1, a36, c36), _, hlt, by show b.cries.length - (j + 1) < b.cries.length - j; omega, ⟨by simp [upd], trivial⟩, ⟨by show pt b5 _ = pt b5 (.cells [iv b.wide, iv b.high, .slice la b.land.length lc, iv b.h0, iv b.h1, iv b.swim, .slice a36 ((b.cries.map (trC b p)).take (j + 1)).length c36].toArray 26 (0, 0)); rw [hwt, List.length_append]; rfl, by show slc 46 7 _ _ _ = slc 46 7 (.slice a36 ((b.cries.map (trC b p)).take (j + 1)).length c36) ((b.cries.map (trC b p)).take (j + 1)).length (((b.cries.map (trC b p)).take (j + 1)).flatMap cyL); rw [hwt, htr, List.length_append, List.flatMap_append]; rfl, trivial⟩, by repeat (first | exact Agr.refl _ _ | exact Agr.msk _ _ _ | refine Agr.upd ?_ _ rfl | refine Agr.upds ?_ rfl | refine Agr.mskIn ?_ rfl), by repeat (first | exact Agr.refl _ _ | exact Agr.msk _ _ _ | refine Agr.upd ?_ _ rfl | refine Agr.upds ?_ rfl | refine Agr.mskIn ?_ rfl), rfl, S⟩
  · skip
    obtain rfl : j = b.cries.length := by omega
    have hfin : trU' b p b.cries.length = truB b p := by unfold trU' truB; rw [← hml, List.take_length]
    have S := (show St no w _ (upds [(5, pt b5 (.cells (bkL (trU' b p b.cries.length) la lc a c).toArray 26 (0, 0))), (901, CrS (trU' b p b.cries.length) a c)] _) [] from S)
    rw [hfin] at S
    refine W.exit ?_
    refine W.seq (W.region S ?_)
    refine AS.cons (sp_ldw 5 rfl rfl ag_26_7 ?_)
    refine AS.cons (sp_st 4 rfl rfl rfl rfl sz_26_7 rfl rfl ?_)
    refine AS.nil ?_
    intro _ S
    refine W.ret ?_
    refine retc (l := bkL (truB b p) la lc a c) 4 ag_26_7 rfl rfl rfl rfl rfl S fun w' S' => ?_
    exact ⟨_, ⟨a, c, rfl, St.slc_le S' 901 rfl, rfl⟩, S'.only 901⟩
end
end Go.Proofs.YtmpclgepoemneaaDoor

/-
  The fourth law, walked.
-/
namespace Go.Proofs.YtmpclgepoemneaaDoor
set_option maxRecDepth 100000
open Go.Hu Go.RowKit
section
variable (b : Bk) (la : Option Addr) (lc : Nat) (ca : Option Addr) (cc : Nat)
theorem whereL_len' (b : Bk) (m : Int) : (whereL b m).length ≤ 80 := by
  unfold whereL; split
  · exact whU_len b m.toNat 80
  · simp
theorem shotE_or {b : Bk} (h1 : okAll b = true) (h2 : canB b = true) {m x y : Int} (hp : ShotP m x y) : (shotE b m x y = 0 ∧ 0 ≤ shotN b (whs b m.toNat) x y ∧ shotV b m x y = shotN b (whs b m.toNat) x y) ∨ (shotE b m x y = 4 ∧ shotN b (whs b m.toNat) x y < 0 ∧ shotV b m x y = 0) := by
  have ha : askV b (decide (ShotP m x y)) = 0 := ask_of h1 h2 (decide_eq_true hp)
  by_cases h : 0 ≤ shotN b (whs b m.toNat) x y
  · have he : shotE b m x y = 0 := by unfold shotE; rw [if_pos ha, if_pos h]
    exact .inl ⟨he, h, by unfold shotV; rw [if_pos he]⟩
  · have he : shotE b m x y = 4 := by unfold shotE; rw [if_pos ha, if_neg h]
    exact .inr ⟨he, by omega, by unfold shotV; rw [if_neg (by rw [he]; decide)]⟩
theorem soonE_or {b : Bk} (h1 : okAll b = true) (h2 : canB b = true) {x y : Int} (hp : SeineP x y) : (soonE b x y = 0 ∧ ∃ m n : Nat, soonV b x y = m ∧ m ≤ 30 ∧ soonS b x y = n ∧ n < sq b ∧ ∀ z ∈ whs b m, HoldsP b.wide n x y z) ∨ (soonE b x y = 4 ∧ soonV b x y = 0 ∧ soonS b x y = 0) := by
  have ha : askV b (decide (SeineP x y)) = 0 := ask_of h1 h2 (decide_eq_true hp)
  by_cases h : 0 ≤ soonM b x y
  · have he : soonE b x y = 0 := by unfold soonE; rw [if_pos ha, if_pos h]
    obtain ⟨m, hm, hml, hmp, _⟩ := fstN_spec h
    obtain ⟨n, hn, hnl, hall, _⟩ := shotN_spec (of_decide_eq_true hmp)
    refine .inl ⟨he, m, n, by unfold soonV; rw [if_pos he]; exact hm, by omega, ?_, hnl, hall⟩
    have hm' : soonM b x y = m := hm
    unfold soonS
    rw [if_pos he, hm', Int.toNat_natCast]; exact hn
  · have he : soonE b x y = 4 := by unfold soonE; rw [if_pos ha, if_neg h]
    exact .inr ⟨he, by unfold soonV; rw [if_neg (by rw [he]; decide)], by unfold soonS; rw [if_neg (by rw [he]; decide)]⟩
/-- What is told of a minute at which the shoal is in a square. -/
theorem told {x : Bk} (hxk : BookOk x) (hcan : canB x = true) {m z wi hi : Int} (hm : 0 ≤ m ∧ m ≤ 30) (hz : z ∈ whs x m.toNat) (hwi : 1 ≤ wi ∧ wi ≤ 10) (hhi : 1 ≤ hi ∧ hi ≤ 10) :
    ∃ wl se sv, whereL x m = wl ∧ shotE x m wi hi = se ∧ shotV x m wi hi = sv ∧ canL x m z = true ∧ askV x (decide (CanP x m z)) = 0 ∧ z ∈ wl ∧ wl.length ≤ 80 ∧ Up 0 (sq x) wl ∧ ((se = 0 ∧ 0 ≤ sv ∧ sv < sq x ∧ HoldsP x.wide sv wi hi z) ∨ (se = 4 ∧ sv = 0)) := by
  have hok := ok_of hxk
  have hzl := Up.mem (whs_up x (show m.toNat ≤ 30 by omega)) z hz
  have hsq := sq_le hxk.num
  have hcp : CanP x m z := ⟨hm, by omega⟩
  have ha := ask_of hok hcan (decide_eq_true hcp)
  refine ⟨_, _, _, rfl, rfl, rfl, ?_, ha, ?_, whereL_len' x m, ?_, ?_⟩
  · unfold canL; rw [ha, decide_eq_true hz]; rfl
  · unfold whereL; rw [ask_of hok hcan (decide_eq_true hm), if_pos rfl]; exact hz
  · unfold whereL; rw [ask_of hok hcan (decide_eq_true hm), if_pos rfl]; exact whs_up x (by omega)
  · rcases shotE_or hok hcan (show ShotP m wi hi from ⟨hm, hwi, hhi⟩) with ⟨h1, h2, h3⟩ | ⟨h1, h2, h3⟩
    · obtain ⟨n, hn, hnl, hall, _⟩ := shotN_spec h2
      rw [h3, hn]
      exact .inl ⟨h1, by omega, by omega, hall z hz⟩
    · exact .inr ⟨h1, h3⟩
set_option maxHeartbeats 4000000 in
theorem trueL (ba : Option Addr) (bc : Nat) (bits : List Int) (n0 n1 n2 : Int) (w : World) (hK : Kinds w) (hl : Ints w la lc b.land) (hC : Cries w ca cc b.cries) (hB : Ints w ba bc bits) : Ct Tryd.prog 6 #[.agg (bkL b la lc ca cc).toArray, .slice ba bits.length bc, .agg [iv n0, iv n1, iv n2].toArray] w (fun u w' => u = .bool true ∧ Ext w w') := by
  refine fn_intro (args := [.agg (bkL b la lc ca cc).toArray, .slice ba bits.length bc, .agg [iv n0, iv n1, iv n2].toArray]) Tryd.func6 rfl rfl (by kernel_rfl) ?_
  have S := St.start no w
  refine W.seq (W.region S ?_)
  refine AS.cons (sp_boxa 3 rfl (fun b3 => ?_))
  refine AS.cons (sp_boxa 5 rfl (fun b5 => ?_))
  refine AS.cons (sp_asg rfl ?_)
  refine AS.nil ?_
  intro _ S
  refine W.seq (W.seq (W.region S ?_))
  refine AS.cons (sp_ldw 3 rfl rfl ag_26_7 ?_)
  refine AS.cons (sp_call [] rfl rfl cf_37 (fun F w _ S => soundF _ _ _ _ _ w (hl.ext S.mod) (hC.ext S.mod)) ?_)
  refine AS.cons (sp_not rfl ?_)
  refine AS.nil ?_
  intro _ S
  refine W.cond rfl (fun c31 => ?_) (fun c31 => ?_)
  · skip
    refine W.seq (W.region S ?_)
    refine AS.cons (sp_call [] rfl rfl cf_28 (fun F w _ S => cried w (hK.ext S.mod)) ?_)
    refine AS.cons (sp_asg (v := .bool _) rfl ?_)
    refine AS.nil ?_
    intro _ S
    refine W.ret ?_
    exact ret1 rfl rfl S fun w' S' => ⟨rfl, S'.mod⟩
  · skip
    have hok : okAll b = true := by rw [Bool.not_eq_false'] at c31; exact c31
    have hbk := okAll_ok hok
    have hb := hbk.num
    have hsq := sq_le hb
    have hw := hb.1
    have hh := hb.2.1
    have hcl := hbk.lc
    have hm := mulS (a := b.wide) (b := b.high) (by omega) (by omega)
    refine W.skip ?_
    refine W.seq (W.region S ?_)
    refine AS.cons (sp_ldw 3 rfl rfl ag_26_7 ?_)
    refine AS.cons (sp_move rfl ?_)
    refine AS.cons (sp_call1 35 [] _ rfl rfl cf_38 (fun F w _ S => swumF b la lc ca cc hbk ba bc bits w (hl.ext S.mod) (hB.ext S.mod)) ?_ (by simp))
    rintro v35 i35 ⟨p, a35, c35, rfl, hpc, rfl, hway, hdry, hwet⟩
    have hpl31 : p.length ≤ 31 := by
      by_cases h : wtr b = []
      · rw [hdry h]; simp
      · rw [hwet h]; omega
    refine AS.cons (sp_asg rfl ?_)
    refine AS.nil ?_
    intro _ S
    refine W.seq (W.seq (W.region S ?_))
    refine AS.cons (sp_move rfl ?_)
    refine AS.cons (sp_len rfl sl_22_3_1 ?_)
    refine AS.cons (sp_eql rfl rfl ?_)
    refine AS.nil ?_
    intro _ S
    refine W.condd rfl (fun c38 => ?_) (fun c38 => ?_)
    · skip
      have hp0 : p = [] := List.eq_nil_of_length_eq_zero (by omega)
      have hdw : wtr b = [] := Classical.byContradiction fun h => by have := hwet h; rw [hp0] at this; simp at this
      have hwo := wrong_dry hb hdw
      have hwe : wrongE b = 12 := by unfold wrongE; rw [if_pos hok, hwo]; rfl
      refine W.seq (W.region S ?_)
      refine AS.cons (sp_ldw 3 rfl rfl ag_26_7 ?_)
      refine AS.cons (sp_call1 41 [] _ rfl rfl cf_35 (fun F w _ S => by have h := wrongP b la lc ca cc w (hK.ext S.mod) (hl.ext S.mod) (hC.ext S.mod); rw [hwe] at h; exact h) ?_ (by simp))
      rintro v41 i41 ⟨a41, c41, h41, rfl, rfl⟩
      refine AS.cons (sp_move rfl ?_)
      refine AS.cons (sp_ext rfl rfl ?_)
      refine AS.cons (sp_ext rfl rfl ?_)
      refine AS.cons (sp_asg rfl ?_)
      refine AS.cons (sp_asg (v := .int _ _) rfl ?_)
      refine AS.nil ?_
      intro _ S
      refine W.seq (W.region S ?_)
      refine AS.cons (sp_move (v := .int _ _) rfl ?_)
      refine AS.cons (sp_eql rfl rfl ?_)
      refine AS.cons (sp_move (v := .bool _) rfl ?_)
      refine AS.split 46 rfl (fun g46 => ?_) (fun g46 => ?_)
      · skip
        refine AS.cons (sp_call [] rfl rfl cf_28 (fun F w _ S => cried w (hK.ext S.mod)) ?_)
        refine AS.cons (sp_pick_t rfl (v := .bool _) rfl ?_)
        refine AS.cons (sp_asg (v := .bool _) rfl ?_)
        refine AS.nil ?_
        intro _ S
        refine W.ret ?_
        exact ret1 rfl rfl S fun w' S' => ⟨rfl, S'.mod⟩
      · exact absurd g46 (by decide)
    · skip
      have hp31 : p.length = 31 := hwet fun h => c38 (by rw [hdry h]; rfl)
      have hpx : ∀ x ∈ p, 0 ≤ x ∧ x ≤ 1000 := fun x hx => by obtain ⟨t, rfl, ht⟩ := hway.wet x hx; have := (wtr_mem.1 ht).1; omega
      obtain ⟨x, hxe⟩ : ∃ x, truB b p = x := ⟨_, rfl⟩
      have hxk : BookOk x := hxe ▸ tru_ok hbk p
      have hokx := ok_of hxk
      have hcanx : canB x = true := hxe ▸ tru_can hb hway hp31
      have hxw : x.wide = b.wide := by rw [← hxe]; rfl
      have hxl : x.land = b.land := by rw [← hxe]; rfl
      have hsx : sq x = sq b := by rw [← hxe]; rfl
      have hlx : ∀ {w'}, Ext w w' → Ints w' la lc x.land := fun E => by rw [hxl]; exact hl.ext E
      have hxc := hxk.lc
      have hwhs : ∀ {m : Nat}, m ≤ 30 → ∀ {z : Int}, p[m]? = some z → z ∈ whs x m := fun hm _ hz => hxe ▸ tru_whs hb hway hp31 hm hz
      have hwo := wrong_nil hcanx
      have hwe : wrongE x = 0 := by unfold wrongE; rw [if_pos hokx, hwo]; rfl
      have hwl : wrongL x = [] := by unfold wrongL; rw [if_pos hokx, hwo]; rfl
      have hri : (okAll x && canB x) = true := by rw [hokx, hcanx]; rfl
      have hck : chkV x = 0 := by unfold chkV; rw [if_pos hokx]
      refine W.skip ?_
      refine W.seq (W.region S ?_)
      refine AS.cons (sp_ldw 3 rfl rfl ag_26_7 ?_)
      refine AS.cons (sp_move rfl ?_)
      refine AS.cons (sp_call1 51 [35] _ rfl rfl cf_39 (fun F w hF S => by have h := truthF b la lc ca cc hbk p hp31 hpx a35 c35 w (hC.ext S.mod) (S.slc_rd (k := 35) ((hF 35 (by simp)).trans rfl) (by omega)); rw [hxe] at h; exact h) ?_ (by simp))
      rintro v51 i51 ⟨a51, c51, rfl, h51, rfl⟩
      refine AS.cons (sp_alloc 10 zv_26 rfl (fun b10 => ?_))
      refine AS.cons (sp_st 10 rfl rfl rfl rfl sz_26_7 rfl rfl ?_)
      refine AS.nil ?_
      intro _ S
      refine W.seq (W.region S ?_)
      refine AS.cons (sp_ldw (l := bkL x la lc a51 c51) 10 rfl rfl ag_26_7 ?_)
      refine AS.cons (sp_call [51] rfl rfl cf_20 (fun F w hF S => by have h := right x la lc a51 c51 w (hK.ext S.mod) (hlx S.mod) (S.slc_rd (k := 51) ((hF 51 (by simp)).trans rfl) (by omega)); rw [hri, hck] at h; exact h) ?_)
      refine AS.cons (sp_move rfl ?_)
      refine AS.cons (sp_ext rfl rfl ?_)
      refine AS.cons (sp_ext rfl rfl ?_)
      refine AS.cons (sp_asg (v := .bool _) rfl ?_)
      refine AS.cons (sp_asg (v := .int _ _) rfl ?_)
      refine AS.nil ?_
      intro _ S
      refine W.seq (W.region S ?_)
      refine AS.cons (sp_ldw (l := bkL x la lc a51 c51) 10 rfl rfl ag_26_7 ?_)
      refine AS.cons (sp_call1 59 [51] _ rfl rfl cf_35 (fun F w hF S => by have h := wrongP x la lc a51 c51 w (hK.ext S.mod) (hlx S.mod) (S.slc_rd (k := 51) ((hF 51 (by simp)).trans rfl) (by omega)); rw [hwe, hwl] at h; exact h) ?_ (by simp))
      rintro v59 i59 ⟨a59, c59, h59, rfl, rfl⟩
      refine AS.cons (sp_move rfl ?_)
      refine AS.cons (sp_ext rfl rfl ?_)
      refine AS.cons (sp_ext rfl rfl ?_)
      refine AS.cons (sp_asg rfl ?_)
      refine AS.cons (sp_asg (v := .int _ _) rfl ?_)
      refine AS.nil ?_
      intro _ S
      refine W.seq (W.seq (W.region S ?_))
      refine AS.cons (sp_move (v := .int _ _) rfl ?_)
      refine AS.cons (sp_neq rfl rfl ?_)
      refine AS.cons (sp_move (v := .bool _) rfl ?_)
      refine AS.split 64 rfl (fun g64 => ?_) (fun g64 => ?_)
      · exact absurd g64 (by decide)
      · skip
        refine AS.cons (sp_move (v := .int _ _) rfl ?_)
        refine AS.cons (sp_neq rfl rfl ?_)
        refine AS.cons (sp_pick_f rfl (v := .bool _) rfl ?_)
        refine AS.cons (sp_move (v := .bool _) rfl ?_)
        refine AS.split 68 rfl (fun g68 => ?_) (fun g68 => ?_)
        · exact absurd g68 (by decide)
        · skip
          refine AS.cons (sp_move (v := .bool _) rfl ?_)
          refine AS.cons (sp_not rfl ?_)
          refine AS.cons (sp_pick_f rfl (v := .bool _) rfl ?_)
          refine AS.cons (sp_move (v := .bool _) rfl ?_)
          refine AS.split 72 rfl (fun g72 => ?_) (fun g72 => ?_)
          · exact absurd g72 (by decide)
          · skip
            refine AS.cons (sp_move rfl ?_)
            refine AS.cons (sp_len rfl sl_22_3_1 ?_)
            refine AS.cons (sp_neq rfl rfl ?_)
            refine AS.cons (sp_pick_f rfl (v := .bool _) rfl ?_)
            refine AS.nil ?_
            intro _ S
            refine W.cond rfl (fun c76 => ?_) (fun c76 => ?_)
            · exact absurd c76 (by decide)
            · skip
              refine W.skip ?_
              have hn1 := Int.emod_nonneg n1 (show (10 : Int) ≠ 0 by decide)
              have hn1' := Int.emod_lt_of_pos n1 (show (0 : Int) < 10 by decide)
              have hn2 := Int.emod_nonneg n2 (show (10 : Int) ≠ 0 by decide)
              have hn2' := Int.emod_lt_of_pos n2 (show (0 : Int) < 10 by decide)
              have hn0 := Int.emod_nonneg n0 (show (31 : Int) ≠ 0 by decide)
              have hn0' := Int.emod_lt_of_pos n0 (show (0 : Int) < 31 by decide)
              obtain ⟨wi, hwi⟩ : ∃ wi, 1 + n1 % 10 = wi := ⟨_, rfl⟩
              obtain ⟨hi, hhi⟩ : ∃ hi, 1 + n2 % 10 = hi := ⟨_, rfl⟩
              refine W.seq (W.draw S mixed (fun i => ([KD.q [], KD.q [5], KD.e [] [], KD.q [], KD.q [], KD.q [5], KD.e [] [], KD.q [], KD.q [], KD.q []] : List KD)[i]?) [] [0, 1, 2, 3, 4, 5, 6, 7, 8, 9] (by kernel_rfl) ?_)
              refine AW.cons rfl rfl (sp_iaa rfl rfl ar_27_3_3_1 (by first | omega | (simp only [decide_eq_true_eq, decide_eq_false_iff_not] at *; omega)) ?_)
              refine AW.cons rfl rfl (sp_ld 5 rfl rfl sc_3 rfl ?_)
              refine AW.cons rfl rfl (sp_call [] rfl rfl cf_40 (fun F w _ S => by have h := wheel n1 10 (by decide) w; rw [if_neg (by decide)] at h; exact h) ?_)
              refine AW.cons rfl rfl (sp_add rfl rfl (by first | omega | (simp only [decide_eq_true_eq, decide_eq_false_iff_not] at *; omega)) ?_)
              refine AW.cons rfl rfl (sp_iaa rfl rfl ar_27_3_3_1 (by first | omega | (simp only [decide_eq_true_eq, decide_eq_false_iff_not] at *; omega)) ?_)
              refine AW.cons rfl rfl (sp_ld 5 rfl rfl sc_3 rfl ?_)
              refine AW.cons rfl rfl (sp_call [] rfl rfl cf_40 (fun F w _ S => by have h := wheel n2 10 (by decide) w; rw [if_neg (by decide)] at h; exact h) ?_)
              refine AW.cons rfl rfl (sp_add rfl rfl (by first | omega | (simp only [decide_eq_true_eq, decide_eq_false_iff_not] at *; omega)) ?_)
              refine AW.cons rfl rfl (sp_asg (v := .int _ _) rfl ?_)
              refine AW.cons rfl rfl (sp_asg (v := .int _ _) rfl ?_)
              refine AW.nil ?_
              intro _ S
              rw [hwi, hhi]
              refine W.seq (W.region S ?_)
              refine AS.cons (sp_iaa rfl rfl ar_27_3_3_1 (by first | omega | (simp only [decide_eq_true_eq, decide_eq_false_iff_not] at *; omega)) ?_)
              refine AS.cons (sp_ld 5 rfl rfl sc_3 rfl ?_)
              refine AS.cons (sp_call [] rfl rfl cf_40 (fun F w _ S => by have h := wheel n0 31 (by decide) w; rw [if_neg (by decide)] at h; exact h) ?_)
              refine AS.cons (sp_bsS 88 [.const (.int .i64 0), .tmp 87, .const (.int .i64 30)] _ sl_22_3_1 zs_3_1 rfl rfl rfl rfl rfl rfl (fun b88 => ?_))
              refine AS.cons (sp_asg rfl ?_)
              refine AS.nil ?_
              intro _ S
              refine W.seq (W.seq (W.region S ?_))
              refine AS.cons (sp_asg rfl ?_)
              refine AS.nil ?_
              intro _ S
              refine W.block ?_
              refine W.loopS S [6, 18, 19, 20, 21, 22, 23, 24, 25, 89, 90, 91, 92, 93, 94, 95, 96, 97, 98, 99, 100, 101, 102, 103, 104, 105, 106, 107, 108, 109, 110, 111, 112, 113, 114, 115, 116, 117, 118, 119, 120, 121, 122, 123, 124, 125, 126, 127, 128, 129, 130, 131, 132, 133, 134, 135, 136, 137, 138, 139, 140, 141, 142, 143, 144, 145, 146, 147, 148, 149, 150, 151, 152, 153, 154, 155, 156, 157, 158, 159, 160, 161, 162, 163, 164, 165, 166, 167, 168, 169, 170, 171, 172, 173, 174, 175] [102] (fun (j : Nat) => [(18, iv j)]) (fun _ => []) (fun j => j ≤ 3) (fun j => 3 - j) 0 (by omega) ⟨rfl, trivial⟩ trivial ?_
              rintro j σ M w1 hj S
              refine W.seq (W.seq (W.region S ?_))
              refine AS.cons (sp_move (v := .int _ _) rfl ?_)
              refine AS.cons (sp_move rfl ?_)
              refine AS.cons (sp_len rfl sl_22_3_1 ?_)
              refine AS.cons (sp_lss rfl rfl ?_)
              refine AS.nil ?_
              intro _ S
              refine W.condd rfl (fun c92 => ?_) (fun c92 => ?_)
              · skip
                have hj3 : j < 3 := by omega
                obtain ⟨m, hmj⟩ := get_some (l := [(0 : Int), n0 % 31, 30]) (j := j) hj3
                have hm30 : 0 ≤ m ∧ m ≤ 30 := by
                  have := List.mem_of_getElem? hmj
                  simp only [List.mem_cons, List.not_mem_nil, or_false] at this
                  rcases this with rfl | rfl | rfl <;> omega
                obtain ⟨z, hz⟩ := get_some (l := p) (j := m.toNat) (by omega)
                have hzb := hpx z (List.mem_of_getElem? hz)
                have hzw := hwhs (show m.toNat ≤ 30 by omega) hz
                obtain ⟨wl, se, sv, hwh, hse, hsv, hcl', hcp', hzwl, hwl80, hwup, hso⟩ := told hxk hcanx hm30 hzw (show 1 ≤ wi ∧ wi ≤ 10 by omega) (show 1 ≤ hi ∧ hi ≤ 10 by omega)
                refine W.skip ?_
                refine W.seq (W.block ?_)
                refine W.seq (W.region S ?_)
                refine AS.cons (sp_move rfl ?_)
                refine AS.cons (sp_move (v := .int _ _) rfl ?_)
                refine AS.cons (sp_iaS 88 rfl rfl rfl sl_22_3_1 (by omega) ?_)
                refine AS.cons (sp_ldS 88 rfl rfl sc_3 (v := iv m) (ints_of hmj) (by omega) ?_)
                refine AS.cons (sp_asg (v := .int _ _) rfl ?_)
                refine AS.nil ?_
                intro _ S
                refine W.seq (W.region S ?_)
                refine AS.cons (sp_ldw (l := bkL x la lc a51 c51) 10 rfl rfl ag_26_7 ?_)
                refine AS.cons (sp_move (v := .int _ _) rfl ?_)
                refine AS.cons (sp_call1 102 [51] _ rfl rfl cf_22 (fun F w hF S => by have h := whereP x la lc a51 c51 m w (hK.ext S.mod) (hlx S.mod) (S.slc_rd (k := 51) ((hF 51 (by simp)).trans rfl) (by omega)); rw [hwh, ask_of hokx hcanx (decide_eq_true hm30)] at h; exact h) ?_ (by simp))
                rintro v102 i102 ⟨a102, c102, h102, rfl, rfl⟩
                refine AS.cons (sp_move rfl ?_)
                refine AS.cons (sp_ext rfl rfl ?_)
                refine AS.cons (sp_ext rfl rfl ?_)
                refine AS.cons (sp_asg rfl ?_)
                refine AS.cons (sp_asg (v := .int _ _) rfl ?_)
                refine AS.nil ?_
                intro _ S
                refine W.seq (W.draw S mixed (fun i => ([KD.q [10], KD.q [], KD.q [], KD.q [], KD.q [35], KD.q [35], KD.e [51] [], KD.q [], KD.q [], KD.q [], KD.q [], KD.q []] : List KD)[i]?) [] [0, 1, 2, 3, 4, 5, 6, 7, 8, 9, 10, 11] (by kernel_rfl) ?_)
                refine AW.cons rfl rfl (sp_ldw (l := bkL x la lc a51 c51) 10 rfl rfl ag_26_7 ?_)
                refine AW.cons rfl rfl (sp_move (v := .int _ _) rfl ?_)
                refine AW.cons rfl rfl (sp_move rfl ?_)
                refine AW.cons rfl rfl (sp_move (v := .int _ _) rfl ?_)
                refine AW.cons rfl rfl (sp_iaS 35 rfl rfl rfl sl_22_3_1 (by omega) ?_)
                refine AW.cons rfl rfl (sp_ldS 35 rfl rfl sc_3 (v := iv z) (by rw [Nat.mul_one]; simp [hz]) (by omega) ?_)
                refine AW.cons rfl rfl (sp_call [51] rfl rfl cf_24 (fun F w hF S => by have h := canP x la lc a51 c51 m z w (hK.ext S.mod) (hlx S.mod) (S.slc_rd (k := 51) ((hF 51 (by simp)).trans rfl) (by omega)); rw [hcl', hcp'] at h; exact h) ?_)
                refine AW.cons rfl rfl (sp_move rfl ?_)
                refine AW.cons rfl rfl (sp_ext rfl rfl ?_)
                refine AW.cons rfl rfl (sp_ext rfl rfl ?_)
                refine AW.cons rfl rfl (sp_asg (v := .bool _) rfl ?_)
                refine AW.cons rfl rfl (sp_asg (v := .int _ _) rfl ?_)
                refine AW.nil ?_
                intro _ S
                refine W.seq (W.region S ?_)
                refine AS.cons (sp_ldw (l := bkL x la lc a51 c51) 10 rfl rfl ag_26_7 ?_)
                refine AS.cons (sp_move (v := .int _ _) rfl ?_)
                refine AS.cons (sp_move (v := .int _ _) rfl ?_)
                refine AS.cons (sp_move (v := .int _ _) rfl ?_)
                refine AS.cons (sp_call [51] rfl rfl cf_29 (fun F w hF S => by have h := shotP x la lc a51 c51 m wi hi w (hK.ext S.mod) (hlx S.mod) (S.slc_rd (k := 51) ((hF 51 (by simp)).trans rfl) (by omega)); rw [hse, hsv] at h; exact h) ?_)
                refine AS.cons (sp_move rfl ?_)
                refine AS.cons (sp_ext rfl rfl ?_)
                refine AS.cons (sp_ext rfl rfl ?_)
                refine AS.cons (sp_asg (v := .int _ _) rfl ?_)
                refine AS.cons (sp_asg (v := .int _ _) rfl ?_)
                refine AS.nil ?_
                intro _ S
                refine W.seq (W.draw S mixed (fun i => ([KD.q [], KD.q [], KD.q [], KD.q [], KD.q [], KD.q [], KD.q [], KD.q [], KD.q [], KD.q [], KD.q [], KD.q [], KD.q [], KD.q [], KD.q [], KD.q [], KD.q [], KD.q [], KD.q [35], KD.q [35], KD.e [102] [], KD.q [], KD.q [], KD.q [], KD.q [], KD.q [], KD.q [], KD.q [], KD.q [], KD.q [], KD.q [3], KD.q [], KD.q [3], KD.q [], KD.e [102] [], KD.q [], KD.q [], KD.q [], KD.q [], KD.q [], KD.q [], KD.q [3], KD.q [], KD.q [], KD.q [], KD.q [], KD.q [], KD.q [35], KD.q [35], KD.e [] [], KD.q [], KD.q [], KD.q []] : List KD)[i]?) [23, 27, 34, 37, 40] [0, 1, 2, 3, 4, 5, 6, 7, 8, 9, 10, 11, 12, 13, 14, 15, 16, 17, 18, 19, 20, 21, 22, 23, 24, 25, 26, 27, 28, 29, 30, 31, 32, 33, 34, 35, 36, 37, 38, 39, 40, 41, 42, 43, 44, 45, 46, 47, 48, 49, 50, 51, 52] (by kernel_rfl) ?_)
                refine AW.cons rfl rfl (sp_move (v := .int _ _) rfl ?_)
                refine AW.cons rfl rfl (sp_neq rfl rfl ?_)
                refine AW.cons rfl rfl (sp_move (v := .bool _) rfl ?_)
                refine AW.split 125 rfl (fun g125 => ?_) (fun g125 => ?_)
                · exact absurd g125 (by decide)
                · skip
                  refine AW.cons rfl rfl (sp_move (v := .int _ _) rfl ?_)
                  refine AW.cons rfl rfl (sp_neq rfl rfl ?_)
                  refine AW.cons rfl rfl (sp_pick_f rfl (v := .bool _) rfl ?_)
                  refine AW.cons rfl rfl (sp_move (v := .bool _) rfl ?_)
                  refine AW.split 129 rfl (fun g129 => ?_) (fun g129 => ?_)
                  · exact absurd g129 (by decide)
                  · skip
                    refine AW.cons rfl rfl (sp_move (v := .int _ _) rfl ?_)
                    refine AW.cons rfl rfl (sp_neq rfl rfl ?_)
                    refine AW.cons rfl rfl (sp_move (v := .bool _) rfl ?_)
                    refine AW.split 132 rfl (fun g132 => ?_) (fun g132 => ?_)
                    · skip
                      refine AW.cons rfl rfl (sp_move (v := .int _ _) rfl ?_)
                      refine AW.cons rfl rfl (sp_neq rfl rfl ?_)
                      refine AW.cons rfl rfl (sp_pick_t rfl (v := .bool _) rfl ?_)
                      refine AW.cons rfl rfl (sp_pick_f rfl (v := .bool _) rfl ?_)
                      refine AW.cons rfl rfl (sp_move (v := .bool _) rfl ?_)
                      refine AW.split 137 rfl (fun g137 => ?_) (fun g137 => ?_)
                      · exfalso; have h1 := of_decide_eq_true g137; have h2 := of_decide_eq_true g132; rcases hso with h | h <;> omega
                      · skip
                        refine AW.cons rfl rfl (sp_move rfl ?_)
                        refine AW.cons rfl rfl (sp_move rfl ?_)
                        refine AW.cons rfl rfl (sp_move (v := .int _ _) rfl ?_)
                        refine AW.cons rfl rfl (sp_iaS 35 rfl rfl rfl sl_22_3_1 (by omega) ?_)
                        refine AW.cons rfl rfl (sp_ldS 35 rfl rfl sc_3 (v := iv z) (by rw [Nat.mul_one]; simp [hz]) (by omega) ?_)
                        refine AW.cons rfl rfl (sp_call [102] rfl rfl cf_41 (fun F w hF S => place a102 c102 wl z (by omega) w (S.slc_rd (k := 102) ((hF 102 (by simp)).trans rfl) (by omega))) ?_)
                        refine AW.cons rfl rfl (sp_lss rfl rfl ?_)
                        refine AW.cons rfl rfl (sp_pick_f rfl (v := .bool _) rfl ?_)
                        refine AW.cons rfl rfl (sp_move (v := .bool _) rfl ?_)
                        refine AW.split 146 rfl (fun g146 => ?_) (fun g146 => ?_)
                        · exact absurd hzwl ((ix_lt _ _).1 (of_decide_eq_true g146))
                        · skip
                          refine AW.cons rfl rfl (sp_move (v := .bool _) rfl ?_)
                          refine AW.cons rfl rfl (sp_not rfl ?_)
                          refine AW.cons rfl rfl (sp_pick_f rfl (v := .bool _) rfl ?_)
                          refine AW.cons rfl rfl (sp_move (v := .bool _) rfl ?_)
                          refine AW.split 150 rfl (fun g150 => ?_) (fun g150 => ?_)
                          · exact absurd g150 (by decide)
                          · skip
                            refine AW.cons rfl rfl (sp_move rfl ?_)
                            refine AW.cons rfl rfl (sp_fa rfl fo_26_0_0 ?_)
                            refine AW.cons rfl rfl (sp_ld 3 rfl rfl sc_3 rfl ?_)
                            refine AW.cons rfl rfl (sp_fa rfl fo_26_1_1 ?_)
                            refine AW.cons rfl rfl (sp_ld 3 rfl rfl sc_3 rfl ?_)
                            refine AW.cons rfl rfl (sp_mul rfl rfl (mulB (by first | omega | (simp only [decide_eq_true_eq, decide_eq_false_iff_not] at *; omega)) (by first | omega | (simp only [decide_eq_true_eq, decide_eq_false_iff_not] at *; omega))) ?_)
                            refine AW.cons rfl rfl (sp_call [102] rfl rfl cf_42 (fun F w hF S => by have h := risesF a102 c102 wl (sq x) (by omega) hwup w (S.slc_rd (k := 102) ((hF 102 (by simp)).trans rfl) (by omega)); rw [hsx, hsq.2.1] at h; exact h) ?_)
                            refine AW.cons rfl rfl (sp_not rfl ?_)
                            refine AW.cons rfl rfl (sp_pick_f rfl (v := .bool _) rfl ?_)
                            refine AW.cons rfl rfl (sp_move (v := .bool _) rfl ?_)
                            refine AW.split 160 rfl (fun g160 => ?_) (fun g160 => ?_)
                            · exact absurd g160 (by decide)
                            · skip
                              refine AW.cons rfl rfl (sp_move (v := .int _ _) rfl ?_)
                              refine AW.cons rfl rfl (sp_eql rfl rfl ?_)
                              refine AW.cons rfl rfl (sp_move (v := .bool _) rfl ?_)
                              refine AW.split 163 rfl (fun g163 => ?_) (fun g163 => ?_)
                              · skip
                                have h0 : se = 0 := of_decide_eq_true g163
                                have hsv' : 0 ≤ sv ∧ sv < sq x ∧ HoldsP x.wide sv wi hi z := by
                                  rcases hso with h | h
                                  · exact h.2
                                  · omega
                                have hho : HoldsP b.wide sv wi hi z := hxw ▸ hsv'.2.2
                                refine AW.cons rfl rfl (sp_ldw 3 rfl rfl ag_26_7 ?_)
                                refine AW.cons rfl rfl (sp_move (v := .int _ _) rfl ?_)
                                refine AW.cons rfl rfl (sp_move (v := .int _ _) rfl ?_)
                                refine AW.cons rfl rfl (sp_move (v := .int _ _) rfl ?_)
                                refine AW.cons rfl rfl (sp_move rfl ?_)
                                refine AW.cons rfl rfl (sp_move (v := .int _ _) rfl ?_)
                                refine AW.cons rfl rfl (sp_iaS 35 rfl rfl rfl sl_22_3_1 (by omega) ?_)
                                refine AW.cons rfl rfl (sp_ldS 35 rfl rfl sc_3 (v := iv z) (by rw [Nat.mul_one]; simp [hz]) (by omega) ?_)
                                refine AW.cons rfl rfl (sp_call [] rfl rfl cf_43 (fun F w _ S => holdsF b la lc ca cc hb sv wi hi z (by omega) (by omega) (by omega) (by omega) w) ?_)
                                refine AW.cons rfl rfl (sp_not rfl ?_)
                                refine AW.cons rfl rfl (sp_pick_t rfl (v := .bool _) rfl ?_)
                                refine AW.cons rfl rfl (sp_pick_f rfl (v := .bool _) rfl ?_)
                                refine AW.nil ?_
                                intro _ S
                                refine W.cond rfl (fun c175 => ?_) (fun c175 => ?_)
                                · exact absurd c175 (by rw [decide_eq_true hho]; decide)
                                · skip
                                  refine W.skip ?_
                                  refine W.region S ?_
                                  refine AS.cons (sp_move (v := .int _ _) rfl ?_)
                                  refine AS.cons (sp_add rfl rfl (by first | omega | (simp only [decide_eq_true_eq, decide_eq_false_iff_not] at *; omega)) ?_)
                                  refine AS.cons (sp_asg (v := .int _ _) rfl ?_)
                                  refine AS.nil ?_
                                  intro _ S
                                  exact ⟨j + 1, _, by omega, by omega, ⟨by simp [upd], trivial⟩, trivial, by repeat (first | exact Agr.refl _ _ | exact Agr.msk _ _ _ | refine Agr.upd ?_ _ rfl | refine Agr.upds ?_ rfl | refine Agr.mskIn ?_ rfl), by repeat (first | exact Agr.refl _ _ | exact Agr.msk _ _ _ | refine Agr.upd ?_ _ rfl | refine Agr.upds ?_ rfl | refine Agr.mskIn ?_ rfl), rfl, S⟩
                              · skip
                                refine AW.cons rfl rfl (sp_skip rfl ?_)
                                refine AW.cons rfl rfl (sp_skip rfl ?_)
                                refine AW.cons rfl rfl (sp_skip rfl ?_)
                                refine AW.cons rfl rfl (sp_skip rfl ?_)
                                refine AW.cons rfl rfl (sp_skip rfl ?_)
                                refine AW.cons rfl rfl (sp_skip rfl ?_)
                                refine AW.cons rfl rfl (sp_skip rfl ?_)
                                refine AW.cons rfl rfl (sp_skip rfl ?_)
                                refine AW.cons rfl rfl (sp_skip rfl ?_)
                                refine AW.cons rfl rfl (sp_skip rfl ?_)
                                refine AW.cons rfl rfl (sp_pick_f rfl (v := .bool _) rfl ?_)
                                refine AW.cons rfl rfl (sp_pick_f rfl (v := .bool _) rfl ?_)
                                refine AW.nil ?_
                                intro _ S
                                refine W.cond (b := false) rfl (fun h => nomatch h) (fun _ => ?_)
                                refine W.skip ?_
                                refine W.region S ?_
                                refine AS.cons (sp_move (v := .int _ _) rfl ?_)
                                refine AS.cons (sp_add rfl rfl (by first | omega | (simp only [decide_eq_true_eq, decide_eq_false_iff_not] at *; omega)) ?_)
                                refine AS.cons (sp_asg (v := .int _ _) rfl ?_)
                                refine AS.nil ?_
                                intro _ S
                                exact ⟨j + 1, _, by omega, by omega, ⟨by simp [upd], trivial⟩, trivial, by repeat (first | exact Agr.refl _ _ | exact Agr.msk _ _ _ | refine Agr.upd ?_ _ rfl | refine Agr.upds ?_ rfl | refine Agr.mskIn ?_ rfl), by repeat (first | exact Agr.refl _ _ | exact Agr.msk _ _ _ | refine Agr.upd ?_ _ rfl | refine Agr.upds ?_ rfl | refine Agr.mskIn ?_ rfl), rfl, S⟩
                    · skip
                      refine AW.cons rfl rfl (sp_skip rfl ?_)
                      refine AW.cons rfl rfl (sp_skip rfl ?_)
                      refine AW.cons rfl rfl (sp_pick_f rfl (v := .bool _) rfl ?_)
                      refine AW.cons rfl rfl (sp_pick_f rfl (v := .bool _) rfl ?_)
                      refine AW.cons rfl rfl (sp_move (v := .bool _) rfl ?_)
                      refine AW.cons rfl rfl (sp_move rfl ?_)
                      refine AW.cons rfl rfl (sp_move rfl ?_)
                      refine AW.cons rfl rfl (sp_move (v := .int _ _) rfl ?_)
                      refine AW.cons rfl rfl (sp_iaS 35 rfl rfl rfl sl_22_3_1 (by omega) ?_)
                      refine AW.cons rfl rfl (sp_ldS 35 rfl rfl sc_3 (v := iv z) (by rw [Nat.mul_one]; simp [hz]) (by omega) ?_)
                      refine AW.cons rfl rfl (sp_call [102] rfl rfl cf_41 (fun F w hF S => place a102 c102 wl z (by omega) w (S.slc_rd (k := 102) ((hF 102 (by simp)).trans rfl) (by omega))) ?_)
                      refine AW.cons rfl rfl (sp_lss rfl rfl ?_)
                      refine AW.cons rfl rfl (sp_pick_f rfl (v := .bool _) rfl ?_)
                      refine AW.cons rfl rfl (sp_move (v := .bool _) rfl ?_)
                      refine AW.split 146 rfl (fun g146 => ?_) (fun g146 => ?_)
                      · exact absurd hzwl ((ix_lt _ _).1 (of_decide_eq_true g146))
                      · skip
                        refine AW.cons rfl rfl (sp_move (v := .bool _) rfl ?_)
                        refine AW.cons rfl rfl (sp_not rfl ?_)
                        refine AW.cons rfl rfl (sp_pick_f rfl (v := .bool _) rfl ?_)
                        refine AW.cons rfl rfl (sp_move (v := .bool _) rfl ?_)
                        refine AW.split 150 rfl (fun g150 => ?_) (fun g150 => ?_)
                        · exact absurd g150 (by decide)
                        · skip
                          refine AW.cons rfl rfl (sp_move rfl ?_)
                          refine AW.cons rfl rfl (sp_fa rfl fo_26_0_0 ?_)
                          refine AW.cons rfl rfl (sp_ld 3 rfl rfl sc_3 rfl ?_)
                          refine AW.cons rfl rfl (sp_fa rfl fo_26_1_1 ?_)
                          refine AW.cons rfl rfl (sp_ld 3 rfl rfl sc_3 rfl ?_)
                          refine AW.cons rfl rfl (sp_mul rfl rfl (mulB (by first | omega | (simp only [decide_eq_true_eq, decide_eq_false_iff_not] at *; omega)) (by first | omega | (simp only [decide_eq_true_eq, decide_eq_false_iff_not] at *; omega))) ?_)
                          refine AW.cons rfl rfl (sp_call [102] rfl rfl cf_42 (fun F w hF S => by have h := risesF a102 c102 wl (sq x) (by omega) hwup w (S.slc_rd (k := 102) ((hF 102 (by simp)).trans rfl) (by omega)); rw [hsx, hsq.2.1] at h; exact h) ?_)
                          refine AW.cons rfl rfl (sp_not rfl ?_)
                          refine AW.cons rfl rfl (sp_pick_f rfl (v := .bool _) rfl ?_)
                          refine AW.cons rfl rfl (sp_move (v := .bool _) rfl ?_)
                          refine AW.split 160 rfl (fun g160 => ?_) (fun g160 => ?_)
                          · exact absurd g160 (by decide)
                          · skip
                            refine AW.cons rfl rfl (sp_move (v := .int _ _) rfl ?_)
                            refine AW.cons rfl rfl (sp_eql rfl rfl ?_)
                            refine AW.cons rfl rfl (sp_move (v := .bool _) rfl ?_)
                            refine AW.split 163 rfl (fun g163 => ?_) (fun g163 => ?_)
                            · skip
                              have h0 : se = 0 := of_decide_eq_true g163
                              have hsv' : 0 ≤ sv ∧ sv < sq x ∧ HoldsP x.wide sv wi hi z := by
                                rcases hso with h | h
                                · exact h.2
                                · omega
                              have hho : HoldsP b.wide sv wi hi z := hxw ▸ hsv'.2.2
                              refine AW.cons rfl rfl (sp_ldw 3 rfl rfl ag_26_7 ?_)
                              refine AW.cons rfl rfl (sp_move (v := .int _ _) rfl ?_)
                              refine AW.cons rfl rfl (sp_move (v := .int _ _) rfl ?_)
                              refine AW.cons rfl rfl (sp_move (v := .int _ _) rfl ?_)
                              refine AW.cons rfl rfl (sp_move rfl ?_)
                              refine AW.cons rfl rfl (sp_move (v := .int _ _) rfl ?_)
                              refine AW.cons rfl rfl (sp_iaS 35 rfl rfl rfl sl_22_3_1 (by omega) ?_)
                              refine AW.cons rfl rfl (sp_ldS 35 rfl rfl sc_3 (v := iv z) (by rw [Nat.mul_one]; simp [hz]) (by omega) ?_)
                              refine AW.cons rfl rfl (sp_call [] rfl rfl cf_43 (fun F w _ S => holdsF b la lc ca cc hb sv wi hi z (by omega) (by omega) (by omega) (by omega) w) ?_)
                              refine AW.cons rfl rfl (sp_not rfl ?_)
                              refine AW.cons rfl rfl (sp_pick_t rfl (v := .bool _) rfl ?_)
                              refine AW.cons rfl rfl (sp_pick_f rfl (v := .bool _) rfl ?_)
                              refine AW.nil ?_
                              intro _ S
                              refine W.cond rfl (fun c175 => ?_) (fun c175 => ?_)
                              · exact absurd c175 (by rw [decide_eq_true hho]; decide)
                              · skip
                                refine W.skip ?_
                                refine W.region S ?_
                                refine AS.cons (sp_move (v := .int _ _) rfl ?_)
                                refine AS.cons (sp_add rfl rfl (by first | omega | (simp only [decide_eq_true_eq, decide_eq_false_iff_not] at *; omega)) ?_)
                                refine AS.cons (sp_asg (v := .int _ _) rfl ?_)
                                refine AS.nil ?_
                                intro _ S
                                exact ⟨j + 1, _, by omega, by omega, ⟨by simp [upd], trivial⟩, trivial, by repeat (first | exact Agr.refl _ _ | exact Agr.msk _ _ _ | refine Agr.upd ?_ _ rfl | refine Agr.upds ?_ rfl | refine Agr.mskIn ?_ rfl), by repeat (first | exact Agr.refl _ _ | exact Agr.msk _ _ _ | refine Agr.upd ?_ _ rfl | refine Agr.upds ?_ rfl | refine Agr.mskIn ?_ rfl), rfl, S⟩
                            · skip
                              refine AW.cons rfl rfl (sp_skip rfl ?_)
                              refine AW.cons rfl rfl (sp_skip rfl ?_)
                              refine AW.cons rfl rfl (sp_skip rfl ?_)
                              refine AW.cons rfl rfl (sp_skip rfl ?_)
                              refine AW.cons rfl rfl (sp_skip rfl ?_)
                              refine AW.cons rfl rfl (sp_skip rfl ?_)
                              refine AW.cons rfl rfl (sp_skip rfl ?_)
                              refine AW.cons rfl rfl (sp_skip rfl ?_)
                              refine AW.cons rfl rfl (sp_skip rfl ?_)
                              refine AW.cons rfl rfl (sp_skip rfl ?_)
                              refine AW.cons rfl rfl (sp_pick_f rfl (v := .bool _) rfl ?_)
                              refine AW.cons rfl rfl (sp_pick_f rfl (v := .bool _) rfl ?_)
                              refine AW.nil ?_
                              intro _ S
                              refine W.cond (b := false) rfl (fun h => nomatch h) (fun _ => ?_)
                              refine W.skip ?_
                              refine W.region S ?_
                              refine AS.cons (sp_move (v := .int _ _) rfl ?_)
                              refine AS.cons (sp_add rfl rfl (by first | omega | (simp only [decide_eq_true_eq, decide_eq_false_iff_not] at *; omega)) ?_)
                              refine AS.cons (sp_asg (v := .int _ _) rfl ?_)
                              refine AS.nil ?_
                              intro _ S
                              exact ⟨j + 1, _, by omega, by omega, ⟨by simp [upd], trivial⟩, trivial, by repeat (first | exact Agr.refl _ _ | exact Agr.msk _ _ _ | refine Agr.upd ?_ _ rfl | refine Agr.upds ?_ rfl | refine Agr.mskIn ?_ rfl), by repeat (first | exact Agr.refl _ _ | exact Agr.msk _ _ _ | refine Agr.upd ?_ _ rfl | refine Agr.upds ?_ rfl | refine Agr.mskIn ?_ rfl), rfl, S⟩
              · skip
                refine W.exit ?_
                have hse : SeineP wi hi := ⟨by omega, by omega⟩
                obtain ⟨ze, hze⟩ : ∃ ze, soonE x wi hi = ze := ⟨_, rfl⟩
                obtain ⟨zv, hzv⟩ : ∃ zv, soonV x wi hi = zv := ⟨_, rfl⟩
                obtain ⟨zs, hzs⟩ : ∃ zs, soonS x wi hi = zs := ⟨_, rfl⟩
                have hso := soonE_or hokx hcanx hse
                rw [hze, hzv, hzs] at hso
                refine W.seq (W.region S ?_)
                refine AS.cons (sp_ldw (l := bkL x la lc a51 c51) 10 rfl rfl ag_26_7 ?_)
                refine AS.cons (sp_move (v := .int _ _) rfl ?_)
                refine AS.cons (sp_move (v := .int _ _) rfl ?_)
                refine AS.cons (sp_call [51] rfl rfl cf_31 (fun F w hF S => by have h := soonP x la lc a51 c51 wi hi w (hK.ext S.mod) (hlx S.mod) (S.slc_rd (k := 51) ((hF 51 (by simp)).trans rfl) (by omega)); rw [hze, hzv, hzs] at h; exact h) ?_)
                refine AS.cons (sp_move rfl ?_)
                refine AS.cons (sp_ext rfl rfl ?_)
                refine AS.cons (sp_ext rfl rfl ?_)
                refine AS.cons (sp_ext rfl rfl ?_)
                refine AS.cons (sp_asg (v := .int _ _) rfl ?_)
                refine AS.cons (sp_asg (v := .int _ _) rfl ?_)
                refine AS.cons (sp_asg (v := .int _ _) rfl ?_)
                refine AS.nil ?_
                intro _ S
                refine W.seq (W.draw S mixed (fun i => ([KD.q [], KD.q [], KD.q [], KD.q [], KD.q [], KD.q [], KD.q [], KD.e [] [], KD.q [], KD.q [], KD.q [3], KD.q [], KD.q [], KD.q [], KD.q [], KD.q [], KD.q [35], KD.q [35], KD.e [] [], KD.q [], KD.q [], KD.q [], KD.e [] [], KD.q [], KD.q []] : List KD)[i]?) [9, 18, 21] [0, 1, 2, 3, 4, 5, 6, 7, 8, 9, 10, 11, 12, 13, 14, 15, 16, 17, 18, 19, 20, 21, 22, 23, 24] (by kernel_rfl) ?_)
                refine AW.cons rfl rfl (sp_move (v := .int _ _) rfl ?_)
                refine AW.cons rfl rfl (sp_eql rfl rfl ?_)
                refine AW.cons rfl rfl (sp_move (v := .bool _) rfl ?_)
                refine AW.split 186 rfl (fun g186 => ?_) (fun g186 => ?_)
                · skip
                  refine AW.cons rfl rfl (sp_skip rfl ?_)
                  refine AW.cons rfl rfl (sp_skip rfl ?_)
                  refine AW.cons rfl rfl (sp_skip rfl ?_)
                  refine AW.cons rfl rfl (sp_skip rfl ?_)
                  refine AW.cons rfl rfl (sp_skip rfl ?_)
                  refine AW.cons rfl rfl (sp_skip rfl ?_)
                  refine AW.cons rfl rfl (sp_skip rfl ?_)
                  refine AW.cons rfl rfl (sp_skip rfl ?_)
                  refine AW.cons rfl rfl (sp_skip rfl ?_)
                  refine AW.cons rfl rfl (sp_skip rfl ?_)
                  refine AW.cons rfl rfl (sp_skip rfl ?_)
                  refine AW.cons rfl rfl (sp_skip rfl ?_)
                  refine AW.cons rfl rfl (sp_skip rfl ?_)
                  refine AW.cons rfl rfl (sp_skip rfl ?_)
                  refine AW.cons rfl rfl (sp_skip rfl ?_)
                  refine AW.cons rfl rfl (sp_skip rfl ?_)
                  refine AW.cons rfl rfl (sp_skip rfl ?_)
                  refine AW.cons rfl rfl (sp_pick_t rfl (v := .bool _) rfl ?_)
                  refine AW.cons rfl rfl (sp_move (v := .bool _) rfl ?_)
                  refine AW.cons rfl rfl (sp_call [] rfl rfl cf_28 (fun F w _ S => cried w (hK.ext S.mod)) ?_)
                  refine AW.cons rfl rfl (sp_pick_t rfl (v := .bool _) rfl ?_)
                  refine AW.cons rfl rfl (sp_asg (v := .bool _) rfl ?_)
                  refine AW.nil ?_
                  intro _ S
                  refine W.ret ?_
                  exact ret1 rfl rfl S fun w' S' => ⟨rfl, S'.mod⟩
                · skip
                  refine AW.cons rfl rfl (sp_move (v := .int _ _) rfl ?_)
                  refine AW.cons rfl rfl (sp_eql rfl rfl ?_)
                  refine AW.cons rfl rfl (sp_move (v := .bool _) rfl ?_)
                  refine AW.split 189 rfl (fun g189 => ?_) (fun g189 => ?_)
                  · skip
                    have h0 : ze = 0 := of_decide_eq_true g189
                    obtain ⟨_, m, at_, hvm, hm30, hvs, hatl, hall⟩ : ze = 0 ∧ ∃ m n : Nat, zv = m ∧ m ≤ 30 ∧ zs = n ∧ n < sq x ∧ ∀ z ∈ whs x m, HoldsP x.wide n wi hi z := by
                      rcases hso with h | h
                      · exact h
                      · exact absurd (h.1.symm.trans h0) (by decide)
                    obtain ⟨z, hz⟩ := get_some (l := p) (j := m) (by omega)
                    have hzb := hpx z (List.mem_of_getElem? hz)
                    have hho : HoldsP b.wide at_ wi hi z := hxw ▸ hall z (hwhs hm30 hz)
                    refine AW.cons rfl rfl (sp_move (v := .int _ _) rfl ?_)
                    refine AW.cons rfl rfl (sp_call [] rfl rfl cf_44 (fun F w _ S => between _ _ _ w) ?_)
                    refine AW.cons rfl rfl (sp_pick_t rfl (v := .bool _) rfl ?_)
                    refine AW.cons rfl rfl (sp_move (v := .bool _) rfl ?_)
                    refine AW.split 193 rfl (fun g193 => ?_) (fun g193 => ?_)
                    · skip
                      refine AW.cons rfl rfl (sp_ldw 3 rfl rfl ag_26_7 ?_)
                      refine AW.cons rfl rfl (sp_move (v := .int _ _) rfl ?_)
                      refine AW.cons rfl rfl (sp_move (v := .int _ _) rfl ?_)
                      refine AW.cons rfl rfl (sp_move (v := .int _ _) rfl ?_)
                      refine AW.cons rfl rfl (sp_move rfl ?_)
                      refine AW.cons rfl rfl (sp_move (v := .int _ _) rfl ?_)
                      refine AW.cons rfl rfl (sp_iaS 35 rfl rfl rfl sl_22_3_1 (by omega) ?_)
                      refine AW.cons rfl rfl (sp_ldS 35 rfl rfl sc_3 (v := iv z) (by rw [hvm]; exact ints_of hz) (by omega) ?_)
                      refine AW.cons rfl rfl (sp_call [] rfl rfl cf_43 (fun F w _ S => holdsF b la lc ca cc hb zs wi hi z (by omega) (by omega) (by omega) (by omega) w) ?_)
                      refine AW.cons rfl rfl (sp_pick_t rfl (v := .bool _) rfl ?_)
                      refine AW.cons rfl rfl (sp_pick_f rfl (v := .bool _) rfl ?_)
                      refine AW.cons rfl rfl (sp_move (v := .bool _) rfl ?_)
                      refine AW.split 205 rfl (fun g205 => ?_) (fun g205 => ?_)
                      · skip
                        refine AW.cons rfl rfl (sp_call [] rfl rfl cf_28 (fun F w _ S => cried w (hK.ext S.mod)) ?_)
                        refine AW.cons rfl rfl (sp_pick_t rfl (v := .bool _) rfl ?_)
                        refine AW.cons rfl rfl (sp_asg (v := .bool _) rfl ?_)
                        refine AW.nil ?_
                        intro _ S
                        refine W.ret ?_
                        exact ret1 rfl rfl S fun w' S' => ⟨rfl, S'.mod⟩
                      · exact absurd g205 (by rw [hvs, decide_eq_true hho]; decide)
                    · exfalso; have h1 := of_decide_eq_false g193; omega
                  · exfalso; have h1 := of_decide_eq_false g189; have h2 := of_decide_eq_false g186; rcases hso with h | h <;> omega
end
end Go.Proofs.YtmpclgepoemneaaDoor
