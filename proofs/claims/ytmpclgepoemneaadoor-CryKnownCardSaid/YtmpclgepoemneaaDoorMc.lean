/-
  Lemmas of this proof, several texts one behind the other; no condition beyond what each says.
-/
import Derived.Test.YtmpclgepoemneaaDoorMb
/-
  The functions of single squares and cries.
-/
namespace Go.Proofs.YtmpclgepoemneaaDoor
set_option maxRecDepth 100000
open Go.Hu Go.RowKit
section
variable (b : Bk) (la : Option Addr) (lc : Nat) (ca : Option Addr) (cc : Nat) (mp : Nat)

theorem wheel (n k : Int) (hk : k ≤ 1000000) (w : World) : Ct Tryd.prog 40 #[iv n, iv k] w (fun v w' => v = iv (if k < 2 then 0 else n % k) ∧ Ext w w') := by
  refine fn_intro (args := [iv n, iv k]) Tryd.func40 rfl rfl (by kernel_rfl) ?_
  have S := St.start no w
  have hneg : ¬ k < 2 → n.tmod k < 0 → n % k = n.tmod k + k := fun h1 h2 => by
    rw [Int.tmod_eq_emod] at h2 ⊢
    have := Int.emod_nonneg n (show k ≠ 0 by omega)
    split at h2
    · omega
    · rename_i hh; rw [if_neg hh]; have e : ((k.natAbs : Int)) = k := by omega
      rw [e]; omega
  have hpos : ¬ k < 2 → ¬ n.tmod k < 0 → n % k = n.tmod k := fun h1 h2 => by
    rw [Int.tmod_eq_emod] at h2 ⊢
    have := Int.emod_lt_of_pos n (show 0 < k by omega)
    split at h2
    · rename_i hh; rw [if_pos hh]; omega
    · exfalso; have e : ((k.natAbs : Int)) = k := by omega
      rw [e] at h2; omega
  have hlt : ¬ k < 2 → -k < n.tmod k := fun h1 => by
    have := Int.lt_tmod_of_pos n (show 0 < k by omega)
    omega
  refine W.seq (W.region S ?_)
  refine AS.cons (sp_asg rfl ?_)
  refine AS.nil ?_
  intro _ S
  refine W.seq (W.seq (W.region S ?_))
  refine AS.cons (sp_move (v := .int _ _) rfl ?_)
  refine AS.cons (sp_lss rfl rfl ?_)
  refine AS.nil ?_
  intro _ S
  refine W.condd rfl (fun c7 => ?_) (fun c7 => ?_)
  · skip
    refine W.seq (W.region S ?_)
    refine AS.cons (sp_asg rfl ?_)
    refine AS.nil ?_
    intro _ S
    refine W.ret ?_
    exact ret1 rfl rfl S fun w' S' => ⟨congrArg iv (by first | (rw [if_pos (by assumption)]; done) | (rw [if_neg (by assumption), hneg (by assumption) (by assumption)]; done) | (rw [if_neg (by assumption), hpos (by assumption) (by assumption)]; done)), S'.mod⟩
  · skip
    refine W.skip ?_
    refine W.seq (W.region S ?_)
    refine AS.cons (sp_move (v := .int _ _) rfl ?_)
    refine AS.cons (sp_move (v := .int _ _) rfl ?_)
    refine AS.cons (sp_remt rfl rfl (by omega) ?_)
    refine AS.cons (sp_asg (v := .int _ _) rfl ?_)
    refine AS.nil ?_
    intro _ S
    refine W.seq (W.seq (W.region S ?_))
    refine AS.cons (sp_move (v := .int _ _) rfl ?_)
    refine AS.cons (sp_lss rfl rfl ?_)
    refine AS.nil ?_
    intro _ S
    refine W.condd rfl (fun c12 => ?_) (fun c12 => ?_)
    · skip
      have hlt' := hlt (by assumption)
      refine W.seq (W.region S ?_)
      refine AS.cons (sp_move (v := .int _ _) rfl ?_)
      refine AS.cons (sp_move (v := .int _ _) rfl ?_)
      refine AS.cons (sp_add rfl rfl (by first | omega | (simp only [decide_eq_true_eq, decide_eq_false_iff_not] at *; omega)) ?_)
      refine AS.cons (sp_asg (v := .int _ _) rfl ?_)
      refine AS.nil ?_
      intro _ S
      refine W.ret ?_
      exact ret1 rfl rfl S fun w' S' => ⟨congrArg iv (by first | (rw [if_pos (by assumption)]; done) | (rw [if_neg (by assumption), hneg (by assumption) (by assumption)]; done) | (rw [if_neg (by assumption), hpos (by assumption) (by assumption)]; done)), S'.mod⟩
    · skip
      refine W.skip ?_
      refine W.seq (W.region S ?_)
      refine AS.cons (sp_move (v := .int _ _) rfl ?_)
      refine AS.cons (sp_asg (v := .int _ _) rfl ?_)
      refine AS.nil ?_
      intro _ S
      refine W.ret ?_
      exact ret1 rfl rfl S fun w' S' => ⟨congrArg iv (by first | (rw [if_pos (by assumption)]; done) | (rw [if_neg (by assumption), hneg (by assumption) (by assumption)]; done) | (rw [if_neg (by assumption), hpos (by assumption) (by assumption)]; done)), S'.mod⟩
theorem point (x y : Int) (w : World) : Ct Tryd.prog 57 #[iv x, iv y] w (fun v w' => v = .agg [iv x, iv y].toArray ∧ Ext w w') := by
  refine fn_intro (args := [iv x, iv y]) Tryd.func57 rfl rfl (by kernel_rfl) ?_
  have S := St.start no w
  refine W.seq (W.region S ?_)
  refine AS.cons (sp_alloc 4 zv_44 rfl (fun b4 => ?_))
  refine AS.nil ?_
  intro _ S
  refine W.seq (W.region S ?_)
  refine AS.cons (sp_move (v := .int _ _) rfl ?_)
  refine AS.cons (sp_move (v := .int _ _) rfl ?_)
  refine AS.cons (sp_build [iv x, iv y] (by kernel_rfl) ?_)
  refine AS.cons (sp_st 4 rfl rfl rfl rfl sz_44_2 rfl rfl ?_)
  refine AS.nil ?_
  intro _ S
  refine W.ret ?_
  exact retc 4 ag_44_2 rfl rfl rfl rfl rfl S fun w' S' => ⟨rfl, S'.mod⟩
theorem criesF (h m k fa fo ta tO : Int) (w : World) : Ct Tryd.prog 59 #[iv h, iv m, iv k, .agg [iv fa, iv fo].toArray, .agg [iv ta, iv tO].toArray] w (fun v w' => v = .agg (cyL ⟨h, m, k, fa, fo, ta, tO⟩).toArray ∧ Ext w w') := by
  refine fn_intro (args := [iv h, iv m, iv k, .agg [iv fa, iv fo].toArray, .agg [iv ta, iv tO].toArray]) Tryd.func59 rfl rfl (by kernel_rfl) ?_
  have S := St.start no w
  refine W.seq (W.region S ?_)
  refine AS.cons (sp_boxa 8 rfl (fun b8 => ?_))
  refine AS.cons (sp_boxa 9 rfl (fun b9 => ?_))
  refine AS.cons (sp_alloc 10 zv_46 rfl (fun b10 => ?_))
  refine AS.nil ?_
  intro _ S
  refine W.seq (W.region S ?_)
  refine AS.cons (sp_move (v := .int _ _) rfl ?_)
  refine AS.cons (sp_move (v := .int _ _) rfl ?_)
  refine AS.cons (sp_move (v := .int _ _) rfl ?_)
  refine AS.cons (sp_ldw 8 rfl rfl ag_44_2 ?_)
  refine AS.cons (sp_ldw 9 rfl rfl ag_44_2 ?_)
  refine AS.cons (sp_build [iv h, iv m, iv k, iv fa, iv fo, iv ta, iv tO] (by kernel_rfl) ?_)
  refine AS.cons (sp_st 10 rfl rfl rfl rfl sz_46_7 rfl rfl ?_)
  refine AS.nil ?_
  intro _ S
  refine W.ret ?_
  exact retc 10 ag_46_7 rfl rfl rfl rfl rfl S fun w' S' => ⟨rfl, S'.mod⟩
theorem squaresF (w : World) : Ct Tryd.prog 66 #[.agg (bkL b la lc ca cc).toArray] w (fun v w' => v = iv (IntKind.i64.wrap (b.wide * b.high)) ∧ Ext w w') := by
  refine fn_intro (args := [.agg (bkL b la lc ca cc).toArray]) Tryd.func66 rfl rfl (by kernel_rfl) ?_
  have S := St.start no w
  refine W.seq (W.region S ?_)
  refine AS.cons (sp_boxa 1 rfl (fun b1 => ?_))
  refine AS.cons (sp_asg rfl ?_)
  refine AS.nil ?_
  intro _ S
  refine W.seq (W.region S ?_)
  refine AS.cons (sp_fa rfl fo_26_0_0 ?_)
  refine AS.cons (sp_ld 1 rfl rfl sc_3 rfl ?_)
  refine AS.cons (sp_fa rfl fo_26_1_1 ?_)
  refine AS.cons (sp_ld 1 rfl rfl sc_3 rfl ?_)
  refine AS.cons (sp_mulw rfl rfl ?_)
  refine AS.cons (sp_asg (v := .int _ _) rfl ?_)
  refine AS.nil ?_
  intro _ S
  refine W.ret ?_
  exact ret1 rfl rfl S fun w' S' => ⟨rfl, S'.mod⟩
theorem flip (hb : Num b) (s : Int) (hs : 0 ≤ s ∧ s ≤ 1000) (w : World) : Ct Tryd.prog 50 #[.agg (bkL b la lc ca cc).toArray, iv s] w (fun v w' => v = iv (s - 2 * (s % b.wide) + b.wide - 1) ∧ Ext w w') := by
  refine fn_intro (args := [.agg (bkL b la lc ca cc).toArray, iv s]) Tryd.func50 rfl rfl (by kernel_rfl) ?_
  have S := St.start no w
  obtain ⟨hw, _⟩ := hb
  have hd := divB hs.1 (show 0 < b.wide by omega)
  refine W.seq (W.region S ?_)
  refine AS.cons (sp_boxa 2 rfl (fun b2 => ?_))
  refine AS.cons (sp_asg rfl ?_)
  refine AS.nil ?_
  intro _ S
  refine W.seq (W.draw S mixed (fun i => ([KD.q [], KD.q [], KD.q [], KD.q [2], KD.q [], KD.q [], KD.q [], KD.q [], KD.q [2], KD.q [], KD.q [], KD.q []] : List KD)[i]?) [] [0, 1, 2, 3, 4, 5, 6, 7, 8, 9, 10, 11] (by kernel_rfl) ?_)
  refine AW.cons rfl rfl (sp_move (v := .int _ _) rfl ?_)
  refine AW.cons rfl rfl (sp_move (v := .int _ _) rfl ?_)
  refine AW.cons rfl rfl (sp_fa rfl fo_26_0_0 ?_)
  refine AW.cons rfl rfl (sp_ld 2 rfl rfl sc_3 rfl ?_)
  refine AW.cons rfl rfl (sp_rem rfl rfl (by first | omega | (simp only [decide_eq_true_eq, decide_eq_false_iff_not] at *; omega)) (by first | omega | (simp only [decide_eq_true_eq, decide_eq_false_iff_not] at *; omega)) ?_)
  refine AW.cons rfl rfl (sp_mul rfl rfl (mulB (by first | omega | (simp only [decide_eq_true_eq, decide_eq_false_iff_not] at *; omega)) (by first | omega | (simp only [decide_eq_true_eq, decide_eq_false_iff_not] at *; omega))) ?_)
  refine AW.cons rfl rfl (sp_sub rfl rfl (by first | omega | (simp only [decide_eq_true_eq, decide_eq_false_iff_not] at *; omega)) ?_)
  refine AW.cons rfl rfl (sp_fa rfl fo_26_0_0 ?_)
  refine AW.cons rfl rfl (sp_ld 2 rfl rfl sc_3 rfl ?_)
  refine AW.cons rfl rfl (sp_add rfl rfl (by first | omega | (simp only [decide_eq_true_eq, decide_eq_false_iff_not] at *; omega)) ?_)
  refine AW.cons rfl rfl (sp_sub rfl rfl (by first | omega | (simp only [decide_eq_true_eq, decide_eq_false_iff_not] at *; omega)) ?_)
  refine AW.cons rfl rfl (sp_asg (v := .int _ _) rfl ?_)
  refine AW.nil ?_
  intro _ S
  refine W.ret ?_
  exact ret1 rfl rfl S fun w' S' => ⟨rfl, S'.mod⟩
theorem spot (hb : Num b) (s : Int) (hs : 0 ≤ s ∧ s ≤ 1000) (w : World) : Ct Tryd.prog 82 #[.agg (bayL b la lc ca cc mp).toArray, iv s] w (fun v w' => v = .agg [iv (s % b.wide), iv (s / b.wide)].toArray ∧ Ext w w') := by
  refine fn_intro (args := [.agg (bayL b la lc ca cc mp).toArray, iv s]) Tryd.func82 rfl rfl (by kernel_rfl) ?_
  have S := St.start no w
  obtain ⟨hw, _⟩ := hb
  have hd := divB hs.1 (show 0 < b.wide by omega)
  refine W.seq (W.region S ?_)
  refine AS.cons (sp_boxa 2 rfl (fun b2 => ?_))
  refine AS.cons (sp_alloc 4 zv_82 rfl (fun b4 => ?_))
  refine AS.nil ?_
  intro _ S
  refine W.seq (W.draw S mixed (fun i => ([KD.q [], KD.q [], KD.q [], KD.q [2], KD.q [], KD.q [], KD.q [], KD.q [], KD.q [2], KD.q [], KD.q [], KD.e [4] [4]] : List KD)[i]?) [] [0, 1, 2, 3, 4, 5, 6, 7, 8, 9, 10, 11] (by kernel_rfl) ?_)
  refine AW.cons rfl rfl (sp_move (v := .int _ _) rfl ?_)
  refine AW.cons rfl rfl (sp_fa rfl fo_77_0_0 ?_)
  refine AW.cons rfl rfl (sp_fa rfl fo_26_0_0 ?_)
  refine AW.cons rfl rfl (sp_ld 2 rfl rfl sc_3 rfl ?_)
  refine AW.cons rfl rfl (sp_rem rfl rfl (by first | omega | (simp only [decide_eq_true_eq, decide_eq_false_iff_not] at *; omega)) (by first | omega | (simp only [decide_eq_true_eq, decide_eq_false_iff_not] at *; omega)) ?_)
  refine AW.cons rfl rfl (sp_move (v := .int _ _) rfl ?_)
  refine AW.cons rfl rfl (sp_fa rfl fo_77_0_0 ?_)
  refine AW.cons rfl rfl (sp_fa rfl fo_26_0_0 ?_)
  refine AW.cons rfl rfl (sp_ld 2 rfl rfl sc_3 rfl ?_)
  refine AW.cons rfl rfl (sp_quo rfl rfl (by first | omega | (simp only [decide_eq_true_eq, decide_eq_false_iff_not] at *; omega)) (by first | omega | (simp only [decide_eq_true_eq, decide_eq_false_iff_not] at *; omega)) ?_)
  refine AW.cons rfl rfl (sp_build [iv (s % b.wide), iv (s / b.wide)] (by kernel_rfl) ?_)
  refine AW.cons rfl rfl (sp_st 4 rfl rfl rfl rfl sz_82_2 rfl rfl ?_)
  refine AW.nil ?_
  intro _ S
  refine W.ret ?_
  exact retc 4 ag_82_2 rfl rfl rfl rfl rfl S fun w' S' => ⟨rfl, S'.mod⟩
theorem betweenC (hb : Num b) (c : Cry) (hc : CryOk c) (x y : Int) (hx : 0 ≤ x ∧ x ≤ 1000) (hy : 0 ≤ y ∧ y ≤ 1000) (w : World) : Ct Tryd.prog 65 #[.agg (bayL b la lc ca cc mp).toArray, .agg (cyL c).toArray, .agg [iv x, iv y].toArray] w (fun v w' => v = .bool (decide (Btw b c x y)) ∧ Ext w w') := by
  refine fn_intro (args := [.agg (bayL b la lc ca cc mp).toArray, .agg (cyL c).toArray, .agg [iv x, iv y].toArray]) Tryd.func65 rfl rfl (by kernel_rfl) ?_
  have S := St.start no w
  have hhd := hdB hb c.h
  obtain ⟨hh, _, _, hf, ht, _⟩ := hc
  have h01 : c.h = 0 ∨ c.h = 1 := by omega
  refine W.seq (W.region S ?_)
  refine AS.cons (sp_boxa 3 rfl (fun b3 => ?_))
  refine AS.cons (sp_boxa 4 rfl (fun b4 => ?_))
  refine AS.cons (sp_boxa 5 rfl (fun b5 => ?_))
  refine AS.cons (sp_asg rfl ?_)
  refine AS.nil ?_
  intro _ S
  refine W.seq (W.draw S mixed (fun i => ([KD.q [], KD.q [5], KD.q [], KD.q [4], KD.q [], KD.q [], KD.q [], KD.q [3], KD.q [], KD.q [], KD.q [5], KD.q [], KD.q [], KD.q []] : List KD)[i]?) [] [0, 1, 2, 3, 4, 5, 6, 7, 8, 9, 10, 11, 12, 13] (by kernel_rfl) ?_)
  refine AW.cons rfl rfl (sp_fa rfl fo_82_0_0 ?_)
  refine AW.cons rfl rfl (sp_ld 5 rfl rfl sc_3 rfl ?_)
  refine AW.cons rfl rfl (sp_fa rfl fo_46_0_0 ?_)
  refine AW.cons rfl rfl (sp_ld 4 rfl rfl sc_3 rfl ?_)
  refine AW.cons rfl rfl (sp_fa rfl fo_77_0_0 ?_)
  refine AW.cons rfl rfl (sp_fa rfl fo_26_3_3 ?_)
  refine AW.cons rfl rfl (sp_iaa rfl rfl ar_23_2_3_1 (by first | omega | (simp only [decide_eq_true_eq, decide_eq_false_iff_not] at *; omega)) ?_)
  refine AW.cons rfl rfl (sp_ld 3 (v := iv (hd b c.h)) rfl rfl sc_3 (by rcases h01 with h | h <;> simp [h, hd]) ?_)
  refine AW.cons rfl rfl (sp_sub rfl rfl (by first | omega | (simp only [decide_eq_true_eq, decide_eq_false_iff_not] at *; omega)) ?_)
  refine AW.cons rfl rfl (sp_fa rfl fo_82_1_1 ?_)
  refine AW.cons rfl rfl (sp_ld 5 rfl rfl sc_3 rfl ?_)
  refine AW.cons rfl rfl (sp_add rfl rfl (by first | omega | (simp only [decide_eq_true_eq, decide_eq_false_iff_not] at *; omega)) ?_)
  refine AW.cons rfl rfl (sp_asg (v := .int _ _) rfl ?_)
  refine AW.cons rfl rfl (sp_asg (v := .int _ _) rfl ?_)
  refine AW.nil ?_
  intro _ S
  refine W.seq (W.regionc S [6, 21, 22, 23, 24, 25, 26, 27, 28, 29, 30, 31, 32, 33, 34, 35, 36, 37, 38, 39, 40, 41, 42, 43, 44] 6 (Btw b c x y) ?_ ?_)
  · skip
    refine AS.cons (sp_fa rfl fo_46_3_3 ?_)
    refine AS.cons (sp_fa rfl fo_44_0_0 ?_)
    refine AS.cons (sp_ld 4 rfl rfl sc_3 rfl ?_)
    refine AS.cons (sp_move (v := .int _ _) rfl ?_)
    refine AS.cons (sp_mul rfl rfl (mulB (by first | omega | (simp only [decide_eq_true_eq, decide_eq_false_iff_not] at *; omega)) (by first | omega | (simp only [decide_eq_true_eq, decide_eq_false_iff_not] at *; omega))) ?_)
    refine AS.cons (sp_fa rfl fo_46_3_3 ?_)
    refine AS.cons (sp_fa rfl fo_44_1_1 ?_)
    refine AS.cons (sp_ld 4 rfl rfl sc_3 rfl ?_)
    refine AS.cons (sp_move (v := .int _ _) rfl ?_)
    refine AS.cons (sp_mul rfl rfl (mulB (by first | omega | (simp only [decide_eq_true_eq, decide_eq_false_iff_not] at *; omega)) (by first | omega | (simp only [decide_eq_true_eq, decide_eq_false_iff_not] at *; omega))) ?_)
    refine AS.cons (sp_geq rfl rfl ?_)
    refine AS.cons (sp_move (v := .bool _) rfl ?_)
    refine AS.split 32 rfl (fun g32 => ?_) (fun g32 => ?_)
    · skip
      refine AS.cons (sp_move (v := .int _ _) rfl ?_)
      refine AS.cons (sp_fa rfl fo_46_4_5 ?_)
      refine AS.cons (sp_fa rfl fo_44_1_1 ?_)
      refine AS.cons (sp_ld 4 rfl rfl sc_3 rfl ?_)
      refine AS.cons (sp_mul rfl rfl (mulB (by first | omega | (simp only [decide_eq_true_eq, decide_eq_false_iff_not] at *; omega)) (by first | omega | (simp only [decide_eq_true_eq, decide_eq_false_iff_not] at *; omega))) ?_)
      refine AS.cons (sp_move (v := .int _ _) rfl ?_)
      refine AS.cons (sp_fa rfl fo_46_4_5 ?_)
      refine AS.cons (sp_fa rfl fo_44_0_0 ?_)
      refine AS.cons (sp_ld 4 rfl rfl sc_3 rfl ?_)
      refine AS.cons (sp_mul rfl rfl (mulB (by first | omega | (simp only [decide_eq_true_eq, decide_eq_false_iff_not] at *; omega)) (by first | omega | (simp only [decide_eq_true_eq, decide_eq_false_iff_not] at *; omega))) ?_)
      refine AS.cons (sp_geq rfl rfl ?_)
      refine AS.cons (sp_pick_t rfl (v := .bool _) rfl ?_)
      refine AS.cons (sp_asg (v := .bool _) rfl ?_)
      refine AS.nil ⟨⟨_, rfl, ?_⟩, ?_, rfl⟩
      · (try simp only [decide_eq_true_eq] at *); first | omega | (simp_all; done) | (simp_all; omega)
      · repeat (first | exact Agr.refl _ _ | exact Agr.msk _ _ _ | refine Agr.upd ?_ _ rfl | refine Agr.upds ?_ rfl | refine Agr.mskIn ?_ rfl)
    · skip
      refine AS.cons (sp_skip rfl ?_)
      refine AS.cons (sp_skip rfl ?_)
      refine AS.cons (sp_skip rfl ?_)
      refine AS.cons (sp_skip rfl ?_)
      refine AS.cons (sp_skip rfl ?_)
      refine AS.cons (sp_skip rfl ?_)
      refine AS.cons (sp_skip rfl ?_)
      refine AS.cons (sp_skip rfl ?_)
      refine AS.cons (sp_skip rfl ?_)
      refine AS.cons (sp_skip rfl ?_)
      refine AS.cons (sp_skip rfl ?_)
      refine AS.cons (sp_pick_f rfl (v := .bool _) rfl ?_)
      refine AS.cons (sp_asg (v := .bool _) rfl ?_)
      refine AS.nil ⟨⟨_, rfl, ?_⟩, ?_, rfl⟩
      · (try simp only [decide_eq_false_iff_not] at *); first | omega | (simp_all; done) | (simp_all; omega)
      · repeat (first | exact Agr.refl _ _ | exact Agr.msk _ _ _ | refine Agr.upd ?_ _ rfl | refine Agr.upds ?_ rfl | refine Agr.mskIn ?_ rfl)
  intro σ2 _ S
  refine W.ret ?_
  exact ret1 rfl rfl S fun w' S' => ⟨rfl, S'.mod⟩
theorem betweenR (hb : Num b) (c : Cry) (hc : CryOk c) (s : Int) (hs : 0 ≤ s ∧ s ≤ 1000) (w : World) : Ct Tryd.prog 67 #[.agg (bkL b la lc ca cc).toArray, .agg (cyL c).toArray, iv s] w (fun v w' => v = .bool (decide (Btw b c (s % b.wide) (s / b.wide))) ∧ Ext w w') := by
  refine fn_intro (args := [.agg (bkL b la lc ca cc).toArray, .agg (cyL c).toArray, iv s]) Tryd.func67 rfl rfl (by kernel_rfl) ?_
  have S := St.start no w
  have hhd := hdB hb c.h
  obtain ⟨hw, _⟩ := hb
  have hdv := divB hs.1 (show 0 < b.wide by omega)
  obtain ⟨hh, _, _, hf, ht, _⟩ := hc
  have h01 : c.h = 0 ∨ c.h = 1 := by omega
  refine W.seq (W.region S ?_)
  refine AS.cons (sp_boxa 3 rfl (fun b3 => ?_))
  refine AS.cons (sp_boxa 4 rfl (fun b4 => ?_))
  refine AS.cons (sp_asg rfl ?_)
  refine AS.nil ?_
  intro _ S
  refine W.seq (W.draw S mixed (fun i => ([KD.q [], KD.q [], KD.q [3], KD.q [], KD.q [], KD.q [4], KD.q [], KD.q [], KD.q [3], KD.q [], KD.q [], KD.q [], KD.q [3], KD.q [], KD.q [], KD.q [], KD.q []] : List KD)[i]?) [] [0, 1, 2, 3, 4, 5, 6, 7, 8, 9, 10, 11, 12, 13, 14, 15, 16] (by kernel_rfl) ?_)
  refine AW.cons rfl rfl (sp_move (v := .int _ _) rfl ?_)
  refine AW.cons rfl rfl (sp_fa rfl fo_26_0_0 ?_)
  refine AW.cons rfl rfl (sp_ld 3 rfl rfl sc_3 rfl ?_)
  refine AW.cons rfl rfl (sp_rem rfl rfl (by first | omega | (simp only [decide_eq_true_eq, decide_eq_false_iff_not] at *; omega)) (by first | omega | (simp only [decide_eq_true_eq, decide_eq_false_iff_not] at *; omega)) ?_)
  refine AW.cons rfl rfl (sp_fa rfl fo_46_0_0 ?_)
  refine AW.cons rfl rfl (sp_ld 4 rfl rfl sc_3 rfl ?_)
  refine AW.cons rfl rfl (sp_fa rfl fo_26_3_3 ?_)
  refine AW.cons rfl rfl (sp_iaa rfl rfl ar_23_2_3_1 (by first | omega | (simp only [decide_eq_true_eq, decide_eq_false_iff_not] at *; omega)) ?_)
  refine AW.cons rfl rfl (sp_ld 3 (v := iv (hd b c.h)) rfl rfl sc_3 (by rcases h01 with h | h <;> simp [h, hd]) ?_)
  refine AW.cons rfl rfl (sp_sub rfl rfl (by first | omega | (simp only [decide_eq_true_eq, decide_eq_false_iff_not] at *; omega)) ?_)
  refine AW.cons rfl rfl (sp_move (v := .int _ _) rfl ?_)
  refine AW.cons rfl rfl (sp_fa rfl fo_26_0_0 ?_)
  refine AW.cons rfl rfl (sp_ld 3 rfl rfl sc_3 rfl ?_)
  refine AW.cons rfl rfl (sp_quo rfl rfl (by first | omega | (simp only [decide_eq_true_eq, decide_eq_false_iff_not] at *; omega)) (by first | omega | (simp only [decide_eq_true_eq, decide_eq_false_iff_not] at *; omega)) ?_)
  refine AW.cons rfl rfl (sp_add rfl rfl (by first | omega | (simp only [decide_eq_true_eq, decide_eq_false_iff_not] at *; omega)) ?_)
  refine AW.cons rfl rfl (sp_asg (v := .int _ _) rfl ?_)
  refine AW.cons rfl rfl (sp_asg (v := .int _ _) rfl ?_)
  refine AW.nil ?_
  intro _ S
  refine W.seq (W.regionc S [6, 24, 25, 26, 27, 28, 29, 30, 31, 32, 33, 34, 35, 36, 37, 38, 39, 40, 41, 42, 43, 44, 45, 46, 47] 6 (Btw b c (s % b.wide) (s / b.wide)) ?_ ?_)
  · skip
    refine AS.cons (sp_fa rfl fo_46_3_3 ?_)
    refine AS.cons (sp_fa rfl fo_44_0_0 ?_)
    refine AS.cons (sp_ld 4 rfl rfl sc_3 rfl ?_)
    refine AS.cons (sp_move (v := .int _ _) rfl ?_)
    refine AS.cons (sp_mul rfl rfl (mulB (by first | omega | (simp only [decide_eq_true_eq, decide_eq_false_iff_not] at *; omega)) (by first | omega | (simp only [decide_eq_true_eq, decide_eq_false_iff_not] at *; omega))) ?_)
    refine AS.cons (sp_fa rfl fo_46_3_3 ?_)
    refine AS.cons (sp_fa rfl fo_44_1_1 ?_)
    refine AS.cons (sp_ld 4 rfl rfl sc_3 rfl ?_)
    refine AS.cons (sp_move (v := .int _ _) rfl ?_)
    refine AS.cons (sp_mul rfl rfl (mulB (by first | omega | (simp only [decide_eq_true_eq, decide_eq_false_iff_not] at *; omega)) (by first | omega | (simp only [decide_eq_true_eq, decide_eq_false_iff_not] at *; omega))) ?_)
    refine AS.cons (sp_geq rfl rfl ?_)
    refine AS.cons (sp_move (v := .bool _) rfl ?_)
    refine AS.split 35 rfl (fun g35 => ?_) (fun g35 => ?_)
    · skip
      refine AS.cons (sp_move (v := .int _ _) rfl ?_)
      refine AS.cons (sp_fa rfl fo_46_4_5 ?_)
      refine AS.cons (sp_fa rfl fo_44_1_1 ?_)
      refine AS.cons (sp_ld 4 rfl rfl sc_3 rfl ?_)
      refine AS.cons (sp_mul rfl rfl (mulB (by first | omega | (simp only [decide_eq_true_eq, decide_eq_false_iff_not] at *; omega)) (by first | omega | (simp only [decide_eq_true_eq, decide_eq_false_iff_not] at *; omega))) ?_)
      refine AS.cons (sp_move (v := .int _ _) rfl ?_)
      refine AS.cons (sp_fa rfl fo_46_4_5 ?_)
      refine AS.cons (sp_fa rfl fo_44_0_0 ?_)
      refine AS.cons (sp_ld 4 rfl rfl sc_3 rfl ?_)
      refine AS.cons (sp_mul rfl rfl (mulB (by first | omega | (simp only [decide_eq_true_eq, decide_eq_false_iff_not] at *; omega)) (by first | omega | (simp only [decide_eq_true_eq, decide_eq_false_iff_not] at *; omega))) ?_)
      refine AS.cons (sp_geq rfl rfl ?_)
      refine AS.cons (sp_pick_t rfl (v := .bool _) rfl ?_)
      refine AS.cons (sp_asg (v := .bool _) rfl ?_)
      refine AS.nil ⟨⟨_, rfl, ?_⟩, ?_, rfl⟩
      · (try simp only [decide_eq_true_eq] at *); first | omega | (simp_all; done) | (simp_all; omega)
      · repeat (first | exact Agr.refl _ _ | exact Agr.msk _ _ _ | refine Agr.upd ?_ _ rfl | refine Agr.upds ?_ rfl | refine Agr.mskIn ?_ rfl)
    · skip
      refine AS.cons (sp_skip rfl ?_)
      refine AS.cons (sp_skip rfl ?_)
      refine AS.cons (sp_skip rfl ?_)
      refine AS.cons (sp_skip rfl ?_)
      refine AS.cons (sp_skip rfl ?_)
      refine AS.cons (sp_skip rfl ?_)
      refine AS.cons (sp_skip rfl ?_)
      refine AS.cons (sp_skip rfl ?_)
      refine AS.cons (sp_skip rfl ?_)
      refine AS.cons (sp_skip rfl ?_)
      refine AS.cons (sp_skip rfl ?_)
      refine AS.cons (sp_pick_f rfl (v := .bool _) rfl ?_)
      refine AS.cons (sp_asg (v := .bool _) rfl ?_)
      refine AS.nil ⟨⟨_, rfl, ?_⟩, ?_, rfl⟩
      · (try simp only [decide_eq_false_iff_not] at *); first | omega | (simp_all; done) | (simp_all; omega)
      · repeat (first | exact Agr.refl _ _ | exact Agr.msk _ _ _ | refine Agr.upd ?_ _ rfl | refine Agr.upds ?_ rfl | refine Agr.mskIn ?_ rfl)
  intro σ2 _ S
  refine W.ret ?_
  exact ret1 rfl rfl S fun w' S' => ⟨rfl, S'.mod⟩
theorem nearF (hb : Num b) (s t k : Int) (hs : 0 ≤ s ∧ s ≤ 1000) (ht : 0 ≤ t ∧ t ≤ 1000) (hk : 0 ≤ k ∧ k ≤ 1000) (w : World) : Ct Tryd.prog 93 #[.agg (bkL b la lc ca cc).toArray, iv s, iv t, iv k] w (fun v w' => v = .bool (decide (NearP b.wide s t k)) ∧ Ext w w') := by
  refine fn_intro (args := [.agg (bkL b la lc ca cc).toArray, iv s, iv t, iv k]) Tryd.func93 rfl rfl (by kernel_rfl) ?_
  have S := St.start no w
  obtain ⟨hw, _⟩ := hb
  have hdv := divB hs.1 (show 0 < b.wide by omega)
  have hdv2 := divB ht.1 (show 0 < b.wide by omega)
  refine W.seq (W.region S ?_)
  refine AS.cons (sp_boxa 4 rfl (fun b4 => ?_))
  refine AS.cons (sp_asg rfl ?_)
  refine AS.nil ?_
  intro _ S
  refine W.seq (W.drawc S mixed [8, 9, 10, 11, 12, 13, 14, 15, 16, 17, 18, 19, 20, 21, 22, 23, 24, 25, 26, 27, 28, 29, 30, 31, 32, 33, 34, 35, 36] 8 (NearP b.wide s t k) (fun i => ([KD.q [], KD.q [], KD.q [4], KD.q [], KD.q [], KD.q [], KD.q [4], KD.q [], KD.q [], KD.q [], KD.q [], KD.q [], KD.e [] [], KD.q [], KD.q [], KD.q [], KD.q [4], KD.q [], KD.q [], KD.q [], KD.q [4], KD.q [], KD.q [], KD.q [], KD.q [], KD.q [], KD.e [] [], KD.q [], KD.q []] : List KD)[i]?) [13] [0, 1, 2, 3, 4, 5, 6, 7, 8, 9, 10, 11, 12, 13, 14, 15, 16, 17, 18, 19, 20, 21, 22, 23, 24, 25, 26, 27, 28] (by kernel_rfl) ?_ ?_)
  · skip
    refine AW.cons rfl rfl (sp_move (v := .int _ _) rfl ?_)
    refine AW.cons rfl rfl (sp_fa rfl fo_26_0_0 ?_)
    refine AW.cons rfl rfl (sp_ld 4 rfl rfl sc_3 rfl ?_)
    refine AW.cons rfl rfl (sp_rem rfl rfl (by first | omega | (simp only [decide_eq_true_eq, decide_eq_false_iff_not] at *; omega)) (by first | omega | (simp only [decide_eq_true_eq, decide_eq_false_iff_not] at *; omega)) ?_)
    refine AW.cons rfl rfl (sp_move (v := .int _ _) rfl ?_)
    refine AW.cons rfl rfl (sp_fa rfl fo_26_0_0 ?_)
    refine AW.cons rfl rfl (sp_ld 4 rfl rfl sc_3 rfl ?_)
    refine AW.cons rfl rfl (sp_rem rfl rfl (by first | omega | (simp only [decide_eq_true_eq, decide_eq_false_iff_not] at *; omega)) (by first | omega | (simp only [decide_eq_true_eq, decide_eq_false_iff_not] at *; omega)) ?_)
    refine AW.cons rfl rfl (sp_sub rfl rfl (by first | omega | (simp only [decide_eq_true_eq, decide_eq_false_iff_not] at *; omega)) ?_)
    refine AW.cons rfl rfl (sp_move (v := .int _ _) rfl ?_)
    refine AW.cons rfl rfl (sp_neg rfl (by first | omega | (simp only [decide_eq_true_eq, decide_eq_false_iff_not] at *; omega)) ?_)
    refine AW.cons rfl rfl (sp_move (v := .int _ _) rfl ?_)
    refine AW.cons rfl rfl (sp_call [] rfl rfl cf_44 (fun F w _ S => between _ _ _ w) ?_)
    refine AW.cons rfl rfl (sp_move (v := .bool _) rfl ?_)
    refine AW.split 22 rfl (fun g22 => ?_) (fun g22 => ?_)
    · skip
      refine AW.cons rfl rfl (sp_move (v := .int _ _) rfl ?_)
      refine AW.cons rfl rfl (sp_fa rfl fo_26_0_0 ?_)
      refine AW.cons rfl rfl (sp_ld 4 rfl rfl sc_3 rfl ?_)
      refine AW.cons rfl rfl (sp_quo rfl rfl (by first | omega | (simp only [decide_eq_true_eq, decide_eq_false_iff_not] at *; omega)) (by first | omega | (simp only [decide_eq_true_eq, decide_eq_false_iff_not] at *; omega)) ?_)
      refine AW.cons rfl rfl (sp_move (v := .int _ _) rfl ?_)
      refine AW.cons rfl rfl (sp_fa rfl fo_26_0_0 ?_)
      refine AW.cons rfl rfl (sp_ld 4 rfl rfl sc_3 rfl ?_)
      refine AW.cons rfl rfl (sp_quo rfl rfl (by first | omega | (simp only [decide_eq_true_eq, decide_eq_false_iff_not] at *; omega)) (by first | omega | (simp only [decide_eq_true_eq, decide_eq_false_iff_not] at *; omega)) ?_)
      refine AW.cons rfl rfl (sp_sub rfl rfl (by first | omega | (simp only [decide_eq_true_eq, decide_eq_false_iff_not] at *; omega)) ?_)
      refine AW.cons rfl rfl (sp_move (v := .int _ _) rfl ?_)
      refine AW.cons rfl rfl (sp_neg rfl (by first | omega | (simp only [decide_eq_true_eq, decide_eq_false_iff_not] at *; omega)) ?_)
      refine AW.cons rfl rfl (sp_move (v := .int _ _) rfl ?_)
      refine AW.cons rfl rfl (sp_call [] rfl rfl cf_44 (fun F w _ S => between _ _ _ w) ?_)
      refine AW.cons rfl rfl (sp_pick_t rfl (v := .bool _) rfl ?_)
      refine AW.cons rfl rfl (sp_asg (v := .bool _) rfl ?_)
      refine AW.nil ⟨⟨_, rfl, ?_⟩, ?_, rfl⟩
      · (try simp only [decide_eq_true_eq] at *); first | omega | (simp_all; done) | (simp_all; omega)
      · repeat (first | exact Agr.refl _ _ | exact Agr.msk _ _ _ | refine Agr.upd ?_ _ rfl | refine Agr.upds ?_ rfl | refine Agr.mskIn ?_ rfl)
    · skip
      refine AW.cons rfl rfl (sp_skip rfl ?_)
      refine AW.cons rfl rfl (sp_skip rfl ?_)
      refine AW.cons rfl rfl (sp_skip rfl ?_)
      refine AW.cons rfl rfl (sp_skip rfl ?_)
      refine AW.cons rfl rfl (sp_skip rfl ?_)
      refine AW.cons rfl rfl (sp_skip rfl ?_)
      refine AW.cons rfl rfl (sp_skip rfl ?_)
      refine AW.cons rfl rfl (sp_skip rfl ?_)
      refine AW.cons rfl rfl (sp_skip rfl ?_)
      refine AW.cons rfl rfl (sp_skip rfl ?_)
      refine AW.cons rfl rfl (sp_skip rfl ?_)
      refine AW.cons rfl rfl (sp_skip rfl ?_)
      refine AW.cons rfl rfl (sp_skip rfl ?_)
      refine AW.cons rfl rfl (sp_pick_f rfl (v := .bool _) rfl ?_)
      refine AW.cons rfl rfl (sp_asg (v := .bool _) rfl ?_)
      refine AW.nil ⟨⟨_, rfl, ?_⟩, ?_, rfl⟩
      · (try simp only [decide_eq_false_iff_not] at *); first | omega | (simp_all; done) | (simp_all; omega)
      · repeat (first | exact Agr.refl _ _ | exact Agr.msk _ _ _ | refine Agr.upd ?_ _ rfl | refine Agr.upds ?_ rfl | refine Agr.mskIn ?_ rfl)
  intro σ1 _ S
  refine W.ret ?_
  exact ret1 rfl rfl S fun w' S' => ⟨rfl, S'.mod⟩
theorem swims (hb : Num b) (s t : Int) (hs : 0 ≤ s ∧ s ≤ 1000) (ht : 0 ≤ t ∧ t ≤ 1000) (w : World) : Ct Tryd.prog 114 #[.agg (bkL b la lc ca cc).toArray, iv s, iv t] w (fun v w' => v = .bool (decide (NearP b.wide s t b.swim)) ∧ Ext w w') := by
  refine fn_intro (args := [.agg (bkL b la lc ca cc).toArray, iv s, iv t]) Tryd.func114 rfl rfl (by kernel_rfl) ?_
  have S := St.start no w
  obtain ⟨hw, _⟩ := hb
  have hdv := divB hs.1 (show 0 < b.wide by omega)
  have hdv2 := divB ht.1 (show 0 < b.wide by omega)
  refine W.seq (W.region S ?_)
  refine AS.cons (sp_boxa 3 rfl (fun b3 => ?_))
  refine AS.cons (sp_asg rfl ?_)
  refine AS.nil ?_
  intro _ S
  refine W.seq (W.draw S mixed (fun i => ([KD.q [], KD.q [], KD.q [3], KD.q [], KD.q [], KD.q [], KD.q [3], KD.q [], KD.q [], KD.q [], KD.q [], KD.q [3], KD.q [], KD.q [], KD.q [], KD.q [3], KD.q [], KD.q [], KD.q [], KD.q []] : List KD)[i]?) [] [0, 1, 2, 3, 4, 5, 6, 7, 8, 9, 10, 11, 12, 13, 14, 15, 16, 17, 18, 19] (by kernel_rfl) ?_)
  refine AW.cons rfl rfl (sp_move (v := .int _ _) rfl ?_)
  refine AW.cons rfl rfl (sp_fa rfl fo_26_0_0 ?_)
  refine AW.cons rfl rfl (sp_ld 3 rfl rfl sc_3 rfl ?_)
  refine AW.cons rfl rfl (sp_rem rfl rfl (by first | omega | (simp only [decide_eq_true_eq, decide_eq_false_iff_not] at *; omega)) (by first | omega | (simp only [decide_eq_true_eq, decide_eq_false_iff_not] at *; omega)) ?_)
  refine AW.cons rfl rfl (sp_move (v := .int _ _) rfl ?_)
  refine AW.cons rfl rfl (sp_fa rfl fo_26_0_0 ?_)
  refine AW.cons rfl rfl (sp_ld 3 rfl rfl sc_3 rfl ?_)
  refine AW.cons rfl rfl (sp_rem rfl rfl (by first | omega | (simp only [decide_eq_true_eq, decide_eq_false_iff_not] at *; omega)) (by first | omega | (simp only [decide_eq_true_eq, decide_eq_false_iff_not] at *; omega)) ?_)
  refine AW.cons rfl rfl (sp_sub rfl rfl (by first | omega | (simp only [decide_eq_true_eq, decide_eq_false_iff_not] at *; omega)) ?_)
  refine AW.cons rfl rfl (sp_move (v := .int _ _) rfl ?_)
  refine AW.cons rfl rfl (sp_fa rfl fo_26_0_0 ?_)
  refine AW.cons rfl rfl (sp_ld 3 rfl rfl sc_3 rfl ?_)
  refine AW.cons rfl rfl (sp_quo rfl rfl (by first | omega | (simp only [decide_eq_true_eq, decide_eq_false_iff_not] at *; omega)) (by first | omega | (simp only [decide_eq_true_eq, decide_eq_false_iff_not] at *; omega)) ?_)
  refine AW.cons rfl rfl (sp_move (v := .int _ _) rfl ?_)
  refine AW.cons rfl rfl (sp_fa rfl fo_26_0_0 ?_)
  refine AW.cons rfl rfl (sp_ld 3 rfl rfl sc_3 rfl ?_)
  refine AW.cons rfl rfl (sp_quo rfl rfl (by first | omega | (simp only [decide_eq_true_eq, decide_eq_false_iff_not] at *; omega)) (by first | omega | (simp only [decide_eq_true_eq, decide_eq_false_iff_not] at *; omega)) ?_)
  refine AW.cons rfl rfl (sp_sub rfl rfl (by first | omega | (simp only [decide_eq_true_eq, decide_eq_false_iff_not] at *; omega)) ?_)
  refine AW.cons rfl rfl (sp_asg (v := .int _ _) rfl ?_)
  refine AW.cons rfl rfl (sp_asg (v := .int _ _) rfl ?_)
  refine AW.nil ?_
  intro _ S
  refine W.seq (W.regionc S [6, 27, 28, 29, 30, 31, 32, 33, 34, 35, 36, 37, 38, 39, 40, 41, 42] 6 (NearP b.wide s t b.swim) ?_ ?_)
  · skip
    refine AS.cons (sp_move (v := .int _ _) rfl ?_)
    refine AS.cons (sp_move (v := .int _ _) rfl ?_)
    refine AS.cons (sp_neg rfl (by first | omega | (simp only [decide_eq_true_eq, decide_eq_false_iff_not] at *; omega)) ?_)
    refine AS.cons (sp_max rfl rfl ?_)
    refine AS.cons (sp_fa rfl fo_26_4_5 ?_)
    refine AS.cons (sp_ld 3 rfl rfl sc_3 rfl ?_)
    refine AS.cons (sp_leq rfl rfl ?_)
    refine AS.cons (sp_move (v := .bool _) rfl ?_)
    refine AS.split 34 rfl (fun g34 => ?_) (fun g34 => ?_)
    · skip
      refine AS.cons (sp_move (v := .int _ _) rfl ?_)
      refine AS.cons (sp_move (v := .int _ _) rfl ?_)
      refine AS.cons (sp_neg rfl (by first | omega | (simp only [decide_eq_true_eq, decide_eq_false_iff_not] at *; omega)) ?_)
      refine AS.cons (sp_max rfl rfl ?_)
      refine AS.cons (sp_fa rfl fo_26_4_5 ?_)
      refine AS.cons (sp_ld 3 rfl rfl sc_3 rfl ?_)
      refine AS.cons (sp_leq rfl rfl ?_)
      refine AS.cons (sp_pick_t rfl (v := .bool _) rfl ?_)
      refine AS.cons (sp_asg (v := .bool _) rfl ?_)
      refine AS.nil ⟨⟨_, rfl, ?_⟩, ?_, rfl⟩
      · (try simp only [decide_eq_true_eq] at *); first | omega | (simp_all; done) | (simp_all; omega)
      · repeat (first | exact Agr.refl _ _ | exact Agr.msk _ _ _ | refine Agr.upd ?_ _ rfl | refine Agr.upds ?_ rfl | refine Agr.mskIn ?_ rfl)
    · skip
      refine AS.cons (sp_skip rfl ?_)
      refine AS.cons (sp_skip rfl ?_)
      refine AS.cons (sp_skip rfl ?_)
      refine AS.cons (sp_skip rfl ?_)
      refine AS.cons (sp_skip rfl ?_)
      refine AS.cons (sp_skip rfl ?_)
      refine AS.cons (sp_skip rfl ?_)
      refine AS.cons (sp_pick_f rfl (v := .bool _) rfl ?_)
      refine AS.cons (sp_asg (v := .bool _) rfl ?_)
      refine AS.nil ⟨⟨_, rfl, ?_⟩, ?_, rfl⟩
      · (try simp only [decide_eq_false_iff_not] at *); first | omega | (simp_all; done) | (simp_all; omega)
      · repeat (first | exact Agr.refl _ _ | exact Agr.msk _ _ _ | refine Agr.upd ?_ _ rfl | refine Agr.upds ?_ rfl | refine Agr.mskIn ?_ rfl)
  intro σ2 _ S
  refine W.ret ?_
  exact ret1 rfl rfl S fun w' S' => ⟨rfl, S'.mod⟩
theorem holdsF (hb : Num b) (at_ wide high s : Int) (ha : 0 ≤ at_ ∧ at_ ≤ 1000) (hs : 0 ≤ s ∧ s ≤ 1000) (hwi : -1000 ≤ wide ∧ wide ≤ 1000) (hhi : -1000 ≤ high ∧ high ≤ 1000) (w : World) : Ct Tryd.prog 43 #[.agg (bkL b la lc ca cc).toArray, iv at_, iv wide, iv high, iv s] w (fun v w' => v = .bool (decide (HoldsP b.wide at_ wide high s)) ∧ Ext w w') := by
  refine fn_intro (args := [.agg (bkL b la lc ca cc).toArray, iv at_, iv wide, iv high, iv s]) Tryd.func43 rfl rfl (by kernel_rfl) ?_
  have S := St.start no w
  obtain ⟨hw, _⟩ := hb
  have hdv := divB hs.1 (show 0 < b.wide by omega)
  have hdv2 := divB ha.1 (show 0 < b.wide by omega)
  refine W.seq (W.region S ?_)
  refine AS.cons (sp_boxa 5 rfl (fun b5 => ?_))
  refine AS.cons (sp_asg rfl ?_)
  refine AS.nil ?_
  intro _ S
  refine W.seq (W.drawc S mixed [10, 11, 12, 13, 14, 15, 16, 17, 18, 19, 20, 21, 22, 23, 24, 25, 26, 27, 28, 29, 30, 31, 32, 33, 34, 35, 36] 10 (HoldsP b.wide at_ wide high s) (fun i => ([KD.q [], KD.q [], KD.q [5], KD.q [], KD.q [], KD.q [], KD.q [5], KD.q [], KD.q [], KD.q [], KD.q [], KD.e [] [], KD.q [], KD.q [], KD.q [], KD.q [5], KD.q [], KD.q [], KD.q [], KD.q [5], KD.q [], KD.q [], KD.q [], KD.q [], KD.e [] [], KD.q [], KD.q []] : List KD)[i]?) [12] [0, 1, 2, 3, 4, 5, 6, 7, 8, 9, 10, 11, 12, 13, 14, 15, 16, 17, 18, 19, 20, 21, 22, 23, 24, 25, 26] (by kernel_rfl) ?_ ?_)
  · skip
    refine AW.cons rfl rfl (sp_move (v := .int _ _) rfl ?_)
    refine AW.cons rfl rfl (sp_fa rfl fo_26_0_0 ?_)
    refine AW.cons rfl rfl (sp_ld 5 rfl rfl sc_3 rfl ?_)
    refine AW.cons rfl rfl (sp_rem rfl rfl (by first | omega | (simp only [decide_eq_true_eq, decide_eq_false_iff_not] at *; omega)) (by first | omega | (simp only [decide_eq_true_eq, decide_eq_false_iff_not] at *; omega)) ?_)
    refine AW.cons rfl rfl (sp_move (v := .int _ _) rfl ?_)
    refine AW.cons rfl rfl (sp_fa rfl fo_26_0_0 ?_)
    refine AW.cons rfl rfl (sp_ld 5 rfl rfl sc_3 rfl ?_)
    refine AW.cons rfl rfl (sp_rem rfl rfl (by first | omega | (simp only [decide_eq_true_eq, decide_eq_false_iff_not] at *; omega)) (by first | omega | (simp only [decide_eq_true_eq, decide_eq_false_iff_not] at *; omega)) ?_)
    refine AW.cons rfl rfl (sp_sub rfl rfl (by first | omega | (simp only [decide_eq_true_eq, decide_eq_false_iff_not] at *; omega)) ?_)
    refine AW.cons rfl rfl (sp_move (v := .int _ _) rfl ?_)
    refine AW.cons rfl rfl (sp_sub rfl rfl (by first | omega | (simp only [decide_eq_true_eq, decide_eq_false_iff_not] at *; omega)) ?_)
    refine AW.cons rfl rfl (sp_call [] rfl rfl cf_44 (fun F w _ S => between _ _ _ w) ?_)
    refine AW.cons rfl rfl (sp_move (v := .bool _) rfl ?_)
    refine AW.split 23 rfl (fun g23 => ?_) (fun g23 => ?_)
    · skip
      refine AW.cons rfl rfl (sp_move (v := .int _ _) rfl ?_)
      refine AW.cons rfl rfl (sp_fa rfl fo_26_0_0 ?_)
      refine AW.cons rfl rfl (sp_ld 5 rfl rfl sc_3 rfl ?_)
      refine AW.cons rfl rfl (sp_quo rfl rfl (by first | omega | (simp only [decide_eq_true_eq, decide_eq_false_iff_not] at *; omega)) (by first | omega | (simp only [decide_eq_true_eq, decide_eq_false_iff_not] at *; omega)) ?_)
      refine AW.cons rfl rfl (sp_move (v := .int _ _) rfl ?_)
      refine AW.cons rfl rfl (sp_fa rfl fo_26_0_0 ?_)
      refine AW.cons rfl rfl (sp_ld 5 rfl rfl sc_3 rfl ?_)
      refine AW.cons rfl rfl (sp_quo rfl rfl (by first | omega | (simp only [decide_eq_true_eq, decide_eq_false_iff_not] at *; omega)) (by first | omega | (simp only [decide_eq_true_eq, decide_eq_false_iff_not] at *; omega)) ?_)
      refine AW.cons rfl rfl (sp_sub rfl rfl (by first | omega | (simp only [decide_eq_true_eq, decide_eq_false_iff_not] at *; omega)) ?_)
      refine AW.cons rfl rfl (sp_move (v := .int _ _) rfl ?_)
      refine AW.cons rfl rfl (sp_sub rfl rfl (by first | omega | (simp only [decide_eq_true_eq, decide_eq_false_iff_not] at *; omega)) ?_)
      refine AW.cons rfl rfl (sp_call [] rfl rfl cf_44 (fun F w _ S => between _ _ _ w) ?_)
      refine AW.cons rfl rfl (sp_pick_t rfl (v := .bool _) rfl ?_)
      refine AW.cons rfl rfl (sp_asg (v := .bool _) rfl ?_)
      refine AW.nil ⟨⟨_, rfl, ?_⟩, ?_, rfl⟩
      · (try simp only [decide_eq_true_eq] at *); first | omega | (simp_all; done) | (simp_all; omega)
      · repeat (first | exact Agr.refl _ _ | exact Agr.msk _ _ _ | refine Agr.upd ?_ _ rfl | refine Agr.upds ?_ rfl | refine Agr.mskIn ?_ rfl)
    · skip
      refine AW.cons rfl rfl (sp_skip rfl ?_)
      refine AW.cons rfl rfl (sp_skip rfl ?_)
      refine AW.cons rfl rfl (sp_skip rfl ?_)
      refine AW.cons rfl rfl (sp_skip rfl ?_)
      refine AW.cons rfl rfl (sp_skip rfl ?_)
      refine AW.cons rfl rfl (sp_skip rfl ?_)
      refine AW.cons rfl rfl (sp_skip rfl ?_)
      refine AW.cons rfl rfl (sp_skip rfl ?_)
      refine AW.cons rfl rfl (sp_skip rfl ?_)
      refine AW.cons rfl rfl (sp_skip rfl ?_)
      refine AW.cons rfl rfl (sp_skip rfl ?_)
      refine AW.cons rfl rfl (sp_skip rfl ?_)
      refine AW.cons rfl rfl (sp_pick_f rfl (v := .bool _) rfl ?_)
      refine AW.cons rfl rfl (sp_asg (v := .bool _) rfl ?_)
      refine AW.nil ⟨⟨_, rfl, ?_⟩, ?_, rfl⟩
      · (try simp only [decide_eq_false_iff_not] at *); first | omega | (simp_all; done) | (simp_all; omega)
      · repeat (first | exact Agr.refl _ _ | exact Agr.msk _ _ _ | refine Agr.upd ?_ _ rfl | refine Agr.upds ?_ rfl | refine Agr.mskIn ?_ rfl)
  intro σ1 _ S
  refine W.ret ?_
  exact ret1 rfl rfl S fun w' S' => ⟨rfl, S'.mod⟩
/-- Seen from a huer, a square is on the side of a direction to which lesser columns lie, or on it. -/
abbrev BehindP (b : Bk) (h s a o : Int) : Prop := 0 ≤ a * (s / b.wide + 1) - o * (s % b.wide - hd b h)
theorem behind (hb : Num b) (h s a o : Int) (hh : 0 ≤ h ∧ h ≤ 1) (hs : 0 ≤ s ∧ s ≤ 1000) (hp : PtOk a o) (w : World) : Ct Tryd.prog 95 #[.agg (bkL b la lc ca cc).toArray, iv h, iv s, .agg [iv a, iv o].toArray] w (fun v w' => v = .bool (decide (BehindP b h s a o)) ∧ Ext w w') := by
  refine fn_intro (args := [.agg (bkL b la lc ca cc).toArray, iv h, iv s, .agg [iv a, iv o].toArray]) Tryd.func95 rfl rfl (by kernel_rfl) ?_
  have S := St.start no w
  have hhd := hdB hb h
  obtain ⟨hw, _⟩ := hb
  have hdv := divB hs.1 (show 0 < b.wide by omega)
  have h01 : h = 0 ∨ h = 1 := by omega
  have m1 := mulS (a := a) (b := s / b.wide + 1) (by omega) (by omega)
  have m2 := mulS (a := o) (b := s % b.wide - hd b h) (by omega) (by omega)
  refine W.seq (W.region S ?_)
  refine AS.cons (sp_boxa 4 rfl (fun b4 => ?_))
  refine AS.cons (sp_boxa 7 rfl (fun b7 => ?_))
  refine AS.cons (sp_asg rfl ?_)
  refine AS.nil ?_
  intro _ S
  refine W.seq (W.draw S mixed (fun i => ([KD.q [], KD.q [], KD.q [4], KD.q [], KD.q [], KD.q [], KD.q [], KD.q [4], KD.q [], KD.q [], KD.q [], KD.q [4], KD.q [], KD.q [], KD.q [], KD.q []] : List KD)[i]?) [] [0, 1, 2, 3, 4, 5, 6, 7, 8, 9, 10, 11, 12, 13, 14, 15] (by kernel_rfl) ?_)
  refine AW.cons rfl rfl (sp_move (v := .int _ _) rfl ?_)
  refine AW.cons rfl rfl (sp_fa rfl fo_26_0_0 ?_)
  refine AW.cons rfl rfl (sp_ld 4 rfl rfl sc_3 rfl ?_)
  refine AW.cons rfl rfl (sp_rem rfl rfl (by first | omega | (simp only [decide_eq_true_eq, decide_eq_false_iff_not] at *; omega)) (by first | omega | (simp only [decide_eq_true_eq, decide_eq_false_iff_not] at *; omega)) ?_)
  refine AW.cons rfl rfl (sp_move (v := .int _ _) rfl ?_)
  refine AW.cons rfl rfl (sp_fa rfl fo_26_3_3 ?_)
  refine AW.cons rfl rfl (sp_iaa rfl rfl ar_23_2_3_1 (by first | omega | (simp only [decide_eq_true_eq, decide_eq_false_iff_not] at *; omega)) ?_)
  refine AW.cons rfl rfl (sp_ld 4 (v := iv (hd b h)) rfl rfl sc_3 (by rcases h01 with h | h <;> simp [h, hd]) ?_)
  refine AW.cons rfl rfl (sp_sub rfl rfl (by first | omega | (simp only [decide_eq_true_eq, decide_eq_false_iff_not] at *; omega)) ?_)
  refine AW.cons rfl rfl (sp_move (v := .int _ _) rfl ?_)
  refine AW.cons rfl rfl (sp_fa rfl fo_26_0_0 ?_)
  refine AW.cons rfl rfl (sp_ld 4 rfl rfl sc_3 rfl ?_)
  refine AW.cons rfl rfl (sp_quo rfl rfl (by first | omega | (simp only [decide_eq_true_eq, decide_eq_false_iff_not] at *; omega)) (by first | omega | (simp only [decide_eq_true_eq, decide_eq_false_iff_not] at *; omega)) ?_)
  refine AW.cons rfl rfl (sp_add rfl rfl (by first | omega | (simp only [decide_eq_true_eq, decide_eq_false_iff_not] at *; omega)) ?_)
  refine AW.cons rfl rfl (sp_asg (v := .int _ _) rfl ?_)
  refine AW.cons rfl rfl (sp_asg (v := .int _ _) rfl ?_)
  refine AW.nil ?_
  intro _ S
  refine W.seq (W.region S ?_)
  refine AS.cons (sp_fa rfl fo_44_0_0 ?_)
  refine AS.cons (sp_ld 7 rfl rfl sc_3 rfl ?_)
  refine AS.cons (sp_move (v := .int _ _) rfl ?_)
  refine AS.cons (sp_mul rfl rfl (mulB (by first | omega | (simp only [decide_eq_true_eq, decide_eq_false_iff_not] at *; omega)) (by first | omega | (simp only [decide_eq_true_eq, decide_eq_false_iff_not] at *; omega))) ?_)
  refine AS.cons (sp_fa rfl fo_44_1_1 ?_)
  refine AS.cons (sp_ld 7 rfl rfl sc_3 rfl ?_)
  refine AS.cons (sp_move (v := .int _ _) rfl ?_)
  refine AS.cons (sp_mul rfl rfl (mulB (by first | omega | (simp only [decide_eq_true_eq, decide_eq_false_iff_not] at *; omega)) (by first | omega | (simp only [decide_eq_true_eq, decide_eq_false_iff_not] at *; omega))) ?_)
  refine AS.cons (sp_sub rfl rfl (by first | omega | (simp only [decide_eq_true_eq, decide_eq_false_iff_not] at *; omega)) ?_)
  refine AS.cons (sp_geq rfl rfl ?_)
  refine AS.cons (sp_asg (v := .bool _) rfl ?_)
  refine AS.nil ?_
  intro _ S
  refine W.ret ?_
  exact ret1 rfl rfl S fun w' S' => ⟨rfl, S'.mod⟩
theorem seen (hb : Num b) (c : Cry) (hc : CryOk c) (s : Int) (hs : 0 ≤ s ∧ s ≤ 1000) (w : World) : Ct Tryd.prog 46 #[.agg (bkL b la lc ca cc).toArray, .agg (cyL c).toArray, iv s] w (fun v w' => v = .bool (decide (Btw b c (s % b.wide) (s / b.wide))) ∧ Ext w w') := by
  refine fn_intro (args := [.agg (bkL b la lc ca cc).toArray, .agg (cyL c).toArray, iv s]) Tryd.func46 rfl rfl (by kernel_rfl) ?_
  have S := St.start no w
  have hhd := hdB hb c.h
  have hb0 := hb
  obtain ⟨hw, _⟩ := hb
  have hdv := divB hs.1 (show 0 < b.wide by omega)
  obtain ⟨hh, _, _, hf, ht, _⟩ := hc
  have h01 : c.h = 0 ∨ c.h = 1 := by omega
  have m1 := mulS (a := s % b.wide - hd b c.h) (b := c.tO) (by omega) (by omega)
  have m2 := mulS (a := s / b.wide + 1) (b := c.ta) (by omega) (by omega)
  refine W.seq (W.region S ?_)
  refine AS.cons (sp_boxa 3 rfl (fun b3 => ?_))
  refine AS.cons (sp_boxa 4 rfl (fun b4 => ?_))
  refine AS.cons (sp_asg rfl ?_)
  refine AS.nil ?_
  intro _ S
  refine W.seq (W.draw S mixed (fun i => ([KD.q [], KD.q [], KD.q [3], KD.q [], KD.q [], KD.q [4], KD.q [], KD.q [], KD.q [3], KD.q [], KD.q [], KD.q [], KD.q [3], KD.q [], KD.q [], KD.q [], KD.q []] : List KD)[i]?) [] [0, 1, 2, 3, 4, 5, 6, 7, 8, 9, 10, 11, 12, 13, 14, 15, 16] (by kernel_rfl) ?_)
  refine AW.cons rfl rfl (sp_move (v := .int _ _) rfl ?_)
  refine AW.cons rfl rfl (sp_fa rfl fo_26_0_0 ?_)
  refine AW.cons rfl rfl (sp_ld 3 rfl rfl sc_3 rfl ?_)
  refine AW.cons rfl rfl (sp_rem rfl rfl (by first | omega | (simp only [decide_eq_true_eq, decide_eq_false_iff_not] at *; omega)) (by first | omega | (simp only [decide_eq_true_eq, decide_eq_false_iff_not] at *; omega)) ?_)
  refine AW.cons rfl rfl (sp_fa rfl fo_46_0_0 ?_)
  refine AW.cons rfl rfl (sp_ld 4 rfl rfl sc_3 rfl ?_)
  refine AW.cons rfl rfl (sp_fa rfl fo_26_3_3 ?_)
  refine AW.cons rfl rfl (sp_iaa rfl rfl ar_23_2_3_1 (by first | omega | (simp only [decide_eq_true_eq, decide_eq_false_iff_not] at *; omega)) ?_)
  refine AW.cons rfl rfl (sp_ld 3 (v := iv (hd b c.h)) rfl rfl sc_3 (by rcases h01 with h | h <;> simp [h, hd]) ?_)
  refine AW.cons rfl rfl (sp_sub rfl rfl (by first | omega | (simp only [decide_eq_true_eq, decide_eq_false_iff_not] at *; omega)) ?_)
  refine AW.cons rfl rfl (sp_move (v := .int _ _) rfl ?_)
  refine AW.cons rfl rfl (sp_fa rfl fo_26_0_0 ?_)
  refine AW.cons rfl rfl (sp_ld 3 rfl rfl sc_3 rfl ?_)
  refine AW.cons rfl rfl (sp_quo rfl rfl (by first | omega | (simp only [decide_eq_true_eq, decide_eq_false_iff_not] at *; omega)) (by first | omega | (simp only [decide_eq_true_eq, decide_eq_false_iff_not] at *; omega)) ?_)
  refine AW.cons rfl rfl (sp_add rfl rfl (by first | omega | (simp only [decide_eq_true_eq, decide_eq_false_iff_not] at *; omega)) ?_)
  refine AW.cons rfl rfl (sp_asg (v := .int _ _) rfl ?_)
  refine AW.cons rfl rfl (sp_asg (v := .int _ _) rfl ?_)
  refine AW.nil ?_
  intro _ S
  refine W.seq (W.regionc S [6, 24, 25, 26, 27, 28, 29, 30, 31, 32, 33, 34, 35, 36, 37, 38, 39, 40, 41, 42, 43, 44] 6 (Btw b c (s % b.wide) (s / b.wide)) ?_ ?_)
  · skip
    refine AS.cons (sp_ldw 3 rfl rfl ag_26_7 ?_)
    refine AS.cons (sp_fa rfl fo_46_0_0 ?_)
    refine AS.cons (sp_ld 4 rfl rfl sc_3 rfl ?_)
    refine AS.cons (sp_move (v := .int _ _) rfl ?_)
    refine AS.cons (sp_fa rfl fo_46_3_3 ?_)
    refine AS.cons (sp_lda 4 2 rfl rfl ag_44_2 rfl ?_)
    refine AS.cons (sp_call [] rfl rfl cf_95 (fun F w _ S => behind _ _ _ _ _ (by assumption) _ _ _ _ (by omega) (by omega) (by assumption) w) ?_)
    refine AS.cons (sp_move (v := .bool _) rfl ?_)
    refine AS.split 31 rfl (fun g31 => ?_) (fun g31 => ?_)
    · skip
      refine AS.cons (sp_move (v := .int _ _) rfl ?_)
      refine AS.cons (sp_fa rfl fo_46_4_5 ?_)
      refine AS.cons (sp_fa rfl fo_44_1_1 ?_)
      refine AS.cons (sp_ld 4 rfl rfl sc_3 rfl ?_)
      refine AS.cons (sp_mul rfl rfl (mulB (by first | omega | (simp only [decide_eq_true_eq, decide_eq_false_iff_not] at *; omega)) (by first | omega | (simp only [decide_eq_true_eq, decide_eq_false_iff_not] at *; omega))) ?_)
      refine AS.cons (sp_move (v := .int _ _) rfl ?_)
      refine AS.cons (sp_fa rfl fo_46_4_5 ?_)
      refine AS.cons (sp_fa rfl fo_44_0_0 ?_)
      refine AS.cons (sp_ld 4 rfl rfl sc_3 rfl ?_)
      refine AS.cons (sp_mul rfl rfl (mulB (by first | omega | (simp only [decide_eq_true_eq, decide_eq_false_iff_not] at *; omega)) (by first | omega | (simp only [decide_eq_true_eq, decide_eq_false_iff_not] at *; omega))) ?_)
      refine AS.cons (sp_sub rfl rfl (by first | omega | (simp only [decide_eq_true_eq, decide_eq_false_iff_not] at *; omega)) ?_)
      refine AS.cons (sp_geq rfl rfl ?_)
      refine AS.cons (sp_pick_t rfl (v := .bool _) rfl ?_)
      refine AS.cons (sp_asg (v := .bool _) rfl ?_)
      refine AS.nil ⟨⟨_, rfl, ?_⟩, ?_, rfl⟩
      · (try simp only [decide_eq_true_eq] at *); first | omega | (simp_all; done) | (simp_all; omega)
      · repeat (first | exact Agr.refl _ _ | exact Agr.msk _ _ _ | refine Agr.upd ?_ _ rfl | refine Agr.upds ?_ rfl | refine Agr.mskIn ?_ rfl)
    · skip
      refine AS.cons (sp_skip rfl ?_)
      refine AS.cons (sp_skip rfl ?_)
      refine AS.cons (sp_skip rfl ?_)
      refine AS.cons (sp_skip rfl ?_)
      refine AS.cons (sp_skip rfl ?_)
      refine AS.cons (sp_skip rfl ?_)
      refine AS.cons (sp_skip rfl ?_)
      refine AS.cons (sp_skip rfl ?_)
      refine AS.cons (sp_skip rfl ?_)
      refine AS.cons (sp_skip rfl ?_)
      refine AS.cons (sp_skip rfl ?_)
      refine AS.cons (sp_skip rfl ?_)
      refine AS.cons (sp_pick_f rfl (v := .bool _) rfl ?_)
      refine AS.cons (sp_asg (v := .bool _) rfl ?_)
      refine AS.nil ⟨⟨_, rfl, ?_⟩, ?_, rfl⟩
      · (try simp only [decide_eq_false_iff_not] at *); first | omega | (simp_all; done) | (simp_all; omega)
      · repeat (first | exact Agr.refl _ _ | exact Agr.msk _ _ _ | refine Agr.upd ?_ _ rfl | refine Agr.upds ?_ rfl | refine Agr.mskIn ?_ rfl)
  intro σ2 _ S
  refine W.ret ?_
  exact ret1 rfl rfl S fun w' S' => ⟨rfl, S'.mod⟩
theorem nowhere (w : World) : Ct Tryd.prog 103 #[] w (fun v w' => v = .agg falses.toArray ∧ Ext w w') := by
  refine fn_intro (args := []) Tryd.func103 rfl rfl (by kernel_rfl) ?_
  have S := St.start no w
  refine W.seq (W.region S ?_)
  refine AS.cons (sp_alloc 0 zv_112 rfl (fun b0 => ?_))
  refine AS.nil ?_
  intro _ S
  refine W.seq (W.region S ?_)
  refine AS.cons (sp_alloc 1 zv_112 rfl (fun b1 => ?_))
  refine AS.nil ?_
  intro _ S
  refine W.seq (W.region S ?_)
  refine AS.cons (sp_ldw 1 rfl rfl ag_112_80 ?_)
  refine AS.cons (sp_st 0 rfl rfl rfl rfl sz_112_80 rfl rfl ?_)
  refine AS.nil ?_
  intro _ S
  refine W.ret ?_
  exact retc 0 ag_112_80 rfl rfl rfl rfl rfl S fun w' S' => ⟨rfl, S'.mod⟩
theorem onF (w : World) : Ct Tryd.prog 102 #[] w (fun v w' => v = .agg [iv 0, .func (.func 110) #[] #[]].toArray ∧ Ext w w') := by
  refine fn_intro (args := []) Tryd.func102 rfl rfl (by kernel_rfl) ?_
  have S := St.start no w
  refine W.seq (W.region S ?_)
  refine AS.cons (sp_alloc 0 zv_117 rfl (fun b0 => ?_))
  refine AS.nil ?_
  intro _ S
  refine W.seq (W.region S ?_)
  refine AS.cons (sp_build [iv 0, .func (.func 110) #[] #[]] (by kernel_rfl) ?_)
  refine AS.cons (sp_st 0 rfl rfl rfl rfl sz_117_2 rfl rfl ?_)
  refine AS.nil ?_
  intro _ S
  refine W.ret ?_
  exact retc 0 ag_117_2 rfl rfl rfl rfl rfl S fun w' S' => ⟨rfl, S'.mod⟩
theorem backF (w : World) : Ct Tryd.prog 106 #[] w (fun v w' => v = .agg [iv 30, .func (.func 113) #[] #[]].toArray ∧ Ext w w') := by
  refine fn_intro (args := []) Tryd.func106 rfl rfl (by kernel_rfl) ?_
  have S := St.start no w
  refine W.seq (W.region S ?_)
  refine AS.cons (sp_alloc 0 zv_117 rfl (fun b0 => ?_))
  refine AS.nil ?_
  intro _ S
  refine W.seq (W.region S ?_)
  refine AS.cons (sp_build [iv 30, .func (.func 113) #[] #[]] (by kernel_rfl) ?_)
  refine AS.cons (sp_st 0 rfl rfl rfl rfl sz_117_2 rfl rfl ?_)
  refine AS.nil ?_
  intro _ S
  refine W.ret ?_
  exact retc 0 ag_117_2 rfl rfl rfl rfl rfl S fun w' S' => ⟨rfl, S'.mod⟩
theorem sees (hb : Num b) (c : Cry) (hc : CryOk c) (x y : Int) (hx : 0 ≤ x ∧ x ≤ 1000) (hy : 0 ≤ y ∧ y ≤ 1000) (w : World) : Ct Tryd.prog 132 #[.agg (bayL b la lc ca cc mp).toArray, .agg (cyL c).toArray, .agg [iv x, iv y].toArray] w (fun v w' => v = .bool (decide (Btw b c x y)) ∧ Ext w w') := by
  refine fn_intro (args := [.agg (bayL b la lc ca cc mp).toArray, .agg (cyL c).toArray, .agg [iv x, iv y].toArray]) Tryd.func132 rfl rfl (by kernel_rfl) ?_
  have S := St.start no w
  refine W.seq (W.region S ?_)
  refine AS.cons (sp_boxa 3 rfl (fun b3 => ?_))
  refine AS.cons (sp_boxa 4 rfl (fun b4 => ?_))
  refine AS.cons (sp_boxa 5 rfl (fun b5 => ?_))
  refine AS.cons (sp_asg rfl ?_)
  refine AS.nil ?_
  intro _ S
  refine W.seq (W.region S ?_)
  refine AS.cons (sp_ldw 3 rfl rfl ag_77_8 ?_)
  refine AS.cons (sp_ldw 4 rfl rfl ag_46_7 ?_)
  refine AS.cons (sp_ldw 5 rfl rfl ag_82_2 ?_)
  refine AS.cons (sp_call [] rfl rfl cf_65 (fun F w _ S => betweenC _ _ _ _ _ _ (by assumption) _ (by assumption) _ _ (by omega) (by omega) w) ?_)
  refine AS.cons (sp_asg (v := .bool _) rfl ?_)
  refine AS.nil ?_
  intro _ S
  refine W.ret ?_
  exact ret1 rfl rfl S fun w' S' => ⟨rfl, S'.mod⟩
theorem notF (hb : Num b) (c : Cry) (hc : CryOk c) (x y : Int) (hx : 0 ≤ x ∧ x ≤ 1000) (hy : 0 ≤ y ∧ y ≤ 1000) (w : World) : Ct Tryd.prog 133 #[.agg (bayL b la lc ca cc mp).toArray, .agg (cyL c).toArray, .agg [iv x, iv y].toArray] w (fun v w' => v = .bool (!decide (Btw b c x y)) ∧ Ext w w') := by
  refine fn_intro (args := [.agg (bayL b la lc ca cc mp).toArray, .agg (cyL c).toArray, .agg [iv x, iv y].toArray]) Tryd.func133 rfl rfl (by kernel_rfl) ?_
  have S := St.start no w
  refine W.seq (W.region S ?_)
  refine AS.cons (sp_boxa 3 rfl (fun b3 => ?_))
  refine AS.cons (sp_boxa 4 rfl (fun b4 => ?_))
  refine AS.cons (sp_boxa 5 rfl (fun b5 => ?_))
  refine AS.cons (sp_asg rfl ?_)
  refine AS.nil ?_
  intro _ S
  refine W.seq (W.region S ?_)
  refine AS.cons (sp_ldw 3 rfl rfl ag_77_8 ?_)
  refine AS.cons (sp_ldw 4 rfl rfl ag_46_7 ?_)
  refine AS.cons (sp_ldw 5 rfl rfl ag_82_2 ?_)
  refine AS.cons (sp_call [] rfl rfl cf_65 (fun F w _ S => betweenC _ _ _ _ _ _ (by assumption) _ (by assumption) _ _ (by omega) (by omega) w) ?_)
  refine AS.cons (sp_not rfl ?_)
  refine AS.cons (sp_asg (v := .bool _) rfl ?_)
  refine AS.nil ?_
  intro _ S
  refine W.ret ?_
  exact ret1 rfl rfl S fun w' S' => ⟨rfl, S'.mod⟩
theorem isCry (c : Cry) (w : World) : Ct Tryd.prog 69 #[.agg (cyL c).toArray] w (fun v w' => v = .bool (decide (CryOk c)) ∧ Ext w w') := by
  refine fn_intro (args := [.agg (cyL c).toArray]) Tryd.func69 rfl rfl (by kernel_rfl) ?_
  have S := St.start no w
  refine W.seq (W.region S ?_)
  refine AS.cons (sp_boxa 1 rfl (fun b1 => ?_))
  refine AS.cons (sp_asg rfl ?_)
  refine AS.nil ?_
  intro _ S
  refine W.seq (W.regionc S [3, 6, 7, 8, 9, 10, 11, 12, 13, 14, 15, 16, 17, 18] 3 ((0 ≤ c.h ∧ c.h ≤ 1) ∧ (0 ≤ c.m ∧ c.m ≤ 30) ∧ (0 ≤ c.k ∧ c.k ≤ 1)) ?_ ?_)
  · skip
    refine AS.cons (sp_fa rfl fo_46_0_0 ?_)
    refine AS.cons (sp_ld 1 rfl rfl sc_3 rfl ?_)
    refine AS.cons (sp_call [] rfl rfl cf_62 (fun F w _ S => within _ _ _ w) ?_)
    refine AS.cons (sp_move (v := .bool _) rfl ?_)
    refine AS.split 9 rfl (fun g9 => ?_) (fun g9 => ?_)
    · skip
      refine AS.cons (sp_fa rfl fo_46_1_1 ?_)
      refine AS.cons (sp_ld 1 rfl rfl sc_3 rfl ?_)
      refine AS.cons (sp_call [] rfl rfl cf_62 (fun F w _ S => within _ _ _ w) ?_)
      refine AS.cons (sp_pick_t rfl (v := .bool _) rfl ?_)
      refine AS.cons (sp_move (v := .bool _) rfl ?_)
      refine AS.split 14 rfl (fun g14 => ?_) (fun g14 => ?_)
      · skip
        refine AS.cons (sp_fa rfl fo_46_2_2 ?_)
        refine AS.cons (sp_ld 1 rfl rfl sc_3 rfl ?_)
        refine AS.cons (sp_call [] rfl rfl cf_62 (fun F w _ S => within _ _ _ w) ?_)
        refine AS.cons (sp_pick_t rfl (v := .bool _) rfl ?_)
        refine AS.cons (sp_asg (v := .bool _) rfl ?_)
        refine AS.nil ⟨⟨_, rfl, ?_⟩, ?_, rfl⟩
        · (try simp only [decide_eq_true_eq] at *); first | omega | (simp_all; done) | (simp_all; omega)
        · repeat (first | exact Agr.refl _ _ | exact Agr.msk _ _ _ | refine Agr.upd ?_ _ rfl | refine Agr.upds ?_ rfl | refine Agr.mskIn ?_ rfl)
      · skip
        refine AS.cons (sp_skip rfl ?_)
        refine AS.cons (sp_skip rfl ?_)
        refine AS.cons (sp_skip rfl ?_)
        refine AS.cons (sp_pick_f rfl (v := .bool _) rfl ?_)
        refine AS.cons (sp_asg (v := .bool _) rfl ?_)
        refine AS.nil ⟨⟨_, rfl, ?_⟩, ?_, rfl⟩
        · (try simp only [decide_eq_true_eq, decide_eq_false_iff_not] at *); first | omega | (simp_all; done) | (simp_all; omega)
        · repeat (first | exact Agr.refl _ _ | exact Agr.msk _ _ _ | refine Agr.upd ?_ _ rfl | refine Agr.upds ?_ rfl | refine Agr.mskIn ?_ rfl)
    · skip
      refine AS.cons (sp_skip rfl ?_)
      refine AS.cons (sp_skip rfl ?_)
      refine AS.cons (sp_skip rfl ?_)
      refine AS.cons (sp_pick_f rfl (v := .bool _) rfl ?_)
      refine AS.cons (sp_move (v := .bool _) rfl ?_)
      refine AS.cons (sp_skip rfl ?_)
      refine AS.cons (sp_skip rfl ?_)
      refine AS.cons (sp_skip rfl ?_)
      refine AS.cons (sp_pick_f rfl (v := .bool _) rfl ?_)
      refine AS.cons (sp_asg (v := .bool _) rfl ?_)
      refine AS.nil ⟨⟨_, rfl, ?_⟩, ?_, rfl⟩
      · (try simp only [decide_eq_false_iff_not] at *); first | omega | (simp_all; done) | (simp_all; omega)
      · repeat (first | exact Agr.refl _ _ | exact Agr.msk _ _ _ | refine Agr.upd ?_ _ rfl | refine Agr.upds ?_ rfl | refine Agr.mskIn ?_ rfl)
  intro σ1 _ S
  refine W.seq (W.seq (W.region S ?_))
  refine AS.cons (sp_fa rfl fo_46_3_3 ?_)
  refine AS.cons (sp_lda 1 2 rfl rfl ag_44_2 rfl ?_)
  refine AS.cons (sp_fa rfl fo_46_4_5 ?_)
  refine AS.cons (sp_lda 1 2 rfl rfl ag_44_2 rfl ?_)
  refine AS.cons (sp_bs 23 [.tmp 20, .tmp 22] _ sl_110_44_2 zs_44_2 rfl rfl rfl rfl rfl rfl (fun b23 => ?_))
  refine AS.cons (sp_len rfl sl_110_44_2 ?_)
  refine AS.cons (sp_move rfl ?_)
  refine AS.nil ?_
  intro _ S
  refine W.block ?_
  refine W.unroll ?_
  refine W.seq (W.region S ?_)
  refine AS.cons (sp_lss rfl rfl ?_)
  refine AS.nil ?_
  intro _ S
  refine W.seq (W.cond (b := true) rfl (fun _ => ?_) (fun h => nomatch h))
  refine W.skip ?_
  refine W.seq (W.block ?_)
  refine W.seq (W.region S ?_)
  refine AS.cons (sp_ia rfl rfl sl_110_44_2 (by first | omega | (simp only [decide_eq_true_eq, decide_eq_false_iff_not] at *; omega)) ?_)
  refine AS.cons (sp_lda 23 2 rfl rfl ag_44_2 rfl ?_)
  refine AS.cons (sp_alloc 5 zv_44 rfl (fun b5 => ?_))
  refine AS.cons (sp_st 5 rfl rfl rfl rfl sz_44_2 rfl rfl ?_)
  refine AS.nil ?_
  intro _ S
  refine W.region S ?_
  refine AS.cons (sp_move (v := .bool _) rfl ?_)
  refine AS.cons (sp_move (v := .bool _) rfl ?_)
  refine AS.split 30 rfl (fun g30 => ?_) (fun g30 => ?_)
  · skip
    refine AS.cons (sp_fa rfl fo_44_0_0 ?_)
    refine AS.cons (sp_ld 5 rfl rfl sc_3 rfl ?_)
    refine AS.cons (sp_call [] rfl rfl cf_62 (fun F w _ S => within _ _ _ w) ?_)
    refine AS.cons (sp_pick_t rfl (v := .bool _) rfl ?_)
    refine AS.cons (sp_move (v := .bool _) rfl ?_)
    refine AS.split 35 rfl (fun g35 => ?_) (fun g35 => ?_)
    · skip
      refine AS.cons (sp_fa rfl fo_44_1_1 ?_)
      refine AS.cons (sp_ld 5 rfl rfl sc_3 rfl ?_)
      refine AS.cons (sp_call [] rfl rfl cf_62 (fun F w _ S => within _ _ _ w) ?_)
      refine AS.cons (sp_pick_t rfl (v := .bool _) rfl ?_)
      refine AS.cons (sp_asg (v := .bool _) rfl ?_)
      refine AS.nil ?_
      intro _ S
      refine W.region S ?_
      refine AS.cons (sp_add rfl rfl (by first | omega | (simp only [decide_eq_true_eq, decide_eq_false_iff_not] at *; omega)) ?_)
      refine AS.cons (sp_move (v := .int _ _) rfl ?_)
      refine AS.nil ?_
      intro _ S
      refine RE.unroll ?_
      refine W.seq (W.region S ?_)
      refine AS.cons (sp_lss rfl rfl ?_)
      refine AS.nil ?_
      intro _ S
      refine W.seq (W.cond (b := true) rfl (fun _ => ?_) (fun h => nomatch h))
      refine W.skip ?_
      refine W.seq (W.block ?_)
      refine W.seq (W.region S ?_)
      refine AS.cons (sp_ia rfl rfl sl_110_44_2 (by first | omega | (simp only [decide_eq_true_eq, decide_eq_false_iff_not] at *; omega)) ?_)
      refine AS.cons (sp_lda 23 2 rfl rfl ag_44_2 rfl ?_)
      refine AS.cons (sp_alloc 5 zv_44 rfl (fun b5 => ?_))
      refine AS.cons (sp_st 5 rfl rfl rfl rfl sz_44_2 rfl rfl ?_)
      refine AS.nil ?_
      intro _ S
      refine W.region S ?_
      refine AS.cons (sp_move (v := .bool _) rfl ?_)
      refine AS.cons (sp_move (v := .bool _) rfl ?_)
      refine AS.split 30 rfl (fun g30 => ?_) (fun g30 => ?_)
      · skip
        refine AS.cons (sp_fa rfl fo_44_0_0 ?_)
        refine AS.cons (sp_ld 5 rfl rfl sc_3 rfl ?_)
        refine AS.cons (sp_call [] rfl rfl cf_62 (fun F w _ S => within _ _ _ w) ?_)
        refine AS.cons (sp_pick_t rfl (v := .bool _) rfl ?_)
        refine AS.cons (sp_move (v := .bool _) rfl ?_)
        refine AS.split 35 rfl (fun g35 => ?_) (fun g35 => ?_)
        · skip
          refine AS.cons (sp_fa rfl fo_44_1_1 ?_)
          refine AS.cons (sp_ld 5 rfl rfl sc_3 rfl ?_)
          refine AS.cons (sp_call [] rfl rfl cf_62 (fun F w _ S => within _ _ _ w) ?_)
          refine AS.cons (sp_pick_t rfl (v := .bool _) rfl ?_)
          refine AS.cons (sp_asg (v := .bool _) rfl ?_)
          refine AS.nil ?_
          intro _ S
          refine W.region S ?_
          refine AS.cons (sp_add rfl rfl (by first | omega | (simp only [decide_eq_true_eq, decide_eq_false_iff_not] at *; omega)) ?_)
          refine AS.cons (sp_move (v := .int _ _) rfl ?_)
          refine AS.nil ?_
          intro _ S
          refine RE.unroll ?_
          refine W.seq (W.region S ?_)
          refine AS.cons (sp_lss rfl rfl ?_)
          refine AS.nil ?_
          intro _ S
          refine W.seq (W.cond (b := false) rfl (fun h => nomatch h) (fun _ => ?_))
          refine W.exit ?_
          refine W.seq (W.regionc S [2, 41, 42, 43, 44, 45, 46, 47, 48, 49, 50, 51, 52, 53, 54, 55, 56, 57, 58] 2 (CryOk c) ?_ ?_)
          · skip
            refine AS.cons (sp_move (v := .bool _) rfl ?_)
            refine AS.cons (sp_move (v := .bool _) rfl ?_)
            refine AS.split 42 rfl (fun g42 => ?_) (fun g42 => ?_)
            · skip
              refine AS.cons (sp_fa rfl fo_46_3_3 ?_)
              refine AS.cons (sp_fa rfl fo_44_0_0 ?_)
              refine AS.cons (sp_ld 1 rfl rfl sc_3 rfl ?_)
              refine AS.cons (sp_fa rfl fo_46_4_5 ?_)
              refine AS.cons (sp_fa rfl fo_44_1_1 ?_)
              refine AS.cons (sp_ld 1 rfl rfl sc_3 rfl ?_)
              refine AS.cons (sp_mul rfl rfl (mulB (by first | omega | (simp only [decide_eq_true_eq] at *; omega)) (by first | omega | (simp only [decide_eq_true_eq] at *; omega))) ?_)
              refine AS.cons (sp_fa rfl fo_46_3_3 ?_)
              refine AS.cons (sp_fa rfl fo_44_1_1 ?_)
              refine AS.cons (sp_ld 1 rfl rfl sc_3 rfl ?_)
              refine AS.cons (sp_fa rfl fo_46_4_5 ?_)
              refine AS.cons (sp_fa rfl fo_44_0_0 ?_)
              refine AS.cons (sp_ld 1 rfl rfl sc_3 rfl ?_)
              refine AS.cons (sp_mul rfl rfl (mulB (by first | omega | (simp only [decide_eq_true_eq] at *; omega)) (by first | omega | (simp only [decide_eq_true_eq] at *; omega))) ?_)
              refine AS.cons (sp_geq rfl rfl ?_)
              refine AS.cons (sp_pick_t rfl (v := .bool _) rfl ?_)
              refine AS.cons (sp_asg (v := .bool _) rfl ?_)
              refine AS.nil ⟨⟨_, rfl, ?_⟩, ?_, rfl⟩
              · (try simp only [decide_eq_true_eq] at *); first | omega | (simp_all; done) | (simp_all; omega)
              · repeat (first | exact Agr.refl _ _ | exact Agr.msk _ _ _ | refine Agr.upd ?_ _ rfl | refine Agr.upds ?_ rfl | refine Agr.mskIn ?_ rfl)
            · skip
              refine AS.cons (sp_skip rfl ?_)
              refine AS.cons (sp_skip rfl ?_)
              refine AS.cons (sp_skip rfl ?_)
              refine AS.cons (sp_skip rfl ?_)
              refine AS.cons (sp_skip rfl ?_)
              refine AS.cons (sp_skip rfl ?_)
              refine AS.cons (sp_skip rfl ?_)
              refine AS.cons (sp_skip rfl ?_)
              refine AS.cons (sp_skip rfl ?_)
              refine AS.cons (sp_skip rfl ?_)
              refine AS.cons (sp_skip rfl ?_)
              refine AS.cons (sp_skip rfl ?_)
              refine AS.cons (sp_skip rfl ?_)
              refine AS.cons (sp_skip rfl ?_)
              refine AS.cons (sp_skip rfl ?_)
              refine AS.cons (sp_pick_f rfl (v := .bool _) rfl ?_)
              refine AS.cons (sp_asg (v := .bool _) rfl ?_)
              refine AS.nil ⟨⟨_, rfl, ?_⟩, ?_, rfl⟩
              · (try simp only [decide_eq_true_eq, decide_eq_false_iff_not] at *); first | omega | (simp_all; done) | (simp_all; omega)
              · repeat (first | exact Agr.refl _ _ | exact Agr.msk _ _ _ | refine Agr.upd ?_ _ rfl | refine Agr.upds ?_ rfl | refine Agr.mskIn ?_ rfl)
          intro σ7 _ S
          refine W.ret ?_
          exact ret1 rfl rfl S fun w' S' => ⟨rfl, S'.mod⟩
        · skip
          refine AS.cons (sp_skip rfl ?_)
          refine AS.cons (sp_skip rfl ?_)
          refine AS.cons (sp_skip rfl ?_)
          refine AS.cons (sp_pick_f rfl (v := .bool _) rfl ?_)
          refine AS.cons (sp_asg (v := .bool _) rfl ?_)
          refine AS.nil ?_
          intro _ S
          refine W.region S ?_
          refine AS.cons (sp_add rfl rfl (by first | omega | (simp only [decide_eq_true_eq, decide_eq_false_iff_not] at *; omega)) ?_)
          refine AS.cons (sp_move (v := .int _ _) rfl ?_)
          refine AS.nil ?_
          intro _ S
          refine RE.unroll ?_
          refine W.seq (W.region S ?_)
          refine AS.cons (sp_lss rfl rfl ?_)
          refine AS.nil ?_
          intro _ S
          refine W.seq (W.cond (b := false) rfl (fun h => nomatch h) (fun _ => ?_))
          refine W.exit ?_
          refine W.seq (W.regionc S [2, 41, 42, 43, 44, 45, 46, 47, 48, 49, 50, 51, 52, 53, 54, 55, 56, 57, 58] 2 (CryOk c) ?_ ?_)
          · skip
            refine AS.cons (sp_move (v := .bool _) rfl ?_)
            refine AS.cons (sp_move (v := .bool _) rfl ?_)
            refine AS.cons (sp_skip rfl ?_)
            refine AS.cons (sp_skip rfl ?_)
            refine AS.cons (sp_skip rfl ?_)
            refine AS.cons (sp_skip rfl ?_)
            refine AS.cons (sp_skip rfl ?_)
            refine AS.cons (sp_skip rfl ?_)
            refine AS.cons (sp_skip rfl ?_)
            refine AS.cons (sp_skip rfl ?_)
            refine AS.cons (sp_skip rfl ?_)
            refine AS.cons (sp_skip rfl ?_)
            refine AS.cons (sp_skip rfl ?_)
            refine AS.cons (sp_skip rfl ?_)
            refine AS.cons (sp_skip rfl ?_)
            refine AS.cons (sp_skip rfl ?_)
            refine AS.cons (sp_skip rfl ?_)
            refine AS.cons (sp_pick_f rfl (v := .bool _) rfl ?_)
            refine AS.cons (sp_asg (v := .bool _) rfl ?_)
            refine AS.nil ⟨⟨_, rfl, ?_⟩, ?_, rfl⟩
            · (try simp only [decide_eq_true_eq, decide_eq_false_iff_not] at *); first | omega | (simp_all; done) | (simp_all; omega)
            · repeat (first | exact Agr.refl _ _ | exact Agr.msk _ _ _ | refine Agr.upd ?_ _ rfl | refine Agr.upds ?_ rfl | refine Agr.mskIn ?_ rfl)
          intro σ7 _ S
          refine W.ret ?_
          exact ret1 rfl rfl S fun w' S' => ⟨rfl, S'.mod⟩
      · skip
        refine AS.cons (sp_skip rfl ?_)
        refine AS.cons (sp_skip rfl ?_)
        refine AS.cons (sp_skip rfl ?_)
        refine AS.cons (sp_pick_f rfl (v := .bool _) rfl ?_)
        refine AS.cons (sp_move (v := .bool _) rfl ?_)
        refine AS.cons (sp_skip rfl ?_)
        refine AS.cons (sp_skip rfl ?_)
        refine AS.cons (sp_skip rfl ?_)
        refine AS.cons (sp_pick_f rfl (v := .bool _) rfl ?_)
        refine AS.cons (sp_asg (v := .bool _) rfl ?_)
        refine AS.nil ?_
        intro _ S
        refine W.region S ?_
        refine AS.cons (sp_add rfl rfl (by first | omega | (simp only [decide_eq_true_eq, decide_eq_false_iff_not] at *; omega)) ?_)
        refine AS.cons (sp_move (v := .int _ _) rfl ?_)
        refine AS.nil ?_
        intro _ S
        refine RE.unroll ?_
        refine W.seq (W.region S ?_)
        refine AS.cons (sp_lss rfl rfl ?_)
        refine AS.nil ?_
        intro _ S
        refine W.seq (W.cond (b := false) rfl (fun h => nomatch h) (fun _ => ?_))
        refine W.exit ?_
        refine W.seq (W.regionc S [2, 41, 42, 43, 44, 45, 46, 47, 48, 49, 50, 51, 52, 53, 54, 55, 56, 57, 58] 2 (CryOk c) ?_ ?_)
        · skip
          refine AS.cons (sp_move (v := .bool _) rfl ?_)
          refine AS.cons (sp_move (v := .bool _) rfl ?_)
          refine AS.cons (sp_skip rfl ?_)
          refine AS.cons (sp_skip rfl ?_)
          refine AS.cons (sp_skip rfl ?_)
          refine AS.cons (sp_skip rfl ?_)
          refine AS.cons (sp_skip rfl ?_)
          refine AS.cons (sp_skip rfl ?_)
          refine AS.cons (sp_skip rfl ?_)
          refine AS.cons (sp_skip rfl ?_)
          refine AS.cons (sp_skip rfl ?_)
          refine AS.cons (sp_skip rfl ?_)
          refine AS.cons (sp_skip rfl ?_)
          refine AS.cons (sp_skip rfl ?_)
          refine AS.cons (sp_skip rfl ?_)
          refine AS.cons (sp_skip rfl ?_)
          refine AS.cons (sp_skip rfl ?_)
          refine AS.cons (sp_pick_f rfl (v := .bool _) rfl ?_)
          refine AS.cons (sp_asg (v := .bool _) rfl ?_)
          refine AS.nil ⟨⟨_, rfl, ?_⟩, ?_, rfl⟩
          · (try simp only [decide_eq_true_eq, decide_eq_false_iff_not] at *); first | omega | (simp_all; done) | (simp_all; omega)
          · repeat (first | exact Agr.refl _ _ | exact Agr.msk _ _ _ | refine Agr.upd ?_ _ rfl | refine Agr.upds ?_ rfl | refine Agr.mskIn ?_ rfl)
        intro σ7 _ S
        refine W.ret ?_
        exact ret1 rfl rfl S fun w' S' => ⟨rfl, S'.mod⟩
    · skip
      refine AS.cons (sp_skip rfl ?_)
      refine AS.cons (sp_skip rfl ?_)
      refine AS.cons (sp_skip rfl ?_)
      refine AS.cons (sp_pick_f rfl (v := .bool _) rfl ?_)
      refine AS.cons (sp_asg (v := .bool _) rfl ?_)
      refine AS.nil ?_
      intro _ S
      refine W.region S ?_
      refine AS.cons (sp_add rfl rfl (by first | omega | (simp only [decide_eq_true_eq, decide_eq_false_iff_not] at *; omega)) ?_)
      refine AS.cons (sp_move (v := .int _ _) rfl ?_)
      refine AS.nil ?_
      intro _ S
      refine RE.unroll ?_
      refine W.seq (W.region S ?_)
      refine AS.cons (sp_lss rfl rfl ?_)
      refine AS.nil ?_
      intro _ S
      refine W.seq (W.cond (b := true) rfl (fun _ => ?_) (fun h => nomatch h))
      refine W.skip ?_
      refine W.seq (W.block ?_)
      refine W.seq (W.region S ?_)
      refine AS.cons (sp_ia rfl rfl sl_110_44_2 (by first | omega | (simp only [decide_eq_true_eq, decide_eq_false_iff_not] at *; omega)) ?_)
      refine AS.cons (sp_lda 23 2 rfl rfl ag_44_2 rfl ?_)
      refine AS.cons (sp_alloc 5 zv_44 rfl (fun b5 => ?_))
      refine AS.cons (sp_st 5 rfl rfl rfl rfl sz_44_2 rfl rfl ?_)
      refine AS.nil ?_
      intro _ S
      refine W.region S ?_
      refine AS.cons (sp_move (v := .bool _) rfl ?_)
      refine AS.cons (sp_move (v := .bool _) rfl ?_)
      refine AS.cons (sp_skip rfl ?_)
      refine AS.cons (sp_skip rfl ?_)
      refine AS.cons (sp_skip rfl ?_)
      refine AS.cons (sp_pick_f rfl (v := .bool _) rfl ?_)
      refine AS.cons (sp_move (v := .bool _) rfl ?_)
      refine AS.cons (sp_skip rfl ?_)
      refine AS.cons (sp_skip rfl ?_)
      refine AS.cons (sp_skip rfl ?_)
      refine AS.cons (sp_pick_f rfl (v := .bool _) rfl ?_)
      refine AS.cons (sp_asg (v := .bool _) rfl ?_)
      refine AS.nil ?_
      intro _ S
      refine W.region S ?_
      refine AS.cons (sp_add rfl rfl (by first | omega | (simp only [decide_eq_true_eq, decide_eq_false_iff_not] at *; omega)) ?_)
      refine AS.cons (sp_move (v := .int _ _) rfl ?_)
      refine AS.nil ?_
      intro _ S
      refine RE.unroll ?_
      refine W.seq (W.region S ?_)
      refine AS.cons (sp_lss rfl rfl ?_)
      refine AS.nil ?_
      intro _ S
      refine W.seq (W.cond (b := false) rfl (fun h => nomatch h) (fun _ => ?_))
      refine W.exit ?_
      refine W.seq (W.regionc S [2, 41, 42, 43, 44, 45, 46, 47, 48, 49, 50, 51, 52, 53, 54, 55, 56, 57, 58] 2 (CryOk c) ?_ ?_)
      · skip
        refine AS.cons (sp_move (v := .bool _) rfl ?_)
        refine AS.cons (sp_move (v := .bool _) rfl ?_)
        refine AS.cons (sp_skip rfl ?_)
        refine AS.cons (sp_skip rfl ?_)
        refine AS.cons (sp_skip rfl ?_)
        refine AS.cons (sp_skip rfl ?_)
        refine AS.cons (sp_skip rfl ?_)
        refine AS.cons (sp_skip rfl ?_)
        refine AS.cons (sp_skip rfl ?_)
        refine AS.cons (sp_skip rfl ?_)
        refine AS.cons (sp_skip rfl ?_)
        refine AS.cons (sp_skip rfl ?_)
        refine AS.cons (sp_skip rfl ?_)
        refine AS.cons (sp_skip rfl ?_)
        refine AS.cons (sp_skip rfl ?_)
        refine AS.cons (sp_skip rfl ?_)
        refine AS.cons (sp_skip rfl ?_)
        refine AS.cons (sp_pick_f rfl (v := .bool _) rfl ?_)
        refine AS.cons (sp_asg (v := .bool _) rfl ?_)
        refine AS.nil ⟨⟨_, rfl, ?_⟩, ?_, rfl⟩
        · (try simp only [decide_eq_true_eq, decide_eq_false_iff_not] at *); first | omega | (simp_all; done) | (simp_all; omega)
        · repeat (first | exact Agr.refl _ _ | exact Agr.msk _ _ _ | refine Agr.upd ?_ _ rfl | refine Agr.upds ?_ rfl | refine Agr.mskIn ?_ rfl)
      intro σ7 _ S
      refine W.ret ?_
      exact ret1 rfl rfl S fun w' S' => ⟨rfl, S'.mod⟩
  · skip
    refine AS.cons (sp_skip rfl ?_)
    refine AS.cons (sp_skip rfl ?_)
    refine AS.cons (sp_skip rfl ?_)
    refine AS.cons (sp_pick_f rfl (v := .bool _) rfl ?_)
    refine AS.cons (sp_move (v := .bool _) rfl ?_)
    refine AS.cons (sp_skip rfl ?_)
    refine AS.cons (sp_skip rfl ?_)
    refine AS.cons (sp_skip rfl ?_)
    refine AS.cons (sp_pick_f rfl (v := .bool _) rfl ?_)
    refine AS.cons (sp_asg (v := .bool _) rfl ?_)
    refine AS.nil ?_
    intro _ S
    refine W.region S ?_
    refine AS.cons (sp_add rfl rfl (by first | omega | (simp only [decide_eq_true_eq, decide_eq_false_iff_not] at *; omega)) ?_)
    refine AS.cons (sp_move (v := .int _ _) rfl ?_)
    refine AS.nil ?_
    intro _ S
    refine RE.unroll ?_
    refine W.seq (W.region S ?_)
    refine AS.cons (sp_lss rfl rfl ?_)
    refine AS.nil ?_
    intro _ S
    refine W.seq (W.cond (b := true) rfl (fun _ => ?_) (fun h => nomatch h))
    refine W.skip ?_
    refine W.seq (W.block ?_)
    refine W.seq (W.region S ?_)
    refine AS.cons (sp_ia rfl rfl sl_110_44_2 (by first | omega | (simp only [decide_eq_true_eq, decide_eq_false_iff_not] at *; omega)) ?_)
    refine AS.cons (sp_lda 23 2 rfl rfl ag_44_2 rfl ?_)
    refine AS.cons (sp_alloc 5 zv_44 rfl (fun b5 => ?_))
    refine AS.cons (sp_st 5 rfl rfl rfl rfl sz_44_2 rfl rfl ?_)
    refine AS.nil ?_
    intro _ S
    refine W.region S ?_
    refine AS.cons (sp_move (v := .bool _) rfl ?_)
    refine AS.cons (sp_move (v := .bool _) rfl ?_)
    refine AS.cons (sp_skip rfl ?_)
    refine AS.cons (sp_skip rfl ?_)
    refine AS.cons (sp_skip rfl ?_)
    refine AS.cons (sp_pick_f rfl (v := .bool _) rfl ?_)
    refine AS.cons (sp_move (v := .bool _) rfl ?_)
    refine AS.cons (sp_skip rfl ?_)
    refine AS.cons (sp_skip rfl ?_)
    refine AS.cons (sp_skip rfl ?_)
    refine AS.cons (sp_pick_f rfl (v := .bool _) rfl ?_)
    refine AS.cons (sp_asg (v := .bool _) rfl ?_)
    refine AS.nil ?_
    intro _ S
    refine W.region S ?_
    refine AS.cons (sp_add rfl rfl (by first | omega | (simp only [decide_eq_true_eq, decide_eq_false_iff_not] at *; omega)) ?_)
    refine AS.cons (sp_move (v := .int _ _) rfl ?_)
    refine AS.nil ?_
    intro _ S
    refine RE.unroll ?_
    refine W.seq (W.region S ?_)
    refine AS.cons (sp_lss rfl rfl ?_)
    refine AS.nil ?_
    intro _ S
    refine W.seq (W.cond (b := false) rfl (fun h => nomatch h) (fun _ => ?_))
    refine W.exit ?_
    refine W.seq (W.regionc S [2, 41, 42, 43, 44, 45, 46, 47, 48, 49, 50, 51, 52, 53, 54, 55, 56, 57, 58] 2 (CryOk c) ?_ ?_)
    · skip
      refine AS.cons (sp_move (v := .bool _) rfl ?_)
      refine AS.cons (sp_move (v := .bool _) rfl ?_)
      refine AS.cons (sp_skip rfl ?_)
      refine AS.cons (sp_skip rfl ?_)
      refine AS.cons (sp_skip rfl ?_)
      refine AS.cons (sp_skip rfl ?_)
      refine AS.cons (sp_skip rfl ?_)
      refine AS.cons (sp_skip rfl ?_)
      refine AS.cons (sp_skip rfl ?_)
      refine AS.cons (sp_skip rfl ?_)
      refine AS.cons (sp_skip rfl ?_)
      refine AS.cons (sp_skip rfl ?_)
      refine AS.cons (sp_skip rfl ?_)
      refine AS.cons (sp_skip rfl ?_)
      refine AS.cons (sp_skip rfl ?_)
      refine AS.cons (sp_skip rfl ?_)
      refine AS.cons (sp_skip rfl ?_)
      refine AS.cons (sp_pick_f rfl (v := .bool _) rfl ?_)
      refine AS.cons (sp_asg (v := .bool _) rfl ?_)
      refine AS.nil ⟨⟨_, rfl, ?_⟩, ?_, rfl⟩
      · (try simp only [decide_eq_false_iff_not] at *); first | omega | (simp_all; done) | (simp_all; omega)
      · repeat (first | exact Agr.refl _ _ | exact Agr.msk _ _ _ | refine Agr.upd ?_ _ rfl | refine Agr.upds ?_ rfl | refine Agr.mskIn ?_ rfl)
    intro σ7 _ S
    refine W.ret ?_
    exact ret1 rfl rfl S fun w' S' => ⟨rfl, S'.mod⟩
theorem valid (c : Cry) (w : World) : Ct Tryd.prog 70 #[.agg (cyL c).toArray] w (fun v w' => v = .bool (decide (CryOk c)) ∧ Ext w w') := by
  refine fn_intro (args := [.agg (cyL c).toArray]) Tryd.func70 rfl rfl (by kernel_rfl) ?_
  have S := St.start no w
  refine W.seq (W.region S ?_)
  refine AS.cons (sp_boxa 1 rfl (fun b1 => ?_))
  refine AS.cons (sp_asg rfl ?_)
  refine AS.nil ?_
  intro _ S
  refine W.seq (W.regionc S [2, 3, 4, 5, 6, 7, 8, 9, 10, 11, 12, 13, 14, 15, 16, 17, 18, 19, 20, 21, 22, 23, 24, 25, 26, 27, 28, 29, 30, 31, 32, 33, 34, 35, 36, 37, 38, 39, 40, 41, 42] 2 (CryOk c) ?_ ?_)
  · skip
    refine AS.cons (sp_fa rfl fo_46_0_0 ?_)
    refine AS.cons (sp_ld 1 rfl rfl sc_3 rfl ?_)
    refine AS.cons (sp_call [] rfl rfl cf_44 (fun F w _ S => between _ _ _ w) ?_)
    refine AS.cons (sp_move (v := .bool _) rfl ?_)
    refine AS.split 6 rfl (fun g6 => ?_) (fun g6 => ?_)
    · skip
      refine AS.cons (sp_fa rfl fo_46_1_1 ?_)
      refine AS.cons (sp_ld 1 rfl rfl sc_3 rfl ?_)
      refine AS.cons (sp_call [] rfl rfl cf_44 (fun F w _ S => between _ _ _ w) ?_)
      refine AS.cons (sp_pick_t rfl (v := .bool _) rfl ?_)
      refine AS.cons (sp_move (v := .bool _) rfl ?_)
      refine AS.split 11 rfl (fun g11 => ?_) (fun g11 => ?_)
      · skip
        refine AS.cons (sp_fa rfl fo_46_2_2 ?_)
        refine AS.cons (sp_ld 1 rfl rfl sc_3 rfl ?_)
        refine AS.cons (sp_call [] rfl rfl cf_44 (fun F w _ S => between _ _ _ w) ?_)
        refine AS.cons (sp_pick_t rfl (v := .bool _) rfl ?_)
        refine AS.cons (sp_move (v := .bool _) rfl ?_)
        refine AS.split 16 rfl (fun g16 => ?_) (fun g16 => ?_)
        · skip
          refine AS.cons (sp_fa rfl fo_46_3_3 ?_)
          refine AS.cons (sp_lda 1 2 rfl rfl ag_44_2 rfl ?_)
          refine AS.cons (sp_call [] rfl rfl cf_100 (fun F w _ S => pointing _ _ w) ?_)
          refine AS.cons (sp_pick_t rfl (v := .bool _) rfl ?_)
          refine AS.cons (sp_move (v := .bool _) rfl ?_)
          refine AS.split 21 rfl (fun g21 => ?_) (fun g21 => ?_)
          · skip
            refine AS.cons (sp_fa rfl fo_46_4_5 ?_)
            refine AS.cons (sp_lda 1 2 rfl rfl ag_44_2 rfl ?_)
            refine AS.cons (sp_call [] rfl rfl cf_100 (fun F w _ S => pointing _ _ w) ?_)
            refine AS.cons (sp_pick_t rfl (v := .bool _) rfl ?_)
            refine AS.cons (sp_move (v := .bool _) rfl ?_)
            refine AS.split 26 rfl (fun g26 => ?_) (fun g26 => ?_)
            · skip
              refine AS.cons (sp_fa rfl fo_46_3_3 ?_)
              refine AS.cons (sp_fa rfl fo_44_0_0 ?_)
              refine AS.cons (sp_ld 1 rfl rfl sc_3 rfl ?_)
              refine AS.cons (sp_fa rfl fo_46_4_5 ?_)
              refine AS.cons (sp_fa rfl fo_44_1_1 ?_)
              refine AS.cons (sp_ld 1 rfl rfl sc_3 rfl ?_)
              refine AS.cons (sp_mul rfl rfl (mulB (by first | omega | (simp only [decide_eq_true_eq] at *; omega)) (by first | omega | (simp only [decide_eq_true_eq] at *; omega))) ?_)
              refine AS.cons (sp_fa rfl fo_46_3_3 ?_)
              refine AS.cons (sp_fa rfl fo_44_1_1 ?_)
              refine AS.cons (sp_ld 1 rfl rfl sc_3 rfl ?_)
              refine AS.cons (sp_fa rfl fo_46_4_5 ?_)
              refine AS.cons (sp_fa rfl fo_44_0_0 ?_)
              refine AS.cons (sp_ld 1 rfl rfl sc_3 rfl ?_)
              refine AS.cons (sp_mul rfl rfl (mulB (by first | omega | (simp only [decide_eq_true_eq] at *; omega)) (by first | omega | (simp only [decide_eq_true_eq] at *; omega))) ?_)
              refine AS.cons (sp_geq rfl rfl ?_)
              refine AS.cons (sp_pick_t rfl (v := .bool _) rfl ?_)
              refine AS.cons (sp_asg (v := .bool _) rfl ?_)
              refine AS.nil ⟨⟨_, rfl, ?_⟩, ?_, rfl⟩
              · (try simp only [decide_eq_true_eq] at *); first | omega | (simp_all; done) | (simp_all; omega)
              · repeat (first | exact Agr.refl _ _ | exact Agr.msk _ _ _ | refine Agr.upd ?_ _ rfl | refine Agr.upds ?_ rfl | refine Agr.mskIn ?_ rfl)
            · skip
              refine AS.cons (sp_skip rfl ?_)
              refine AS.cons (sp_skip rfl ?_)
              refine AS.cons (sp_skip rfl ?_)
              refine AS.cons (sp_skip rfl ?_)
              refine AS.cons (sp_skip rfl ?_)
              refine AS.cons (sp_skip rfl ?_)
              refine AS.cons (sp_skip rfl ?_)
              refine AS.cons (sp_skip rfl ?_)
              refine AS.cons (sp_skip rfl ?_)
              refine AS.cons (sp_skip rfl ?_)
              refine AS.cons (sp_skip rfl ?_)
              refine AS.cons (sp_skip rfl ?_)
              refine AS.cons (sp_skip rfl ?_)
              refine AS.cons (sp_skip rfl ?_)
              refine AS.cons (sp_skip rfl ?_)
              refine AS.cons (sp_pick_f rfl (v := .bool _) rfl ?_)
              refine AS.cons (sp_asg (v := .bool _) rfl ?_)
              refine AS.nil ⟨⟨_, rfl, ?_⟩, ?_, rfl⟩
              · (try simp only [decide_eq_true_eq, decide_eq_false_iff_not] at *); first | omega | (simp_all; done) | (simp_all; omega)
              · repeat (first | exact Agr.refl _ _ | exact Agr.msk _ _ _ | refine Agr.upd ?_ _ rfl | refine Agr.upds ?_ rfl | refine Agr.mskIn ?_ rfl)
          · skip
            refine AS.cons (sp_skip rfl ?_)
            refine AS.cons (sp_skip rfl ?_)
            refine AS.cons (sp_skip rfl ?_)
            refine AS.cons (sp_pick_f rfl (v := .bool _) rfl ?_)
            refine AS.cons (sp_move (v := .bool _) rfl ?_)
            refine AS.cons (sp_skip rfl ?_)
            refine AS.cons (sp_skip rfl ?_)
            refine AS.cons (sp_skip rfl ?_)
            refine AS.cons (sp_skip rfl ?_)
            refine AS.cons (sp_skip rfl ?_)
            refine AS.cons (sp_skip rfl ?_)
            refine AS.cons (sp_skip rfl ?_)
            refine AS.cons (sp_skip rfl ?_)
            refine AS.cons (sp_skip rfl ?_)
            refine AS.cons (sp_skip rfl ?_)
            refine AS.cons (sp_skip rfl ?_)
            refine AS.cons (sp_skip rfl ?_)
            refine AS.cons (sp_skip rfl ?_)
            refine AS.cons (sp_skip rfl ?_)
            refine AS.cons (sp_skip rfl ?_)
            refine AS.cons (sp_pick_f rfl (v := .bool _) rfl ?_)
            refine AS.cons (sp_asg (v := .bool _) rfl ?_)
            refine AS.nil ⟨⟨_, rfl, ?_⟩, ?_, rfl⟩
            · (try simp only [decide_eq_true_eq, decide_eq_false_iff_not] at *); first | omega | (simp_all; done) | (simp_all; omega)
            · repeat (first | exact Agr.refl _ _ | exact Agr.msk _ _ _ | refine Agr.upd ?_ _ rfl | refine Agr.upds ?_ rfl | refine Agr.mskIn ?_ rfl)
        · skip
          refine AS.cons (sp_skip rfl ?_)
          refine AS.cons (sp_skip rfl ?_)
          refine AS.cons (sp_skip rfl ?_)
          refine AS.cons (sp_pick_f rfl (v := .bool _) rfl ?_)
          refine AS.cons (sp_move (v := .bool _) rfl ?_)
          refine AS.cons (sp_skip rfl ?_)
          refine AS.cons (sp_skip rfl ?_)
          refine AS.cons (sp_skip rfl ?_)
          refine AS.cons (sp_pick_f rfl (v := .bool _) rfl ?_)
          refine AS.cons (sp_move (v := .bool _) rfl ?_)
          refine AS.cons (sp_skip rfl ?_)
          refine AS.cons (sp_skip rfl ?_)
          refine AS.cons (sp_skip rfl ?_)
          refine AS.cons (sp_skip rfl ?_)
          refine AS.cons (sp_skip rfl ?_)
          refine AS.cons (sp_skip rfl ?_)
          refine AS.cons (sp_skip rfl ?_)
          refine AS.cons (sp_skip rfl ?_)
          refine AS.cons (sp_skip rfl ?_)
          refine AS.cons (sp_skip rfl ?_)
          refine AS.cons (sp_skip rfl ?_)
          refine AS.cons (sp_skip rfl ?_)
          refine AS.cons (sp_skip rfl ?_)
          refine AS.cons (sp_skip rfl ?_)
          refine AS.cons (sp_skip rfl ?_)
          refine AS.cons (sp_pick_f rfl (v := .bool _) rfl ?_)
          refine AS.cons (sp_asg (v := .bool _) rfl ?_)
          refine AS.nil ⟨⟨_, rfl, ?_⟩, ?_, rfl⟩
          · (try simp only [decide_eq_true_eq, decide_eq_false_iff_not] at *); first | omega | (simp_all; done) | (simp_all; omega)
          · repeat (first | exact Agr.refl _ _ | exact Agr.msk _ _ _ | refine Agr.upd ?_ _ rfl | refine Agr.upds ?_ rfl | refine Agr.mskIn ?_ rfl)
      · skip
        refine AS.cons (sp_skip rfl ?_)
        refine AS.cons (sp_skip rfl ?_)
        refine AS.cons (sp_skip rfl ?_)
        refine AS.cons (sp_pick_f rfl (v := .bool _) rfl ?_)
        refine AS.cons (sp_move (v := .bool _) rfl ?_)
        refine AS.cons (sp_skip rfl ?_)
        refine AS.cons (sp_skip rfl ?_)
        refine AS.cons (sp_skip rfl ?_)
        refine AS.cons (sp_pick_f rfl (v := .bool _) rfl ?_)
        refine AS.cons (sp_move (v := .bool _) rfl ?_)
        refine AS.cons (sp_skip rfl ?_)
        refine AS.cons (sp_skip rfl ?_)
        refine AS.cons (sp_skip rfl ?_)
        refine AS.cons (sp_pick_f rfl (v := .bool _) rfl ?_)
        refine AS.cons (sp_move (v := .bool _) rfl ?_)
        refine AS.cons (sp_skip rfl ?_)
        refine AS.cons (sp_skip rfl ?_)
        refine AS.cons (sp_skip rfl ?_)
        refine AS.cons (sp_skip rfl ?_)
        refine AS.cons (sp_skip rfl ?_)
        refine AS.cons (sp_skip rfl ?_)
        refine AS.cons (sp_skip rfl ?_)
        refine AS.cons (sp_skip rfl ?_)
        refine AS.cons (sp_skip rfl ?_)
        refine AS.cons (sp_skip rfl ?_)
        refine AS.cons (sp_skip rfl ?_)
        refine AS.cons (sp_skip rfl ?_)
        refine AS.cons (sp_skip rfl ?_)
        refine AS.cons (sp_skip rfl ?_)
        refine AS.cons (sp_skip rfl ?_)
        refine AS.cons (sp_pick_f rfl (v := .bool _) rfl ?_)
        refine AS.cons (sp_asg (v := .bool _) rfl ?_)
        refine AS.nil ⟨⟨_, rfl, ?_⟩, ?_, rfl⟩
        · (try simp only [decide_eq_true_eq, decide_eq_false_iff_not] at *); first | omega | (simp_all; done) | (simp_all; omega)
        · repeat (first | exact Agr.refl _ _ | exact Agr.msk _ _ _ | refine Agr.upd ?_ _ rfl | refine Agr.upds ?_ rfl | refine Agr.mskIn ?_ rfl)
    · skip
      refine AS.cons (sp_skip rfl ?_)
      refine AS.cons (sp_skip rfl ?_)
      refine AS.cons (sp_skip rfl ?_)
      refine AS.cons (sp_pick_f rfl (v := .bool _) rfl ?_)
      refine AS.cons (sp_move (v := .bool _) rfl ?_)
      refine AS.cons (sp_skip rfl ?_)
      refine AS.cons (sp_skip rfl ?_)
      refine AS.cons (sp_skip rfl ?_)
      refine AS.cons (sp_pick_f rfl (v := .bool _) rfl ?_)
      refine AS.cons (sp_move (v := .bool _) rfl ?_)
      refine AS.cons (sp_skip rfl ?_)
      refine AS.cons (sp_skip rfl ?_)
      refine AS.cons (sp_skip rfl ?_)
      refine AS.cons (sp_pick_f rfl (v := .bool _) rfl ?_)
      refine AS.cons (sp_move (v := .bool _) rfl ?_)
      refine AS.cons (sp_skip rfl ?_)
      refine AS.cons (sp_skip rfl ?_)
      refine AS.cons (sp_skip rfl ?_)
      refine AS.cons (sp_pick_f rfl (v := .bool _) rfl ?_)
      refine AS.cons (sp_move (v := .bool _) rfl ?_)
      refine AS.cons (sp_skip rfl ?_)
      refine AS.cons (sp_skip rfl ?_)
      refine AS.cons (sp_skip rfl ?_)
      refine AS.cons (sp_skip rfl ?_)
      refine AS.cons (sp_skip rfl ?_)
      refine AS.cons (sp_skip rfl ?_)
      refine AS.cons (sp_skip rfl ?_)
      refine AS.cons (sp_skip rfl ?_)
      refine AS.cons (sp_skip rfl ?_)
      refine AS.cons (sp_skip rfl ?_)
      refine AS.cons (sp_skip rfl ?_)
      refine AS.cons (sp_skip rfl ?_)
      refine AS.cons (sp_skip rfl ?_)
      refine AS.cons (sp_skip rfl ?_)
      refine AS.cons (sp_skip rfl ?_)
      refine AS.cons (sp_pick_f rfl (v := .bool _) rfl ?_)
      refine AS.cons (sp_asg (v := .bool _) rfl ?_)
      refine AS.nil ⟨⟨_, rfl, ?_⟩, ?_, rfl⟩
      · (try simp only [decide_eq_false_iff_not] at *); first | omega | (simp_all; done) | (simp_all; omega)
      · repeat (first | exact Agr.refl _ _ | exact Agr.msk _ _ _ | refine Agr.upd ?_ _ rfl | refine Agr.upds ?_ rfl | refine Agr.mskIn ?_ rfl)
  intro σ1 _ S
  refine W.ret ?_
  exact ret1 rfl rfl S fun w' S' => ⟨rfl, S'.mod⟩
end
end Go.Proofs.YtmpclgepoemneaaDoor

/-
  Functions over lists of numbers.
-/
namespace Go.Proofs.YtmpclgepoemneaaDoor
set_option maxRecDepth 100000
open Go.Hu Go.RowKit
section
theorem index (la : Option Addr) (lc : Nat) (l : List Int) (v : Int) (hn : l.length ≤ 1000000) (w : World) (hl : Ints w la lc l) : Ct Tryd.prog 99 #[.slice la l.length lc, iv v] w (fun u w' => u = iv (ix l v) ∧ Ext w w') := by
  refine fn_intro (args := [.slice la l.length lc, iv v]) Tryd.func99 rfl rfl (by kernel_rfl) ?_
  have S := St.start no w
  refine W.seq (W.region S ?_)
  refine AS.cons (sp_asg rfl ?_)
  refine AS.nil ?_
  intro _ S
  refine W.seq (W.seq (W.region S ?_))
  refine AS.cons (sp_move rfl ?_)
  refine AS.cons (sp_len rfl sl_22_3_1 ?_)
  refine AS.cons (sp_move rfl ?_)
  refine AS.nil ?_
  intro _ S
  refine W.block ?_
  refine W.loopS S [4, 5, 8, 9, 10, 11, 12, 13, 14, 15, 16, 17, 18] [] (fun (j : Nat) => [(8, iv j)]) (fun _ => []) (fun j => j ≤ l.length ∧ ∀ i, i < j → l[i]? ≠ some v) (fun j => l.length - j) 0 ⟨by omega, fun i hi => absurd hi (by omega)⟩ ⟨rfl, trivial⟩ trivial ?_
  rintro j σ M w ⟨hj, hnn⟩ S
  refine W.seq (W.region S ?_)
  refine AS.cons (sp_lss rfl rfl ?_)
  refine AS.nil ?_
  intro _ S
  refine W.seq (W.condd rfl (fun c9 => ?_) (fun c9 => ?_))
  · skip
    refine W.skip ?_
    refine W.seq (W.block ?_)
    refine W.seq (W.region S ?_)
    have hlt : j < l.length := by omega
    obtain ⟨x, hx⟩ := get_some hlt
    refine AS.cons (sp_move (v := .int _ _) rfl ?_)
    refine AS.cons (sp_asg (v := .int _ _) rfl ?_)
    refine AS.nil ?_
    intro _ S
    refine W.seq (W.region S ?_)
    refine AS.cons (sp_move (v := .int _ _) rfl ?_)
    refine AS.cons (sp_move rfl ?_)
    refine AS.cons (sp_move (v := .int _ _) rfl ?_)
    refine AS.cons (sp_iaR hl rfl rfl sl_22_3_1 (by first | omega | (simp only [decide_eq_true_eq, decide_eq_false_iff_not] at *; omega)) ?_)
    refine AS.cons (sp_ldR 0 hl (fun _ h => h) rfl sc_3 (ints_at hx) (by first | omega | (simp only [decide_eq_true_eq, decide_eq_false_iff_not] at *; omega)) ?_)
    refine AS.cons (sp_eql rfl rfl ?_)
    refine AS.nil ?_
    intro _ S
    refine W.condd rfl (fun c16 => ?_) (fun c16 => ?_)
    · skip
      have he := ix_at (by rw [hx, c16]) hnn
      refine W.seq (W.region S ?_)
      refine AS.cons (sp_move (v := .int _ _) rfl ?_)
      refine AS.cons (sp_asg (v := .int _ _) rfl ?_)
      refine AS.nil ?_
      intro _ S
      refine W.ret ?_
      first | exact ret1 rfl rfl S fun w' S' => ⟨congrArg iv he.symm, S'.mod⟩ | exact ret1 rfl rfl S fun w' S' => ⟨congrArg iv (ix_none fun i hi => hnn i (by omega)).symm, S'.mod⟩
    · skip
      refine W.skip ?_
      refine W.region S ?_
      refine AS.cons (sp_add rfl rfl (by first | omega | (simp only [decide_eq_true_eq, decide_eq_false_iff_not] at *; omega)) ?_)
      refine AS.cons (sp_move (v := .int _ _) rfl ?_)
      refine AS.nil ?_
      intro _ S
      exact ⟨j + 1, _, ⟨by omega, snoc_lt hnn (by rw [hx]; intro e; exact c16 (Option.some.inj e).symm)⟩, by omega, ⟨by simp [upd], trivial⟩, trivial, by repeat (first | exact Agr.refl _ _ | exact Agr.msk _ _ _ | refine Agr.upd ?_ _ rfl | refine Agr.upds ?_ rfl | refine Agr.mskIn ?_ rfl), by repeat (first | exact Agr.refl _ _ | exact Agr.msk _ _ _ | refine Agr.upd ?_ _ rfl | refine Agr.upds ?_ rfl | refine Agr.mskIn ?_ rfl), rfl, S⟩
  · skip
    refine W.exit ?_
    refine W.seq (W.region S ?_)
    refine AS.cons (sp_asg rfl ?_)
    refine AS.nil ?_
    intro _ S
    refine W.ret ?_
    first | exact ret1 rfl rfl S fun w' S' => ⟨congrArg iv he.symm, S'.mod⟩ | exact ret1 rfl rfl S fun w' S' => ⟨congrArg iv (ix_none fun i hi => hnn i (by omega)).symm, S'.mod⟩
theorem contains (la : Option Addr) (lc : Nat) (l : List Int) (v : Int) (hn : l.length ≤ 1000000) (w : World) (hl : Ints w la lc l) : Ct Tryd.prog 68 #[.slice la l.length lc, iv v] w (fun u w' => u = .bool (decide (v ∈ l)) ∧ Ext w w') := by
  refine fn_intro (args := [.slice la l.length lc, iv v]) Tryd.func68 rfl rfl (by kernel_rfl) ?_
  have S := St.start no w
  refine W.seq (W.region S ?_)
  refine AS.cons (sp_asg rfl ?_)
  refine AS.nil ?_
  intro _ S
  refine W.seq (W.region S ?_)
  refine AS.cons (sp_move rfl ?_)
  refine AS.cons (sp_move (v := .int _ _) rfl ?_)
  refine AS.cons (sp_call [] rfl rfl cf_99 (fun F w _ S => index _ _ _ _ (by omega) w (by first | assumption | exact hl.ext S.mod)) ?_)
  refine AS.cons (sp_geq rfl rfl ?_)
  refine AS.cons (sp_asg (v := .bool _) rfl ?_)
  refine AS.nil ?_
  intro _ S
  refine W.ret ?_
  exact ret1 rfl rfl S fun w' S' => ⟨congrArg Value.bool (decide_eq_decide.2 (ix_nonneg l v)), S'.mod⟩
theorem place (la : Option Addr) (lc : Nat) (l : List Int) (v : Int) (hn : l.length ≤ 1000000) (w : World) (hl : Ints w la lc l) : Ct Tryd.prog 41 #[.slice la l.length lc, iv v] w (fun u w' => u = iv (ix l v) ∧ Ext w w') := by
  refine fn_intro (args := [.slice la l.length lc, iv v]) Tryd.func41 rfl rfl (by kernel_rfl) ?_
  have S := St.start no w
  refine W.seq (W.region S ?_)
  refine AS.cons (sp_asg rfl ?_)
  refine AS.nil ?_
  intro _ S
  refine W.seq (W.seq (W.region S ?_))
  refine AS.cons (sp_asg rfl ?_)
  refine AS.nil ?_
  intro _ S
  refine W.block ?_
  refine W.loopS S [4, 5, 6, 7, 8, 9, 10, 11, 12, 13, 14, 15, 16, 17, 18] [] (fun (j : Nat) => [(5, iv j)]) (fun _ => []) (fun j => j ≤ l.length ∧ ∀ i, i < j → l[i]? ≠ some v) (fun j => l.length - j) 0 ⟨by omega, fun i hi => absurd hi (by omega)⟩ ⟨rfl, trivial⟩ trivial ?_
  rintro j σ M w ⟨hj, hnn⟩ S
  refine W.seq (W.seq (W.region S ?_))
  refine AS.cons (sp_move (v := .int _ _) rfl ?_)
  refine AS.cons (sp_move rfl ?_)
  refine AS.cons (sp_len rfl sl_22_3_1 ?_)
  refine AS.cons (sp_lss rfl rfl ?_)
  refine AS.nil ?_
  intro _ S
  refine W.condd rfl (fun c9 => ?_) (fun c9 => ?_)
  · skip
    refine W.skip ?_
    refine W.seq (W.block ?_)
    refine W.seq (W.region S ?_)
    have hlt : j < l.length := by omega
    obtain ⟨x, hx⟩ := get_some hlt
    refine AS.cons (sp_move rfl ?_)
    refine AS.cons (sp_move (v := .int _ _) rfl ?_)
    refine AS.cons (sp_iaR hl rfl rfl sl_22_3_1 (by first | omega | (simp only [decide_eq_true_eq, decide_eq_false_iff_not] at *; omega)) ?_)
    refine AS.cons (sp_ldR 0 hl (fun _ h => h) rfl sc_3 (ints_at hx) (by first | omega | (simp only [decide_eq_true_eq, decide_eq_false_iff_not] at *; omega)) ?_)
    refine AS.cons (sp_move (v := .int _ _) rfl ?_)
    refine AS.cons (sp_eql rfl rfl ?_)
    refine AS.nil ?_
    intro _ S
    refine W.condd rfl (fun c17 => ?_) (fun c17 => ?_)
    · skip
      have he := ix_at (by rw [hx, c17]) hnn
      refine W.seq (W.region S ?_)
      refine AS.cons (sp_move (v := .int _ _) rfl ?_)
      refine AS.cons (sp_asg (v := .int _ _) rfl ?_)
      refine AS.nil ?_
      intro _ S
      refine W.ret ?_
      first | exact ret1 rfl rfl S fun w' S' => ⟨congrArg iv he.symm, S'.mod⟩ | exact ret1 rfl rfl S fun w' S' => ⟨congrArg iv (ix_none fun i hi => hnn i (by omega)).symm, S'.mod⟩
    · skip
      refine W.skip ?_
      refine W.region S ?_
      refine AS.cons (sp_move (v := .int _ _) rfl ?_)
      refine AS.cons (sp_add rfl rfl (by first | omega | (simp only [decide_eq_true_eq, decide_eq_false_iff_not] at *; omega)) ?_)
      refine AS.cons (sp_asg (v := .int _ _) rfl ?_)
      refine AS.nil ?_
      intro _ S
      exact ⟨j + 1, _, ⟨by omega, snoc_lt hnn (by rw [hx]; intro e; exact c17 (Option.some.inj e))⟩, by omega, ⟨by simp [upd], trivial⟩, trivial, by repeat (first | exact Agr.refl _ _ | exact Agr.msk _ _ _ | refine Agr.upd ?_ _ rfl | refine Agr.upds ?_ rfl | refine Agr.mskIn ?_ rfl), by repeat (first | exact Agr.refl _ _ | exact Agr.msk _ _ _ | refine Agr.upd ?_ _ rfl | refine Agr.upds ?_ rfl | refine Agr.mskIn ?_ rfl), rfl, S⟩
  · skip
    refine W.exit ?_
    refine W.seq (W.region S ?_)
    refine AS.cons (sp_asg rfl ?_)
    refine AS.nil ?_
    intro _ S
    refine W.ret ?_
    first | exact ret1 rfl rfl S fun w' S' => ⟨congrArg iv he.symm, S'.mod⟩ | exact ret1 rfl rfl S fun w' S' => ⟨congrArg iv (ix_none fun i hi => hnn i (by omega)).symm, S'.mod⟩
end
end Go.Proofs.YtmpclgepoemneaaDoor

/-
  A bay, opened; its water; what is forbidden; what is near.
-/
namespace Go.Proofs.YtmpclgepoemneaaDoor
set_option maxRecDepth 100000
open Go.Hu Go.RowKit
section
variable (b : Bk) (la : Option Addr) (lc : Nat) (ca : Option Addr) (cc : Nat) (mp : Nat)

theorem kf_cf (k : Int) : cfB Tryd.prog (kf k) = true := by
  unfold kf; split
  · exact cf_132
  · exact cf_133
theorem kindC (hb : Num b) (c : Cry) (hc : CryOk c) (x y : Int) (hx : 0 ≤ x ∧ x ≤ 1000) (hy : 0 ≤ y ∧ y ≤ 1000) (w : World) : Ct Tryd.prog (kf c.k) #[.agg (bayL b la lc ca cc mp).toArray, .agg (cyL c).toArray, .agg [iv x, iv y].toArray] w (fun v w' => v = .bool (!against b c x y) ∧ Ext w w') := by
  unfold kf against
  split
  · next h => refine (sees b la lc ca cc mp hb c hc x y hx hy w).mono fun v w' h' => ⟨h'.1.trans ?_, h'.2⟩; simp [h]
  · next h => refine (notF b la lc ca cc mp hb c hc x y hx hy w).mono fun v w' h' => ⟨h'.1.trans ?_, h'.2⟩; simp [h]
theorem opened (hb : Num b) (hn : b.land.length ≤ 1000000) (w : World) (hl : Ints w la lc b.land) : Ct Tryd.prog 63 #[.agg (bkL b la lc ca cc).toArray] w
    (fun u w' => ∃ i, (∃ mp, u = .agg (bayL b la lc ca cc mp).toArray ∧ i = mpP mp ((wtr b).map (ent b))) ∧ St no w w' (upd eL 0 i) []) := by
  refine fn_intro (args := [.agg (bkL b la lc ca cc).toArray]) Tryd.func63 rfl rfl (by kernel_rfl) ?_
  have S := St.start no w
  have hsq := sq_le hb
  have hb' := hb
  obtain ⟨hw, hh, _⟩ := hb'
  refine W.seq (W.region S ?_)
  refine AS.cons (sp_boxa 1 rfl (fun b1 => ?_))
  refine AS.cons (sp_alloc 2 zv_77 rfl (fun b2 => ?_))
  refine AS.nil ?_
  intro _ S
  refine W.seq (W.region S ?_)
  refine AS.cons (sp_ldw 1 rfl rfl ag_26_7 ?_)
  refine AS.cons (sp_mm 6 (fun b6 => ?_))
  refine AS.cons (sp_build (bayL b la lc ca cc b6) (by kernel_rfl) ?_)
  refine AS.cons (sp_alloc 3 zv_77 rfl (fun b3 => ?_))
  refine AS.cons (sp_st 3 rfl rfl rfl rfl sz_77_8 rfl rfl ?_)
  refine AS.nil ?_
  intro _ S
  have S := S.weak (k := 6) (i := mpP b6 []) (fun f (hf : pt b6 (.map #[] 0) f) => mpP_new hf)
  refine W.seq (W.seq (W.region S ?_))
  refine AS.cons (sp_fa rfl fo_26_0_0 ?_)
  refine AS.cons (sp_ld 1 rfl rfl sc_3 rfl ?_)
  refine AS.cons (sp_fa rfl fo_26_1_1 ?_)
  refine AS.cons (sp_ld 1 rfl rfl sc_3 rfl ?_)
  refine AS.cons (sp_mul rfl rfl (mulB (by first | omega | (simp only [decide_eq_true_eq, decide_eq_false_iff_not] at *; omega)) (by first | omega | (simp only [decide_eq_true_eq, decide_eq_false_iff_not] at *; omega))) ?_)
  refine AS.cons (sp_move rfl ?_)
  refine AS.nil ?_
  intro _ S
  refine W.block ?_
  refine W.loopS S [4, 13, 14, 15, 16, 17, 18, 19, 20, 21, 22, 23, 24, 25, 26, 27] [6] (fun (j : Nat) => [(13, iv j)]) (fun j => [(6, mpP b6 ((wtU b j).map (ent b)))]) (fun j => j ≤ sq b) (fun j => sq b - j) 0 (by omega) ⟨rfl, trivial⟩ ⟨rfl, trivial⟩ ?_
  rintro j σ M w hj S
  refine W.seq (W.region S ?_)
  refine AS.cons (sp_lss rfl rfl ?_)
  refine AS.nil ?_
  intro _ S
  refine W.seq (W.condd rfl (fun c14 => ?_) (fun c14 => ?_))
  · skip
    refine W.skip ?_
    refine W.seq (W.block ?_)
    refine W.seq (W.region S ?_)
    refine AS.cons (sp_move (v := .int _ _) rfl ?_)
    refine AS.cons (sp_asg (v := .int _ _) rfl ?_)
    refine AS.nil ?_
    intro _ S
    refine W.seq (W.region S ?_)
    refine AS.cons (sp_fa rfl fo_26_2_2 ?_)
    refine AS.cons (sp_ld 1 rfl rfl sc_22 rfl ?_)
    refine AS.cons (sp_move (v := .int _ _) rfl ?_)
    refine AS.cons (sp_call [] rfl rfl cf_68 (fun F w _ S => contains _ _ _ _ (by omega) w (hl.ext S.mod)) ?_)
    refine AS.cons (sp_not rfl ?_)
    refine AS.nil ?_
    intro _ S
    refine W.cond rfl (fun c20 => ?_) (fun c20 => ?_)
    · skip
      have hm : (wtU b (j + 1)).map (ent b) = (wtU b j).map (ent b) ++ [((j : Int) % b.wide, (j : Int) / b.wide, (j : Int))] := by rw [wtU_succ, if_neg (by simpa using c20), List.map_append]; rfl
      refine W.draw S mixed (fun i => ([KD.q [], KD.q [3], KD.q [3], KD.q [], KD.e [] [], KD.q [], KD.e [6] [6]] : List KD)[i]?) [] [0, 1, 2, 3, 4, 5, 6] (by kernel_rfl) ?_
      refine AW.cons rfl rfl (sp_fa rfl fo_77_1_7 ?_)
      refine AW.cons rfl rfl (sp_ld 3 rfl rfl sc_75 rfl ?_)
      refine AW.cons rfl rfl (sp_ldw 3 rfl rfl ag_77_8 ?_)
      refine AW.cons rfl rfl (sp_move (v := .int _ _) rfl ?_)
      refine AW.cons rfl rfl (sp_call [] rfl rfl cf_82 (fun F w _ S => spot _ _ _ _ _ _ (by assumption) _ (by omega) w) ?_)
      refine AW.cons rfl rfl (sp_move (v := .int _ _) rfl ?_)
      refine AW.cons rfl rfl (sp_mu 6 rfl rfl rfl rfl key_75 (ent_new hb (by omega)) ?_)
      refine AW.nil ?_
      intro _ S
      refine W.region S ?_
      refine AS.cons (sp_add rfl rfl (by first | omega | (simp only [decide_eq_true_eq, decide_eq_false_iff_not] at *; omega)) ?_)
      refine AS.cons (sp_move (v := .int _ _) rfl ?_)
      refine AS.nil ?_
      intro _ S
      exact ⟨j + 1, _, by omega, by omega, ⟨by simp [upd], trivial⟩, ⟨by show _ = mpP b6 ((wtU b (j + 1)).map (ent b)); rw [hm]; rfl, trivial⟩, by repeat (first | exact Agr.refl _ _ | exact Agr.msk _ _ _ | refine Agr.upd ?_ _ rfl | refine Agr.upds ?_ rfl | refine Agr.mskIn ?_ rfl), by repeat (first | exact Agr.refl _ _ | exact Agr.msk _ _ _ | refine Agr.upd ?_ _ rfl | refine Agr.upds ?_ rfl | refine Agr.mskIn ?_ rfl), rfl, S⟩
    · skip
      have hm : (wtU b (j + 1)).map (ent b) = (wtU b j).map (ent b) := by rw [wtU_succ, if_pos (by simpa using c20)]
      refine W.skip ?_
      refine W.region S ?_
      refine AS.cons (sp_add rfl rfl (by first | omega | (simp only [decide_eq_true_eq, decide_eq_false_iff_not] at *; omega)) ?_)
      refine AS.cons (sp_move (v := .int _ _) rfl ?_)
      refine AS.nil ?_
      intro _ S
      exact ⟨j + 1, _, by omega, by omega, ⟨by simp [upd], trivial⟩, ⟨by show _ = mpP b6 ((wtU b (j + 1)).map (ent b)); rw [hm]; rfl, trivial⟩, by repeat (first | exact Agr.refl _ _ | exact Agr.msk _ _ _ | refine Agr.upd ?_ _ rfl | refine Agr.upds ?_ rfl | refine Agr.mskIn ?_ rfl), by repeat (first | exact Agr.refl _ _ | exact Agr.msk _ _ _ | refine Agr.upd ?_ _ rfl | refine Agr.upds ?_ rfl | refine Agr.mskIn ?_ rfl), rfl, S⟩
  · skip
    obtain rfl : j = sq b := by omega
    refine W.exit ?_
    refine W.seq (W.region S ?_)
    refine AS.cons (sp_ldw 3 rfl rfl ag_77_8 ?_)
    refine AS.cons (sp_st 2 rfl rfl rfl rfl sz_77_8 rfl rfl ?_)
    refine AS.nil ?_
    intro _ S
    refine W.ret ?_
    exact retc 2 ag_77_8 rfl rfl rfl rfl rfl S fun w' S' => ⟨_, ⟨b6, rfl, rfl⟩, S'.only 6⟩
theorem water (w : World) : Ct Tryd.prog 64 #[.agg (bayL b la lc ca cc mp).toArray] w
    (fun u w' => ∃ i, (∃ bb, u = .func (.func 98) #[] #[.pointer (some ⟨bb, 0, none⟩)] ∧ i = pt bb (.cells (bayL b la lc ca cc mp).toArray 77 (0, 0))) ∧ St no w w' (upd eL 0 i) []) := by
  refine fn_intro (args := [.agg (bayL b la lc ca cc mp).toArray]) Tryd.func64 rfl rfl (by kernel_rfl) ?_
  have S := St.start no w
  refine W.seq (W.region S ?_)
  refine AS.cons (sp_boxa 1 rfl (fun b1 => ?_))
  refine AS.cons (sp_asg rfl ?_)
  refine AS.nil ?_
  intro _ S
  refine W.seq (W.region S ?_)
  refine AS.cons (sp_mf ?_)
  refine AS.cons (sp_asg rfl ?_)
  refine AS.nil ?_
  intro _ S
  refine W.ret ?_
  exact ret1 rfl rfl S fun w' S' => ⟨_, ⟨b1, rfl, rfl⟩, S'.only 1⟩
theorem forbidden (hb : Num b) (hc : ∀ c ∈ b.cries, CryOk c) (hn : b.cries.length ≤ 1000000) (m x y : Int) (hx : 0 ≤ x ∧ x ≤ 1000) (hy : 0 ≤ y ∧ y ≤ 1000) (w : World) (hK : Kinds w) (hC : Cries w ca cc b.cries) :
    Ct Tryd.prog 107 #[.agg (bayL b la lc ca cc mp).toArray, iv m, .agg [iv x, iv y].toArray] w (fun v w' => v = .bool (frb b m x y) ∧ Ext w w') := by
  refine fn_intro (args := [.agg (bayL b la lc ca cc mp).toArray, iv m, .agg [iv x, iv y].toArray]) Tryd.func107 rfl rfl (by kernel_rfl) ?_
  have S := St.start no w
  refine W.seq (W.region S ?_)
  refine AS.cons (sp_boxa 3 rfl (fun b3 => ?_))
  refine AS.cons (sp_boxa 5 rfl (fun b5 => ?_))
  refine AS.cons (sp_asg rfl ?_)
  refine AS.nil ?_
  intro _ S
  refine W.seq (W.seq (W.region S ?_))
  refine AS.cons (sp_fa rfl fo_77_0_0 ?_)
  refine AS.cons (sp_fa rfl fo_26_5_6 ?_)
  refine AS.cons (sp_ld 3 rfl rfl sc_24 rfl ?_)
  refine AS.cons (sp_len rfl sl_24_46_7 ?_)
  refine AS.cons (sp_move rfl ?_)
  refine AS.nil ?_
  intro _ S
  refine W.block ?_
  refine W.loopS S [6, 8, 13, 14, 15, 16, 17, 18, 19, 20, 21, 22, 23, 24, 25, 26, 27, 28, 29, 30, 31, 32] [8] (fun (j : Nat) => [(13, iv j)]) (fun _ => []) (fun j => j ≤ b.cries.length ∧ ∀ i, i < j → ∀ c, b.cries[i]? = some c → (decide (c.m = m) && against b c x y) = false) (fun j => b.cries.length - j) 0 ⟨by omega, fun i hi => absurd hi (by omega)⟩ ⟨rfl, trivial⟩ trivial ?_
  rintro j σ M w1 ⟨hj, hnn⟩ S
  refine W.seq (W.region S ?_)
  refine AS.cons (sp_lss rfl rfl ?_)
  refine AS.nil ?_
  intro _ S
  refine W.seq (W.condd rfl (fun c14 => ?_) (fun c14 => ?_))
  · skip
    refine W.skip ?_
    refine W.seq (W.block ?_)
    have hlt : j < b.cries.length := by omega
    obtain ⟨c, hxc⟩ := get_some hlt
    have hck := hc c (List.mem_of_getElem? hxc)
    obtain ⟨_, _, hk01, _⟩ := hck
    refine W.seq (W.region S ?_)
    refine AS.cons (sp_iaR hC rfl rfl sl_24_46_7 (by first | omega | (simp only [decide_eq_true_eq, decide_eq_false_iff_not] at *; omega)) ?_)
    refine AS.cons (sp_ldaR 0 hC (fun _ h => h) rfl ag_46_7 (cries_at hxc) (by first | omega | (simp only [decide_eq_true_eq, decide_eq_false_iff_not] at *; omega)) ?_)
    refine AS.cons (sp_alloc 8 zv_46 rfl (fun b8 => ?_))
    refine AS.cons (sp_st 8 rfl rfl rfl rfl sz_46_7 rfl rfl ?_)
    refine AS.nil ?_
    intro _ S
    refine W.seq (W.draw S mixed (fun i => ([KD.q [], KD.q [8], KD.q [], KD.q [], KD.q [], KD.q [], KD.q [8], KD.q [], KD.q [], KD.q [3], KD.q [8], KD.q [5], KD.e [] [], KD.q [], KD.q []] : List KD)[i]?) [] [0, 1, 2, 3, 4, 5, 6, 7, 8, 9, 10, 11, 12, 13, 14] (by kernel_rfl) ?_)
    refine AW.cons rfl rfl (sp_fa rfl fo_46_1_1 ?_)
    refine AW.cons rfl rfl (sp_ld 8 rfl rfl sc_3 rfl ?_)
    refine AW.cons rfl rfl (sp_move (v := .int _ _) rfl ?_)
    refine AW.cons rfl rfl (sp_eql rfl rfl ?_)
    refine AW.cons rfl rfl (sp_move (v := .bool _) rfl ?_)
    refine AW.split 21 rfl (fun g21 => ?_) (fun g21 => ?_)
    · skip
      refine AW.cons rfl rfl (sp_fa rfl fo_46_2_2 ?_)
      refine AW.cons rfl rfl (sp_ld 8 rfl rfl sc_3 rfl ?_)
      refine AW.cons rfl rfl (sp_iaa rfl rfl ar_126_2_125_1 (by first | omega | (simp only [decide_eq_true_eq, decide_eq_false_iff_not] at *; omega)) ?_)
      refine AW.cons rfl rfl (sp_ldo rfl sc_125 (kinds_cell hK hk01) (fun h => h) ?_)
      refine AW.cons rfl rfl (sp_ldw 3 rfl rfl ag_77_8 ?_)
      refine AW.cons rfl rfl (sp_ldw 8 rfl rfl ag_46_7 ?_)
      refine AW.cons rfl rfl (sp_ldw 5 rfl rfl ag_82_2 ?_)
      refine AW.cons rfl rfl (sp_call [] (f := kf c.k) (fs := []) (cs := []) rfl rfl (kf_cf c.k) (fun F w _ S => kindC b la lc ca cc mp hb c (hc c (List.mem_of_getElem? hxc)) x y hx hy w) ?_)
      refine AW.cons rfl rfl (sp_not rfl ?_)
      refine AW.cons rfl rfl (sp_pick_t rfl (v := .bool _) rfl ?_)
      refine AW.nil ?_
      intro _ S
      refine W.cond rfl (fun c31 => ?_) (fun c31 => ?_)
      · skip
        have hfr : frb b m x y = true := List.any_eq_true.2 ⟨c, List.mem_of_getElem? hxc, by rw [g21]; simpa using c31⟩
        refine W.seq (W.region S ?_)
        refine AS.cons (sp_asg rfl ?_)
        refine AS.nil ?_
        intro _ S
        refine W.ret ?_
        first | exact ret1 rfl rfl S fun w' S' => ⟨congrArg Value.bool hfr.symm, S'.mod⟩ | exact ret1 rfl rfl S fun w' S' => ⟨congrArg Value.bool (frb_none (fun i hi => hnn i (by omega))).symm, S'.mod⟩
      · skip
        have hfr : (decide (c.m = m) && against b c x y) = false := by rw [g21]; simpa using c31
        refine W.skip ?_
        refine W.region S ?_
        refine AS.cons (sp_add rfl rfl (by first | omega | (simp only [decide_eq_true_eq, decide_eq_false_iff_not] at *; omega)) ?_)
        refine AS.cons (sp_move (v := .int _ _) rfl ?_)
        refine AS.nil ?_
        intro _ S
        exact ⟨j + 1, _, ⟨by omega, snoc_lt hnn (fun c' hc' => by rw [hxc] at hc'; cases hc'; first | exact hfr | (rw [g21]; rfl))⟩, by omega, ⟨by simp [upd], trivial⟩, trivial, by repeat (first | exact Agr.refl _ _ | exact Agr.msk _ _ _ | refine Agr.upd ?_ _ rfl | refine Agr.upds ?_ rfl | refine Agr.mskIn ?_ rfl), by repeat (first | exact Agr.refl _ _ | exact Agr.msk _ _ _ | refine Agr.upd ?_ _ rfl | refine Agr.upds ?_ rfl | refine Agr.mskIn ?_ rfl), rfl, S⟩
    · skip
      refine AW.cons rfl rfl (sp_skip rfl ?_)
      refine AW.cons rfl rfl (sp_skip rfl ?_)
      refine AW.cons rfl rfl (sp_skip rfl ?_)
      refine AW.cons rfl rfl (sp_skip rfl ?_)
      refine AW.cons rfl rfl (sp_skip rfl ?_)
      refine AW.cons rfl rfl (sp_skip rfl ?_)
      refine AW.cons rfl rfl (sp_skip rfl ?_)
      refine AW.cons rfl rfl (sp_skip rfl ?_)
      refine AW.cons rfl rfl (sp_skip rfl ?_)
      refine AW.cons rfl rfl (sp_pick_f rfl (v := .bool _) rfl ?_)
      refine AW.nil ?_
      intro _ S
      refine W.cond (b := false) rfl (fun h => nomatch h) (fun _ => ?_)
      refine W.skip ?_
      refine W.region S ?_
      refine AS.cons (sp_add rfl rfl (by first | omega | (simp only [decide_eq_true_eq, decide_eq_false_iff_not] at *; omega)) ?_)
      refine AS.cons (sp_move (v := .int _ _) rfl ?_)
      refine AS.nil ?_
      intro _ S
      exact ⟨j + 1, _, ⟨by omega, snoc_lt hnn (fun c' hc' => by rw [hxc] at hc'; cases hc'; first | exact hfr | (rw [g21]; rfl))⟩, by omega, ⟨by simp [upd], trivial⟩, trivial, by repeat (first | exact Agr.refl _ _ | exact Agr.msk _ _ _ | refine Agr.upd ?_ _ rfl | refine Agr.upds ?_ rfl | refine Agr.mskIn ?_ rfl), by repeat (first | exact Agr.refl _ _ | exact Agr.msk _ _ _ | refine Agr.upd ?_ _ rfl | refine Agr.upds ?_ rfl | refine Agr.mskIn ?_ rfl), rfl, S⟩
  · skip
    refine W.exit ?_
    refine W.seq (W.region S ?_)
    refine AS.cons (sp_asg rfl ?_)
    refine AS.nil ?_
    intro _ S
    refine W.ret ?_
    first | exact ret1 rfl rfl S fun w' S' => ⟨congrArg Value.bool hfr.symm, S'.mod⟩ | exact ret1 rfl rfl S fun w' S' => ⟨congrArg Value.bool (frb_none (fun i hi => hnn i (by omega))).symm, S'.mod⟩
theorem near (hb : Num b) (f : List Bool) (hf : f.length = 80) (x y : Int) (hx : 0 ≤ x ∧ x ≤ 1000) (hy : 0 ≤ y ∧ y ≤ 1000) (w : World) :
    Ct Tryd.prog 109 #[.agg (bayL b la lc ca cc mp).toArray, .agg (f.map Value.bool).toArray, .agg [iv x, iv y].toArray] w (fun v w' => v = .bool (nearXY b f x y) ∧ Ext w w') := by
  refine fn_intro (args := [.agg (bayL b la lc ca cc mp).toArray, .agg (f.map Value.bool).toArray, .agg [iv x, iv y].toArray]) Tryd.func109 rfl rfl (by kernel_rfl) ?_
  have S := St.start no w
  have hsq := sq_le hb
  have hb' := hb
  obtain ⟨hw, hh, _, _, hsw⟩ := hb'
  refine W.seq (W.region S ?_)
  refine AS.cons (sp_boxa 3 rfl (fun b3 => ?_))
  refine AS.cons (sp_boxa 4 rfl (fun b4 => ?_))
  refine AS.cons (sp_boxa 5 rfl (fun b5 => ?_))
  refine AS.cons (sp_asg rfl ?_)
  refine AS.nil ?_
  intro _ S
  refine W.seq (W.seq (W.draw S mixed (fun i => ([KD.q [4], KD.e [] [], KD.q []] : List KD)[i]?) [] [1, 0, 2] (by kernel_rfl) ?_))
  refine AW.cons rfl rfl (sp_call [] rfl rfl cf_103 (fun F w _ S => nowhere w) ?_)
  refine AW.cons rfl rfl (sp_ldw 4 rfl rfl (show agB Tryd.prog 112 (f.map Value.bool).length = true by rw [List.length_map, hf]; exact ag_112_80) ?_)
  refine AW.cons rfl rfl (sp_eqla (l := f.map Value.bool) (r := fls.map Value.bool) rfl (by rw [← falses_eq]; rfl) eg_112 (eqP_bools ar_112_80_4_1 bool_4 hf fls_len) ?_)
  refine AW.nil ?_
  intro _ S
  refine W.cond rfl (fun c11 => ?_) (fun c11 => ?_)
  · skip
    have hfr : nearXY b f x y = false := near_fls (by simpa using c11)
    refine W.seq (W.region S ?_)
    refine AS.cons (sp_asg rfl ?_)
    refine AS.nil ?_
    intro _ S
    refine W.ret ?_
    first | exact ret1 rfl rfl S fun w' S' => ⟨congrArg Value.bool hfr.symm, S'.mod⟩ | exact ret1 rfl rfl S fun w' S' => ⟨congrArg Value.bool (Bool.eq_false_iff.2 (fun h => by obtain ⟨x', y', h⟩ := (near_iff hb).1 h; have h1 := hnn x' y' h; obtain ⟨_, _, _, _, _⟩ := h; omega)).symm, S'.mod⟩
  · skip
    refine W.skip ?_
    refine W.seq (W.seq (W.region S ?_))
    refine AS.cons (sp_fa rfl fo_82_0_0 ?_)
    refine AS.cons (sp_ld 5 rfl rfl sc_3 rfl ?_)
    refine AS.cons (sp_fa rfl fo_77_0_0 ?_)
    refine AS.cons (sp_fa rfl fo_26_4_5 ?_)
    refine AS.cons (sp_ld 3 rfl rfl sc_3 rfl ?_)
    refine AS.cons (sp_sub rfl rfl (by first | omega | (simp only [decide_eq_true_eq, decide_eq_false_iff_not] at *; omega)) ?_)
    refine AS.cons (sp_max rfl rfl ?_)
    refine AS.cons (sp_asg (v := .int _ _) rfl ?_)
    refine AS.nil ?_
    intro _ S
    refine W.block ?_
    refine W.loopS S [6, 7, 8, 19, 20, 21, 22, 23, 24, 25, 26, 27, 28, 29, 30, 31, 32, 33, 34, 35, 36, 37, 38, 39, 40, 41, 42, 43, 44, 45, 46, 47, 48, 49, 50, 51, 52, 53, 54, 55, 56, 57, 58, 59, 60, 61, 62, 63, 64] [] (fun (i : Int) => [(7, iv i)]) (fun _ => []) (fun i => (max 0 (x - b.swim) ≤ i ∧ i ≤ 2000) ∧ ∀ x' y', Nr b f x y x' y' → i ≤ x') (fun i => (2000 - i).toNat) (max 0 (x - b.swim)) ⟨⟨by omega, by omega⟩, fun x' y' h => by obtain ⟨h1, h2, h3, _⟩ := h; omega⟩ ⟨rfl, trivial⟩ trivial ?_
    rintro i σ M w1 ⟨hi, hnn⟩ S
    refine W.seq (W.seq (W.region S ?_))
    refine AS.cons (sp_move (v := .int _ _) rfl ?_)
    refine AS.cons (sp_fa rfl fo_77_0_0 ?_)
    refine AS.cons (sp_fa rfl fo_26_0_0 ?_)
    refine AS.cons (sp_ld 3 rfl rfl sc_3 rfl ?_)
    refine AS.cons (sp_sub rfl rfl (by first | omega | (simp only [decide_eq_true_eq, decide_eq_false_iff_not] at *; omega)) ?_)
    refine AS.cons (sp_fa rfl fo_82_0_0 ?_)
    refine AS.cons (sp_ld 5 rfl rfl sc_3 rfl ?_)
    refine AS.cons (sp_fa rfl fo_77_0_0 ?_)
    refine AS.cons (sp_fa rfl fo_26_4_5 ?_)
    refine AS.cons (sp_ld 3 rfl rfl sc_3 rfl ?_)
    refine AS.cons (sp_add rfl rfl (by first | omega | (simp only [decide_eq_true_eq, decide_eq_false_iff_not] at *; omega)) ?_)
    refine AS.cons (sp_min rfl rfl ?_)
    refine AS.cons (sp_leq rfl rfl ?_)
    refine AS.nil ?_
    intro _ S
    refine W.condd rfl (fun c31 => ?_) (fun c31 => ?_)
    · skip
      refine W.skip ?_
      refine W.seq (W.block ?_)
      refine W.seq (W.region S ?_)
      refine AS.cons (sp_fa rfl fo_82_1_1 ?_)
      refine AS.cons (sp_ld 5 rfl rfl sc_3 rfl ?_)
      refine AS.cons (sp_fa rfl fo_77_0_0 ?_)
      refine AS.cons (sp_fa rfl fo_26_4_5 ?_)
      refine AS.cons (sp_ld 3 rfl rfl sc_3 rfl ?_)
      refine AS.cons (sp_sub rfl rfl (by first | omega | (simp only [decide_eq_true_eq, decide_eq_false_iff_not] at *; omega)) ?_)
      refine AS.cons (sp_max rfl rfl ?_)
      refine AS.cons (sp_asg (v := .int _ _) rfl ?_)
      refine AS.nil ?_
      intro _ S
      refine W.block ?_
      refine W.loopS S [6, 8, 41, 42, 43, 44, 45, 46, 47, 48, 49, 50, 51, 52, 53, 54, 55, 56, 57, 58, 59, 60, 61, 62, 63, 64] [] (fun (k : Int) => [(8, iv k)]) (fun _ => []) (fun k => (max 0 (y - b.swim) ≤ k ∧ k ≤ 2000) ∧ ∀ y', Nr b f x y i y' → k ≤ y') (fun k => (2000 - k).toNat) (max 0 (y - b.swim)) ⟨⟨by omega, by omega⟩, fun y' h => by obtain ⟨h1, h2, h3, h4, _⟩ := h; omega⟩ ⟨rfl, trivial⟩ trivial ?_
      rintro k σ M w2 ⟨hk, hnk⟩ S
      refine W.seq (W.seq (W.region S ?_))
      refine AS.cons (sp_move (v := .int _ _) rfl ?_)
      refine AS.cons (sp_fa rfl fo_77_0_0 ?_)
      refine AS.cons (sp_fa rfl fo_26_1_1 ?_)
      refine AS.cons (sp_ld 3 rfl rfl sc_3 rfl ?_)
      refine AS.cons (sp_sub rfl rfl (by first | omega | (simp only [decide_eq_true_eq, decide_eq_false_iff_not] at *; omega)) ?_)
      refine AS.cons (sp_fa rfl fo_82_1_1 ?_)
      refine AS.cons (sp_ld 5 rfl rfl sc_3 rfl ?_)
      refine AS.cons (sp_fa rfl fo_77_0_0 ?_)
      refine AS.cons (sp_fa rfl fo_26_4_5 ?_)
      refine AS.cons (sp_ld 3 rfl rfl sc_3 rfl ?_)
      refine AS.cons (sp_add rfl rfl (by first | omega | (simp only [decide_eq_true_eq, decide_eq_false_iff_not] at *; omega)) ?_)
      refine AS.cons (sp_min rfl rfl ?_)
      refine AS.cons (sp_leq rfl rfl ?_)
      refine AS.nil ?_
      intro _ S
      refine W.condd rfl (fun c53 => ?_) (fun c53 => ?_)
      · skip
        refine W.skip ?_
        refine W.seq (W.block ?_)
        have hxy := xy_sq (b := b) hb (x := i) (y := k) (by omega) (by omega)
        obtain ⟨v, hv⟩ := get_some (l := f) (j := (k * b.wide + i).toNat) (by omega)
        refine W.seq (W.region S ?_)
        refine AS.cons (sp_move (v := .int _ _) rfl ?_)
        refine AS.cons (sp_fa rfl fo_77_0_0 ?_)
        refine AS.cons (sp_fa rfl fo_26_0_0 ?_)
        refine AS.cons (sp_ld 3 rfl rfl sc_3 rfl ?_)
        refine AS.cons (sp_mul rfl rfl (mulB (by first | omega | (simp only [decide_eq_true_eq, decide_eq_false_iff_not] at *; omega)) (by first | omega | (simp only [decide_eq_true_eq, decide_eq_false_iff_not] at *; omega))) ?_)
        refine AS.cons (sp_move (v := .int _ _) rfl ?_)
        refine AS.cons (sp_add rfl rfl (by first | omega | (simp only [decide_eq_true_eq, decide_eq_false_iff_not] at *; omega)) ?_)
        refine AS.cons (sp_iaa rfl rfl ar_112_80_4_1 (by first | omega | (simp only [decide_eq_true_eq, decide_eq_false_iff_not] at *; omega)) ?_)
        refine AS.cons (sp_ld 4 (v := .bool v) rfl rfl sc_4 (by simp [hv]) ?_)
        refine AS.nil ?_
        intro _ S
        refine W.cond rfl (fun c64 => ?_) (fun c64 => ?_)
        · skip
          have hfr : nearXY b f x y = true := (near_iff hb).2 ⟨i, k, by omega, by omega, by omega, by omega, by rw [List.getD_eq_getElem?_getD, hv]; simpa using c64⟩
          refine W.seq (W.region S ?_)
          refine AS.cons (sp_asg rfl ?_)
          refine AS.nil ?_
          intro _ S
          refine W.ret ?_
          first | exact ret1 rfl rfl S fun w' S' => ⟨congrArg Value.bool hfr.symm, S'.mod⟩ | exact ret1 rfl rfl S fun w' S' => ⟨congrArg Value.bool (Bool.eq_false_iff.2 (fun h => by obtain ⟨x', y', h⟩ := (near_iff hb).1 h; have h1 := hnn x' y' h; obtain ⟨_, _, _, _, _⟩ := h; omega)).symm, S'.mod⟩
        · skip
          have hno : ∀ y', Nr b f x y i y' → k + 1 ≤ y' := fun y' h => by
            have h1 := hnk y' h
            by_cases he : y' = k
            · subst he; obtain ⟨_, _, _, _, h5⟩ := h; rw [List.getD_eq_getElem?_getD, hv] at h5; exact absurd h5 (by simpa using c64)
            · omega
          refine W.skip ?_
          refine W.region S ?_
          refine AS.cons (sp_move (v := .int _ _) rfl ?_)
          refine AS.cons (sp_add rfl rfl (by first | omega | (simp only [decide_eq_true_eq, decide_eq_false_iff_not] at *; omega)) ?_)
          refine AS.cons (sp_asg (v := .int _ _) rfl ?_)
          refine AS.nil ?_
          intro _ S
          exact ⟨k + 1, _, ⟨by omega, hno⟩, by omega, ⟨by simp [upd], trivial⟩, trivial, by repeat (first | exact Agr.refl _ _ | exact Agr.msk _ _ _ | refine Agr.upd ?_ _ rfl | refine Agr.upds ?_ rfl | refine Agr.mskIn ?_ rfl), by repeat (first | exact Agr.refl _ _ | exact Agr.msk _ _ _ | refine Agr.upd ?_ _ rfl | refine Agr.upds ?_ rfl | refine Agr.mskIn ?_ rfl), rfl, S⟩
      · skip
        refine W.exit ?_
        refine W.region S ?_
        refine AS.cons (sp_move (v := .int _ _) rfl ?_)
        refine AS.cons (sp_add rfl rfl (by first | omega | (simp only [decide_eq_true_eq, decide_eq_false_iff_not] at *; omega)) ?_)
        refine AS.cons (sp_asg (v := .int _ _) rfl ?_)
        refine AS.nil ?_
        intro _ S
        exact ⟨i + 1, _, ⟨by omega, fun x' y' h => by
          have h1 := hnn x' y' h
          by_cases he : x' = i
          · subst he; have h2 := hnk y' h; obtain ⟨_, _, _, _, _⟩ := h; omega
          · omega⟩, by omega, ⟨by simp [upd], trivial⟩, trivial, by repeat (first | exact Agr.refl _ _ | exact Agr.msk _ _ _ | refine Agr.upd ?_ _ rfl | refine Agr.upds ?_ rfl | refine Agr.mskIn ?_ rfl), by repeat (first | exact Agr.refl _ _ | exact Agr.msk _ _ _ | refine Agr.upd ?_ _ rfl | refine Agr.upds ?_ rfl | refine Agr.mskIn ?_ rfl), rfl, S⟩
    · skip
      refine W.exit ?_
      refine W.seq (W.region S ?_)
      refine AS.cons (sp_asg rfl ?_)
      refine AS.nil ?_
      intro _ S
      refine W.ret ?_
      first | exact ret1 rfl rfl S fun w' S' => ⟨congrArg Value.bool hfr.symm, S'.mod⟩ | exact ret1 rfl rfl S fun w' S' => ⟨congrArg Value.bool (Bool.eq_false_iff.2 (fun h => by obtain ⟨x', y', h⟩ := (near_iff hb).1 h; have h1 := hnn x' y' h; obtain ⟨_, _, _, _, _⟩ := h; omega)).symm, S'.mod⟩
end
end Go.Proofs.YtmpclgepoemneaaDoor

/-
  The squares of water, one after the other.
-/
namespace Go.Proofs.YtmpclgepoemneaaDoor
set_option maxRecDepth 100000
open Go.Hu Go.RowKit
section
variable (b : Bk) (la : Option Addr) (lc : Nat) (ca : Option Addr) (cc : Nat) (mp : Nat)
def encW (b : Bk) (n : Nat) : List Value := [iv n, .agg [iv ((n : Int) % b.wide), iv ((n : Int) / b.wide)].toArray]
def WatAt (w : World) (bb : Nat) : Prop := w.heap[bb]? = some (.cells (bayL b la lc ca cc mp).toArray 77 (0, 0)) ∧ MapAt w mp b
theorem waterIter (hb : Num b) (bb : Nat) : Iter Tryd.prog 98 [.pointer (some ⟨bb, 0, none⟩)] (encW b) (wtr b) (fun w => WatAt b la lc ca cc mp w bb) := by
  intro l I hE hD hR W0 hI0
  refine fn_intro (args := [.func (.yield l) #[] #[], .pointer (some ⟨bb, 0, none⟩)]) Tryd.func98 rfl rfl (by kernel_rfl) ?_
  have S := St.start no W0
  have hsq := sq_le hb
  have hb' := hb
  obtain ⟨hw, hh, _⟩ := hb'
  obtain ⟨hbb, _⟩ := hD _ _ hI0
  refine W.seq (W.region S ?_)
  refine AS.cons (sp_fa rfl fo_77_0_0 ?_)
  refine AS.cons (sp_fa rfl fo_26_0_0 ?_)
  refine AS.cons (sp_ldo (v := iv b.wide) rfl sc_3 ((cell_of_block hbb _).trans rfl) (fun h => h) ?_)
  refine AS.cons (sp_fa rfl fo_77_0_0 ?_)
  refine AS.cons (sp_fa rfl fo_26_1_1 ?_)
  refine AS.cons (sp_ldo (v := iv b.high) rfl sc_3 ((cell_of_block hbb _).trans rfl) (fun h => h) ?_)
  refine AS.cons (sp_mul rfl rfl (mulB (by first | omega | (simp only [decide_eq_true_eq, decide_eq_false_iff_not] at *; omega)) (by first | omega | (simp only [decide_eq_true_eq, decide_eq_false_iff_not] at *; omega))) ?_)
  refine AS.cons (sp_move rfl ?_)
  refine AS.nil ?_
  intro w1 S
  have hI1 : I 0 w1 := hE 0 _ _ hI0 S.mod
  clear S
  refine W.block ?_
  refine W.loop (α := Nat) (fun j ρ Ds w => (j ≤ sq b ∧ Ds = [] ∧ I (wtU b j).length w) ∧ AllEq [(13, iv j)] ρ ∧ Agr [3, 4, 5, 13, 14, 15, 16, 17, 18, 19, 20, 21, 22, 23, 24, 25, 26, 27, 28, 29, 30, 31, 32, 33, 34, 35] _ ρ) (fun j => sq b - j) 0 ⟨⟨by omega, rfl, hI1⟩, ⟨rfl, trivial⟩, Agr.refl _ _⟩ ?_
  rintro j ρ' Ds w ⟨⟨hj, rfl, hI⟩, hu, ha⟩
  have hform := form ha hu
  rw [hform]
  obtain ⟨hbb, hmp⟩ := hD _ _ hI
  obtain ⟨es, ck, hes, hmi⟩ := hmp
  have S := St.start no w
  have hcs : Cs w bb 0 (bayL b la lc ca cc mp) := fun u v hv => by rw [cell_of_block hbb]; simpa using hv
  refine W.seq (W.region S ?_)
  refine AS.cons (sp_lss rfl rfl ?_)
  refine AS.nil ?_
  intro _ S
  refine W.seq (W.condd rfl (fun c14 => ?_) (fun c14 => ?_))
  · skip
    refine W.skip ?_
    have hjn : j < sq b := by omega
    refine W.seq (W.block ?_)
    refine W.seq (W.region S ?_)
    refine AS.cons (sp_move (v := .int _ _) rfl ?_)
    refine AS.cons (sp_asg (v := .int _ _) rfl ?_)
    refine AS.nil ?_
    intro _ S
    refine W.seq (W.draw S mixed (fun i => ([KD.q [], KD.q [], KD.q [], KD.q [], KD.e [] [], KD.e [] [], KD.q [], KD.q [], KD.q [], KD.q [], KD.q []] : List KD)[i]?) [] [0, 1, 2, 3, 4, 5, 6, 7, 8, 9, 10] (by kernel_rfl) ?_)
    refine AW.cons rfl rfl (sp_fa rfl fo_77_1_7 ?_)
    refine AW.cons rfl rfl (sp_ldo (v := .map (some mp)) rfl sc_75 ((cell_of_block hbb _).trans rfl) (fun h => h) ?_)
    refine AW.cons rfl rfl (sp_ldoa (vs := bayL b la lc ca cc mp) rfl ag_77_8 hcs (fun h => h) ?_)
    refine AW.cons rfl rfl (sp_move (v := .int _ _) rfl ?_)
    refine AW.cons rfl rfl (sp_call [] rfl rfl cf_82 (fun F w _ S => spot _ _ _ _ _ _ (by assumption) _ (by omega) w) ?_)
    refine AW.cons rfl rfl (sp_lk rfl rfl key_75 hes (fun h => h) hmi zv_3 rfl (fun nn => ?_))
    refine AW.cons rfl rfl (sp_move (v := .tuple _) rfl ?_)
    refine AW.cons rfl rfl (sp_ext rfl rfl ?_)
    refine AW.cons rfl rfl (sp_ext rfl rfl ?_)
    refine AW.cons rfl rfl (sp_asg (v := .int _ _) rfl ?_)
    refine AW.cons rfl rfl (sp_asg (v := .bool (decide (∃ p ∈ (wtr b).map (ent b), p.1 = (j : Int) % b.wide ∧ p.2.1 = (j : Int) / b.wide))) rfl ?_)
    refine AW.nil ?_
    intro w2 S
    by_cases hwt : (j : Int) ∈ b.land
    · rw [decide_eq_false (fun h => (ent_has hb hjn).1 h hwt)]
      have hI2 : I (wtU b (j + 1)).length w2 := by rw [wtU_succ, if_pos hwt]; exact hE _ _ _ hI S.mod
      refine W.seq (W.region S ?_)
      refine AS.cons (sp_move (v := .bool _) rfl ?_)
      refine AS.cons (sp_move (v := .bool _) rfl ?_)
      refine AS.cons (sp_skip rfl ?_)
      refine AS.cons (sp_skip rfl ?_)
      refine AS.cons (sp_skip rfl ?_)
      refine AS.cons (sp_skip rfl ?_)
      refine AS.cons (sp_skip rfl ?_)
      refine AS.cons (sp_skip rfl ?_)
      refine AS.cons (sp_skip rfl ?_)
      refine AS.cons (sp_pick_f rfl (v := .bool _) rfl ?_)
      refine AS.nil ?_
      intro w3 S
      refine W.cond (b := false) rfl (fun h => nomatch h) (fun _ => ?_)
      refine W.skip ?_
      have hI3 := hE _ _ _ (hE _ _ _ hI S.mod) (Mod.refl no w3)
      refine W.region S ?_
      refine AS.cons (sp_add rfl rfl (by first | omega | (simp only [decide_eq_true_eq, decide_eq_false_iff_not] at *; omega)) ?_)
      refine AS.cons (sp_move (v := .int _ _) rfl ?_)
      refine AS.nil ?_
      intro w4 S
      exact ⟨j + 1, ⟨⟨by omega, rfl, by rw [wtU_succ, if_pos hwt]; exact hE _ _ _ hI S.mod⟩, ⟨by simp [upd], trivial⟩, by repeat (first | exact Agr.refl _ _ | exact Agr.msk _ _ _ | refine Agr.upd ?_ _ rfl | refine Agr.upds ?_ rfl | refine Agr.mskIn ?_ rfl)⟩, by omega⟩
    · rw [decide_eq_true ((ent_has hb hjn).2 hwt)]
      refine W.seq (OW.region ?_)
      refine OW.det S rfl _ _ (fun nx h => sp_move (v := .bool _) rfl h) ?_
      intro _ S
      refine OW.det S rfl _ _ (fun nx h => sp_move (v := .bool _) rfl h) ?_
      intro _ S
      refine OW.det S rfl _ _ (fun nx h => sp_move (v := .func _ _ _) rfl h) ?_
      intro _ S
      refine OW.det S rfl _ _ (fun nx h => sp_move (v := .int _ _) rfl h) ?_
      intro _ S
      refine OW.det S rfl _ _ (fun nx h => sp_ldoa (vs := bayL b la lc ca cc mp) rfl ag_77_8 hcs (fun h => h) h) ?_
      intro _ S
      refine OW.det S rfl _ _ (fun nx h => sp_move (v := .int _ _) rfl h) ?_
      intro _ S
      refine OW.det S rfl _ _ (fun nx h => sp_call [] rfl rfl cf_82 (fun F w _ S => spot _ _ _ _ _ _ (by assumption) _ (by omega) w) h) ?_
      intro w3 S
      have hI3 := hE _ _ _ hI S.mod
      refine OW.raw (fun v w' => v = .bool true ∧ I (wtU b (j + 1)).length w') rfl rfl (fun a ho => opW_yieldl (l := l) (args := encW b j) ho rfl rfl ?_) ?_
      · have := hR _ _ _ (wtU_get hjn hwt) hI3
        rw [wtU_succ, if_neg hwt, List.length_append]; exact this
      · rintro v w4 ⟨rfl, hI4⟩
        have S := St.start no w4
        refine OW.det S rfl _ _ (fun nx h => sp_not rfl h) ?_
        intro _ S
        refine OW.det S rfl _ _ (fun nx h => sp_pick_t rfl (v := .bool _) rfl h) ?_
        intro _ S
        refine OW.nil ?_
        refine W.cond (b := false) rfl (fun h => nomatch h) (fun _ => ?_)
        refine W.skip ?_
        refine W.region S ?_
        refine AS.cons (sp_add rfl rfl (by first | omega | (simp only [decide_eq_true_eq, decide_eq_false_iff_not] at *; omega)) ?_)
        refine AS.cons (sp_move (v := .int _ _) rfl ?_)
        refine AS.nil ?_
        intro w5 S
        exact ⟨j + 1, ⟨⟨by omega, rfl, hE _ _ _ hI4 S.mod⟩, ⟨by simp [upd], trivial⟩, by repeat (first | exact Agr.refl _ _ | exact Agr.msk _ _ _ | refine Agr.upd ?_ _ rfl | refine Agr.upds ?_ rfl | refine Agr.mskIn ?_ rfl)⟩, by omega⟩
  · skip
    refine W.exit ?_
    obtain rfl : j = sq b := by omega
    exact retn0 rfl S fun w' S' => hE _ _ _ hI S'.mod
end
end Go.Proofs.YtmpclgepoemneaaDoor

/-
  The rows of squares, minute by minute, on and back; whether a book can be true.
-/
namespace Go.Proofs.YtmpclgepoemneaaDoor
set_option maxRecDepth 100000
open Go.Hu Go.RowKit
section
variable (b : Bk) (la : Option Addr) (lc : Nat) (ca : Option Addr) (cc : Nat) (mp : Nat)
def nxF (on : Bool) : Nat := if on then 110 else 113
theorem nx_cf (on : Bool) : cfB Tryd.prog (nxF on) = true := by
  cases on
  · exact cf_113
  · exact cf_110
theorem nxC (on : Bool) (k : Nat) (hk : k ≤ 30) (w : World) : Ct Tryd.prog (nxF on) #[iv (ordI on k)] w (fun v w' => v = iv (ordI on (k + 1)) ∧ Ext w w') := by
  cases on
  · refine (backNext (ordI false k) (by simp [ordI]; omega) w).mono fun v w' h => ⟨h.1.trans (congrArg iv ?_), h.2⟩
    simp [ordI]; omega
  · refine (onNext (ordI true k) (by simp [ordI]; omega) w).mono fun v w' h => ⟨h.1.trans (congrArg iv ?_), h.2⟩
    simp [ordI]
abbrev oP (x : Nat) : Value := .pointer (some ⟨x, 0, none⟩)
/-- What the walk over the rows finds in the memory. -/
structure SwAt (on : Bool) (w : World) (b2 b3 b4 b5 b6 : Nat) : Prop where
  h2 : w.heap[b2]? = some (.cells (bayL b la lc ca cc mp).toArray 77 (0, 0))
  h3 : w.heap[b3]? = some (.cells [.func (.func 107) [.agg (bayL b la lc ca cc mp).toArray].toArray #[]].toArray 109 (0, 0))
  h4 : w.heap[b4]? = some (.cells [iv (ordI on 0), .func (.func (nxF on)) #[] #[]].toArray 117 (0, 0))
  h6 : w.heap[b6]? = some (.cells [.func (.func 108) #[] [oP b2, oP b3, oP b4, oP b5, oP b6].toArray].toArray 121 (0, 0))
  n2 : b2 ≠ b5
  n3 : b3 ≠ b5
  n4 : b4 ≠ b5
  n6 : b6 ≠ b5
theorem SwAt.mod {on : Bool} {w w' : World} {b2 b3 b4 b5 b6 : Nat} (h : SwAt b la lc ca cc mp on w b2 b3 b4 b5 b6) (M : Mod (· = b5) w w') : SwAt b la lc ca cc mp on w' b2 b3 b4 b5 b6 :=
  ⟨(M.block _ (lt_of_some h.h2) h.n2).trans h.h2, (M.block _ (lt_of_some h.h3) h.n3).trans h.h3, (M.block _ (lt_of_some h.h4) h.n4).trans h.h4, (M.block _ (lt_of_some h.h6) h.n6).trans h.h6, h.n2, h.n3, h.n4, h.n6⟩
theorem swumS (hb : Num b) (hc : ∀ c ∈ b.cries, CryOk c) (hn : b.cries.length ≤ 1000000) (on : Bool) (W0 : World) (hK : Kinds W0) (hC : Cries W0 ca cc b.cries) (hM : MapAt W0 mp b) (b2 b3 b4 b5 b6 : Nat) (h5 : W0.heap.size ≤ b5) :
    ∀ (n k : Nat), n + k = 31 → ∀ w, Ext W0 w → SwAt b la lc ca cc mp on w b2 b3 b4 b5 b6 → w.heap[b5]? = some (.cells (rowsC (Rk b on k)).toArray 113 (0, 0)) →
      Ct Tryd.prog 108 #[iv (ordI on k), .agg ((frm b on k).map Value.bool).toArray, oP b2, oP b3, oP b4, oP b5, oP b6] w
        (fun u w' => u = .tuple #[] ∧ Mod (· = b5) w w' ∧ w'.heap[b5]? = some (.cells (rowsC (Rk b on 31)).toArray 113 (0, 0))) := by
  intro n
  induction n with
  | zero =>
    intro k hk w hE hA ho
    obtain rfl : k = 31 := by omega
    refine fn_intro (args := [iv (ordI on 31), .agg ((frm b on 31).map Value.bool).toArray, oP b2, oP b3, oP b4, oP b5, oP b6]) Tryd.func108 rfl rfl (by kernel_rfl) ?_
    have S := St.startB ho 5
    refine W.seq (W.region S ?_)
    refine AS.cons (sp_boxs 7 rfl rfl (fun b7 => ?_))
    refine AS.cons (sp_boxa 8 rfl (fun b8 => ?_))
    refine AS.nil ?_
    intro _ S
    refine W.scope ?_
    refine W.seq (W.seq (W.region S ?_))
    refine AS.cons (sp_ld 7 rfl rfl sc_3 rfl ?_)
    refine AS.cons (sp_call [] rfl rfl cf_62 (fun F w _ S => within _ _ _ w) ?_)
    refine AS.cons (sp_not rfl ?_)
    refine AS.nil ?_
    intro _ S
    refine W.cond rfl (fun c13 => ?_) (fun c13 => ?_)
    · refine W.ret ?_
      exact ret0 rfl S fun w' S' => ⟨rfl, S'.mod, (S'.get (k := 5) rfl).1⟩
    · exfalso
      have : ¬ (0 ≤ ordI on 31 ∧ ordI on 31 ≤ 30) := by unfold ordI; cases on <;> simp
      rw [decide_eq_false this] at c13
      cases c13
  | succ n ih =>
    intro k hk w hE hA ho
    have hk30 : k ≤ 30 := by omega
    have hm : 0 ≤ ordI on k ∧ ordI on k ≤ 30 := by unfold ordI; cases on <;> simp <;> omega
    have hmN : (ordI on k).toNat = ordN on k := by rw [ordI_N on hk30]; simp
    have hN := ordN_le on hk30
    have hsq := sq_le hb
    have hb' := hb
    obtain ⟨hw, hh, _⟩ := hb'
    rw [Rk_start b on hk30 (decide (k = 0)) (frm b on k)] at ho
    refine fn_intro (args := [iv (ordI on k), .agg ((frm b on k).map Value.bool).toArray, oP b2, oP b3, oP b4, oP b5, oP b6]) Tryd.func108 rfl rfl (by kernel_rfl) ?_
    have S := St.startB ho 5
    have hcs2 : Cs w b2 0 (bayL b la lc ca cc mp) := fun u v hv => by rw [cell_of_block hA.h2]; simpa using hv
    refine W.seq (W.region S ?_)
    refine AS.cons (sp_boxs 7 rfl rfl (fun b7 => ?_))
    refine AS.cons (sp_boxa 8 rfl (fun b8 => ?_))
    refine AS.nil ?_
    intro _ S
    refine W.scope ?_
    refine W.seq (W.seq (W.region S ?_))
    refine AS.cons (sp_ld 7 rfl rfl sc_3 rfl ?_)
    refine AS.cons (sp_call [] rfl rfl cf_62 (fun F w _ S => within _ _ _ w) ?_)
    refine AS.cons (sp_not rfl ?_)
    refine AS.nil ?_
    intro _ S
    refine W.cond rfl (fun c13 => ?_) (fun c13 => ?_)
    · exfalso; rw [decide_eq_true hm] at c13; cases c13
    · skip
      refine W.skip ?_
      refine W.seq (W.label ?_)
      refine W.seq (W.seq (W.region S ?_))
      refine AS.cons (sp_ldoa (vs := bayL b la lc ca cc mp) rfl ag_77_8 hcs2 hA.n2 ?_)
      refine AS.cons (sp_call1 15 [] _ rfl rfl cf_64 (fun F w _ S => water _ _ _ _ _ _ w) ?_ (by simp))
      rintro v15 i15 ⟨bb, rfl, rfl⟩
      refine AS.nil ?_
      intro _ S
      refine W.block ?_
      refine W.range 9001 9002 [5, 10] (fun i => [(5, pt b5 (.cells (rowsC (upd (Rk b on k) (ordN on k) (rowI b (ordI on k) (decide (k = 0)) (frm b on k) i))).toArray 113 (0, 0)))]) (waterIter b la lc ca cc mp hb bb) S rfl cf_98 (fun _ => rfl) ⟨rfl, trivial⟩ ⟨rfl, rfl, rfl⟩ (fun _ => rfl) (fun i M w1 S => ⟨(S.get (k := 15) rfl).1, hM.ext (hE.mod S.mod h5)⟩) ?_ ?_
      · rintro i j l M w1 hij S
        have hj := (wtr_mem (b := b)).1 (List.mem_of_getElem? hij)
        have hxy := sq_xy hb hj.1
        refine W.seq (W.region S ?_)
        refine AS.cons (sp_asg (v := .int _ _) rfl ?_)
        refine AS.nil ?_
        intro _ S
        refine W.region S ?_
        refine AS.cons (sp_alloc 10 zv_82 rfl (fun b10 => ?_))
        refine AS.cons (sp_st 10 rfl rfl rfl rfl sz_82_2 rfl rfl ?_)
        refine AS.nil ?_
        intro _ S
        refine ⟨_, by repeat (first | exact Agr.refl _ _ | exact Agr.msk _ _ _ | refine Agr.upd ?_ _ rfl | refine Agr.upds ?_ rfl | refine Agr.mskIn ?_ rfl), rfl, S, fun r w3 S => ?_⟩
        refine W.block ?_
        refine W.seq (W.seq (W.region S ?_))
        refine AS.cons (sp_ldo (v := .func (.func 107) [.agg (bayL b la lc ca cc mp).toArray].toArray #[]) rfl sc_109 ((cell_of_block hA.h3 _).trans rfl) hA.n3 ?_)
        refine AS.cons (sp_ld 7 rfl rfl sc_3 rfl ?_)
        refine AS.cons (sp_ldw 10 rfl rfl ag_82_2 ?_)
        refine AS.cons (sp_call [] (f := 107) (fs := [.agg (bayL b la lc ca cc mp).toArray]) (cs := []) rfl rfl cf_107 (fun F w _ S => forbidden b la lc ca cc mp hb hc hn _ _ _ (by omega) (by omega) w (hK.ext (hE.mod S.mod h5)) (hC.ext (hE.mod S.mod h5))) ?_)
        refine AS.nil ?_
        intro _ S
        refine W.cond rfl (fun c21 => ?_) (fun c21 => ?_)
        · skip
          refine W.exit ?_
          first | exact ⟨_, ⟨congrArg (fun c => pt b5 (.cells (List.toArray (rowsC (upd (Rk b on k) (ordN on k) c))) 113 (0, 0))) (rowI_skip hij c21).symm, trivial⟩, by repeat (first | exact Agr.refl _ _ | exact Agr.msk _ _ _ | refine Agr.upd ?_ _ rfl | refine Agr.upds ?_ rfl | refine Agr.mskIn ?_ rfl), rfl, rfl, S⟩ | exact ⟨_, ⟨congrArg (fun c => pt b5 (.cells (List.toArray c) 113 (0, 0))) (hset _ (by rw [hk0]; rfl)), trivial⟩, by repeat (first | exact Agr.refl _ _ | exact Agr.msk _ _ _ | refine Agr.upd ?_ _ rfl | refine Agr.upds ?_ rfl | refine Agr.mskIn ?_ rfl), rfl, rfl, S⟩
        · skip
          refine W.skip ?_
          refine W.draw S mixed (fun i => ([KD.q [7], KD.q [], KD.q [7], KD.q [], KD.q [], KD.q [], KD.q [], KD.q [], KD.q [8], KD.q [10], KD.e [] [], KD.q [], KD.q [], KD.q [], KD.e [5] [5]] : List KD)[i]?) [] [0, 1, 2, 3, 4, 5, 6, 7, 8, 9, 10, 11, 12, 13, 14] (by kernel_rfl) ?_
          refine AW.cons rfl rfl (sp_ld 7 rfl rfl sc_3 rfl ?_)
          refine AW.cons rfl rfl (sp_move (v := .int _ _) rfl ?_)
          refine AW.cons rfl rfl (sp_ld 7 rfl rfl sc_3 rfl ?_)
          refine AW.cons rfl rfl (sp_fa rfl fo_117_0_0 ?_)
          refine AW.cons rfl rfl (sp_ldo (v := iv (ordI on 0)) rfl sc_3 ((cell_of_block hA.h4 _).trans rfl) hA.n4 ?_)
          refine AW.cons rfl rfl (sp_eql rfl rfl ?_)
          refine AW.cons rfl rfl (sp_move (v := .bool _) rfl ?_)
          refine AW.split 28 rfl (fun g28 => ?_) (fun g28 => ?_)
          · skip
            refine AW.cons rfl rfl (sp_skip rfl ?_)
            refine AW.cons rfl rfl (sp_skip rfl ?_)
            refine AW.cons rfl rfl (sp_skip rfl ?_)
            refine AW.cons rfl rfl (sp_skip rfl ?_)
            refine AW.cons rfl rfl (sp_pick_t rfl (v := .bool _) rfl ?_)
            refine AW.cons rfl rfl (sp_iaa rfl rfl ar_113_31_112_80 (by first | omega | (simp only [decide_eq_true_eq, decide_eq_false_iff_not] at *; omega)) ?_)
            refine AW.cons rfl rfl (sp_iaa rfl rfl ar_112_80_4_1 (by first | omega | (simp only [decide_eq_true_eq, decide_eq_false_iff_not] at *; omega)) ?_)
            refine AW.cons rfl rfl (sp_sts 5 sz_4_1 rfl rfl rfl rfl rfl (by rw [rowsC_len (upd_len (Rk_len b on k) (rowI_len ..) _), hmN]; omega) ?_)
            refine AW.nil ?_
            intro _ S
            have hk0 := ord_first on k
            rw [g28] at hk0
            have hset : ∀ v, v = (decide (k = 0) || nearXY b (frm b on k) ((j : Int) % b.wide) ((j : Int) / b.wide)) → (rowsC (upd (Rk b on k) (ordN on k) (rowI b (ordI on k) (decide (k = 0)) (frm b on k) i))).set (0 + (ordI on k).toNat * 80 + ((j : Nat) : Int).toNat * 1) (.bool v) = rowsC (upd (Rk b on k) (ordN on k) (rowI b (ordI on k) (decide (k = 0)) (frm b on k) (i + 1))) := fun v hv => by
              rw [← rowI_set hij (by simpa using c21) hv, ← rowsC_put (Rk_len b on k) hN (by omega) (rowI_len ..), hmN, Nat.zero_add, Nat.mul_one, Int.toNat_natCast]
            first | exact ⟨_, ⟨congrArg (fun c => pt b5 (.cells (List.toArray (rowsC (upd (Rk b on k) (ordN on k) c))) 113 (0, 0))) (rowI_skip hij c21).symm, trivial⟩, by repeat (first | exact Agr.refl _ _ | exact Agr.msk _ _ _ | refine Agr.upd ?_ _ rfl | refine Agr.upds ?_ rfl | refine Agr.mskIn ?_ rfl), rfl, rfl, S⟩ | exact ⟨_, ⟨congrArg (fun c => pt b5 (.cells (List.toArray c) 113 (0, 0))) (hset _ (by rw [hk0]; rfl)), trivial⟩, by repeat (first | exact Agr.refl _ _ | exact Agr.msk _ _ _ | refine Agr.upd ?_ _ rfl | refine Agr.upds ?_ rfl | refine Agr.mskIn ?_ rfl), rfl, rfl, S⟩
          · skip
            refine AW.cons rfl rfl (sp_ldoa (vs := bayL b la lc ca cc mp) rfl ag_77_8 hcs2 hA.n2 ?_)
            refine AW.cons rfl rfl (sp_ldw 8 rfl rfl (show agB Tryd.prog 112 ((frm b on k).map Value.bool).length = true by rw [List.length_map, frm_len]; exact ag_112_80) ?_)
            refine AW.cons rfl rfl (sp_ldw 10 rfl rfl ag_82_2 ?_)
            refine AW.cons rfl rfl (sp_call [] rfl rfl cf_109 (fun F w _ S => near _ _ _ _ _ _ hb _ (frm_len b on k) _ _ (by omega) (by omega) w) ?_)
            refine AW.cons rfl rfl (sp_pick_f rfl (v := .bool _) rfl ?_)
            refine AW.cons rfl rfl (sp_iaa rfl rfl ar_113_31_112_80 (by first | omega | (simp only [decide_eq_true_eq, decide_eq_false_iff_not] at *; omega)) ?_)
            refine AW.cons rfl rfl (sp_iaa rfl rfl ar_112_80_4_1 (by first | omega | (simp only [decide_eq_true_eq, decide_eq_false_iff_not] at *; omega)) ?_)
            refine AW.cons rfl rfl (sp_sts 5 sz_4_1 rfl rfl rfl rfl rfl (by rw [rowsC_len (upd_len (Rk_len b on k) (rowI_len ..) _), hmN]; omega) ?_)
            refine AW.nil ?_
            intro _ S
            have hk0 := ord_first on k
            rw [g28] at hk0
            have hset : ∀ v, v = (decide (k = 0) || nearXY b (frm b on k) ((j : Int) % b.wide) ((j : Int) / b.wide)) → (rowsC (upd (Rk b on k) (ordN on k) (rowI b (ordI on k) (decide (k = 0)) (frm b on k) i))).set (0 + (ordI on k).toNat * 80 + ((j : Nat) : Int).toNat * 1) (.bool v) = rowsC (upd (Rk b on k) (ordN on k) (rowI b (ordI on k) (decide (k = 0)) (frm b on k) (i + 1))) := fun v hv => by
              rw [← rowI_set hij (by simpa using c21) hv, ← rowsC_put (Rk_len b on k) hN (by omega) (rowI_len ..), hmN, Nat.zero_add, Nat.mul_one, Int.toNat_natCast]
            first | exact ⟨_, ⟨congrArg (fun c => pt b5 (.cells (List.toArray (rowsC (upd (Rk b on k) (ordN on k) c))) 113 (0, 0))) (rowI_skip hij c21).symm, trivial⟩, by repeat (first | exact Agr.refl _ _ | exact Agr.msk _ _ _ | refine Agr.upd ?_ _ rfl | refine Agr.upds ?_ rfl | refine Agr.mskIn ?_ rfl), rfl, rfl, S⟩ | exact ⟨_, ⟨congrArg (fun c => pt b5 (.cells (List.toArray c) 113 (0, 0))) (hset _ (by rw [hk0]; rfl)), trivial⟩, by repeat (first | exact Agr.refl _ _ | exact Agr.msk _ _ _ | refine Agr.upd ?_ _ rfl | refine Agr.upds ?_ rfl | refine Agr.mskIn ?_ rfl), rfl, rfl, S⟩
      · intro d M w2 S
        have e1 : rowsC (upd (Rk b on k) (ordN on k) (rowI b (ordI on k) (decide (k = 0)) (frm b on k) (wtr b).length)) = rowsC (Rk b on (k + 1)) := by rw [rowI_all, ← G_eq, Rk_next b on hk30]
        try dsimp only at S
        rw [e1] at S
        refine W.draw S mixed (fun i => ([KD.q [], KD.q [], KD.q [], KD.q [7], KD.e [] [], KD.q [7], KD.q [], KD.q [5], KD.e [5] [5]] : List KD)[i]?) [] [0, 1, 2, 3, 4, 5, 6, 7, 8] (by kernel_rfl) ?_
        refine AW.cons rfl rfl (sp_ldo (v := .func (.func 108) #[] [oP b2, oP b3, oP b4, oP b5, oP b6].toArray) rfl sc_121 ((cell_of_block hA.h6 _).trans rfl) hA.n6 ?_)
        refine AW.cons rfl rfl (sp_fa rfl fo_117_1_1 ?_)
        refine AW.cons rfl rfl (sp_ldo (v := .func (.func (nxF on)) #[] #[]) rfl sc_115 ((cell_of_block hA.h4 _).trans rfl) hA.n4 ?_)
        refine AW.cons rfl rfl (sp_ld 7 rfl rfl sc_3 rfl ?_)
        refine AW.cons rfl rfl (sp_call [] (f := nxF on) (fs := []) (cs := []) rfl rfl (nx_cf on) (fun F w _ S => nxC on k hk30 w) ?_)
        refine AW.cons rfl rfl (sp_ld 7 rfl rfl sc_3 rfl ?_)
        refine AW.cons rfl rfl (sp_iaa rfl rfl ar_113_31_112_80 (by first | omega | (simp only [decide_eq_true_eq, decide_eq_false_iff_not] at *; omega)) ?_)
        refine AW.cons rfl rfl (sp_lda 5 80 (vs := (frm b on (k + 1)).map Value.bool) rfl rfl ag_112_80 (by rw [Nat.zero_add, hmN]; exact (rowsC_row (Rk_len b on (k + 1)) hN).trans (by rw [Rk_at b on hk30]; rfl)) ?_)
        refine AW.cons rfl rfl (sp_callm 5 [] (o' := .cells (rowsC (Rk b on 31)).toArray 113 (0, 0)) (v := .tuple #[]) (fs := []) (cs := [oP b2, oP b3, oP b4, oP b5, oP b6]) rfl rfl cf_108 rfl (fun F w' hF S => ih (k + 1) (by omega) w' (hE.mod S.mod h5) (hA.mod _ _ _ _ _ _ S.mod) (S.get ((hF 5 (by simp)).trans rfl)).1) ?_)
        refine AW.nil ?_
        intro _ S
        exact retn0 rfl S fun w' S' => ⟨rfl, S'.mod, (S'.get (k := 5) rfl).1⟩
end
end Go.Proofs.YtmpclgepoemneaaDoor

/-
  The walk on and back, whole; whether the book can be true; where the shoal can be.
-/
namespace Go.Proofs.YtmpclgepoemneaaDoor
set_option maxRecDepth 100000
open Go.Hu Go.RowKit
section
variable (b : Bk) (la : Option Addr) (lc : Nat) (ca : Option Addr) (cc : Nat) (mp : Nat)
theorem nowhere' (on : Bool) (w : World) : Ct Tryd.prog 103 #[] w (fun v w' => v = .agg ((frm b on 0).map Value.bool).toArray ∧ Ext w w') := by
  have := nowhere w
  rw [falses_eq] at this
  exact this
theorem swum (hb : Num b) (hc : ∀ c ∈ b.cries, CryOk c) (hn : b.cries.length ≤ 1000000) (on : Bool) (w : World) (hK : Kinds w) (hC : Cries w ca cc b.cries) (hM : MapAt w mp b) :
    Ct Tryd.prog 101 #[.agg (bayL b la lc ca cc mp).toArray, .agg [iv (ordI on 0), .func (.func (nxF on)) #[] #[]].toArray] w (fun u w' => u = .agg (rowsC (Rk b on 31)).toArray ∧ Ext w w') := by
  refine fn_intro (args := [.agg (bayL b la lc ca cc mp).toArray, .agg [iv (ordI on 0), .func (.func (nxF on)) #[] #[]].toArray]) Tryd.func101 rfl rfl (by kernel_rfl) ?_
  have S := St.start no w
  refine W.seq (W.region S ?_)
  refine AS.cons (sp_boxa 2 rfl (fun b2 => ?_))
  refine AS.cons (sp_boxa 3 rfl (fun b3 => ?_))
  refine AS.cons (sp_alloc 4 zv_113 rfl (fun b4 => ?_))
  refine AS.nil ?_
  intro _ S
  refine W.seq (W.region S ?_)
  refine AS.cons (sp_alloc 5 zv_113 rfl (fun b5 => ?_))
  refine AS.nil ?_
  intro _ S
  refine W.seq (W.region S ?_)
  refine AS.cons (sp_ldw 2 rfl rfl ag_77_8 ?_)
  refine AS.cons (sp_mf ?_)
  refine AS.cons (sp_alloc 6 zv_109 rfl (fun b6 => ?_))
  refine AS.cons (sp_st 6 rfl rfl rfl rfl sz_109_1 rfl rfl ?_)
  refine AS.nil ?_
  intro _ S
  refine W.seq (W.region S ?_)
  refine AS.cons (sp_alloc 7 zv_121 rfl (fun b7 => ?_))
  refine AS.nil ?_
  intro _ S
  refine W.seq (W.region S ?_)
  refine AS.cons (sp_mf ?_)
  refine AS.cons (sp_st 7 rfl rfl rfl rfl sz_121_1 rfl rfl ?_)
  refine AS.nil ?_
  intro _ S
  rw [← rowsC_zero b on] at S
  refine W.seq (W.draw S mixed (fun i => ([KD.q [7], KD.q [], KD.q [3], KD.e [] [], KD.e [5, 2, 3, 6, 7] [5]] : List KD)[i]?) [] [3, 0, 1, 2, 4] (by kernel_rfl) ?_)
  refine AW.cons rfl rfl (sp_call [] rfl rfl cf_103 (fun F w _ S => nowhere' b on w) ?_)
  refine AW.cons rfl rfl (sp_ld 7 rfl rfl sc_121 rfl ?_)
  refine AW.cons rfl rfl (sp_fa rfl fo_117_0_0 ?_)
  refine AW.cons rfl rfl (sp_ld 3 rfl rfl sc_3 rfl ?_)
  refine AW.cons rfl rfl (sp_callm 5 [2, 3, 6, 7] (o' := .cells (rowsC (Rk b on 31)).toArray 113 (0, 0)) (v := .tuple #[]) (fs := []) (cs := [oP b2, oP b6, oP b3, oP b5, oP b7]) rfl rfl cf_108 rfl (fun F w' hF S => swumS b la lc ca cc mp hb hc hn on w hK hC hM b2 b6 b3 b5 b7 ((S.get ((hF 5 (by simp)).trans rfl)).2.resolve_right id) 31 0 rfl w' S.mod
    ⟨(S.get ((hF 2 (by simp)).trans rfl)).1, (S.get ((hF 6 (by simp)).trans rfl)).1, (S.get ((hF 3 (by simp)).trans rfl)).1, (S.get ((hF 7 (by simp)).trans rfl)).1, S.ne ((hF 2 (by simp)).trans rfl) ((hF 5 (by simp)).trans rfl) (by decide), S.ne ((hF 6 (by simp)).trans rfl) ((hF 5 (by simp)).trans rfl) (by decide), S.ne ((hF 3 (by simp)).trans rfl) ((hF 5 (by simp)).trans rfl) (by decide), S.ne ((hF 7 (by simp)).trans rfl) ((hF 5 (by simp)).trans rfl) (by decide)⟩
    (S.get ((hF 5 (by simp)).trans rfl)).1) ?_)
  refine AW.nil ?_
  intro _ S
  refine W.seq (W.region S ?_)
  refine AS.cons (sp_ldw 5 rfl rfl (show agB Tryd.prog 113 (rowsC (Rk b on 31)).length = true by rw [rowsC_len (Rk_len b on 31)]; exact ag_113_2480) ?_)
  refine AS.cons (sp_stw 4 sz_113_2480 rfl rfl rfl rfl (rowsC_len (Rk_len b on 31)) (rowsC_len (Rk_len b on 0)) (rowsC_one _) ?_)
  refine AS.nil ?_
  intro _ S
  refine W.ret ?_
  exact retc 4 ag_113_2480 rfl rfl rfl rfl (rowsC_len (Rk_len b on 31)) S fun w' S' => ⟨rfl, S'.mod⟩
theorem can (hb : Num b) (hc : ∀ c ∈ b.cries, CryOk c) (hn : b.cries.length ≤ 1000000) (w : World) (hK : Kinds w) (hC : Cries w ca cc b.cries) (hM : MapAt w mp b) :
    Ct Tryd.prog 71 #[.agg (bayL b la lc ca cc mp).toArray] w (fun u w' => u = .bool (canB b) ∧ Ext w w') := by
  refine fn_intro (args := [.agg (bayL b la lc ca cc mp).toArray]) Tryd.func71 rfl rfl (by kernel_rfl) ?_
  have S := St.start no w
  refine W.seq (W.region S ?_)
  refine AS.cons (sp_boxa 1 rfl (fun b1 => ?_))
  refine AS.cons (sp_asg rfl ?_)
  refine AS.nil ?_
  intro _ S
  refine W.seq (W.draw S mixed (fun i => ([KD.q [1], KD.e [] [], KD.e [] [], KD.q [], KD.e [] [], KD.q [], KD.q []] : List KD)[i]?) [2] [1, 0, 2, 4, 3, 5, 6] (by kernel_rfl) ?_)
  refine AW.cons rfl rfl (sp_call [] rfl rfl cf_102 (fun F w _ S => onF w) ?_)
  refine AW.cons rfl rfl (sp_ldw 1 rfl rfl ag_77_8 ?_)
  refine AW.cons rfl rfl (sp_call [] rfl rfl cf_101 (fun F w' _ S => swum b la lc ca cc mp hb hc hn true w' (hK.ext S.mod) (hC.ext S.mod) (hM.ext S.mod)) ?_)
  refine AW.cons rfl rfl (sp_call [] rfl rfl cf_103 (fun F w _ S => nowhere w) ?_)
  refine AW.cons rfl rfl (sp_ix rfl rfl ar_113_31_112_80 ag_112_80 (by omega) rfl (show rdL (rowsC (Rk b true 31)) 2400 80 = some ((G b true 30).map Value.bool) from (rowsC_row (m := 30) (Rk_len b true 31) (by omega)).trans (by rw [Rk_last])) ?_)
  refine AW.cons rfl rfl (sp_neqa (l := (G b true 30).map Value.bool) (r := fls.map Value.bool) rfl (by rw [← falses_eq]; rfl) eg_112 (eqP_bools ar_112_80_4_1 bool_4 (G_len b true 30) fls_len) ?_)
  refine AW.cons rfl rfl (sp_asg (v := .bool _) rfl ?_)
  refine AW.nil ?_
  intro _ S
  refine W.ret ?_
  exact ret1 rfl rfl S fun w' S' => ⟨rfl, S'.mod⟩
theorem wheres (hb : Num b) (hc : ∀ c ∈ b.cries, CryOk c) (hn : b.cries.length ≤ 1000000) (w : World) (hK : Kinds w) (hC : Cries w ca cc b.cries) (hM : MapAt w mp b) :
    Ct Tryd.prog 89 #[.agg (bayL b la lc ca cc mp).toArray] w (fun u w' => ∃ i, (∃ vs, vs.length = 31 ∧ (∀ v ∈ vs, IsSl v) ∧ u = .agg vs.toArray ∧ i = stars (pcs b 0 vs)) ∧ St no w w' (upd eL 0 i) []) := by
  refine fn_intro (args := [.agg (bayL b la lc ca cc mp).toArray]) Tryd.func89 rfl rfl (by kernel_rfl) ?_
  have S := St.start no w
  refine W.seq (W.region S ?_)
  refine AS.cons (sp_boxa 1 rfl (fun b1 => ?_))
  refine AS.cons (sp_alloc 2 zv_101 rfl (fun b2 => ?_))
  refine AS.nil ?_
  intro _ S
  refine W.seq (W.draw S mixed (fun i => ([KD.q [1], KD.e [] [], KD.e [] [], KD.q [1], KD.e [] [], KD.e [] [], KD.a 3, KD.a 4, KD.e [3] [3], KD.e [4] [4]] : List KD)[i]?) [2, 4, 5] [1, 0, 2, 4, 3, 5, 6, 7, 8, 9] (by kernel_rfl) ?_)
  refine AW.cons rfl rfl (sp_call [] rfl rfl cf_102 (fun F w _ S => onF w) ?_)
  refine AW.cons rfl rfl (sp_ldw 1 rfl rfl ag_77_8 ?_)
  refine AW.cons rfl rfl (sp_call [] rfl rfl cf_101 (fun F w' _ S => swum b la lc ca cc mp hb hc hn true w' (hK.ext S.mod) (hC.ext S.mod) (hM.ext S.mod)) ?_)
  refine AW.cons rfl rfl (sp_call [] rfl rfl cf_106 (fun F w _ S => backF w) ?_)
  refine AW.cons rfl rfl (sp_ldw 1 rfl rfl ag_77_8 ?_)
  refine AW.cons rfl rfl (sp_call [] rfl rfl cf_101 (fun F w' _ S => swum b la lc ca cc mp hb hc hn false w' (hK.ext S.mod) (hC.ext S.mod) (hM.ext S.mod)) ?_)
  refine AW.cons rfl rfl (sp_alloc 3 zv_113 rfl (fun b3 => ?_))
  refine AW.cons rfl rfl (sp_alloc 4 zv_113 rfl (fun b4 => ?_))
  refine AW.cons rfl rfl (sp_stw 3 sz_113_2480 rfl rfl rfl rfl (rowsC_len (Rk_len b true 31)) (by simp) (rowsC_one _) ?_)
  refine AW.cons rfl rfl (sp_stw 4 sz_113_2480 rfl rfl rfl rfl (rowsC_len (Rk_len b false 31)) (by simp) (rowsC_one _) ?_)
  refine AW.nil ?_
  intro _ S
  refine W.seq (W.region S ?_)
  refine AS.cons (sp_alloc 5 zv_101 rfl (fun b5 => ?_))
  refine AS.nil ?_
  intro _ S
  refine W.seq (W.seq (W.region S ?_))
  refine AS.cons (sp_move rfl ?_)
  refine AS.nil ?_
  intro _ S
  have S := (S.drop 900).weak (k := 900) (i := stars (pcs b 0 [])) (fun f hf => by rw [upd_same] at hf; exact hf)
  refine W.block ?_
  refine W.loopS S [6, 7, 14, 15, 16, 17, 18, 19, 20, 21, 22, 23, 24, 25, 26, 27, 28, 29, 30, 31, 32, 33, 34, 35, 36, 37, 38, 39, 40, 41] [5, 37, 38, 900, 901] (fun (z : Nat × List Value) => [(14, iv z.1)]) (fun z => [(5, pt b5 (.cells (z.2 ++ List.replicate (31 - z.1) nilS).toArray 101 (0, 0))), (900, stars (pcs b 0 z.2))]) (fun z => z.1 ≤ 31 ∧ z.2.length = z.1 ∧ ∀ v ∈ z.2, IsSl v) (fun z => 31 - z.1) (0, []) ⟨by omega, rfl, fun v hv => by cases hv⟩ ⟨rfl, trivial⟩ ⟨rfl, rfl, trivial⟩ ?_
  rintro ⟨m, vs⟩ σ M w1 ⟨hm, hvl, hvs⟩ S
  replace hm : m ≤ 31 := hm
  replace hvl : vs.length = m := hvl
  refine W.seq (W.region S ?_)
  refine AS.cons (sp_lss rfl rfl ?_)
  refine AS.nil ?_
  intro _ S
  refine W.seq (W.condd rfl (fun c15 => ?_) (fun c15 => ?_))
  · skip
    refine W.skip ?_
    refine W.seq (W.block ?_)
    refine W.seq (W.region S ?_)
    refine AS.cons (sp_move (v := .int _ _) rfl ?_)
    refine AS.cons (sp_asg (v := .int _ _) rfl ?_)
    refine AS.nil ?_
    intro _ S
    refine W.seq (W.region S ?_)
    refine AS.cons (sp_move rfl ?_)
    refine AS.nil ?_
    intro _ S
    have S := (S.drop 901).weak (k := 901) (i := slc 3 1 nilS 0 []) (fun f hf => by rw [upd_same] at hf; exact slc_nil 3 1 f hf)
    have hrep : List.replicate (31 - m) nilS = nilS :: List.replicate (30 - m) nilS := by rw [show 31 - m = (30 - m) + 1 by omega]; rfl
    refine W.block ?_
    refine W.loopS S [7, 17, 18, 19, 20, 21, 22, 23, 24, 25, 26, 27, 28, 29, 30, 31, 32, 33, 34, 35, 36, 37, 38, 39, 40] [5, 37, 38, 901] (fun (z : Nat × Value) => [(17, iv z.1)]) (fun z => [(5, pt b5 (.cells (vs ++ z.2 :: List.replicate (30 - m) nilS).toArray 101 (0, 0))), (901, slc 3 1 z.2 (whU b m z.1).length ((whU b m z.1).map iv))]) (fun z => z.1 ≤ 80 ∧ ∃ a c, z.2 = .slice a (whU b m z.1).length c) (fun z => 80 - z.1) (0, nilS) ⟨by omega, none, 0, rfl⟩ ⟨rfl, trivial⟩ ⟨by rw [← hrep]; rfl, rfl, trivial⟩ ?_
    rintro ⟨n, v⟩ σ M w2 ⟨hn80, a, c, hva⟩ S
    replace hn80 : n ≤ 80 := hn80
    replace hva : v = .slice a (whU b m n).length c := hva
    subst hva
    refine W.seq (W.region S ?_)
    refine AS.cons (sp_lss rfl rfl ?_)
    refine AS.nil ?_
    intro _ S
    refine W.seq (W.condd rfl (fun c18 => ?_) (fun c18 => ?_))
    · skip
      refine W.skip ?_
      refine W.seq (W.block ?_)
      refine W.seq (W.region S ?_)
      refine AS.cons (sp_move (v := .int _ _) rfl ?_)
      refine AS.cons (sp_asg (v := .int _ _) rfl ?_)
      refine AS.nil ?_
      intro _ S
      obtain ⟨p, hp⟩ := get_some (l := Rk b true 31 m) (j := n) (by rw [Rk_len]; omega)
      obtain ⟨q, hq⟩ := get_some (l := Rk b false 31 m) (j := n) (by rw [Rk_len]; omega)
      have hcnd : cnd b m n = (p && q) := by unfold cnd; rw [List.getD_eq_getElem?_getD, List.getD_eq_getElem?_getD, hp, hq]; rfl
      have hwl := whU_len b m n
      refine W.seq (W.region S ?_)
      refine AS.cons (sp_move (v := .int _ _) rfl ?_)
      refine AS.cons (sp_move (v := .int _ _) rfl ?_)
      refine AS.cons (sp_iaa rfl rfl ar_113_31_112_80 (by first | omega | (simp only [decide_eq_true_eq, decide_eq_false_iff_not] at *; omega)) ?_)
      refine AS.cons (sp_iaa rfl rfl ar_112_80_4_1 (by first | omega | (simp only [decide_eq_true_eq, decide_eq_false_iff_not] at *; omega)) ?_)
      refine AS.cons (sp_ld 3 (v := .bool p) rfl rfl sc_4 (by have := rowsC_get (Rk_len b true 31) (show m ≤ 30 by omega) hp; simpa using this) ?_)
      refine AS.cons (sp_move (v := .bool _) rfl ?_)
      refine AS.split 25 rfl (fun g25 => ?_) (fun g25 => ?_)
      · skip
        refine AS.cons (sp_move (v := .int _ _) rfl ?_)
        refine AS.cons (sp_move (v := .int _ _) rfl ?_)
        refine AS.cons (sp_iaa rfl rfl ar_113_31_112_80 (by first | omega | (simp only [decide_eq_true_eq, decide_eq_false_iff_not] at *; omega)) ?_)
        refine AS.cons (sp_iaa rfl rfl ar_112_80_4_1 (by first | omega | (simp only [decide_eq_true_eq, decide_eq_false_iff_not] at *; omega)) ?_)
        refine AS.cons (sp_ld 4 (v := .bool q) rfl rfl sc_4 (by have := rowsC_get (Rk_len b false 31) (show m ≤ 30 by omega) hq; simpa using this) ?_)
        refine AS.cons (sp_pick_t rfl (v := .bool _) rfl ?_)
        refine AS.nil ?_
        intro _ S
        refine W.cond rfl (fun c31 => ?_) (fun c31 => ?_)
        · skip
          have hw : whU b m (n + 1) = whU b m n ++ [(n : Int)] := by rw [whU_succ, hcnd, g25, c31]; rfl
          refine W.region S ?_
          refine AS.cons (sp_move (v := .int _ _) rfl ?_)
          refine AS.cons (sp_move (v := .int _ _) rfl ?_)
          refine AS.cons (sp_iaa rfl rfl ar_101_31_22_1 (by first | omega | (simp only [decide_eq_true_eq, decide_eq_false_iff_not] at *; omega)) ?_)
          refine AS.cons (sp_ld 5 (v := .slice a (whU b m n).length c) rfl rfl sc_22 (by simp [hvl]) ?_)
          refine AS.cons (sp_move (v := .int _ _) rfl ?_)
          refine AS.cons (sp_bs 37 [.tmp 36] _ sl_22_3_1 zs_3_1 rfl rfl rfl rfl rfl rfl (fun b37 => ?_))
          refine AS.cons (sp_app 901 [37] rfl rfl sl_22_3_1 zs_3_1 rfl (fun F w hF S => rd_pt (S.get ((hF 37 (by simp)).trans rfl)).1 rfl (by omega) (by omega)) rfl (by first | omega | (simp only [] at *; omega)) (fun a38 c38 => ?_))
          refine AS.cons (sp_iaa rfl rfl ar_101_31_22_1 (by first | omega | (simp only [decide_eq_true_eq, decide_eq_false_iff_not] at *; omega)) ?_)
          refine AS.cons (sp_sts 5 (v := .slice a38 ((whU b m n).length + 1) c38) sz_22_1 rfl rfl rfl rfl rfl (by simp [hvl]) ?_)
          refine AS.nil ?_
          intro _ S
          refine W.region S ?_
          refine AS.cons (sp_add rfl rfl (by first | omega | (simp only [decide_eq_true_eq, decide_eq_false_iff_not] at *; omega)) ?_)
          refine AS.cons (sp_move (v := .int _ _) rfl ?_)
          refine AS.nil ?_
          intro _ S
          first | exact ⟨(n + 1, .slice a38 _ c38), _, ⟨by show n + 1 ≤ 80; omega, a38, c38, by show _ = Value.slice a38 (whU b m (n + 1)).length c38; rw [hw, List.length_append]⟩, by show 80 - (n + 1) < 80 - n; omega, ⟨by simp [upd], trivial⟩, ⟨by show pt b5 _ = pt b5 _; simp [hvl], by show slc 3 1 _ _ _ = slc 3 1 _ _ _; rw [hw, List.length_append, List.map_append]; rfl, trivial⟩, by repeat (first | exact Agr.refl _ _ | exact Agr.msk _ _ _ | refine Agr.upd ?_ _ rfl | refine Agr.upds ?_ rfl | refine Agr.mskIn ?_ rfl), by repeat (first | exact Agr.refl _ _ | exact Agr.msk _ _ _ | refine Agr.upd ?_ _ rfl | refine Agr.upds ?_ rfl | refine Agr.mskIn ?_ rfl), rfl, S⟩ | exact ⟨(n + 1, .slice a (whU b m n).length c), _, ⟨by show n + 1 ≤ 80; omega, a, c, by rw [hw]⟩, by show 80 - (n + 1) < 80 - n; omega, ⟨by simp [upd], trivial⟩, ⟨rfl, by show slc 3 1 _ _ _ = slc 3 1 _ _ _; rw [hw], trivial⟩, by repeat (first | exact Agr.refl _ _ | exact Agr.msk _ _ _ | refine Agr.upd ?_ _ rfl | refine Agr.upds ?_ rfl | refine Agr.mskIn ?_ rfl), by repeat (first | exact Agr.refl _ _ | exact Agr.msk _ _ _ | refine Agr.upd ?_ _ rfl | refine Agr.upds ?_ rfl | refine Agr.mskIn ?_ rfl), rfl, S⟩ | (have hw : whU b m (n + 1) = whU b m n := by rw [whU_succ, hcnd, g25]; rfl); exact ⟨(n + 1, .slice a (whU b m n).length c), _, ⟨by show n + 1 ≤ 80; omega, a, c, by rw [hw]⟩, by show 80 - (n + 1) < 80 - n; omega, ⟨by simp [upd], trivial⟩, ⟨rfl, by show slc 3 1 _ _ _ = slc 3 1 _ _ _; rw [hw], trivial⟩, by repeat (first | exact Agr.refl _ _ | exact Agr.msk _ _ _ | refine Agr.upd ?_ _ rfl | refine Agr.upds ?_ rfl | refine Agr.mskIn ?_ rfl), by repeat (first | exact Agr.refl _ _ | exact Agr.msk _ _ _ | refine Agr.upd ?_ _ rfl | refine Agr.upds ?_ rfl | refine Agr.mskIn ?_ rfl), rfl, S⟩
        · skip
          have hw : whU b m (n + 1) = whU b m n := by rw [whU_succ, hcnd, g25, c31]; rfl
          refine W.skip ?_
          refine W.region S ?_
          refine AS.cons (sp_add rfl rfl (by first | omega | (simp only [decide_eq_true_eq, decide_eq_false_iff_not] at *; omega)) ?_)
          refine AS.cons (sp_move (v := .int _ _) rfl ?_)
          refine AS.nil ?_
          intro _ S
          first | exact ⟨(n + 1, .slice a38 _ c38), _, ⟨by show n + 1 ≤ 80; omega, a38, c38, by show _ = Value.slice a38 (whU b m (n + 1)).length c38; rw [hw, List.length_append]⟩, by show 80 - (n + 1) < 80 - n; omega, ⟨by simp [upd], trivial⟩, ⟨by show pt b5 _ = pt b5 _; simp [hvl], by show slc 3 1 _ _ _ = slc 3 1 _ _ _; rw [hw, List.length_append, List.map_append]; rfl, trivial⟩, by repeat (first | exact Agr.refl _ _ | exact Agr.msk _ _ _ | refine Agr.upd ?_ _ rfl | refine Agr.upds ?_ rfl | refine Agr.mskIn ?_ rfl), by repeat (first | exact Agr.refl _ _ | exact Agr.msk _ _ _ | refine Agr.upd ?_ _ rfl | refine Agr.upds ?_ rfl | refine Agr.mskIn ?_ rfl), rfl, S⟩ | exact ⟨(n + 1, .slice a (whU b m n).length c), _, ⟨by show n + 1 ≤ 80; omega, a, c, by rw [hw]⟩, by show 80 - (n + 1) < 80 - n; omega, ⟨by simp [upd], trivial⟩, ⟨rfl, by show slc 3 1 _ _ _ = slc 3 1 _ _ _; rw [hw], trivial⟩, by repeat (first | exact Agr.refl _ _ | exact Agr.msk _ _ _ | refine Agr.upd ?_ _ rfl | refine Agr.upds ?_ rfl | refine Agr.mskIn ?_ rfl), by repeat (first | exact Agr.refl _ _ | exact Agr.msk _ _ _ | refine Agr.upd ?_ _ rfl | refine Agr.upds ?_ rfl | refine Agr.mskIn ?_ rfl), rfl, S⟩ | (have hw : whU b m (n + 1) = whU b m n := by rw [whU_succ, hcnd, g25]; rfl); exact ⟨(n + 1, .slice a (whU b m n).length c), _, ⟨by show n + 1 ≤ 80; omega, a, c, by rw [hw]⟩, by show 80 - (n + 1) < 80 - n; omega, ⟨by simp [upd], trivial⟩, ⟨rfl, by show slc 3 1 _ _ _ = slc 3 1 _ _ _; rw [hw], trivial⟩, by repeat (first | exact Agr.refl _ _ | exact Agr.msk _ _ _ | refine Agr.upd ?_ _ rfl | refine Agr.upds ?_ rfl | refine Agr.mskIn ?_ rfl), by repeat (first | exact Agr.refl _ _ | exact Agr.msk _ _ _ | refine Agr.upd ?_ _ rfl | refine Agr.upds ?_ rfl | refine Agr.mskIn ?_ rfl), rfl, S⟩
      · skip
        refine AS.cons (sp_skip rfl ?_)
        refine AS.cons (sp_skip rfl ?_)
        refine AS.cons (sp_skip rfl ?_)
        refine AS.cons (sp_skip rfl ?_)
        refine AS.cons (sp_skip rfl ?_)
        refine AS.cons (sp_pick_f rfl (v := .bool _) rfl ?_)
        refine AS.nil ?_
        intro _ S
        refine W.cond (b := false) rfl (fun h => nomatch h) (fun _ => ?_)
        refine W.skip ?_
        refine W.region S ?_
        refine AS.cons (sp_add rfl rfl (by first | omega | (simp only [decide_eq_true_eq, decide_eq_false_iff_not] at *; omega)) ?_)
        refine AS.cons (sp_move (v := .int _ _) rfl ?_)
        refine AS.nil ?_
        intro _ S
        first | exact ⟨(n + 1, .slice a38 _ c38), _, ⟨by show n + 1 ≤ 80; omega, a38, c38, by show _ = Value.slice a38 (whU b m (n + 1)).length c38; rw [hw, List.length_append]⟩, by show 80 - (n + 1) < 80 - n; omega, ⟨by simp [upd], trivial⟩, ⟨by show pt b5 _ = pt b5 _; simp [hvl], by show slc 3 1 _ _ _ = slc 3 1 _ _ _; rw [hw, List.length_append, List.map_append]; rfl, trivial⟩, by repeat (first | exact Agr.refl _ _ | exact Agr.msk _ _ _ | refine Agr.upd ?_ _ rfl | refine Agr.upds ?_ rfl | refine Agr.mskIn ?_ rfl), by repeat (first | exact Agr.refl _ _ | exact Agr.msk _ _ _ | refine Agr.upd ?_ _ rfl | refine Agr.upds ?_ rfl | refine Agr.mskIn ?_ rfl), rfl, S⟩ | exact ⟨(n + 1, .slice a (whU b m n).length c), _, ⟨by show n + 1 ≤ 80; omega, a, c, by rw [hw]⟩, by show 80 - (n + 1) < 80 - n; omega, ⟨by simp [upd], trivial⟩, ⟨rfl, by show slc 3 1 _ _ _ = slc 3 1 _ _ _; rw [hw], trivial⟩, by repeat (first | exact Agr.refl _ _ | exact Agr.msk _ _ _ | refine Agr.upd ?_ _ rfl | refine Agr.upds ?_ rfl | refine Agr.mskIn ?_ rfl), by repeat (first | exact Agr.refl _ _ | exact Agr.msk _ _ _ | refine Agr.upd ?_ _ rfl | refine Agr.upds ?_ rfl | refine Agr.mskIn ?_ rfl), rfl, S⟩ | (have hw : whU b m (n + 1) = whU b m n := by rw [whU_succ, hcnd, g25]; rfl); exact ⟨(n + 1, .slice a (whU b m n).length c), _, ⟨by show n + 1 ≤ 80; omega, a, c, by rw [hw]⟩, by show 80 - (n + 1) < 80 - n; omega, ⟨by simp [upd], trivial⟩, ⟨rfl, by show slc 3 1 _ _ _ = slc 3 1 _ _ _; rw [hw], trivial⟩, by repeat (first | exact Agr.refl _ _ | exact Agr.msk _ _ _ | refine Agr.upd ?_ _ rfl | refine Agr.upds ?_ rfl | refine Agr.mskIn ?_ rfl), by repeat (first | exact Agr.refl _ _ | exact Agr.msk _ _ _ | refine Agr.upd ?_ _ rfl | refine Agr.upds ?_ rfl | refine Agr.mskIn ?_ rfl), rfl, S⟩
    · skip
      obtain rfl : n = 80 := by omega
      have S := (S.fold (k := 900) (k' := 901) (by decide)).weak (k := 900) (i := stars (pcs b 0 (vs ++ [.slice a (whU b m 80).length c]))) (fun f hf => by rw [upd_same] at hf; rw [pcs_snoc, hvl, Nat.zero_add]; exact stars_snoc hf)
      refine W.exit ?_
      refine W.region S ?_
      refine AS.cons (sp_add rfl rfl (by first | omega | (simp only [decide_eq_true_eq, decide_eq_false_iff_not] at *; omega)) ?_)
      refine AS.cons (sp_move (v := .int _ _) rfl ?_)
      refine AS.nil ?_
      intro _ S
      exact ⟨(m + 1, vs ++ [.slice a (whU b m 80).length c]), _, ⟨by show m + 1 ≤ 31; omega, by simp [hvl], mem_snoc hvs ⟨_, _, _, rfl⟩⟩, by show 31 - (m + 1) < 31 - m; omega, ⟨by simp [upd], trivial⟩, ⟨by show pt b5 _ = pt b5 _; simp, rfl, trivial⟩, by repeat (first | exact Agr.refl _ _ | exact Agr.msk _ _ _ | refine Agr.upd ?_ _ rfl | refine Agr.upds ?_ rfl | refine Agr.mskIn ?_ rfl), by repeat (first | exact Agr.refl _ _ | exact Agr.msk _ _ _ | refine Agr.upd ?_ _ rfl | refine Agr.upds ?_ rfl | refine Agr.mskIn ?_ rfl), rfl, S⟩
  · skip
    obtain rfl : m = 31 := by omega
    have e31 : vs ++ List.replicate (31 - 31) nilS = vs := by simp
    try dsimp only at S
    rw [e31] at S
    refine W.exit ?_
    refine W.seq (W.region S ?_)
    refine AS.cons (sp_ldw 5 rfl rfl (show agB Tryd.prog 101 vs.length = true by rw [hvl]; exact ag_101_31) ?_)
    refine AS.cons (sp_stw 2 sz_101_31 rfl rfl rfl rfl hvl (by simp) (one_sl hvs) ?_)
    refine AS.nil ?_
    intro _ S
    refine W.ret ?_
    exact retc 2 ag_101_31 rfl rfl rfl rfl hvl S fun w' S' => ⟨_, ⟨vs, hvl, hvs, rfl, rfl⟩, S'.only 900⟩
end
end Go.Proofs.YtmpclgepoemneaaDoor

/-
  Which books are right.
-/
namespace Go.Proofs.YtmpclgepoemneaaDoor
set_option maxRecDepth 100000
open Go.Hu Go.RowKit
section
variable (b : Bk) (la : Option Addr) (lc : Nat) (ca : Option Addr) (cc : Nat) (mp : Nat)
theorem check (w : World) (hl : Ints w la lc b.land) (hC : Cries w ca cc b.cries) : Ct Tryd.prog 18 #[.agg (bkL b la lc ca cc).toArray] w (fun u w' => u = iv (chkV b) ∧ Ext w w') := by
  refine fn_intro (args := [.agg (bkL b la lc ca cc).toArray]) Tryd.func18 rfl rfl (by kernel_rfl) ?_
  have S := St.start no w
  have hln : b.land.length ≤ 9223372036854775807 := hl.2.1
  have hcn : b.cries.length ≤ 9223372036854775807 := hC.2.1
  refine W.seq (W.region S ?_)
  refine AS.cons (sp_boxa 1 rfl (fun b1 => ?_))
  refine AS.cons (sp_asg rfl ?_)
  refine AS.nil ?_
  intro _ S
  refine W.seq (W.regionc S [3, 10, 11, 12, 13, 14, 15, 16, 17, 18, 19, 20, 21, 22, 23, 24, 25, 26, 27, 28, 29, 30, 31, 32, 33, 34] 3 (B0 b) ?_ ?_)
  · skip
    refine AS.cons (sp_fa rfl fo_26_0_0 ?_)
    refine AS.cons (sp_ld 1 rfl rfl sc_3 rfl ?_)
    refine AS.cons (sp_call [] rfl rfl cf_62 (fun F w _ S => within _ _ _ w) ?_)
    refine AS.cons (sp_move (v := .bool _) rfl ?_)
    refine AS.split 13 rfl (fun g13 => ?_) (fun g13 => ?_)
    · skip
      refine AS.cons (sp_fa rfl fo_26_1_1 ?_)
      refine AS.cons (sp_ld 1 rfl rfl sc_3 rfl ?_)
      refine AS.cons (sp_call [] rfl rfl cf_62 (fun F w _ S => within _ _ _ w) ?_)
      refine AS.cons (sp_pick_t rfl (v := .bool _) rfl ?_)
      refine AS.cons (sp_move (v := .bool _) rfl ?_)
      refine AS.split 18 rfl (fun g18 => ?_) (fun g18 => ?_)
      · skip
        refine AS.cons (sp_fa rfl fo_26_2_2 ?_)
        refine AS.cons (sp_ld 1 rfl rfl sc_22 rfl ?_)
        refine AS.cons (sp_len rfl sl_22_3_1 ?_)
        refine AS.cons (sp_leq rfl rfl ?_)
        refine AS.cons (sp_pick_t rfl (v := .bool _) rfl ?_)
        refine AS.cons (sp_move (v := .bool _) rfl ?_)
        refine AS.split 24 rfl (fun g24 => ?_) (fun g24 => ?_)
        · skip
          refine AS.cons (sp_fa rfl fo_26_4_5 ?_)
          refine AS.cons (sp_ld 1 rfl rfl sc_3 rfl ?_)
          refine AS.cons (sp_call [] rfl rfl cf_62 (fun F w _ S => within _ _ _ w) ?_)
          refine AS.cons (sp_pick_t rfl (v := .bool _) rfl ?_)
          refine AS.cons (sp_move (v := .bool _) rfl ?_)
          refine AS.split 29 rfl (fun g29 => ?_) (fun g29 => ?_)
          · skip
            refine AS.cons (sp_fa rfl fo_26_5_6 ?_)
            refine AS.cons (sp_ld 1 rfl rfl sc_24 rfl ?_)
            refine AS.cons (sp_len rfl sl_24_46_7 ?_)
            refine AS.cons (sp_leq rfl rfl ?_)
            refine AS.cons (sp_pick_t rfl (v := .bool _) rfl ?_)
            refine AS.cons (sp_asg (v := .bool _) rfl ?_)
            refine AS.nil ⟨⟨_, rfl, ?_⟩, ?_, rfl⟩
            · (try simp only [decide_eq_true_eq] at *); first | omega | (simp_all; done) | (simp_all; omega)
            · repeat (first | exact Agr.refl _ _ | exact Agr.msk _ _ _ | refine Agr.upd ?_ _ rfl | refine Agr.upds ?_ rfl | refine Agr.mskIn ?_ rfl)
          · skip
            refine AS.cons (sp_skip rfl ?_)
            refine AS.cons (sp_skip rfl ?_)
            refine AS.cons (sp_skip rfl ?_)
            refine AS.cons (sp_skip rfl ?_)
            refine AS.cons (sp_pick_f rfl (v := .bool _) rfl ?_)
            refine AS.cons (sp_asg (v := .bool _) rfl ?_)
            refine AS.nil ⟨⟨_, rfl, ?_⟩, ?_, rfl⟩
            · (try simp only [decide_eq_true_eq, decide_eq_false_iff_not] at *); first | omega | (simp_all; done) | (simp_all; omega)
            · repeat (first | exact Agr.refl _ _ | exact Agr.msk _ _ _ | refine Agr.upd ?_ _ rfl | refine Agr.upds ?_ rfl | refine Agr.mskIn ?_ rfl)
        · skip
          refine AS.cons (sp_skip rfl ?_)
          refine AS.cons (sp_skip rfl ?_)
          refine AS.cons (sp_skip rfl ?_)
          refine AS.cons (sp_pick_f rfl (v := .bool _) rfl ?_)
          refine AS.cons (sp_move (v := .bool _) rfl ?_)
          refine AS.cons (sp_skip rfl ?_)
          refine AS.cons (sp_skip rfl ?_)
          refine AS.cons (sp_skip rfl ?_)
          refine AS.cons (sp_skip rfl ?_)
          refine AS.cons (sp_pick_f rfl (v := .bool _) rfl ?_)
          refine AS.cons (sp_asg (v := .bool _) rfl ?_)
          refine AS.nil ⟨⟨_, rfl, ?_⟩, ?_, rfl⟩
          · (try simp only [decide_eq_true_eq, decide_eq_false_iff_not] at *); first | omega | (simp_all; done) | (simp_all; omega)
          · repeat (first | exact Agr.refl _ _ | exact Agr.msk _ _ _ | refine Agr.upd ?_ _ rfl | refine Agr.upds ?_ rfl | refine Agr.mskIn ?_ rfl)
      · skip
        refine AS.cons (sp_skip rfl ?_)
        refine AS.cons (sp_skip rfl ?_)
        refine AS.cons (sp_skip rfl ?_)
        refine AS.cons (sp_skip rfl ?_)
        refine AS.cons (sp_pick_f rfl (v := .bool _) rfl ?_)
        refine AS.cons (sp_move (v := .bool _) rfl ?_)
        refine AS.cons (sp_skip rfl ?_)
        refine AS.cons (sp_skip rfl ?_)
        refine AS.cons (sp_skip rfl ?_)
        refine AS.cons (sp_pick_f rfl (v := .bool _) rfl ?_)
        refine AS.cons (sp_move (v := .bool _) rfl ?_)
        refine AS.cons (sp_skip rfl ?_)
        refine AS.cons (sp_skip rfl ?_)
        refine AS.cons (sp_skip rfl ?_)
        refine AS.cons (sp_skip rfl ?_)
        refine AS.cons (sp_pick_f rfl (v := .bool _) rfl ?_)
        refine AS.cons (sp_asg (v := .bool _) rfl ?_)
        refine AS.nil ⟨⟨_, rfl, ?_⟩, ?_, rfl⟩
        · (try simp only [decide_eq_true_eq, decide_eq_false_iff_not] at *); first | omega | (simp_all; done) | (simp_all; omega)
        · repeat (first | exact Agr.refl _ _ | exact Agr.msk _ _ _ | refine Agr.upd ?_ _ rfl | refine Agr.upds ?_ rfl | refine Agr.mskIn ?_ rfl)
    · skip
      refine AS.cons (sp_skip rfl ?_)
      refine AS.cons (sp_skip rfl ?_)
      refine AS.cons (sp_skip rfl ?_)
      refine AS.cons (sp_pick_f rfl (v := .bool _) rfl ?_)
      refine AS.cons (sp_move (v := .bool _) rfl ?_)
      refine AS.cons (sp_skip rfl ?_)
      refine AS.cons (sp_skip rfl ?_)
      refine AS.cons (sp_skip rfl ?_)
      refine AS.cons (sp_skip rfl ?_)
      refine AS.cons (sp_pick_f rfl (v := .bool _) rfl ?_)
      refine AS.cons (sp_move (v := .bool _) rfl ?_)
      refine AS.cons (sp_skip rfl ?_)
      refine AS.cons (sp_skip rfl ?_)
      refine AS.cons (sp_skip rfl ?_)
      refine AS.cons (sp_pick_f rfl (v := .bool _) rfl ?_)
      refine AS.cons (sp_move (v := .bool _) rfl ?_)
      refine AS.cons (sp_skip rfl ?_)
      refine AS.cons (sp_skip rfl ?_)
      refine AS.cons (sp_skip rfl ?_)
      refine AS.cons (sp_skip rfl ?_)
      refine AS.cons (sp_pick_f rfl (v := .bool _) rfl ?_)
      refine AS.cons (sp_asg (v := .bool _) rfl ?_)
      refine AS.nil ⟨⟨_, rfl, ?_⟩, ?_, rfl⟩
      · (try simp only [decide_eq_false_iff_not] at *); first | omega | (simp_all; done) | (simp_all; omega)
      · repeat (first | exact Agr.refl _ _ | exact Agr.msk _ _ _ | refine Agr.upd ?_ _ rfl | refine Agr.upds ?_ rfl | refine Agr.mskIn ?_ rfl)
  intro σ1 _ S
  refine W.seq (W.seq (W.region S ?_))
  refine AS.cons (sp_fa rfl fo_26_2_2 ?_)
  refine AS.cons (sp_ld 1 rfl rfl sc_22 rfl ?_)
  refine AS.cons (sp_len rfl sl_22_3_1 ?_)
  refine AS.cons (sp_move rfl ?_)
  refine AS.nil ?_
  intro _ S
  refine W.block ?_
  refine W.loopS S [3, 4, 5, 38, 39, 40, 41, 42, 43, 44, 45, 46, 47, 48, 49, 50, 51, 52, 53, 54, 55, 56, 57, 58, 59, 60, 61, 62, 63] [] (fun (j : Nat) => [(38, iv j), (3, .bool (okL b j))]) (fun _ => []) (fun j => j ≤ b.land.length) (fun j => b.land.length - j) 0 (by omega) ⟨rfl, congrArg Value.bool (okL_zero b).symm, trivial⟩ trivial ?_
  rintro j σ M w1 hj S
  refine W.seq (W.region S ?_)
  refine AS.cons (sp_lss rfl rfl ?_)
  refine AS.nil ?_
  intro _ S
  refine W.seq (W.condd rfl (fun c39 => ?_) (fun c39 => ?_))
  · skip
    refine W.skip ?_
    refine W.seq (W.block ?_)
    have hlt : j < b.land.length := by omega
    obtain ⟨n, hx⟩ := get_some hlt
    have hpl : pl b j = (decide (0 ≤ n ∧ n ≤ b.wide * b.high - 1) && !decide (n ∈ b.land.take j)) := by unfold pl; rw [List.getD_eq_getElem?_getD, hx]; rfl
    have hlc : b.land.length ≤ lc := by
      rcases hl.2.2 with ⟨h0, _⟩ | ⟨_, _, cap, he, hcap, _⟩
      · omega
      · injection he with _ _ h3; omega
    refine W.seq (W.region S ?_)
    refine AS.cons (sp_move (v := .int _ _) rfl ?_)
    refine AS.cons (sp_iaR hl rfl rfl sl_22_3_1 (by first | omega | (simp only [decide_eq_true_eq, decide_eq_false_iff_not] at *; omega)) ?_)
    refine AS.cons (sp_ldR 0 hl (fun _ h => h) rfl sc_3 (ints_at hx) (by first | omega | (simp only [decide_eq_true_eq, decide_eq_false_iff_not] at *; omega)) ?_)
    refine AS.cons (sp_asg (v := .int _ _) rfl ?_)
    refine AS.cons (sp_asg (v := .int _ _) rfl ?_)
    refine AS.nil ?_
    intro _ S
    refine W.region S ?_
    refine AS.cons (sp_move (v := .bool _) rfl ?_)
    refine AS.cons (sp_move (v := .bool _) rfl ?_)
    refine AS.split 44 rfl (fun g44 => ?_) (fun g44 => ?_)
    · skip
      obtain ⟨hw, hh, hl10, _⟩ := okL_B0 g44
      have hm := mulS (a := b.wide) (b := b.high) (by omega) (by omega)
      refine AS.cons (sp_move (v := .int _ _) rfl ?_)
      refine AS.cons (sp_fa rfl fo_26_0_0 ?_)
      refine AS.cons (sp_ld 1 rfl rfl sc_3 rfl ?_)
      refine AS.cons (sp_fa rfl fo_26_1_1 ?_)
      refine AS.cons (sp_ld 1 rfl rfl sc_3 rfl ?_)
      refine AS.cons (sp_mul rfl rfl (mulB (by first | omega | (simp only [decide_eq_true_eq, decide_eq_false_iff_not] at *; omega)) (by first | omega | (simp only [decide_eq_true_eq, decide_eq_false_iff_not] at *; omega))) ?_)
      refine AS.cons (sp_sub rfl rfl (by first | omega | (simp only [decide_eq_true_eq, decide_eq_false_iff_not] at *; omega)) ?_)
      refine AS.cons (sp_call [] rfl rfl cf_62 (fun F w _ S => within _ _ _ w) ?_)
      refine AS.cons (sp_pick_t rfl (v := .bool _) rfl ?_)
      refine AS.cons (sp_move (v := .bool _) rfl ?_)
      refine AS.split 54 rfl (fun g54 => ?_) (fun g54 => ?_)
      · skip
        refine AS.cons (sp_fa rfl fo_26_2_2 ?_)
        refine AS.cons (sp_ld 1 rfl rfl sc_22 rfl ?_)
        refine AS.cons (sp_move (v := .int _ _) rfl ?_)
        refine AS.cons (sp_sl2 rfl rfl sl_22_3_1 (by omega) ?_)
        refine AS.cons (sp_move (v := .int _ _) rfl ?_)
        refine AS.cons (sp_call [] (vs := [.slice la (b.land.take j).length lc, iv n]) rfl (by rw [List.length_take, Nat.min_eq_left hj]; rfl) cf_68 (fun F w _ S => contains la lc (b.land.take j) n (by rw [List.length_take]; omega) w (Ints.take (show Ints w la lc b.land from hl.ext S.mod) hj)) ?_)
        refine AS.cons (sp_not rfl ?_)
        refine AS.cons (sp_pick_t rfl (v := .bool _) rfl ?_)
        refine AS.cons (sp_asg (v := .bool _) rfl ?_)
        refine AS.nil ?_
        intro _ S
        refine W.region S ?_
        refine AS.cons (sp_add rfl rfl (by first | omega | (simp only [decide_eq_true_eq, decide_eq_false_iff_not] at *; omega)) ?_)
        refine AS.cons (sp_move (v := .int _ _) rfl ?_)
        refine AS.nil ?_
        intro _ S
        first | exact ⟨j + 1, _, by omega, by omega, ⟨by simp [upd], by show Value.bool _ = Value.bool _; rw [okL_succ, hpl, g44, g54]; rfl, trivial⟩, trivial, by repeat (first | exact Agr.refl _ _ | exact Agr.msk _ _ _ | refine Agr.upd ?_ _ rfl | refine Agr.upds ?_ rfl | refine Agr.mskIn ?_ rfl), by repeat (first | exact Agr.refl _ _ | exact Agr.msk _ _ _ | refine Agr.upd ?_ _ rfl | refine Agr.upds ?_ rfl | refine Agr.mskIn ?_ rfl), rfl, S⟩ | exact ⟨j + 1, _, by omega, by omega, ⟨by simp [upd], by show Value.bool _ = Value.bool _; rw [okL_succ, g44]; rfl, trivial⟩, trivial, by repeat (first | exact Agr.refl _ _ | exact Agr.msk _ _ _ | refine Agr.upd ?_ _ rfl | refine Agr.upds ?_ rfl | refine Agr.mskIn ?_ rfl), by repeat (first | exact Agr.refl _ _ | exact Agr.msk _ _ _ | refine Agr.upd ?_ _ rfl | refine Agr.upds ?_ rfl | refine Agr.mskIn ?_ rfl), rfl, S⟩
      · skip
        refine AS.cons (sp_skip rfl ?_)
        refine AS.cons (sp_skip rfl ?_)
        refine AS.cons (sp_skip rfl ?_)
        refine AS.cons (sp_skip rfl ?_)
        refine AS.cons (sp_skip rfl ?_)
        refine AS.cons (sp_skip rfl ?_)
        refine AS.cons (sp_skip rfl ?_)
        refine AS.cons (sp_pick_f rfl (v := .bool _) rfl ?_)
        refine AS.cons (sp_asg (v := .bool _) rfl ?_)
        refine AS.nil ?_
        intro _ S
        refine W.region S ?_
        refine AS.cons (sp_add rfl rfl (by first | omega | (simp only [decide_eq_true_eq, decide_eq_false_iff_not] at *; omega)) ?_)
        refine AS.cons (sp_move (v := .int _ _) rfl ?_)
        refine AS.nil ?_
        intro _ S
        first | exact ⟨j + 1, _, by omega, by omega, ⟨by simp [upd], by show Value.bool _ = Value.bool _; rw [okL_succ, hpl, g44, g54]; rfl, trivial⟩, trivial, by repeat (first | exact Agr.refl _ _ | exact Agr.msk _ _ _ | refine Agr.upd ?_ _ rfl | refine Agr.upds ?_ rfl | refine Agr.mskIn ?_ rfl), by repeat (first | exact Agr.refl _ _ | exact Agr.msk _ _ _ | refine Agr.upd ?_ _ rfl | refine Agr.upds ?_ rfl | refine Agr.mskIn ?_ rfl), rfl, S⟩ | exact ⟨j + 1, _, by omega, by omega, ⟨by simp [upd], by show Value.bool _ = Value.bool _; rw [okL_succ, g44]; rfl, trivial⟩, trivial, by repeat (first | exact Agr.refl _ _ | exact Agr.msk _ _ _ | refine Agr.upd ?_ _ rfl | refine Agr.upds ?_ rfl | refine Agr.mskIn ?_ rfl), by repeat (first | exact Agr.refl _ _ | exact Agr.msk _ _ _ | refine Agr.upd ?_ _ rfl | refine Agr.upds ?_ rfl | refine Agr.mskIn ?_ rfl), rfl, S⟩
    · skip
      refine AS.cons (sp_skip rfl ?_)
      refine AS.cons (sp_skip rfl ?_)
      refine AS.cons (sp_skip rfl ?_)
      refine AS.cons (sp_skip rfl ?_)
      refine AS.cons (sp_skip rfl ?_)
      refine AS.cons (sp_skip rfl ?_)
      refine AS.cons (sp_skip rfl ?_)
      refine AS.cons (sp_skip rfl ?_)
      refine AS.cons (sp_pick_f rfl (v := .bool _) rfl ?_)
      refine AS.cons (sp_move (v := .bool _) rfl ?_)
      refine AS.cons (sp_skip rfl ?_)
      refine AS.cons (sp_skip rfl ?_)
      refine AS.cons (sp_skip rfl ?_)
      refine AS.cons (sp_skip rfl ?_)
      refine AS.cons (sp_skip rfl ?_)
      refine AS.cons (sp_skip rfl ?_)
      refine AS.cons (sp_skip rfl ?_)
      refine AS.cons (sp_pick_f rfl (v := .bool _) rfl ?_)
      refine AS.cons (sp_asg (v := .bool _) rfl ?_)
      refine AS.nil ?_
      intro _ S
      refine W.region S ?_
      refine AS.cons (sp_add rfl rfl (by first | omega | (simp only [decide_eq_true_eq, decide_eq_false_iff_not] at *; omega)) ?_)
      refine AS.cons (sp_move (v := .int _ _) rfl ?_)
      refine AS.nil ?_
      intro _ S
      first | exact ⟨j + 1, _, by omega, by omega, ⟨by simp [upd], by show Value.bool _ = Value.bool _; rw [okL_succ, hpl, g44, g54]; rfl, trivial⟩, trivial, by repeat (first | exact Agr.refl _ _ | exact Agr.msk _ _ _ | refine Agr.upd ?_ _ rfl | refine Agr.upds ?_ rfl | refine Agr.mskIn ?_ rfl), by repeat (first | exact Agr.refl _ _ | exact Agr.msk _ _ _ | refine Agr.upd ?_ _ rfl | refine Agr.upds ?_ rfl | refine Agr.mskIn ?_ rfl), rfl, S⟩ | exact ⟨j + 1, _, by omega, by omega, ⟨by simp [upd], by show Value.bool _ = Value.bool _; rw [okL_succ, g44]; rfl, trivial⟩, trivial, by repeat (first | exact Agr.refl _ _ | exact Agr.msk _ _ _ | refine Agr.upd ?_ _ rfl | refine Agr.upds ?_ rfl | refine Agr.mskIn ?_ rfl), by repeat (first | exact Agr.refl _ _ | exact Agr.msk _ _ _ | refine Agr.upd ?_ _ rfl | refine Agr.upds ?_ rfl | refine Agr.mskIn ?_ rfl), rfl, S⟩
  · skip
    obtain rfl : j = b.land.length := by omega
    refine W.exit ?_
    refine W.seq (W.seq (W.region S ?_))
    refine AS.cons (sp_fa rfl fo_26_3_3 ?_)
    refine AS.cons (sp_lda 1 2 rfl rfl ag_23_2 rfl ?_)
    refine AS.cons (sp_move rfl ?_)
    refine AS.nil ?_
    intro _ S
    refine W.block ?_
    refine W.loopS S [3, 7, 66, 67, 68, 69, 70, 71, 72, 73, 74] [] (fun (j : Nat) => [(66, iv j), (3, .bool (okH b j))]) (fun _ => []) (fun j => j ≤ 2) (fun j => 2 - j) 0 (by omega) ⟨rfl, congrArg Value.bool (okH_zero b).symm, trivial⟩ trivial ?_
    rintro j σ M w1 hj S
    refine W.seq (W.region S ?_)
    refine AS.cons (sp_lss rfl rfl ?_)
    refine AS.nil ?_
    intro _ S
    refine W.seq (W.condd rfl (fun c67 => ?_) (fun c67 => ?_))
    · skip
      refine W.skip ?_
      refine W.seq (W.block ?_)
      refine W.seq (W.region S ?_)
      refine AS.cons (sp_ixs (v := iv (hd b j)) rfl rfl ar_23_2_3_1 sc_3 (by omega) (hd_at b (by omega)) ?_)
      refine AS.cons (sp_asg (v := .int _ _) rfl ?_)
      refine AS.nil ?_
      intro _ S
      refine W.region S ?_
      refine AS.cons (sp_move (v := .bool _) rfl ?_)
      refine AS.cons (sp_move (v := .bool _) rfl ?_)
      refine AS.split 70 rfl (fun g70 => ?_) (fun g70 => ?_)
      · skip
        refine AS.cons (sp_move (v := .int _ _) rfl ?_)
        refine AS.cons (sp_call [] rfl rfl cf_62 (fun F w _ S => within _ _ _ w) ?_)
        refine AS.cons (sp_pick_t rfl (v := .bool _) rfl ?_)
        refine AS.cons (sp_asg (v := .bool _) rfl ?_)
        refine AS.nil ?_
        intro _ S
        refine W.region S ?_
        refine AS.cons (sp_add rfl rfl (by first | omega | (simp only [decide_eq_true_eq, decide_eq_false_iff_not] at *; omega)) ?_)
        refine AS.cons (sp_move (v := .int _ _) rfl ?_)
        refine AS.nil ?_
        intro _ S
        first | exact ⟨j + 1, _, by omega, by omega, ⟨by simp [upd], by show Value.bool _ = Value.bool _; rw [okH_succ, g70]; rfl, trivial⟩, trivial, by repeat (first | exact Agr.refl _ _ | exact Agr.msk _ _ _ | refine Agr.upd ?_ _ rfl | refine Agr.upds ?_ rfl | refine Agr.mskIn ?_ rfl), by repeat (first | exact Agr.refl _ _ | exact Agr.msk _ _ _ | refine Agr.upd ?_ _ rfl | refine Agr.upds ?_ rfl | refine Agr.mskIn ?_ rfl), rfl, S⟩
      · skip
        refine AS.cons (sp_skip rfl ?_)
        refine AS.cons (sp_skip rfl ?_)
        refine AS.cons (sp_pick_f rfl (v := .bool _) rfl ?_)
        refine AS.cons (sp_asg (v := .bool _) rfl ?_)
        refine AS.nil ?_
        intro _ S
        refine W.region S ?_
        refine AS.cons (sp_add rfl rfl (by first | omega | (simp only [decide_eq_true_eq, decide_eq_false_iff_not] at *; omega)) ?_)
        refine AS.cons (sp_move (v := .int _ _) rfl ?_)
        refine AS.nil ?_
        intro _ S
        first | exact ⟨j + 1, _, by omega, by omega, ⟨by simp [upd], by show Value.bool _ = Value.bool _; rw [okH_succ, g70]; rfl, trivial⟩, trivial, by repeat (first | exact Agr.refl _ _ | exact Agr.msk _ _ _ | refine Agr.upd ?_ _ rfl | refine Agr.upds ?_ rfl | refine Agr.mskIn ?_ rfl), by repeat (first | exact Agr.refl _ _ | exact Agr.msk _ _ _ | refine Agr.upd ?_ _ rfl | refine Agr.upds ?_ rfl | refine Agr.mskIn ?_ rfl), rfl, S⟩
    · skip
      obtain rfl : j = 2 := by omega
      refine W.exit ?_
      refine W.seq (W.seq (W.region S ?_))
      refine AS.cons (sp_fa rfl fo_26_5_6 ?_)
      refine AS.cons (sp_ld 1 rfl rfl sc_24 rfl ?_)
      refine AS.cons (sp_len rfl sl_24_46_7 ?_)
      refine AS.cons (sp_move rfl ?_)
      refine AS.nil ?_
      intro _ S
      refine W.block ?_
      refine W.loopS S [3, 9, 78, 79, 80, 81, 82, 83, 84, 85, 86, 87] [9] (fun (j : Nat) => [(78, iv j), (3, .bool (okC b j))]) (fun _ => []) (fun j => j ≤ b.cries.length) (fun j => b.cries.length - j) 0 (by omega) ⟨rfl, congrArg Value.bool (okC_zero b).symm, trivial⟩ trivial ?_
      rintro j σ M w1 hj S
      refine W.seq (W.region S ?_)
      refine AS.cons (sp_lss rfl rfl ?_)
      refine AS.nil ?_
      intro _ S
      refine W.seq (W.condd rfl (fun c79 => ?_) (fun c79 => ?_))
      · skip
        refine W.skip ?_
        refine W.seq (W.block ?_)
        have hlt : j < b.cries.length := by omega
        obtain ⟨c, hxc⟩ := get_some hlt
        have hpc : pc b j = decide (CryOk c) := by unfold pc; rw [List.getD_eq_getElem?_getD, hxc]; rfl
        refine W.seq (W.region S ?_)
        refine AS.cons (sp_iaR hC rfl rfl sl_24_46_7 (by first | omega | (simp only [decide_eq_true_eq, decide_eq_false_iff_not] at *; omega)) ?_)
        refine AS.cons (sp_ldaR 0 hC (fun _ h => h) rfl ag_46_7 (cries_at hxc) (by first | omega | (simp only [decide_eq_true_eq, decide_eq_false_iff_not] at *; omega)) ?_)
        refine AS.cons (sp_alloc 9 zv_46 rfl (fun b9 => ?_))
        refine AS.cons (sp_st 9 rfl rfl rfl rfl sz_46_7 rfl rfl ?_)
        refine AS.nil ?_
        intro _ S
        refine W.region S ?_
        refine AS.cons (sp_move (v := .bool _) rfl ?_)
        refine AS.cons (sp_move (v := .bool _) rfl ?_)
        refine AS.split 83 rfl (fun g83 => ?_) (fun g83 => ?_)
        · skip
          refine AS.cons (sp_ldw 9 rfl rfl ag_46_7 ?_)
          refine AS.cons (sp_call [] rfl rfl cf_69 (fun F w _ S => isCry _ w) ?_)
          refine AS.cons (sp_pick_t rfl (v := .bool _) rfl ?_)
          refine AS.cons (sp_asg (v := .bool _) rfl ?_)
          refine AS.nil ?_
          intro _ S
          refine W.region S ?_
          refine AS.cons (sp_add rfl rfl (by first | omega | (simp only [decide_eq_true_eq, decide_eq_false_iff_not] at *; omega)) ?_)
          refine AS.cons (sp_move (v := .int _ _) rfl ?_)
          refine AS.nil ?_
          intro _ S
          first | exact ⟨j + 1, _, by omega, by omega, ⟨by simp [upd], by show Value.bool _ = Value.bool _; rw [okC_succ, hpc, g83]; rfl, trivial⟩, trivial, by repeat (first | exact Agr.refl _ _ | exact Agr.msk _ _ _ | refine Agr.upd ?_ _ rfl | refine Agr.upds ?_ rfl | refine Agr.mskIn ?_ rfl), by repeat (first | exact Agr.refl _ _ | exact Agr.msk _ _ _ | refine Agr.upd ?_ _ rfl | refine Agr.upds ?_ rfl | refine Agr.mskIn ?_ rfl), rfl, S⟩ | exact ⟨j + 1, _, by omega, by omega, ⟨by simp [upd], by show Value.bool _ = Value.bool _; rw [okC_succ, g83]; rfl, trivial⟩, trivial, by repeat (first | exact Agr.refl _ _ | exact Agr.msk _ _ _ | refine Agr.upd ?_ _ rfl | refine Agr.upds ?_ rfl | refine Agr.mskIn ?_ rfl), by repeat (first | exact Agr.refl _ _ | exact Agr.msk _ _ _ | refine Agr.upd ?_ _ rfl | refine Agr.upds ?_ rfl | refine Agr.mskIn ?_ rfl), rfl, S⟩
        · skip
          refine AS.cons (sp_skip rfl ?_)
          refine AS.cons (sp_skip rfl ?_)
          refine AS.cons (sp_pick_f rfl (v := .bool _) rfl ?_)
          refine AS.cons (sp_asg (v := .bool _) rfl ?_)
          refine AS.nil ?_
          intro _ S
          refine W.region S ?_
          refine AS.cons (sp_add rfl rfl (by first | omega | (simp only [decide_eq_true_eq, decide_eq_false_iff_not] at *; omega)) ?_)
          refine AS.cons (sp_move (v := .int _ _) rfl ?_)
          refine AS.nil ?_
          intro _ S
          first | exact ⟨j + 1, _, by omega, by omega, ⟨by simp [upd], by show Value.bool _ = Value.bool _; rw [okC_succ, hpc, g83]; rfl, trivial⟩, trivial, by repeat (first | exact Agr.refl _ _ | exact Agr.msk _ _ _ | refine Agr.upd ?_ _ rfl | refine Agr.upds ?_ rfl | refine Agr.mskIn ?_ rfl), by repeat (first | exact Agr.refl _ _ | exact Agr.msk _ _ _ | refine Agr.upd ?_ _ rfl | refine Agr.upds ?_ rfl | refine Agr.mskIn ?_ rfl), rfl, S⟩ | exact ⟨j + 1, _, by omega, by omega, ⟨by simp [upd], by show Value.bool _ = Value.bool _; rw [okC_succ, g83]; rfl, trivial⟩, trivial, by repeat (first | exact Agr.refl _ _ | exact Agr.msk _ _ _ | refine Agr.upd ?_ _ rfl | refine Agr.upds ?_ rfl | refine Agr.mskIn ?_ rfl), by repeat (first | exact Agr.refl _ _ | exact Agr.msk _ _ _ | refine Agr.upd ?_ _ rfl | refine Agr.upds ?_ rfl | refine Agr.mskIn ?_ rfl), rfl, S⟩
      · skip
        obtain rfl : j = b.cries.length := by omega
        refine W.exit ?_
        refine W.seq (W.seq (W.region S ?_))
        refine AS.cons (sp_move (v := .bool _) rfl ?_)
        refine AS.cons (sp_not rfl ?_)
        refine AS.nil ?_
        intro _ S
        refine W.cond rfl (fun c89 => ?_) (fun c89 => ?_)
        · skip
          have hv : chkV b = 10 := by unfold chkV okAll; rw [if_neg (by simpa using c89)]
          refine W.seq (W.region S ?_)
          refine AS.cons (sp_asg rfl ?_)
          refine AS.nil ?_
          intro _ S
          refine W.ret ?_
          exact ret1 rfl rfl S fun w' S' => ⟨congrArg iv hv.symm, S'.mod⟩
        · skip
          have hv : chkV b = 0 := by unfold chkV okAll; rw [if_pos (by simpa using c89)]
          refine W.skip ?_
          refine W.seq (W.region S ?_)
          refine AS.cons (sp_asg rfl ?_)
          refine AS.nil ?_
          intro _ S
          refine W.ret ?_
          exact ret1 rfl rfl S fun w' S' => ⟨congrArg iv hv.symm, S'.mod⟩
end
end Go.Proofs.YtmpclgepoemneaaDoor
