/-
  Lemmas of this proof, several texts one behind the other; no condition beyond what each says.
-/
import Derived.Test.YtmpclgepoemneaaDoorMc
import Derived.Test.YtmpclgepoemneaaDoorMb
/-
  Which books are right, on the other side; whether a book can be true; one minute's squares.
-/
namespace Go.Proofs.YtmpclgepoemneaaDoor
set_option maxRecDepth 100000
open Go.Hu Go.RowKit
section
variable (b : Bk) (la : Option Addr) (lc : Nat) (ca : Option Addr) (cc : Nat) (mp : Nat)
theorem checkR (w : World) (hl : Ints w la lc b.land) (hC : Cries w ca cc b.cries) : Ct Tryd.prog 19 #[.agg (bkL b la lc ca cc).toArray] w (fun u w' => u = iv (chkV b) ∧ Ext w w') := by
  refine fn_intro (args := [.agg (bkL b la lc ca cc).toArray]) Tryd.func19 rfl rfl (by kernel_rfl) ?_
  have S := St.start no w
  have hln : b.land.length ≤ 9223372036854775807 := hl.2.1
  have hcn : b.cries.length ≤ 9223372036854775807 := hC.2.1
  refine W.seq (W.region S ?_)
  refine AS.cons (sp_boxa 1 rfl (fun b1 => ?_))
  refine AS.cons (sp_asg rfl ?_)
  refine AS.nil ?_
  intro _ S
  refine W.seq (W.regionc S [3, 6, 7, 8, 9, 10, 11, 12, 13, 14, 15, 16, 17, 18, 19, 20, 21, 22, 23, 24, 25, 26, 27, 28, 29, 30, 31, 32, 33, 34, 35, 36, 37, 38, 39, 40, 41, 42] 3 (R0 b) ?_ ?_)
  · skip
    refine AS.cons (sp_fa rfl fo_26_0_0 ?_)
    refine AS.cons (sp_ld 1 rfl rfl sc_3 rfl ?_)
    refine AS.cons (sp_call [] rfl rfl cf_44 (fun F w _ S => between _ _ _ w) ?_)
    refine AS.cons (sp_move (v := .bool _) rfl ?_)
    refine AS.split 9 rfl (fun g9 => ?_) (fun g9 => ?_)
    · skip
      refine AS.cons (sp_fa rfl fo_26_1_1 ?_)
      refine AS.cons (sp_ld 1 rfl rfl sc_3 rfl ?_)
      refine AS.cons (sp_call [] rfl rfl cf_44 (fun F w _ S => between _ _ _ w) ?_)
      refine AS.cons (sp_pick_t rfl (v := .bool _) rfl ?_)
      refine AS.cons (sp_move (v := .bool _) rfl ?_)
      refine AS.split 14 rfl (fun g14 => ?_) (fun g14 => ?_)
      · skip
        refine AS.cons (sp_fa rfl fo_26_2_2 ?_)
        refine AS.cons (sp_ld 1 rfl rfl sc_22 rfl ?_)
        refine AS.cons (sp_len rfl sl_22_3_1 ?_)
        refine AS.cons (sp_leq rfl rfl ?_)
        refine AS.cons (sp_pick_t rfl (v := .bool _) rfl ?_)
        refine AS.cons (sp_move (v := .bool _) rfl ?_)
        refine AS.split 20 rfl (fun g20 => ?_) (fun g20 => ?_)
        · skip
          refine AS.cons (sp_fa rfl fo_26_3_3 ?_)
          refine AS.cons (sp_iaa rfl rfl ar_23_2_3_1 (by first | omega | (simp only [decide_eq_true_eq, decide_eq_false_iff_not] at *; omega)) ?_)
          refine AS.cons (sp_ld 1 rfl rfl sc_3 rfl ?_)
          refine AS.cons (sp_call [] rfl rfl cf_44 (fun F w _ S => between _ _ _ w) ?_)
          refine AS.cons (sp_pick_t rfl (v := .bool _) rfl ?_)
          refine AS.cons (sp_move (v := .bool _) rfl ?_)
          refine AS.split 26 rfl (fun g26 => ?_) (fun g26 => ?_)
          · skip
            refine AS.cons (sp_fa rfl fo_26_3_3 ?_)
            refine AS.cons (sp_iaa rfl rfl ar_23_2_3_1 (by first | omega | (simp only [decide_eq_true_eq, decide_eq_false_iff_not] at *; omega)) ?_)
            refine AS.cons (sp_ld 1 rfl rfl sc_3 rfl ?_)
            refine AS.cons (sp_call [] rfl rfl cf_44 (fun F w _ S => between _ _ _ w) ?_)
            refine AS.cons (sp_pick_t rfl (v := .bool _) rfl ?_)
            refine AS.cons (sp_move (v := .bool _) rfl ?_)
            refine AS.split 32 rfl (fun g32 => ?_) (fun g32 => ?_)
            · skip
              refine AS.cons (sp_fa rfl fo_26_4_5 ?_)
              refine AS.cons (sp_ld 1 rfl rfl sc_3 rfl ?_)
              refine AS.cons (sp_call [] rfl rfl cf_44 (fun F w _ S => between _ _ _ w) ?_)
              refine AS.cons (sp_pick_t rfl (v := .bool _) rfl ?_)
              refine AS.cons (sp_move (v := .bool _) rfl ?_)
              refine AS.split 37 rfl (fun g37 => ?_) (fun g37 => ?_)
              · skip
                refine AS.cons (sp_fa rfl fo_26_5_6 ?_)
                refine AS.cons (sp_ld 1 rfl rfl sc_24 rfl ?_)
                refine AS.cons (sp_len rfl sl_24_46_7 ?_)
                refine AS.cons (sp_leq rfl rfl ?_)
                refine AS.cons (sp_pick_t rfl (v := .bool _) rfl ?_)
                refine AS.cons (sp_asg (v := .bool _) rfl ?_)
                refine AS.nil ⟨⟨_, rfl, ?_⟩, ?_, rfl⟩
                · (try simp only [decide_eq_true_eq] at *); first | omega | (simp_all; done) | (simp_all; omega)
                · repeat (first | exact Agr.refl _ _ | exact Agr.msk _ _ _ | refine Agr.upd ?_ _ rfl | refine Agr.upds ?_ rfl | refine Agr.mskIn ?_ rfl)
              · skip
                refine AS.cons (sp_skip rfl ?_)
                refine AS.cons (sp_skip rfl ?_)
                refine AS.cons (sp_skip rfl ?_)
                refine AS.cons (sp_skip rfl ?_)
                refine AS.cons (sp_pick_f rfl (v := .bool _) rfl ?_)
                refine AS.cons (sp_asg (v := .bool _) rfl ?_)
                refine AS.nil ⟨⟨_, rfl, ?_⟩, ?_, rfl⟩
                · (try simp only [decide_eq_true_eq, decide_eq_false_iff_not] at *); first | omega | (simp_all; done) | (simp_all; omega)
                · repeat (first | exact Agr.refl _ _ | exact Agr.msk _ _ _ | refine Agr.upd ?_ _ rfl | refine Agr.upds ?_ rfl | refine Agr.mskIn ?_ rfl)
            · skip
              refine AS.cons (sp_skip rfl ?_)
              refine AS.cons (sp_skip rfl ?_)
              refine AS.cons (sp_skip rfl ?_)
              refine AS.cons (sp_pick_f rfl (v := .bool _) rfl ?_)
              refine AS.cons (sp_move (v := .bool _) rfl ?_)
              refine AS.cons (sp_skip rfl ?_)
              refine AS.cons (sp_skip rfl ?_)
              refine AS.cons (sp_skip rfl ?_)
              refine AS.cons (sp_skip rfl ?_)
              refine AS.cons (sp_pick_f rfl (v := .bool _) rfl ?_)
              refine AS.cons (sp_asg (v := .bool _) rfl ?_)
              refine AS.nil ⟨⟨_, rfl, ?_⟩, ?_, rfl⟩
              · (try simp only [decide_eq_true_eq, decide_eq_false_iff_not] at *); first | omega | (simp_all; done) | (simp_all; omega)
              · repeat (first | exact Agr.refl _ _ | exact Agr.msk _ _ _ | refine Agr.upd ?_ _ rfl | refine Agr.upds ?_ rfl | refine Agr.mskIn ?_ rfl)
          · skip
            refine AS.cons (sp_skip rfl ?_)
            refine AS.cons (sp_skip rfl ?_)
            refine AS.cons (sp_skip rfl ?_)
            refine AS.cons (sp_skip rfl ?_)
            refine AS.cons (sp_pick_f rfl (v := .bool _) rfl ?_)
            refine AS.cons (sp_move (v := .bool _) rfl ?_)
            refine AS.cons (sp_skip rfl ?_)
            refine AS.cons (sp_skip rfl ?_)
            refine AS.cons (sp_skip rfl ?_)
            refine AS.cons (sp_pick_f rfl (v := .bool _) rfl ?_)
            refine AS.cons (sp_move (v := .bool _) rfl ?_)
            refine AS.cons (sp_skip rfl ?_)
            refine AS.cons (sp_skip rfl ?_)
            refine AS.cons (sp_skip rfl ?_)
            refine AS.cons (sp_skip rfl ?_)
            refine AS.cons (sp_pick_f rfl (v := .bool _) rfl ?_)
            refine AS.cons (sp_asg (v := .bool _) rfl ?_)
            refine AS.nil ⟨⟨_, rfl, ?_⟩, ?_, rfl⟩
            · (try simp only [decide_eq_true_eq, decide_eq_false_iff_not] at *); first | omega | (simp_all; done) | (simp_all; omega)
            · repeat (first | exact Agr.refl _ _ | exact Agr.msk _ _ _ | refine Agr.upd ?_ _ rfl | refine Agr.upds ?_ rfl | refine Agr.mskIn ?_ rfl)
        · skip
          refine AS.cons (sp_skip rfl ?_)
          refine AS.cons (sp_skip rfl ?_)
          refine AS.cons (sp_skip rfl ?_)
          refine AS.cons (sp_skip rfl ?_)
          refine AS.cons (sp_pick_f rfl (v := .bool _) rfl ?_)
          refine AS.cons (sp_move (v := .bool _) rfl ?_)
          refine AS.cons (sp_skip rfl ?_)
          refine AS.cons (sp_skip rfl ?_)
          refine AS.cons (sp_skip rfl ?_)
          refine AS.cons (sp_skip rfl ?_)
          refine AS.cons (sp_pick_f rfl (v := .bool _) rfl ?_)
          refine AS.cons (sp_move (v := .bool _) rfl ?_)
          refine AS.cons (sp_skip rfl ?_)
          refine AS.cons (sp_skip rfl ?_)
          refine AS.cons (sp_skip rfl ?_)
          refine AS.cons (sp_pick_f rfl (v := .bool _) rfl ?_)
          refine AS.cons (sp_move (v := .bool _) rfl ?_)
          refine AS.cons (sp_skip rfl ?_)
          refine AS.cons (sp_skip rfl ?_)
          refine AS.cons (sp_skip rfl ?_)
          refine AS.cons (sp_skip rfl ?_)
          refine AS.cons (sp_pick_f rfl (v := .bool _) rfl ?_)
          refine AS.cons (sp_asg (v := .bool _) rfl ?_)
          refine AS.nil ⟨⟨_, rfl, ?_⟩, ?_, rfl⟩
          · (try simp only [decide_eq_true_eq, decide_eq_false_iff_not] at *); first | omega | (simp_all; done) | (simp_all; omega)
          · repeat (first | exact Agr.refl _ _ | exact Agr.msk _ _ _ | refine Agr.upd ?_ _ rfl | refine Agr.upds ?_ rfl | refine Agr.mskIn ?_ rfl)
      · skip
        refine AS.cons (sp_skip rfl ?_)
        refine AS.cons (sp_skip rfl ?_)
        refine AS.cons (sp_skip rfl ?_)
        refine AS.cons (sp_skip rfl ?_)
        refine AS.cons (sp_pick_f rfl (v := .bool _) rfl ?_)
        refine AS.cons (sp_move (v := .bool _) rfl ?_)
        refine AS.cons (sp_skip rfl ?_)
        refine AS.cons (sp_skip rfl ?_)
        refine AS.cons (sp_skip rfl ?_)
        refine AS.cons (sp_skip rfl ?_)
        refine AS.cons (sp_pick_f rfl (v := .bool _) rfl ?_)
        refine AS.cons (sp_move (v := .bool _) rfl ?_)
        refine AS.cons (sp_skip rfl ?_)
        refine AS.cons (sp_skip rfl ?_)
        refine AS.cons (sp_skip rfl ?_)
        refine AS.cons (sp_skip rfl ?_)
        refine AS.cons (sp_pick_f rfl (v := .bool _) rfl ?_)
        refine AS.cons (sp_move (v := .bool _) rfl ?_)
        refine AS.cons (sp_skip rfl ?_)
        refine AS.cons (sp_skip rfl ?_)
        refine AS.cons (sp_skip rfl ?_)
        refine AS.cons (sp_pick_f rfl (v := .bool _) rfl ?_)
        refine AS.cons (sp_move (v := .bool _) rfl ?_)
        refine AS.cons (sp_skip rfl ?_)
        refine AS.cons (sp_skip rfl ?_)
        refine AS.cons (sp_skip rfl ?_)
        refine AS.cons (sp_skip rfl ?_)
        refine AS.cons (sp_pick_f rfl (v := .bool _) rfl ?_)
        refine AS.cons (sp_asg (v := .bool _) rfl ?_)
        refine AS.nil ⟨⟨_, rfl, ?_⟩, ?_, rfl⟩
        · (try simp only [decide_eq_true_eq, decide_eq_false_iff_not] at *); first | omega | (simp_all; done) | (simp_all; omega)
        · repeat (first | exact Agr.refl _ _ | exact Agr.msk _ _ _ | refine Agr.upd ?_ _ rfl | refine Agr.upds ?_ rfl | refine Agr.mskIn ?_ rfl)
    · skip
      refine AS.cons (sp_skip rfl ?_)
      refine AS.cons (sp_skip rfl ?_)
      refine AS.cons (sp_skip rfl ?_)
      refine AS.cons (sp_pick_f rfl (v := .bool _) rfl ?_)
      refine AS.cons (sp_move (v := .bool _) rfl ?_)
      refine AS.cons (sp_skip rfl ?_)
      refine AS.cons (sp_skip rfl ?_)
      refine AS.cons (sp_skip rfl ?_)
      refine AS.cons (sp_skip rfl ?_)
      refine AS.cons (sp_pick_f rfl (v := .bool _) rfl ?_)
      refine AS.cons (sp_move (v := .bool _) rfl ?_)
      refine AS.cons (sp_skip rfl ?_)
      refine AS.cons (sp_skip rfl ?_)
      refine AS.cons (sp_skip rfl ?_)
      refine AS.cons (sp_skip rfl ?_)
      refine AS.cons (sp_pick_f rfl (v := .bool _) rfl ?_)
      refine AS.cons (sp_move (v := .bool _) rfl ?_)
      refine AS.cons (sp_skip rfl ?_)
      refine AS.cons (sp_skip rfl ?_)
      refine AS.cons (sp_skip rfl ?_)
      refine AS.cons (sp_skip rfl ?_)
      refine AS.cons (sp_pick_f rfl (v := .bool _) rfl ?_)
      refine AS.cons (sp_move (v := .bool _) rfl ?_)
      refine AS.cons (sp_skip rfl ?_)
      refine AS.cons (sp_skip rfl ?_)
      refine AS.cons (sp_skip rfl ?_)
      refine AS.cons (sp_pick_f rfl (v := .bool _) rfl ?_)
      refine AS.cons (sp_move (v := .bool _) rfl ?_)
      refine AS.cons (sp_skip rfl ?_)
      refine AS.cons (sp_skip rfl ?_)
      refine AS.cons (sp_skip rfl ?_)
      refine AS.cons (sp_skip rfl ?_)
      refine AS.cons (sp_pick_f rfl (v := .bool _) rfl ?_)
      refine AS.cons (sp_asg (v := .bool _) rfl ?_)
      refine AS.nil ⟨⟨_, rfl, ?_⟩, ?_, rfl⟩
      · (try simp only [decide_eq_false_iff_not] at *); first | omega | (simp_all; done) | (simp_all; omega)
      · repeat (first | exact Agr.refl _ _ | exact Agr.msk _ _ _ | refine Agr.upd ?_ _ rfl | refine Agr.upds ?_ rfl | refine Agr.mskIn ?_ rfl)
  intro σ1 _ S
  refine W.seq (W.seq (W.region S ?_))
  refine AS.cons (sp_asg rfl ?_)
  refine AS.nil ?_
  intro _ S
  refine W.block ?_
  refine W.loopS S [3, 4, 43, 44, 45, 46, 47, 48, 49, 50, 51, 52, 53, 54, 55, 56, 57, 58, 59, 60, 61, 62, 63, 64, 65, 66, 67, 68, 69, 70, 71, 72, 73, 74, 75, 76] [] (fun (j : Nat) => [(4, iv j), (3, .bool (rkL b j))]) (fun _ => []) (fun j => j ≤ b.land.length) (fun j => b.land.length - j) 0 (by omega) ⟨rfl, congrArg Value.bool (rkL_zero b).symm, trivial⟩ trivial ?_
  rintro j σ M w1 hj S
  refine W.seq (W.seq (W.region S ?_))
  refine AS.cons (sp_move (v := .bool _) rfl ?_)
  refine AS.cons (sp_move (v := .bool _) rfl ?_)
  refine AS.split 44 rfl (fun g44 => ?_) (fun g44 => ?_)
  · skip
    refine AS.cons (sp_move (v := .int _ _) rfl ?_)
    refine AS.cons (sp_fa rfl fo_26_2_2 ?_)
    refine AS.cons (sp_ld 1 rfl rfl sc_22 rfl ?_)
    refine AS.cons (sp_len rfl sl_22_3_1 ?_)
    refine AS.cons (sp_lss rfl rfl ?_)
    refine AS.cons (sp_pick_t rfl (v := .bool _) rfl ?_)
    refine AS.nil ?_
    intro _ S
    refine W.cond rfl (fun c50 => ?_) (fun c50 => ?_)
    · skip
      have hlt : j < b.land.length := by have := of_decide_eq_true c50; omega
      refine W.skip ?_
      refine W.seq (W.block ?_)
      obtain ⟨n, hx⟩ := get_some hlt
      have hpl : pl b j = (decide (0 ≤ n ∧ n ≤ b.wide * b.high - 1) && !decide (n ∈ b.land.take j)) := by unfold pl; rw [List.getD_eq_getElem?_getD, hx]; rfl
      have hix : decide (ix b.land n = (j : Int)) = !decide (n ∈ b.land.take j) := by rw [decide_eq_decide.2 (ix_take hx), decide_not]
      obtain ⟨hw, hh, hl10, _⟩ := rkL_R0 g44
      have hm := mulS (a := b.wide) (b := b.high) (by omega) (by omega)
      refine W.draw S mixed (fun i => ([KD.q [], KD.q [1], KD.q [], KD.q [], KD.q [], KD.q [], KD.q [1], KD.q [], KD.q [1], KD.q [], KD.q [], KD.e [] [], KD.q [], KD.q [], KD.q [1], KD.q [], KD.q [1], KD.q [], KD.q [], KD.q [], KD.e [] [], KD.q [], KD.q [], KD.q [], KD.q []] : List KD)[i]?) [12] [0, 1, 2, 3, 4, 5, 6, 7, 8, 9, 10, 11, 12, 13, 14, 15, 16, 17, 18, 19, 20, 21, 22, 23, 24] (by kernel_rfl) ?_
      refine AW.cons rfl rfl (sp_fa rfl fo_26_2_2 ?_)
      refine AW.cons rfl rfl (sp_ld 1 rfl rfl sc_22 rfl ?_)
      refine AW.cons rfl rfl (sp_move (v := .int _ _) rfl ?_)
      refine AW.cons rfl rfl (sp_iaR hl rfl rfl sl_22_3_1 (by first | omega | (simp only [decide_eq_true_eq, decide_eq_false_iff_not] at *; omega)) ?_)
      refine AW.cons rfl rfl (sp_ldR 0 hl (fun _ h => h) rfl sc_3 (ints_at hx) (by first | omega | (simp only [decide_eq_true_eq, decide_eq_false_iff_not] at *; omega)) ?_)
      refine AW.cons rfl rfl (sp_fa rfl fo_26_0_0 ?_)
      refine AW.cons rfl rfl (sp_ld 1 rfl rfl sc_3 rfl ?_)
      refine AW.cons rfl rfl (sp_fa rfl fo_26_1_1 ?_)
      refine AW.cons rfl rfl (sp_ld 1 rfl rfl sc_3 rfl ?_)
      refine AW.cons rfl rfl (sp_mul rfl rfl (mulB (by first | omega | (simp only [decide_eq_true_eq, decide_eq_false_iff_not] at *; omega)) (by first | omega | (simp only [decide_eq_true_eq, decide_eq_false_iff_not] at *; omega))) ?_)
      refine AW.cons rfl rfl (sp_sub rfl rfl (by first | omega | (simp only [decide_eq_true_eq, decide_eq_false_iff_not] at *; omega)) ?_)
      refine AW.cons rfl rfl (sp_call [] rfl rfl cf_44 (fun F w _ S => between _ _ _ w) ?_)
      refine AW.cons rfl rfl (sp_move (v := .bool _) rfl ?_)
      refine AW.split 65 rfl (fun g65 => ?_) (fun g65 => ?_)
      · skip
        refine AW.cons rfl rfl (sp_fa rfl fo_26_2_2 ?_)
        refine AW.cons rfl rfl (sp_ld 1 rfl rfl sc_22 rfl ?_)
        refine AW.cons rfl rfl (sp_fa rfl fo_26_2_2 ?_)
        refine AW.cons rfl rfl (sp_ld 1 rfl rfl sc_22 rfl ?_)
        refine AW.cons rfl rfl (sp_move (v := .int _ _) rfl ?_)
        refine AW.cons rfl rfl (sp_iaR hl rfl rfl sl_22_3_1 (by first | omega | (simp only [decide_eq_true_eq, decide_eq_false_iff_not] at *; omega)) ?_)
        refine AW.cons rfl rfl (sp_ldR 0 hl (fun _ h => h) rfl sc_3 (ints_at hx) (by first | omega | (simp only [decide_eq_true_eq, decide_eq_false_iff_not] at *; omega)) ?_)
        refine AW.cons rfl rfl (sp_call [] rfl rfl cf_41 (fun F w _ S => place _ _ _ _ (by omega) w (hl.ext S.mod)) ?_)
        refine AW.cons rfl rfl (sp_move (v := .int _ _) rfl ?_)
        refine AW.cons rfl rfl (sp_eql rfl rfl ?_)
        refine AW.cons rfl rfl (sp_pick_t rfl (v := .bool _) rfl ?_)
        refine AW.cons rfl rfl (sp_asg (v := .bool _) rfl ?_)
        refine AW.nil ?_
        intro _ S
        refine W.region S ?_
        refine AS.cons (sp_move (v := .int _ _) rfl ?_)
        refine AS.cons (sp_add rfl rfl (by first | omega | (simp only [decide_eq_true_eq, decide_eq_false_iff_not] at *; omega)) ?_)
        refine AS.cons (sp_asg (v := .int _ _) rfl ?_)
        refine AS.nil ?_
        intro _ S
        first | exact ⟨j + 1, _, by omega, by omega, ⟨by simp [upd], by show Value.bool _ = Value.bool _; rw [rkL_succ, hpl, g44, g65, hix]; rfl, trivial⟩, trivial, by repeat (first | exact Agr.refl _ _ | exact Agr.msk _ _ _ | refine Agr.upd ?_ _ rfl | refine Agr.upds ?_ rfl | refine Agr.mskIn ?_ rfl), by repeat (first | exact Agr.refl _ _ | exact Agr.msk _ _ _ | refine Agr.upd ?_ _ rfl | refine Agr.upds ?_ rfl | refine Agr.mskIn ?_ rfl), rfl, S⟩ | exact ⟨j + 1, _, by omega, by omega, ⟨by simp [upd], by show Value.bool _ = Value.bool _; rw [rkL_succ, hpl, g44, g65]; rfl, trivial⟩, trivial, by repeat (first | exact Agr.refl _ _ | exact Agr.msk _ _ _ | refine Agr.upd ?_ _ rfl | refine Agr.upds ?_ rfl | refine Agr.mskIn ?_ rfl), by repeat (first | exact Agr.refl _ _ | exact Agr.msk _ _ _ | refine Agr.upd ?_ _ rfl | refine Agr.upds ?_ rfl | refine Agr.mskIn ?_ rfl), rfl, S⟩
      · skip
        refine AW.cons rfl rfl (sp_skip rfl ?_)
        refine AW.cons rfl rfl (sp_skip rfl ?_)
        refine AW.cons rfl rfl (sp_skip rfl ?_)
        refine AW.cons rfl rfl (sp_skip rfl ?_)
        refine AW.cons rfl rfl (sp_skip rfl ?_)
        refine AW.cons rfl rfl (sp_skip rfl ?_)
        refine AW.cons rfl rfl (sp_skip rfl ?_)
        refine AW.cons rfl rfl (sp_skip rfl ?_)
        refine AW.cons rfl rfl (sp_skip rfl ?_)
        refine AW.cons rfl rfl (sp_skip rfl ?_)
        refine AW.cons rfl rfl (sp_pick_f rfl (v := .bool _) rfl ?_)
        refine AW.cons rfl rfl (sp_asg (v := .bool _) rfl ?_)
        refine AW.nil ?_
        intro _ S
        refine W.region S ?_
        refine AS.cons (sp_move (v := .int _ _) rfl ?_)
        refine AS.cons (sp_add rfl rfl (by first | omega | (simp only [decide_eq_true_eq, decide_eq_false_iff_not] at *; omega)) ?_)
        refine AS.cons (sp_asg (v := .int _ _) rfl ?_)
        refine AS.nil ?_
        intro _ S
        first | exact ⟨j + 1, _, by omega, by omega, ⟨by simp [upd], by show Value.bool _ = Value.bool _; rw [rkL_succ, hpl, g44, g65, hix]; rfl, trivial⟩, trivial, by repeat (first | exact Agr.refl _ _ | exact Agr.msk _ _ _ | refine Agr.upd ?_ _ rfl | refine Agr.upds ?_ rfl | refine Agr.mskIn ?_ rfl), by repeat (first | exact Agr.refl _ _ | exact Agr.msk _ _ _ | refine Agr.upd ?_ _ rfl | refine Agr.upds ?_ rfl | refine Agr.mskIn ?_ rfl), rfl, S⟩ | exact ⟨j + 1, _, by omega, by omega, ⟨by simp [upd], by show Value.bool _ = Value.bool _; rw [rkL_succ, hpl, g44, g65]; rfl, trivial⟩, trivial, by repeat (first | exact Agr.refl _ _ | exact Agr.msk _ _ _ | refine Agr.upd ?_ _ rfl | refine Agr.upds ?_ rfl | refine Agr.mskIn ?_ rfl), by repeat (first | exact Agr.refl _ _ | exact Agr.msk _ _ _ | refine Agr.upd ?_ _ rfl | refine Agr.upds ?_ rfl | refine Agr.mskIn ?_ rfl), rfl, S⟩
    · skip
      refine W.exit ?_
      have hex : rkL b j = rkC b 0 := by first | (rw [rkC_zero, show b.land.length = j by (have := of_decide_eq_false c50; omega)]; done) | (rw [rkC_zero, g44, rkL_down hj g44]; done)
      refine W.seq (W.seq (W.region S ?_))
      refine AS.cons (sp_asg rfl ?_)
      refine AS.nil ?_
      intro _ S
      refine W.block ?_
      refine W.loopS S [3, 5, 77, 78, 79, 80, 81, 82, 83, 84, 85, 86, 87, 88, 89, 90, 91, 92] [] (fun (j : Nat) => [(5, iv j), (3, .bool (rkC b j))]) (fun _ => []) (fun j => j ≤ b.cries.length) (fun j => b.cries.length - j) 0 (by omega) ⟨rfl, congrArg Value.bool hex, trivial⟩ trivial ?_
      rintro i σ M w1 hi S
      refine W.seq (W.seq (W.region S ?_))
      refine AS.cons (sp_move (v := .bool _) rfl ?_)
      refine AS.cons (sp_move (v := .bool _) rfl ?_)
      refine AS.split 78 rfl (fun g78 => ?_) (fun g78 => ?_)
      · skip
        refine AS.cons (sp_move (v := .int _ _) rfl ?_)
        refine AS.cons (sp_fa rfl fo_26_5_6 ?_)
        refine AS.cons (sp_ld 1 rfl rfl sc_24 rfl ?_)
        refine AS.cons (sp_len rfl sl_24_46_7 ?_)
        refine AS.cons (sp_lss rfl rfl ?_)
        refine AS.cons (sp_pick_t rfl (v := .bool _) rfl ?_)
        refine AS.nil ?_
        intro _ S
        refine W.cond rfl (fun c84 => ?_) (fun c84 => ?_)
        · skip
          have hlt : i < b.cries.length := by have := of_decide_eq_true c84; omega
          obtain ⟨c, hxc⟩ := get_some hlt
          have hpc : pc b i = decide (CryOk c) := by unfold pc; rw [List.getD_eq_getElem?_getD, hxc]; rfl
          refine W.skip ?_
          refine W.seq (W.block ?_)
          refine W.region S ?_
          refine AS.cons (sp_fa rfl fo_26_5_6 ?_)
          refine AS.cons (sp_ld 1 rfl rfl sc_24 rfl ?_)
          refine AS.cons (sp_move (v := .int _ _) rfl ?_)
          refine AS.cons (sp_iaR hC rfl rfl sl_24_46_7 (by first | omega | (simp only [decide_eq_true_eq, decide_eq_false_iff_not] at *; omega)) ?_)
          refine AS.cons (sp_ldaR 0 hC (fun _ h => h) rfl ag_46_7 (cries_at hxc) (by first | omega | (simp only [decide_eq_true_eq, decide_eq_false_iff_not] at *; omega)) ?_)
          refine AS.cons (sp_call [] rfl rfl cf_70 (fun F w _ S => valid _ w) ?_)
          refine AS.cons (sp_asg (v := .bool _) rfl ?_)
          refine AS.nil ?_
          intro _ S
          refine W.region S ?_
          refine AS.cons (sp_move (v := .int _ _) rfl ?_)
          refine AS.cons (sp_add rfl rfl (by first | omega | (simp only [decide_eq_true_eq, decide_eq_false_iff_not] at *; omega)) ?_)
          refine AS.cons (sp_asg (v := .int _ _) rfl ?_)
          refine AS.nil ?_
          intro _ S
          exact ⟨i + 1, _, by omega, by omega, ⟨by simp [upd], by show Value.bool _ = Value.bool _; rw [rkC_succ, hpc, g78]; rfl, trivial⟩, trivial, by repeat (first | exact Agr.refl _ _ | exact Agr.msk _ _ _ | refine Agr.upd ?_ _ rfl | refine Agr.upds ?_ rfl | refine Agr.mskIn ?_ rfl), by repeat (first | exact Agr.refl _ _ | exact Agr.msk _ _ _ | refine Agr.upd ?_ _ rfl | refine Agr.upds ?_ rfl | refine Agr.mskIn ?_ rfl), rfl, S⟩
        · skip
          refine W.exit ?_
          have hex2 : rkC b i = okAll b := by first | (rw [← rk_ok, show b.cries.length = i by (have := of_decide_eq_false c84; omega)]; done) | (rw [← rk_ok, g78, rkC_down hi g78]; done)
          refine W.seq (W.seq (W.region S ?_))
          refine AS.cons (sp_move (v := .bool _) rfl ?_)
          refine AS.cons (sp_not rfl ?_)
          refine AS.nil ?_
          intro _ S
          refine W.cond rfl (fun c94 => ?_) (fun c94 => ?_)
          · skip
            have hv : chkV b = 10 := by unfold chkV; rw [← hex2, if_neg (by simpa using c94)]
            refine W.seq (W.region S ?_)
            refine AS.cons (sp_asg rfl ?_)
            refine AS.nil ?_
            intro _ S
            refine W.ret ?_
            exact ret1 rfl rfl S fun w' S' => ⟨congrArg iv hv.symm, S'.mod⟩
          · skip
            have hv : chkV b = 0 := by unfold chkV; rw [← hex2, if_pos (by simpa using c94)]
            refine W.skip ?_
            refine W.seq (W.region S ?_)
            refine AS.cons (sp_asg rfl ?_)
            refine AS.nil ?_
            intro _ S
            refine W.ret ?_
            exact ret1 rfl rfl S fun w' S' => ⟨congrArg iv hv.symm, S'.mod⟩
      · skip
        refine AS.cons (sp_skip rfl ?_)
        refine AS.cons (sp_skip rfl ?_)
        refine AS.cons (sp_skip rfl ?_)
        refine AS.cons (sp_skip rfl ?_)
        refine AS.cons (sp_skip rfl ?_)
        refine AS.cons (sp_pick_f rfl (v := .bool _) rfl ?_)
        refine AS.nil ?_
        intro _ S
        refine W.cond (b := false) rfl (fun h => nomatch h) (fun _ => ?_)
        refine W.exit ?_
        have hex2 : rkC b i = okAll b := by first | (rw [← rk_ok, show b.cries.length = i by (have := of_decide_eq_false c84; omega)]; done) | (rw [← rk_ok, g78, rkC_down hi g78]; done)
        refine W.seq (W.seq (W.region S ?_))
        refine AS.cons (sp_move (v := .bool _) rfl ?_)
        refine AS.cons (sp_not rfl ?_)
        refine AS.nil ?_
        intro _ S
        refine W.cond rfl (fun c94 => ?_) (fun c94 => ?_)
        · skip
          have hv : chkV b = 10 := by unfold chkV; rw [← hex2, if_neg (by simpa using c94)]
          refine W.seq (W.region S ?_)
          refine AS.cons (sp_asg rfl ?_)
          refine AS.nil ?_
          intro _ S
          refine W.ret ?_
          exact ret1 rfl rfl S fun w' S' => ⟨congrArg iv hv.symm, S'.mod⟩
        · skip
          have hv : chkV b = 0 := by unfold chkV; rw [← hex2, if_pos (by simpa using c94)]
          refine W.skip ?_
          refine W.seq (W.region S ?_)
          refine AS.cons (sp_asg rfl ?_)
          refine AS.nil ?_
          intro _ S
          refine W.ret ?_
          exact ret1 rfl rfl S fun w' S' => ⟨congrArg iv hv.symm, S'.mod⟩
  · skip
    refine AS.cons (sp_skip rfl ?_)
    refine AS.cons (sp_skip rfl ?_)
    refine AS.cons (sp_skip rfl ?_)
    refine AS.cons (sp_skip rfl ?_)
    refine AS.cons (sp_skip rfl ?_)
    refine AS.cons (sp_pick_f rfl (v := .bool _) rfl ?_)
    refine AS.nil ?_
    intro _ S
    refine W.cond (b := false) rfl (fun h => nomatch h) (fun _ => ?_)
    refine W.exit ?_
    have hex : rkL b j = rkC b 0 := by first | (rw [rkC_zero, show b.land.length = j by (have := of_decide_eq_false c50; omega)]; done) | (rw [rkC_zero, g44, rkL_down hj g44]; done)
    refine W.seq (W.seq (W.region S ?_))
    refine AS.cons (sp_asg rfl ?_)
    refine AS.nil ?_
    intro _ S
    refine W.block ?_
    refine W.loopS S [3, 5, 77, 78, 79, 80, 81, 82, 83, 84, 85, 86, 87, 88, 89, 90, 91, 92] [] (fun (j : Nat) => [(5, iv j), (3, .bool (rkC b j))]) (fun _ => []) (fun j => j ≤ b.cries.length) (fun j => b.cries.length - j) 0 (by omega) ⟨rfl, congrArg Value.bool hex, trivial⟩ trivial ?_
    rintro i σ M w1 hi S
    refine W.seq (W.seq (W.region S ?_))
    refine AS.cons (sp_move (v := .bool _) rfl ?_)
    refine AS.cons (sp_move (v := .bool _) rfl ?_)
    refine AS.split 78 rfl (fun g78 => ?_) (fun g78 => ?_)
    · skip
      refine AS.cons (sp_move (v := .int _ _) rfl ?_)
      refine AS.cons (sp_fa rfl fo_26_5_6 ?_)
      refine AS.cons (sp_ld 1 rfl rfl sc_24 rfl ?_)
      refine AS.cons (sp_len rfl sl_24_46_7 ?_)
      refine AS.cons (sp_lss rfl rfl ?_)
      refine AS.cons (sp_pick_t rfl (v := .bool _) rfl ?_)
      refine AS.nil ?_
      intro _ S
      refine W.cond rfl (fun c84 => ?_) (fun c84 => ?_)
      · skip
        have hlt : i < b.cries.length := by have := of_decide_eq_true c84; omega
        obtain ⟨c, hxc⟩ := get_some hlt
        have hpc : pc b i = decide (CryOk c) := by unfold pc; rw [List.getD_eq_getElem?_getD, hxc]; rfl
        refine W.skip ?_
        refine W.seq (W.block ?_)
        refine W.region S ?_
        refine AS.cons (sp_fa rfl fo_26_5_6 ?_)
        refine AS.cons (sp_ld 1 rfl rfl sc_24 rfl ?_)
        refine AS.cons (sp_move (v := .int _ _) rfl ?_)
        refine AS.cons (sp_iaR hC rfl rfl sl_24_46_7 (by first | omega | (simp only [decide_eq_true_eq, decide_eq_false_iff_not] at *; omega)) ?_)
        refine AS.cons (sp_ldaR 0 hC (fun _ h => h) rfl ag_46_7 (cries_at hxc) (by first | omega | (simp only [decide_eq_true_eq, decide_eq_false_iff_not] at *; omega)) ?_)
        refine AS.cons (sp_call [] rfl rfl cf_70 (fun F w _ S => valid _ w) ?_)
        refine AS.cons (sp_asg (v := .bool _) rfl ?_)
        refine AS.nil ?_
        intro _ S
        refine W.region S ?_
        refine AS.cons (sp_move (v := .int _ _) rfl ?_)
        refine AS.cons (sp_add rfl rfl (by first | omega | (simp only [decide_eq_true_eq, decide_eq_false_iff_not] at *; omega)) ?_)
        refine AS.cons (sp_asg (v := .int _ _) rfl ?_)
        refine AS.nil ?_
        intro _ S
        exact ⟨i + 1, _, by omega, by omega, ⟨by simp [upd], by show Value.bool _ = Value.bool _; rw [rkC_succ, hpc, g78]; rfl, trivial⟩, trivial, by repeat (first | exact Agr.refl _ _ | exact Agr.msk _ _ _ | refine Agr.upd ?_ _ rfl | refine Agr.upds ?_ rfl | refine Agr.mskIn ?_ rfl), by repeat (first | exact Agr.refl _ _ | exact Agr.msk _ _ _ | refine Agr.upd ?_ _ rfl | refine Agr.upds ?_ rfl | refine Agr.mskIn ?_ rfl), rfl, S⟩
      · skip
        refine W.exit ?_
        have hex2 : rkC b i = okAll b := by first | (rw [← rk_ok, show b.cries.length = i by (have := of_decide_eq_false c84; omega)]; done) | (rw [← rk_ok, g78, rkC_down hi g78]; done)
        refine W.seq (W.seq (W.region S ?_))
        refine AS.cons (sp_move (v := .bool _) rfl ?_)
        refine AS.cons (sp_not rfl ?_)
        refine AS.nil ?_
        intro _ S
        refine W.cond rfl (fun c94 => ?_) (fun c94 => ?_)
        · skip
          have hv : chkV b = 10 := by unfold chkV; rw [← hex2, if_neg (by simpa using c94)]
          refine W.seq (W.region S ?_)
          refine AS.cons (sp_asg rfl ?_)
          refine AS.nil ?_
          intro _ S
          refine W.ret ?_
          exact ret1 rfl rfl S fun w' S' => ⟨congrArg iv hv.symm, S'.mod⟩
        · skip
          have hv : chkV b = 0 := by unfold chkV; rw [← hex2, if_pos (by simpa using c94)]
          refine W.skip ?_
          refine W.seq (W.region S ?_)
          refine AS.cons (sp_asg rfl ?_)
          refine AS.nil ?_
          intro _ S
          refine W.ret ?_
          exact ret1 rfl rfl S fun w' S' => ⟨congrArg iv hv.symm, S'.mod⟩
    · skip
      refine AS.cons (sp_skip rfl ?_)
      refine AS.cons (sp_skip rfl ?_)
      refine AS.cons (sp_skip rfl ?_)
      refine AS.cons (sp_skip rfl ?_)
      refine AS.cons (sp_skip rfl ?_)
      refine AS.cons (sp_pick_f rfl (v := .bool _) rfl ?_)
      refine AS.nil ?_
      intro _ S
      refine W.cond (b := false) rfl (fun h => nomatch h) (fun _ => ?_)
      refine W.exit ?_
      have hex2 : rkC b i = okAll b := by first | (rw [← rk_ok, show b.cries.length = i by (have := of_decide_eq_false c84; omega)]; done) | (rw [← rk_ok, g78, rkC_down hi g78]; done)
      refine W.seq (W.seq (W.region S ?_))
      refine AS.cons (sp_move (v := .bool _) rfl ?_)
      refine AS.cons (sp_not rfl ?_)
      refine AS.nil ?_
      intro _ S
      refine W.cond rfl (fun c94 => ?_) (fun c94 => ?_)
      · skip
        have hv : chkV b = 10 := by unfold chkV; rw [← hex2, if_neg (by simpa using c94)]
        refine W.seq (W.region S ?_)
        refine AS.cons (sp_asg rfl ?_)
        refine AS.nil ?_
        intro _ S
        refine W.ret ?_
        exact ret1 rfl rfl S fun w' S' => ⟨congrArg iv hv.symm, S'.mod⟩
      · skip
        have hv : chkV b = 0 := by unfold chkV; rw [← hex2, if_pos (by simpa using c94)]
        refine W.skip ?_
        refine W.seq (W.region S ?_)
        refine AS.cons (sp_asg rfl ?_)
        refine AS.nil ?_
        intro _ S
        refine W.ret ?_
        exact ret1 rfl rfl S fun w' S' => ⟨congrArg iv hv.symm, S'.mod⟩
theorem right (w : World) (hK : Kinds w) (hl : Ints w la lc b.land) (hC : Cries w ca cc b.cries) : Ct Tryd.prog 20 #[.agg (bkL b la lc ca cc).toArray] w (fun u w' => u = .tuple #[.bool (okAll b && canB b), iv (chkV b)] ∧ Ext w w') := by
  refine fn_intro (args := [.agg (bkL b la lc ca cc).toArray]) Tryd.func20 rfl rfl (by kernel_rfl) ?_
  have S := St.start no w
  refine W.seq (W.region S ?_)
  refine AS.cons (sp_boxa 1 rfl (fun b1 => ?_))
  refine AS.cons (sp_asg rfl ?_)
  refine AS.cons (sp_asg rfl ?_)
  refine AS.nil ?_
  intro _ S
  refine W.seq (W.seq (W.region S ?_))
  refine AS.cons (sp_ldw 1 rfl rfl ag_26_7 ?_)
  refine AS.cons (sp_call [] rfl rfl cf_18 (fun F w _ S => check _ _ _ _ _ w (hl.ext S.mod) (hC.ext S.mod)) ?_)
  refine AS.cons (sp_asg (v := .int _ _) rfl ?_)
  refine AS.nil ?_
  intro _ S
  refine W.seq (W.region S ?_)
  refine AS.cons (sp_move (v := .int _ _) rfl ?_)
  refine AS.cons (sp_neq rfl rfl ?_)
  refine AS.nil ?_
  intro _ S
  refine W.condd rfl (fun c8 => ?_) (fun c8 => ?_)
  · skip
    refine W.seq (W.region S ?_)
    refine AS.cons (sp_move (v := .int _ _) rfl ?_)
    refine AS.cons (sp_asg rfl ?_)
    refine AS.cons (sp_asg (v := .int _ _) rfl ?_)
    refine AS.nil ?_
    intro _ S
    refine W.ret ?_
    first | exact ret2 rfl rfl rfl S fun w' S' => ⟨by rw [chk_ok c8]; unfold chkV; rw [if_pos (chk_ok c8)]; rfl, S'.mod⟩ | exact ret2 rfl rfl rfl S fun w' S' => ⟨by rw [chk_no c8]; rfl, S'.mod⟩
  · skip
    have hok := okAll_ok (chk_ok c8)
    have hb := hok.num
    have hn := hok.ll
    refine W.skip ?_
    refine W.seq (W.region S ?_)
    refine AS.cons (sp_ldw 1 rfl rfl ag_26_7 ?_)
    refine AS.cons (sp_call1 11 [] _ rfl rfl cf_63 (fun F w _ S => opened _ _ _ _ _ (by assumption) (by omega) w (hl.ext S.mod)) ?_ (by simp))
    rintro v11 i11 ⟨mp, rfl, rfl⟩
    refine AS.cons (sp_call [11] rfl rfl cf_71 (fun F w' hF S => can b la lc ca cc mp hb hok.cry (by have := hok.lc; omega) w' (hK.ext S.mod) (hC.ext S.mod) (mapAt S ((hF 11 (by simp)).trans rfl))) ?_)
    refine AS.cons (sp_asg (v := .bool _) rfl ?_)
    refine AS.cons (sp_asg rfl ?_)
    refine AS.nil ?_
    intro _ S
    refine W.ret ?_
    first | exact ret2 rfl rfl rfl S fun w' S' => ⟨by rw [chk_ok c8]; unfold chkV; rw [if_pos (chk_ok c8)]; rfl, S'.mod⟩ | exact ret2 rfl rfl rfl S fun w' S' => ⟨by rw [chk_no c8]; rfl, S'.mod⟩
theorem whereF (hb : Num b) (hc : ∀ c ∈ b.cries, CryOk c) (hn : b.cries.length ≤ 1000000) (m : Int) (hm : 0 ≤ m ∧ m ≤ 30) (w : World) (hK : Kinds w) (hC : Cries w ca cc b.cries) (hM : MapAt w mp b) :
    Ct Tryd.prog 76 #[.agg (bayL b la lc ca cc mp).toArray, iv m] w (fun u w' => ∃ i, ((∃ a c, u = .slice a (whs b m.toNat).length c ∧ (whs b m.toNat).length ≤ c) ∧ i = slc 3 1 u (whs b m.toNat).length ((whs b m.toNat).map iv)) ∧ St no w w' (upd eL 0 i) []) := by
  refine fn_intro (args := [.agg (bayL b la lc ca cc mp).toArray, iv m]) Tryd.func76 rfl rfl (by kernel_rfl) ?_
  have S := St.start no w
  refine W.seq (W.region S ?_)
  refine AS.cons (sp_boxa 2 rfl (fun b2 => ?_))
  refine AS.cons (sp_asg rfl ?_)
  refine AS.nil ?_
  intro _ S
  refine W.seq (W.region S ?_)
  refine AS.cons (sp_ldw 2 rfl rfl ag_77_8 ?_)
  refine AS.cons (sp_call1 6 [] _ rfl rfl cf_89 (fun F w' _ S => wheres b la lc ca cc mp hb hc hn w' (hK.ext S.mod) (hC.ext S.mod) (hM.ext S.mod)) ?_ (by simp))
  rintro v6 i6 ⟨vs, hvl, hvs, rfl, rfl⟩
  obtain ⟨v, hv⟩ := get_some (l := vs) (j := m.toNat) (by omega)
  refine AS.cons (sp_move (v := .int _ _) rfl ?_)
  refine AS.cons (sp_ixs (v := v) rfl rfl ar_101_31_22_1 sc_22 (by omega) (by rw [Nat.mul_one]; exact hv) ?_)
  refine AS.cons (sp_asg rfl ?_)
  refine AS.nil ?_
  intro _ S
  have S := S.weak (k := 6) (i := sep (slc 3 1 v (whs b m.toNat).length ((whs b m.toNat).map iv)) (stars ((pcs b 0 vs).set m.toNat emp))) (fun f hf => stars_take (by have := pcs_get b vs 0 m.toNat v hv; rw [Nat.zero_add] at this; exact this) hf)
  have S := S.unfold (k := 6) (k' := 900) (by decide) rfl
  refine W.ret ?_
  exact ret1 rfl rfl S fun w' S' => let ⟨_, a, c, hv1, hv2, _⟩ := S'.slc_form (k := 6) rfl; ⟨_, ⟨⟨a, c, hv1, hv2⟩, rfl⟩, S'.only 6⟩
end
end Go.Proofs.YtmpclgepoemneaaDoor

/-
  What is asked of a book: where the shoal can be, and whether it can be in a square.
-/
namespace Go.Proofs.YtmpclgepoemneaaDoor
set_option maxRecDepth 100000
open Go.Hu Go.RowKit
section
variable (b : Bk) (la : Option Addr) (lc : Nat) (ca : Option Addr) (cc : Nat) (mp : Nat)
abbrev At (w : World) (x : Nat) (l : List Value) (T : Nat) : Prop := w.heap[x]? = some (.cells l.toArray T (0, 0))
theorem At.ext {w w' : World} {x T : Nat} {l : List Value} (h : At w x l T) (E : Ext w w') : At w' x l T := (E.block x (lt_of_some h) id).trans h
theorem At.ld {w : World} {x T : Nat} {l : List Value} (h : At w x l T) {o : Nat} {v : Value} (hv : l[o]? = some v) : w.cell? ⟨x, o, none⟩ = some v := by rw [cell_of_block h]; simpa using hv
theorem minuteC (x : Nat) (m : Int) (w : World) (h : At w x [iv m] 3) : Ct Tryd.prog 74 #[oP x] w (fun v w' => v = .bool (decide (0 ≤ m ∧ m ≤ 30)) ∧ Ext w w') := by
  refine fn_intro (args := [oP x]) Tryd.func74 rfl rfl (by kernel_rfl) ?_
  have S := St.start no w
  refine W.seq (W.region S ?_)
  refine AS.cons (sp_asg rfl ?_)
  refine AS.nil ?_
  intro _ S
  refine W.seq (W.region S ?_)
  refine AS.cons (sp_ldo (v := iv m) rfl sc_3 (h.ld rfl) (fun h => h) ?_)
  refine AS.cons (sp_call [] rfl rfl cf_75 (fun F w _ S => isMinute _ w) ?_)
  refine AS.cons (sp_asg (v := .bool _) rfl ?_)
  refine AS.nil ?_
  intro _ S
  refine W.ret ?_
  exact ret1 rfl rfl S fun w' S' => ⟨rfl, S'.mod⟩
theorem apartC (x : Nat) (m : Int) (w : World) (h : At w x [iv m] 3) : Ct Tryd.prog 81 #[oP x] w (fun v w' => v = .bool (decide (0 ≤ m ∧ m ≤ 30)) ∧ Ext w w') := by
  refine fn_intro (args := [oP x]) Tryd.func81 rfl rfl (by kernel_rfl) ?_
  have S := St.start no w
  refine W.seq (W.region S ?_)
  refine AS.cons (sp_asg rfl ?_)
  refine AS.nil ?_
  intro _ S
  refine W.seq (W.region S ?_)
  refine AS.cons (sp_ldo (v := iv m) rfl sc_3 (h.ld rfl) (fun h => h) ?_)
  refine AS.cons (sp_call [] rfl rfl cf_75 (fun F w _ S => isMinute _ w) ?_)
  refine AS.cons (sp_asg (v := .bool _) rfl ?_)
  refine AS.nil ?_
  intro _ S
  refine W.ret ?_
  exact ret1 rfl rfl S fun w' S' => ⟨rfl, S'.mod⟩
abbrev CanP (b : Bk) (m s : Int) : Prop := (0 ≤ m ∧ m ≤ 30) ∧ (0 ≤ s ∧ s ≤ b.wide * b.high - 1)
theorem canC (hb : Num b) (x y z : Nat) (m s : Int) (w : World) (h1 : At w x [iv m] 3) (h2 : At w y [iv s] 3) (h3 : At w z (bkL b la lc ca cc) 26) : Ct Tryd.prog 80 #[oP x, oP y, oP z] w (fun v w' => v = .bool (decide (CanP b m s)) ∧ Ext w w') := by
  refine fn_intro (args := [oP x, oP y, oP z]) Tryd.func80 rfl rfl (by kernel_rfl) ?_
  have S := St.start no w
  obtain ⟨hw, hh, _⟩ := hb
  have hm := mulS (a := b.wide) (b := b.high) (by omega) (by omega)
  refine W.seq (W.region S ?_)
  refine AS.cons (sp_asg rfl ?_)
  refine AS.nil ?_
  intro _ S
  refine W.seq (W.regionc S [3, 4, 5, 6, 7, 8, 9, 10, 11, 12, 13, 14, 15] 3 (CanP b m s) ?_ ?_)
  · skip
    refine AS.cons (sp_ldo (v := iv m) rfl sc_3 (h1.ld rfl) (fun h => h) ?_)
    refine AS.cons (sp_call [] rfl rfl cf_75 (fun F w _ S => isMinute _ w) ?_)
    refine AS.cons (sp_move (v := .bool _) rfl ?_)
    refine AS.split 6 rfl (fun g6 => ?_) (fun g6 => ?_)
    · skip
      refine AS.cons (sp_ldo (v := iv s) rfl sc_3 (h2.ld rfl) (fun h => h) ?_)
      refine AS.cons (sp_fa rfl fo_26_0_0 ?_)
      refine AS.cons (sp_ldo (v := iv b.wide) rfl sc_3 (h3.ld rfl) (fun h => h) ?_)
      refine AS.cons (sp_fa rfl fo_26_1_1 ?_)
      refine AS.cons (sp_ldo (v := iv b.high) rfl sc_3 (h3.ld rfl) (fun h => h) ?_)
      refine AS.cons (sp_mul rfl rfl (mulB (by first | omega | (simp only [decide_eq_true_eq, decide_eq_false_iff_not] at *; omega)) (by first | omega | (simp only [decide_eq_true_eq, decide_eq_false_iff_not] at *; omega))) ?_)
      refine AS.cons (sp_sub rfl rfl (by first | omega | (simp only [decide_eq_true_eq, decide_eq_false_iff_not] at *; omega)) ?_)
      refine AS.cons (sp_call [] rfl rfl cf_62 (fun F w _ S => within _ _ _ w) ?_)
      refine AS.cons (sp_pick_t rfl (v := .bool _) rfl ?_)
      refine AS.cons (sp_asg (v := .bool _) rfl ?_)
      refine AS.nil ⟨⟨_, rfl, ?_⟩, ?_, rfl⟩
      · (try simp only [decide_eq_true_eq] at *); first | omega | (simp_all; done) | (simp_all; omega)
      · repeat (first | exact Agr.refl _ _ | exact Agr.msk _ _ _ | refine Agr.upd ?_ _ rfl | refine Agr.upds ?_ rfl | refine Agr.mskIn ?_ rfl)
    · skip
      refine AS.cons (sp_skip rfl ?_)
      refine AS.cons (sp_skip rfl ?_)
      refine AS.cons (sp_skip rfl ?_)
      refine AS.cons (sp_skip rfl ?_)
      refine AS.cons (sp_skip rfl ?_)
      refine AS.cons (sp_skip rfl ?_)
      refine AS.cons (sp_skip rfl ?_)
      refine AS.cons (sp_skip rfl ?_)
      refine AS.cons (sp_pick_f rfl (v := .bool _) rfl ?_)
      refine AS.cons (sp_asg (v := .bool _) rfl ?_)
      refine AS.nil ⟨⟨_, rfl, ?_⟩, ?_, rfl⟩
      · (try simp only [decide_eq_false_iff_not] at *); first | omega | (simp_all; done) | (simp_all; omega)
      · repeat (first | exact Agr.refl _ _ | exact Agr.msk _ _ _ | refine Agr.upd ?_ _ rfl | refine Agr.upds ?_ rfl | refine Agr.mskIn ?_ rfl)
  intro σ1 _ S
  refine W.ret ?_
  exact ret1 rfl rfl S fun w' S' => ⟨rfl, S'.mod⟩
abbrev ShotQ (m x y : Int) : Prop := (0 ≤ m ∧ m ≤ 30) ∧ ((1 ≤ x ∧ x ≤ 10) ∧ (1 ≤ y ∧ y ≤ 10))
theorem shotC (x y z : Nat) (m u t : Int) (w : World) (h1 : At w x [iv m] 3) (h2 : At w y [iv u] 3) (h3 : At w z [iv t] 3) : Ct Tryd.prog 84 #[oP x, oP y, oP z] w (fun v w' => v = .bool (decide (ShotQ m u t)) ∧ Ext w w') := by
  refine fn_intro (args := [oP x, oP y, oP z]) Tryd.func84 rfl rfl (by kernel_rfl) ?_
  have S := St.start no w
  refine W.seq (W.region S ?_)
  refine AS.cons (sp_asg rfl ?_)
  refine AS.nil ?_
  intro _ S
  refine W.seq (W.regionc S [3, 4, 5, 6, 7, 8, 9, 10] 3 (ShotQ m u t) ?_ ?_)
  · skip
    refine AS.cons (sp_ldo (v := iv m) rfl sc_3 (h1.ld rfl) (fun h => h) ?_)
    refine AS.cons (sp_call [] rfl rfl cf_75 (fun F w _ S => isMinute _ w) ?_)
    refine AS.cons (sp_move (v := .bool _) rfl ?_)
    refine AS.split 6 rfl (fun g6 => ?_) (fun g6 => ?_)
    · skip
      refine AS.cons (sp_ldo (v := iv u) rfl sc_3 (h2.ld rfl) (fun h => h) ?_)
      refine AS.cons (sp_ldo (v := iv t) rfl sc_3 (h3.ld rfl) (fun h => h) ?_)
      refine AS.cons (sp_call [] rfl rfl cf_85 (fun F w _ S => isSeine _ _ w) ?_)
      refine AS.cons (sp_pick_t rfl (v := .bool _) rfl ?_)
      refine AS.cons (sp_asg (v := .bool _) rfl ?_)
      refine AS.nil ⟨⟨_, rfl, ?_⟩, ?_, rfl⟩
      · (try simp only [decide_eq_true_eq] at *); first | omega | (simp_all; done) | (simp_all; omega)
      · repeat (first | exact Agr.refl _ _ | exact Agr.msk _ _ _ | refine Agr.upd ?_ _ rfl | refine Agr.upds ?_ rfl | refine Agr.mskIn ?_ rfl)
    · skip
      refine AS.cons (sp_skip rfl ?_)
      refine AS.cons (sp_skip rfl ?_)
      refine AS.cons (sp_skip rfl ?_)
      refine AS.cons (sp_pick_f rfl (v := .bool _) rfl ?_)
      refine AS.cons (sp_asg (v := .bool _) rfl ?_)
      refine AS.nil ⟨⟨_, rfl, ?_⟩, ?_, rfl⟩
      · (try simp only [decide_eq_false_iff_not] at *); first | omega | (simp_all; done) | (simp_all; omega)
      · repeat (first | exact Agr.refl _ _ | exact Agr.msk _ _ _ | refine Agr.upd ?_ _ rfl | refine Agr.upds ?_ rfl | refine Agr.mskIn ?_ rfl)
  intro σ1 _ S
  refine W.ret ?_
  exact ret1 rfl rfl S fun w' S' => ⟨rfl, S'.mod⟩
theorem soonC (y z : Nat) (u t : Int) (w : World) (h2 : At w y [iv u] 3) (h3 : At w z [iv t] 3) : Ct Tryd.prog 88 #[oP y, oP z] w (fun v w' => v = .bool (decide ((1 ≤ u ∧ u ≤ 10) ∧ (1 ≤ t ∧ t ≤ 10))) ∧ Ext w w') := by
  refine fn_intro (args := [oP y, oP z]) Tryd.func88 rfl rfl (by kernel_rfl) ?_
  have S := St.start no w
  refine W.seq (W.region S ?_)
  refine AS.cons (sp_asg rfl ?_)
  refine AS.nil ?_
  intro _ S
  refine W.seq (W.region S ?_)
  refine AS.cons (sp_ldo (v := iv u) rfl sc_3 (h2.ld rfl) (fun h => h) ?_)
  refine AS.cons (sp_ldo (v := iv t) rfl sc_3 (h3.ld rfl) (fun h => h) ?_)
  refine AS.cons (sp_call [] rfl rfl cf_85 (fun F w _ S => isSeine _ _ w) ?_)
  refine AS.cons (sp_asg (v := .bool _) rfl ?_)
  refine AS.nil ?_
  intro _ S
  refine W.ret ?_
  exact ret1 rfl rfl S fun w' S' => ⟨rfl, S'.mod⟩
abbrev zeroBay : List Value := [iv 0, iv 0, nilS, iv 0, iv 0, iv 0, nilS, .map none]
/-- What is handed back when something is asked: the bay, opened, or none. -/
def AskR (p : Bool) (u : Value) (i : HP) : Prop := ∃ bl : List Value, bl.length = 8 ∧ oneB bl = true ∧ u = .tuple #[.agg bl.toArray, iv (askV b p)] ∧ (askV b p = 0 → ∃ mp, bl = bayL b la lc ca cc mp ∧ i = mpP mp ((wtr b).map (ent b)))
theorem asked (w : World) (hK : Kinds w) (hl : Ints w la lc b.land) (hC : Cries w ca cc b.cries) (fi : Nat) (cs : List Value) (p : Bool) (hf : cfB Tryd.prog fi = true) (hp : ∀ w', Ext w w' → okAll b = true → Ct Tryd.prog fi cs.toArray w' (fun v w'' => v = .bool p ∧ Ext w' w'')) :
    Ct Tryd.prog 73 #[.agg (bkL b la lc ca cc).toArray, .func (.func fi) #[] cs.toArray] w (fun u w' => ∃ i, AskR b la lc ca cc p u i ∧ St no w w' (upd eL 0 i) []) := by
  refine fn_intro (args := [.agg (bkL b la lc ca cc).toArray, .func (.func fi) #[] cs.toArray]) Tryd.func73 rfl rfl (by kernel_rfl) ?_
  have S := St.start no w
  refine W.seq (W.region S ?_)
  refine AS.cons (sp_boxa 2 rfl (fun b2 => ?_))
  refine AS.cons (sp_alloc 4 zv_77 rfl (fun b4 => ?_))
  refine AS.cons (sp_asg rfl ?_)
  refine AS.nil ?_
  intro _ S
  refine W.seq (W.seq (W.region S ?_))
  refine AS.cons (sp_ldw 2 rfl rfl ag_26_7 ?_)
  refine AS.cons (sp_call [] rfl rfl cf_18 (fun F w _ S => check _ _ _ _ _ w (hl.ext S.mod) (hC.ext S.mod)) ?_)
  refine AS.cons (sp_asg (v := .int _ _) rfl ?_)
  refine AS.nil ?_
  intro _ S
  refine W.seq (W.region S ?_)
  refine AS.cons (sp_move (v := .int _ _) rfl ?_)
  refine AS.cons (sp_neq rfl rfl ?_)
  refine AS.nil ?_
  intro _ S
  refine W.condd rfl (fun c11 => ?_) (fun c11 => ?_)
  · skip
    have hv : askV b p = chkV b := by unfold askV chkV; rw [chk_no c11]; rfl
    have hnz : askV b p = 0 → ∃ mp, zeroBay = bayL b la lc ca cc mp ∧ emp = mpP mp ((wtr b).map (ent b)) := fun h => absurd (hv.symm.trans h) c11
    refine W.seq (W.region S ?_)
    refine AS.cons (sp_build zeroBay (by kernel_rfl) ?_)
    refine AS.cons (sp_move (v := .int _ _) rfl ?_)
    refine AS.cons (sp_st 4 rfl rfl rfl rfl sz_77_8 rfl rfl ?_)
    refine AS.cons (sp_asg (v := .int _ _) rfl ?_)
    refine AS.nil ?_
    intro _ S
    refine W.ret ?_
    first | exact retct 4 ag_77_8 rfl rfl rfl rfl rfl rfl S fun w' S' => ⟨emp, ⟨zeroBay, rfl, rfl, congrArg (fun z => Value.tuple #[.agg zeroBay.toArray, iv z]) hv.symm, hnz⟩, S'.only 999⟩ | exact retct 4 ag_77_8 rfl rfl rfl rfl rfl rfl S fun w' S' => ⟨_, ⟨bayL b la lc ca cc mp, rfl, rfl, congrArg (fun z => Value.tuple #[.agg (bayL b la lc ca cc mp).toArray, iv z]) hv.symm, fun _ => ⟨mp, rfl, rfl⟩⟩, S'.only 19⟩
  · skip
    have hok := chk_ok c11
    refine W.skip ?_
    refine W.seq (W.seq (W.region S ?_))
    refine AS.cons (sp_move rfl ?_)
    refine AS.cons (sp_call [] (f := fi) (fs := []) (cs := cs) rfl rfl hf (fun F w' _ S => hp w' S.mod hok) ?_)
    refine AS.cons (sp_not rfl ?_)
    refine AS.nil ?_
    intro _ S
    refine W.cond rfl (fun c16 => ?_) (fun c16 => ?_)
    · skip
      have hv : askV b p = 11 := by unfold askV; rw [if_pos hok, if_neg (by simpa using c16)]
      have hnz : askV b p = 0 → ∃ mp, zeroBay = bayL b la lc ca cc mp ∧ emp = mpP mp ((wtr b).map (ent b)) := fun h => absurd (hv.symm.trans h) (by decide)
      refine W.seq (W.region S ?_)
      refine AS.cons (sp_build zeroBay (by kernel_rfl) ?_)
      refine AS.cons (sp_st 4 rfl rfl rfl rfl sz_77_8 rfl rfl ?_)
      refine AS.cons (sp_asg rfl ?_)
      refine AS.nil ?_
      intro _ S
      refine W.ret ?_
      first | exact retct 4 ag_77_8 rfl rfl rfl rfl rfl rfl S fun w' S' => ⟨emp, ⟨zeroBay, rfl, rfl, congrArg (fun z => Value.tuple #[.agg zeroBay.toArray, iv z]) hv.symm, hnz⟩, S'.only 999⟩ | exact retct 4 ag_77_8 rfl rfl rfl rfl rfl rfl S fun w' S' => ⟨_, ⟨bayL b la lc ca cc mp, rfl, rfl, congrArg (fun z => Value.tuple #[.agg (bayL b la lc ca cc mp).toArray, iv z]) hv.symm, fun _ => ⟨mp, rfl, rfl⟩⟩, S'.only 19⟩
    · skip
      have hpt : p = true := by simpa using c16
      have hbk := okAll_ok hok
      have hb := hbk.num
      have hn := hbk.ll
      refine W.skip ?_
      refine W.seq (W.region S ?_)
      refine AS.cons (sp_ldw 2 rfl rfl ag_26_7 ?_)
      refine AS.cons (sp_call1 19 [] _ rfl rfl cf_63 (fun F w _ S => opened _ _ _ _ _ (by assumption) (by omega) w (hl.ext S.mod)) ?_ (by simp))
      rintro v19 i19 ⟨mp, rfl, rfl⟩
      refine AS.cons (sp_alloc 7 zv_77 rfl (fun b7 => ?_))
      refine AS.cons (sp_st 7 rfl rfl rfl rfl sz_77_8 rfl rfl ?_)
      refine AS.nil ?_
      intro _ S
      refine W.seq (W.seq (W.region S ?_))
      refine AS.cons (sp_ldw 7 rfl rfl ag_77_8 ?_)
      refine AS.cons (sp_call [19] rfl rfl cf_71 (fun F w' hF S => can b la lc ca cc mp hb hbk.cry (by have := hbk.lc; omega) w' (hK.ext S.mod) (hC.ext S.mod) (mapAt S ((hF 19 (by simp)).trans rfl))) ?_)
      refine AS.cons (sp_not rfl ?_)
      refine AS.nil ?_
      intro _ S
      refine W.cond rfl (fun c22 => ?_) (fun c22 => ?_)
      · skip
        have hv : askV b p = 12 := by unfold askV; rw [if_pos hok, if_pos hpt, if_neg (by simpa using c22)]
        refine W.seq (W.region S ?_)
        refine AS.cons (sp_ldw 7 rfl rfl ag_77_8 ?_)
        refine AS.cons (sp_st 4 rfl rfl rfl rfl sz_77_8 rfl rfl ?_)
        refine AS.cons (sp_asg rfl ?_)
        refine AS.nil ?_
        intro _ S
        refine W.ret ?_
        first | exact retct 4 ag_77_8 rfl rfl rfl rfl rfl rfl S fun w' S' => ⟨emp, ⟨zeroBay, rfl, rfl, congrArg (fun z => Value.tuple #[.agg zeroBay.toArray, iv z]) hv.symm, hnz⟩, S'.only 999⟩ | exact retct 4 ag_77_8 rfl rfl rfl rfl rfl rfl S fun w' S' => ⟨_, ⟨bayL b la lc ca cc mp, rfl, rfl, congrArg (fun z => Value.tuple #[.agg (bayL b la lc ca cc mp).toArray, iv z]) hv.symm, fun _ => ⟨mp, rfl, rfl⟩⟩, S'.only 19⟩
      · skip
        have hv : askV b p = 0 := by unfold askV; rw [if_pos hok, if_pos hpt, if_pos (by simpa using c22)]
        refine W.skip ?_
        refine W.seq (W.region S ?_)
        refine AS.cons (sp_ldw 7 rfl rfl ag_77_8 ?_)
        refine AS.cons (sp_st 4 rfl rfl rfl rfl sz_77_8 rfl rfl ?_)
        refine AS.cons (sp_asg rfl ?_)
        refine AS.nil ?_
        intro _ S
        refine W.ret ?_
        first | exact retct 4 ag_77_8 rfl rfl rfl rfl rfl rfl S fun w' S' => ⟨emp, ⟨zeroBay, rfl, rfl, congrArg (fun z => Value.tuple #[.agg zeroBay.toArray, iv z]) hv.symm, hnz⟩, S'.only 999⟩ | exact retct 4 ag_77_8 rfl rfl rfl rfl rfl rfl S fun w' S' => ⟨_, ⟨bayL b la lc ca cc mp, rfl, rfl, congrArg (fun z => Value.tuple #[.agg (bayL b la lc ca cc mp).toArray, iv z]) hv.symm, fun _ => ⟨mp, rfl, rfl⟩⟩, S'.only 19⟩
/-- The squares that are told for a minute, or none. -/
def whereL (b : Bk) (m : Int) : List Int := if askV b (decide (0 ≤ m ∧ m ≤ 30)) = 0 then whs b m.toNat else []
def ListR (l : List Int) (e : Int) (u : Value) (i : HP) : Prop := ∃ a c, l.length ≤ c ∧ u = .tuple #[.slice a l.length c, iv e] ∧ i = slc 3 1 (.slice a l.length c) l.length (l.map iv)
theorem whereP (m : Int) (w : World) (hK : Kinds w) (hl : Ints w la lc b.land) (hC : Cries w ca cc b.cries) : Ct Tryd.prog 22 #[.agg (bkL b la lc ca cc).toArray, iv m] w (fun u w' => ∃ i, ListR (whereL b m) (askV b (decide (0 ≤ m ∧ m ≤ 30))) u i ∧ St no w w' (upd eL 0 i) []) := by
  refine fn_intro (args := [.agg (bkL b la lc ca cc).toArray, iv m]) Tryd.func22 rfl rfl (by kernel_rfl) ?_
  have S := St.start no w
  refine W.seq (W.region S ?_)
  refine AS.cons (sp_boxa 2 rfl (fun b2 => ?_))
  refine AS.cons (sp_boxs 3 rfl rfl (fun b3 => ?_))
  refine AS.cons (sp_asg rfl ?_)
  refine AS.cons (sp_asg rfl ?_)
  refine AS.nil ?_
  intro _ S
  refine W.seq (W.region S ?_)
  refine AS.cons (sp_ldw 2 rfl rfl ag_26_7 ?_)
  refine AS.cons (sp_mf ?_)
  refine AS.cons (sp_call1 12 [3] _ rfl rfl cf_73 (fun F w' hF S => asked b la lc ca cc w' (hK.ext S.mod) (hl.ext S.mod) (hC.ext S.mod) 74 [oP b3] (decide (0 ≤ m ∧ m ≤ 30)) cf_74 (fun w'' E _ => minuteC b3 m w'' (At.ext (S.get ((hF 3 (by simp)).trans rfl)).1 E))) ?_ (by simp))
  rintro v12 i12 ⟨bl, hbl, hone, rfl, hz⟩
  refine AS.cons (sp_move rfl ?_)
  refine AS.cons (sp_ext rfl rfl ?_)
  refine AS.cons (sp_ext rfl rfl ?_)
  refine AS.cons (sp_alloc 6 zv_77 rfl (fun b6 => ?_))
  refine AS.cons (sp_stw 6 sz_77_8 rfl rfl rfl rfl hbl rfl hone ?_)
  refine AS.cons (sp_asg (v := .int _ _) rfl ?_)
  refine AS.nil ?_
  intro _ S
  refine W.seq (W.seq (W.region S ?_))
  refine AS.cons (sp_move (v := .int _ _) rfl ?_)
  refine AS.cons (sp_neq rfl rfl ?_)
  refine AS.nil ?_
  intro _ S
  refine W.condd rfl (fun c16 => ?_) (fun c16 => ?_)
  · skip
    have hwl : whereL b m = [] := by unfold whereL; rw [if_neg c16]
    refine W.seq (W.region S ?_)
    refine AS.cons (sp_move (v := .int _ _) rfl ?_)
    refine AS.cons (sp_asg rfl ?_)
    refine AS.cons (sp_asg (v := .int _ _) rfl ?_)
    refine AS.nil ?_
    intro _ S
    refine W.ret ?_
    first | exact ret2 rfl rfl rfl S fun w' S' => ⟨_, ⟨none, 0, by rw [hwl]; exact Nat.le_refl _, by rw [hwl]; rfl, by rw [hwl]; rfl⟩, St.noneS S'⟩ | exact ret2 rfl rfl rfl S fun w' S' => ⟨_, ⟨a, (whs b m.toNat).length, by rw [hwl]; exact Nat.le_refl _, by rw [hwl, c0]; rfl, by rw [hwl]⟩, St.capS S' 20 rfl⟩
  · skip
    have c0 := Decidable.not_not.1 c16
    obtain ⟨mp, rfl, rfl⟩ := hz c0
    obtain ⟨hok, hmm, _⟩ := askV_zero c0
    have hmm := of_decide_eq_true hmm
    have hbk := okAll_ok hok
    have hwl : whereL b m = whs b m.toNat := by unfold whereL; rw [if_pos c0]
    have hlen := whU_len b m.toNat 80
    refine W.skip ?_
    refine W.seq (W.region S ?_)
    refine AS.cons (sp_ldw 6 rfl rfl ag_77_8 ?_)
    refine AS.cons (sp_ld 3 rfl rfl sc_3 rfl ?_)
    refine AS.cons (sp_call1 20 [12] _ rfl rfl cf_76 (fun F w' hF S => whereF b la lc ca cc mp hbk.num hbk.cry (by have := hbk.lc; omega) m hmm w' (hK.ext S.mod) (hC.ext S.mod) (mapAt S ((hF 12 (by simp)).trans rfl))) ?_ (by simp))
    rintro v20 i20 ⟨⟨a, c, rfl, hac⟩, rfl⟩
    refine AS.cons (sp_asg rfl ?_)
    refine AS.nil ?_
    intro _ S
    refine W.seq (W.region S ?_)
    refine AS.cons (sp_move rfl ?_)
    refine AS.cons (sp_move rfl ?_)
    refine AS.cons (sp_len rfl sl_22_3_1 ?_)
    refine AS.cons (sp_move rfl ?_)
    refine AS.cons (sp_len rfl sl_22_3_1 ?_)
    refine AS.cons (sp_sl3 rfl rfl rfl sl_22_3_1 (by first | omega | (simp only [decide_eq_true_eq, decide_eq_false_iff_not] at *; omega)) ?_)
    refine AS.cons (sp_asg rfl ?_)
    refine AS.cons (sp_asg rfl ?_)
    refine AS.nil ?_
    intro _ S
    refine W.ret ?_
    first | exact ret2 rfl rfl rfl S fun w' S' => ⟨_, ⟨none, 0, by rw [hwl]; exact Nat.le_refl _, by rw [hwl]; rfl, by rw [hwl]; rfl⟩, St.noneS S'⟩ | exact ret2 rfl rfl rfl S fun w' S' => ⟨_, ⟨a, (whs b m.toNat).length, by rw [hwl]; exact Nat.le_refl _, by rw [hwl, c0]; rfl, by rw [hwl]⟩, St.capS S' 20 rfl⟩
end
end Go.Proofs.YtmpclgepoemneaaDoor

/-
  The other side: what is allowed; the next row; lists.
-/
namespace Go.Proofs.YtmpclgepoemneaaDoor
set_option maxRecDepth 100000
open Go.Hu Go.RowKit
section
variable (b : Bk) (la : Option Addr) (lc : Nat) (ca : Option Addr) (cc : Nat) (mp : Nat)
theorem squaresN (hb : Num b) (w : World) : Ct Tryd.prog 66 #[.agg (bkL b la lc ca cc).toArray] w (fun v w' => v = iv ((sq b : Nat) : Int) ∧ Ext w w') := by
  refine (squaresF b la lc ca cc w).mono fun v w' h => ⟨h.1.trans (congrArg iv ?_), h.2⟩
  have := sq_le hb
  rw [IntWalk.i64_in _ (by omega)]; omega
theorem allR (hb : Num b) (w : World) : Ct Tryd.prog 111 #[.agg (bkL b la lc ca cc).toArray] w
    (fun u w' => ∃ i, ((∃ a, u = .slice a (sq b) (sq b)) ∧ i = slc 4 1 u (sq b) ((List.replicate (sq b) true).map Value.bool)) ∧ St no w w' (upd eL 0 i) []) := by
  refine fn_intro (args := [.agg (bkL b la lc ca cc).toArray]) Tryd.func111 rfl rfl (by kernel_rfl) ?_
  have S := St.start no w
  have hsq := sq_le hb
  refine W.seq (W.region S ?_)
  refine AS.cons (sp_boxa 1 rfl (fun b1 => ?_))
  refine AS.cons (sp_asg rfl ?_)
  refine AS.nil ?_
  intro _ S
  refine W.seq (W.region S ?_)
  refine AS.cons (sp_ldw 1 rfl rfl ag_26_7 ?_)
  refine AS.cons (sp_call [] rfl rfl cf_66 (fun F w _ S => squaresN _ _ _ _ _ (by assumption) w) ?_)
  refine AS.cons (sp_mk1 7 sl_94_4_1 zs_4_1 zv_4 rfl rfl rfl (by first | omega | (simp only [decide_eq_true_eq, decide_eq_false_iff_not] at *; omega)) (fun b7 => ?_))
  refine AS.cons (sp_asg rfl ?_)
  refine AS.nil ?_
  intro _ S
  refine W.seq (W.seq (W.region S ?_))
  refine AS.cons (sp_asg rfl ?_)
  refine AS.nil ?_
  intro _ S
  refine W.block ?_
  refine W.loopS S [4, 8, 9, 10, 11, 12, 13, 14, 15, 16] [7] (fun (j : Nat) => [(4, iv j)]) (fun j => [(7, pt b7 (.cells ((part (fun _ => true) (sq b) j).map Value.bool).toArray 4 (0, 0)))]) (fun j => j ≤ sq b) (fun j => sq b - j) 0 (by omega) ⟨rfl, trivial⟩ ⟨by show pt b7 _ = pt b7 _; rw [part_zero, List.map_replicate], trivial⟩ ?_
  rintro j σ M w1 hj S
  refine W.seq (W.seq (W.region S ?_))
  refine AS.cons (sp_move (v := .int _ _) rfl ?_)
  refine AS.cons (sp_move rfl ?_)
  refine AS.cons (sp_len rfl sl_94_4_1 ?_)
  refine AS.cons (sp_lss rfl rfl ?_)
  refine AS.nil ?_
  intro _ S
  refine W.condd rfl (fun c11 => ?_) (fun c11 => ?_)
  · skip
    refine W.skip ?_
    refine W.seq (W.block ?_)
    refine W.region S ?_
    refine AS.cons (sp_move rfl ?_)
    refine AS.cons (sp_move (v := .int _ _) rfl ?_)
    refine AS.cons (sp_ia rfl rfl sl_94_4_1 (by first | omega | (simp only [decide_eq_true_eq, decide_eq_false_iff_not] at *; omega)) ?_)
    refine AS.cons (sp_sts 7 sz_4_1 rfl rfl rfl rfl rfl (by rw [List.length_map, part_len]; omega) ?_)
    refine AS.nil ?_
    intro _ S
    refine W.region S ?_
    refine AS.cons (sp_move (v := .int _ _) rfl ?_)
    refine AS.cons (sp_add rfl rfl (by first | omega | (simp only [decide_eq_true_eq, decide_eq_false_iff_not] at *; omega)) ?_)
    refine AS.cons (sp_asg (v := .int _ _) rfl ?_)
    refine AS.nil ?_
    intro _ S
    exact ⟨j + 1, _, by omega, by omega, ⟨by simp [upd], trivial⟩, ⟨congrArg (fun c => pt b7 (.cells (List.toArray c) 4 (0, 0))) (set_at.trans (congrArg (List.map Value.bool) (part_set (fun _ => true) (by omega)))), trivial⟩, by repeat (first | exact Agr.refl _ _ | exact Agr.msk _ _ _ | refine Agr.upd ?_ _ rfl | refine Agr.upds ?_ rfl | refine Agr.mskIn ?_ rfl), by repeat (first | exact Agr.refl _ _ | exact Agr.msk _ _ _ | refine Agr.upd ?_ _ rfl | refine Agr.upds ?_ rfl | refine Agr.mskIn ?_ rfl), rfl, S⟩
  · skip
    obtain rfl : j = sq b := by omega
    refine W.exit ?_
    refine W.seq (W.region S ?_)
    refine AS.cons (sp_move rfl ?_)
    refine AS.cons (sp_asg rfl ?_)
    refine AS.nil ?_
    intro _ S
    refine W.ret ?_
    exact ret1 rfl rfl S fun w' S' => ⟨_, ⟨⟨_, rfl⟩, rfl⟩, (S'.weak (k := 7) (i := slc 4 1 (.slice (some ⟨b7, 0, none⟩) (sq b) (sq b)) (sq b) ((List.replicate (sq b) true).map Value.bool)) (fun f (hf : pt b7 (.cells ((part (fun _ => true) (sq b) (sq b)).map Value.bool).toArray 4 (0, 0)) f) => slc_of_pt hf (by simp) (Nat.le_refl _) (by simp [part_len]) (by rw [part_all]; simp [List.map_const']))).only 7⟩
theorem allowed (hb : Num b) (hc : ∀ c ∈ b.cries, CryOk c) (hn : b.cries.length ≤ 1000000) (hll : b.land.length ≤ 1000000) (m : Int) (t : Nat) (ht : t < sq b) (w : World) (hl : Ints w la lc b.land) (hC : Cries w ca cc b.cries) :
    Ct Tryd.prog 115 #[.agg (bkL b la lc ca cc).toArray, iv m, iv t] w (fun v w' => v = .bool (alw b m t) ∧ Ext w w') := by
  refine fn_intro (args := [.agg (bkL b la lc ca cc).toArray, iv m, iv t]) Tryd.func115 rfl rfl (by kernel_rfl) ?_
  have S := St.start no w
  have hsq := sq_le hb
  have hal := alw_of b m ht
  refine W.seq (W.region S ?_)
  refine AS.cons (sp_boxa 3 rfl (fun b3 => ?_))
  refine AS.cons (sp_asg rfl ?_)
  refine AS.nil ?_
  intro _ S
  refine W.seq (W.seq (W.region S ?_))
  refine AS.cons (sp_fa rfl fo_26_2_2 ?_)
  refine AS.cons (sp_ld 3 rfl rfl sc_22 rfl ?_)
  refine AS.cons (sp_move (v := .int _ _) rfl ?_)
  refine AS.cons (sp_call [] rfl rfl cf_41 (fun F w _ S => place _ _ _ _ (by omega) w (hl.ext S.mod)) ?_)
  refine AS.cons (sp_geq rfl rfl ?_)
  refine AS.nil ?_
  intro _ S
  refine W.condd rfl (fun c13 => ?_) (fun c13 => ?_)
  · skip
    have hv : alw b m t = false := by rw [hal, decide_eq_false (by omega)]; rfl
    refine W.seq (W.region S ?_)
    refine AS.cons (sp_asg rfl ?_)
    refine AS.nil ?_
    intro _ S
    refine W.ret ?_
    first | exact ret1 rfl rfl S fun w' S' => ⟨congrArg Value.bool hv.symm, S'.mod⟩ | exact ret1 rfl rfl S fun w' S' => ⟨congrArg Value.bool (by rw [hal, frb_none (fun i hi => hnn i (by omega))]; rfl), S'.mod⟩
  · skip
    rw [decide_eq_true (show ix b.land t < 0 by omega), Bool.true_and] at hal
    refine W.skip ?_
    refine W.seq (W.seq (W.region S ?_))
    refine AS.cons (sp_asg rfl ?_)
    refine AS.nil ?_
    intro _ S
    refine W.block ?_
    refine W.loopS S [6, 7, 8, 14, 15, 16, 17, 18, 19, 20, 21, 22, 23, 24, 25, 26, 27, 28, 29, 30, 31, 32, 33, 34, 35, 36, 37, 38, 39] [8] (fun (j : Nat) => [(7, iv j)]) (fun _ => []) (fun j => j ≤ b.cries.length ∧ ∀ i, i < j → ∀ c, b.cries[i]? = some c → (decide (c.m = m) && against b c ((t : Int) % b.wide) ((t : Int) / b.wide)) = false) (fun j => b.cries.length - j) 0 ⟨by omega, fun i hi => absurd hi (by omega)⟩ ⟨rfl, trivial⟩ trivial ?_
    rintro j σ M w1 ⟨hj, hnn⟩ S
    refine W.seq (W.seq (W.region S ?_))
    refine AS.cons (sp_move (v := .int _ _) rfl ?_)
    refine AS.cons (sp_fa rfl fo_26_5_6 ?_)
    refine AS.cons (sp_ld 3 rfl rfl sc_24 rfl ?_)
    refine AS.cons (sp_len rfl sl_24_46_7 ?_)
    refine AS.cons (sp_lss rfl rfl ?_)
    refine AS.nil ?_
    intro _ S
    refine W.condd rfl (fun c18 => ?_) (fun c18 => ?_)
    · skip
      refine W.skip ?_
      refine W.seq (W.block ?_)
      have hlt : j < b.cries.length := by omega
      obtain ⟨c, hxc⟩ := get_some hlt
      have hck := hc c (List.mem_of_getElem? hxc)
      refine W.seq (W.region S ?_)
      refine AS.cons (sp_fa rfl fo_26_5_6 ?_)
      refine AS.cons (sp_ld 3 rfl rfl sc_24 rfl ?_)
      refine AS.cons (sp_move (v := .int _ _) rfl ?_)
      refine AS.cons (sp_iaR hC rfl rfl sl_24_46_7 (by first | omega | (simp only [decide_eq_true_eq, decide_eq_false_iff_not] at *; omega)) ?_)
      refine AS.cons (sp_ldaR 0 hC (fun _ h => h) rfl ag_46_7 (cries_at hxc) (by first | omega | (simp only [decide_eq_true_eq, decide_eq_false_iff_not] at *; omega)) ?_)
      refine AS.cons (sp_alloc 8 zv_46 rfl (fun b8 => ?_))
      refine AS.cons (sp_st 8 rfl rfl rfl rfl sz_46_7 rfl rfl ?_)
      refine AS.nil ?_
      intro _ S
      refine W.seq (W.draw S mixed (fun i => ([KD.q [], KD.q [8], KD.q [], KD.q [], KD.q [], KD.q [3], KD.q [8], KD.q [], KD.e [] [], KD.q [], KD.q [8], KD.q [], KD.q [], KD.q []] : List KD)[i]?) [] [0, 1, 2, 3, 4, 5, 6, 7, 8, 9, 10, 11, 12, 13] (by kernel_rfl) ?_)
      refine AW.cons rfl rfl (sp_fa rfl fo_46_1_1 ?_)
      refine AW.cons rfl rfl (sp_ld 8 rfl rfl sc_3 rfl ?_)
      refine AW.cons rfl rfl (sp_move (v := .int _ _) rfl ?_)
      refine AW.cons rfl rfl (sp_eql rfl rfl ?_)
      refine AW.cons rfl rfl (sp_move (v := .bool _) rfl ?_)
      refine AW.split 30 rfl (fun g30 => ?_) (fun g30 => ?_)
      · skip
        refine AW.cons rfl rfl (sp_ldw 3 rfl rfl ag_26_7 ?_)
        refine AW.cons rfl rfl (sp_ldw 8 rfl rfl ag_46_7 ?_)
        refine AW.cons rfl rfl (sp_move (v := .int _ _) rfl ?_)
        refine AW.cons rfl rfl (sp_call [] rfl rfl cf_67 (fun F w _ S => betweenR _ _ _ _ _ hb c hck _ (by omega) w) ?_)
        refine AW.cons rfl rfl (sp_fa rfl fo_46_2_2 ?_)
        refine AW.cons rfl rfl (sp_ld 8 rfl rfl sc_3 rfl ?_)
        refine AW.cons rfl rfl (sp_eql rfl rfl ?_)
        refine AW.cons rfl rfl (sp_neqb rfl rfl bool_4 ?_)
        refine AW.cons rfl rfl (sp_pick_t rfl (v := .bool _) rfl ?_)
        refine AW.nil ?_
        intro _ S
        refine W.cond rfl (fun c39 => ?_) (fun c39 => ?_)
        · skip
          have hv : alw b m t = false := by rw [hal, show frb b m ((t : Int) % b.wide) ((t : Int) / b.wide) = true from List.any_eq_true.2 ⟨c, List.mem_of_getElem? hxc, by rw [g30]; simpa [against] using c39⟩]; rfl
          refine W.seq (W.region S ?_)
          refine AS.cons (sp_asg rfl ?_)
          refine AS.nil ?_
          intro _ S
          refine W.ret ?_
          first | exact ret1 rfl rfl S fun w' S' => ⟨congrArg Value.bool hv.symm, S'.mod⟩ | exact ret1 rfl rfl S fun w' S' => ⟨congrArg Value.bool (by rw [hal, frb_none (fun i hi => hnn i (by omega))]; rfl), S'.mod⟩
        · skip
          have hfr : (decide (c.m = m) && against b c ((t : Int) % b.wide) ((t : Int) / b.wide)) = false := by rw [g30]; simpa [against] using c39
          refine W.skip ?_
          refine W.region S ?_
          refine AS.cons (sp_move (v := .int _ _) rfl ?_)
          refine AS.cons (sp_add rfl rfl (by first | omega | (simp only [decide_eq_true_eq, decide_eq_false_iff_not] at *; omega)) ?_)
          refine AS.cons (sp_asg (v := .int _ _) rfl ?_)
          refine AS.nil ?_
          intro _ S
          exact ⟨j + 1, _, ⟨by omega, snoc_lt hnn (fun c' hc' => by rw [hxc] at hc'; cases hc'; first | exact hfr | (rw [g30]; rfl))⟩, by omega, ⟨by simp [upd], trivial⟩, trivial, by repeat (first | exact Agr.refl _ _ | exact Agr.msk _ _ _ | refine Agr.upd ?_ _ rfl | refine Agr.upds ?_ rfl | refine Agr.mskIn ?_ rfl), by repeat (first | exact Agr.refl _ _ | exact Agr.msk _ _ _ | refine Agr.upd ?_ _ rfl | refine Agr.upds ?_ rfl | refine Agr.mskIn ?_ rfl), rfl, S⟩
      · skip
        refine AW.cons rfl rfl (sp_skip rfl ?_)
        refine AW.cons rfl rfl (sp_skip rfl ?_)
        refine AW.cons rfl rfl (sp_skip rfl ?_)
        refine AW.cons rfl rfl (sp_skip rfl ?_)
        refine AW.cons rfl rfl (sp_skip rfl ?_)
        refine AW.cons rfl rfl (sp_skip rfl ?_)
        refine AW.cons rfl rfl (sp_skip rfl ?_)
        refine AW.cons rfl rfl (sp_skip rfl ?_)
        refine AW.cons rfl rfl (sp_pick_f rfl (v := .bool _) rfl ?_)
        refine AW.nil ?_
        intro _ S
        refine W.cond (b := false) rfl (fun h => nomatch h) (fun _ => ?_)
        refine W.skip ?_
        refine W.region S ?_
        refine AS.cons (sp_move (v := .int _ _) rfl ?_)
        refine AS.cons (sp_add rfl rfl (by first | omega | (simp only [decide_eq_true_eq, decide_eq_false_iff_not] at *; omega)) ?_)
        refine AS.cons (sp_asg (v := .int _ _) rfl ?_)
        refine AS.nil ?_
        intro _ S
        exact ⟨j + 1, _, ⟨by omega, snoc_lt hnn (fun c' hc' => by rw [hxc] at hc'; cases hc'; first | exact hfr | (rw [g30]; rfl))⟩, by omega, ⟨by simp [upd], trivial⟩, trivial, by repeat (first | exact Agr.refl _ _ | exact Agr.msk _ _ _ | refine Agr.upd ?_ _ rfl | refine Agr.upds ?_ rfl | refine Agr.mskIn ?_ rfl), by repeat (first | exact Agr.refl _ _ | exact Agr.msk _ _ _ | refine Agr.upd ?_ _ rfl | refine Agr.upds ?_ rfl | refine Agr.mskIn ?_ rfl), rfl, S⟩
    · skip
      refine W.exit ?_
      refine W.seq (W.region S ?_)
      refine AS.cons (sp_asg rfl ?_)
      refine AS.nil ?_
      intro _ S
      refine W.ret ?_
      first | exact ret1 rfl rfl S fun w' S' => ⟨congrArg Value.bool hv.symm, S'.mod⟩ | exact ret1 rfl rfl S fun w' S' => ⟨congrArg Value.bool (by rw [hal, frb_none (fun i hi => hnn i (by omega))]; rfl), S'.mod⟩
end
end Go.Proofs.YtmpclgepoemneaaDoor

/-
  The other side: the next row; the squares of a row.
-/
namespace Go.Proofs.YtmpclgepoemneaaDoor
set_option maxRecDepth 100000
open Go.Hu Go.RowKit
section
variable (b : Bk) (la : Option Addr) (lc : Nat) (ca : Option Addr) (cc : Nat) (mp : Nat)
theorem nextR (hb : Num b) (hc : ∀ c ∈ b.cries, CryOk c) (hn : b.cries.length ≤ 1000000) (hll : b.land.length ≤ 1000000) (m : Int) (fa : Option Addr) (fc : Nat) (f : List Bool) (hfl : f.length = sq b) (w : World) (hl : Ints w la lc b.land) (hC : Cries w ca cc b.cries) (hf : Bools w fa fc f) :
    Ct Tryd.prog 112 #[.agg (bkL b la lc ca cc).toArray, iv m, .slice fa f.length fc] w
      (fun u w' => ∃ i, ((∃ a, u = .slice a (sq b) (sq b)) ∧ i = slc 4 1 u (sq b) ((nextL b m f).map Value.bool)) ∧ St no w w' (upd eL 0 i) []) := by
  refine fn_intro (args := [.agg (bkL b la lc ca cc).toArray, iv m, .slice fa f.length fc]) Tryd.func112 rfl rfl (by kernel_rfl) ?_
  have S := St.start no w
  have hsq := sq_le hb
  refine W.seq (W.region S ?_)
  refine AS.cons (sp_boxa 3 rfl (fun b3 => ?_))
  refine AS.cons (sp_asg rfl ?_)
  refine AS.nil ?_
  intro _ S
  refine W.seq (W.region S ?_)
  refine AS.cons (sp_ldw 3 rfl rfl ag_26_7 ?_)
  refine AS.cons (sp_call [] rfl rfl cf_66 (fun F w _ S => squaresN _ _ _ _ _ (by assumption) w) ?_)
  refine AS.cons (sp_mk1 12 sl_94_4_1 zs_4_1 zv_4 rfl rfl rfl (by first | omega | (simp only [decide_eq_true_eq, decide_eq_false_iff_not] at *; omega)) (fun b12 => ?_))
  refine AS.cons (sp_asg rfl ?_)
  refine AS.nil ?_
  intro _ S
  refine W.seq (W.seq (W.region S ?_))
  refine AS.cons (sp_asg rfl ?_)
  refine AS.nil ?_
  intro _ S
  refine W.block ?_
  refine W.loopS S [8, 9, 13, 14, 15, 16, 17, 18, 19, 20, 21, 22, 23, 24, 25, 26, 27, 28, 29, 30, 31, 32, 33, 34, 35, 36, 37, 38, 39, 40, 41, 42, 43, 44, 45, 46, 47, 48, 49, 50, 51, 52, 53, 54, 55, 56, 57] [12] (fun (t : Nat) => [(8, iv t)]) (fun t => [(12, pt b12 (.cells ((part (nxt b m f) (sq b) t).map Value.bool).toArray 4 (0, 0)))]) (fun t => t ≤ sq b) (fun t => sq b - t) 0 (by omega) ⟨rfl, trivial⟩ ⟨by show pt b12 _ = pt b12 _; rw [part_zero, List.map_replicate], trivial⟩ ?_
  rintro t σ M w1 ht S
  refine W.seq (W.seq (W.region S ?_))
  refine AS.cons (sp_move (v := .int _ _) rfl ?_)
  refine AS.cons (sp_ldw 3 rfl rfl ag_26_7 ?_)
  refine AS.cons (sp_call [] rfl rfl cf_66 (fun F w _ S => squaresN _ _ _ _ _ (by assumption) w) ?_)
  refine AS.cons (sp_lss rfl rfl ?_)
  refine AS.nil ?_
  intro _ S
  refine W.condd rfl (fun c16 => ?_) (fun c16 => ?_)
  · skip
    have htn : t < sq b := by omega
    refine W.skip ?_
    refine W.seq (W.block ?_)
    refine W.seq (W.seq (W.region S ?_))
    refine AS.cons (sp_asg rfl ?_)
    refine AS.nil ?_
    intro _ S
    refine W.block ?_
    refine W.loopS S [9, 19, 20, 21, 22, 23, 24, 25, 26, 27, 28, 29, 30, 31, 32, 33, 34, 35, 36, 37, 38, 39, 40, 41, 42, 43, 44] [12] (fun (j : Nat) => [(9, iv j)]) (fun j => [(12, pt b12 (.cells (((part (nxt b m f) (sq b) t).set t (nrU b f t j)).map Value.bool).toArray 4 (0, 0)))]) (fun j => j ≤ sq b) (fun j => sq b - j) 0 (by omega) ⟨rfl, trivial⟩ ⟨by show pt b12 _ = pt b12 _; rw [show nrU b f t 0 = false from rfl, part_set0 _ htn], trivial⟩ ?_
    rintro j σ M w2 hj S
    refine W.seq (W.seq (W.region S ?_))
    refine AS.cons (sp_move (v := .int _ _) rfl ?_)
    refine AS.cons (sp_ldw 3 rfl rfl ag_26_7 ?_)
    refine AS.cons (sp_call [] rfl rfl cf_66 (fun F w _ S => squaresN _ _ _ _ _ (by assumption) w) ?_)
    refine AS.cons (sp_lss rfl rfl ?_)
    refine AS.cons (sp_move (v := .bool _) rfl ?_)
    refine AS.split 23 rfl (fun g23 => ?_) (fun g23 => ?_)
    · skip
      refine AS.cons (sp_move rfl ?_)
      refine AS.cons (sp_move (v := .int _ _) rfl ?_)
      refine AS.cons (sp_ia rfl rfl sl_94_4_1 (by omega) ?_)
      refine AS.cons (sp_ld 12 (v := .bool (nrU b f t j)) rfl rfl sc_4 (get_set (by rw [part_len]; exact htn)) ?_)
      refine AS.cons (sp_not rfl ?_)
      refine AS.cons (sp_pick_t rfl (v := .bool _) rfl ?_)
      refine AS.nil ?_
      intro _ S
      refine W.cond rfl (fun c29 => ?_) (fun c29 => ?_)
      · skip
        have hjn : j < sq b := by have := of_decide_eq_true g23; omega
        obtain ⟨x, hx⟩ := get_some (l := f) (j := j) (by omega)
        have hn0 : nrU b f t j = false := by simpa using c29
        have hxg : f.getD j false = x := by rw [List.getD_eq_getElem?_getD, hx]; rfl
        refine W.skip ?_
        refine W.seq (W.block ?_)
        refine W.region S ?_
        refine AS.cons (sp_move rfl ?_)
        refine AS.cons (sp_move (v := .int _ _) rfl ?_)
        refine AS.cons (sp_move rfl ?_)
        refine AS.cons (sp_move (v := .int _ _) rfl ?_)
        refine AS.cons (sp_iaR hf rfl rfl sl_94_4_1 (by first | omega | (simp only [decide_eq_true_eq, decide_eq_false_iff_not] at *; omega)) ?_)
        refine AS.cons (sp_ldR 0 hf (fun _ h => h) rfl sc_4 (bools_at hx) (by first | omega | (simp only [decide_eq_true_eq, decide_eq_false_iff_not] at *; omega)) ?_)
        refine AS.cons (sp_move (v := .bool _) rfl ?_)
        refine AS.split 38 rfl (fun g38 => ?_) (fun g38 => ?_)
        · skip
          refine AS.cons (sp_ldw 3 rfl rfl ag_26_7 ?_)
          refine AS.cons (sp_move (v := .int _ _) rfl ?_)
          refine AS.cons (sp_move (v := .int _ _) rfl ?_)
          refine AS.cons (sp_call [] rfl rfl cf_114 (fun F w _ S => swims _ _ _ _ _ (by assumption) _ _ (by omega) (by omega) w) ?_)
          refine AS.cons (sp_pick_t rfl (v := .bool _) rfl ?_)
          refine AS.cons (sp_ia rfl rfl sl_94_4_1 (by omega) ?_)
          refine AS.cons (sp_sts 12 sz_4_1 rfl rfl rfl rfl rfl (by rw [List.length_map, List.length_set, part_len]; omega) ?_)
          refine AS.nil ?_
          intro _ S
          refine W.region S ?_
          refine AS.cons (sp_move (v := .int _ _) rfl ?_)
          refine AS.cons (sp_add rfl rfl (by first | omega | (simp only [decide_eq_true_eq, decide_eq_false_iff_not] at *; omega)) ?_)
          refine AS.cons (sp_asg (v := .int _ _) rfl ?_)
          refine AS.nil ?_
          intro _ S
          first | exact ⟨j + 1, _, by omega, by omega, ⟨by simp [upd], trivial⟩, ⟨congrArg (fun c => pt b12 (.cells (List.toArray c) 4 (0, 0))) (set_at.trans (congrArg (List.map Value.bool) (by rw [List.set_set, nrU_succ, hn0, hxg, g38]; rfl))), trivial⟩, by repeat (first | exact Agr.refl _ _ | exact Agr.msk _ _ _ | refine Agr.upd ?_ _ rfl | refine Agr.upds ?_ rfl | refine Agr.mskIn ?_ rfl), by repeat (first | exact Agr.refl _ _ | exact Agr.msk _ _ _ | refine Agr.upd ?_ _ rfl | refine Agr.upds ?_ rfl | refine Agr.mskIn ?_ rfl), rfl, S⟩ | exact ⟨j + 1, _, by omega, by omega, ⟨by simp [upd], trivial⟩, ⟨congrArg (fun c => pt b12 (.cells (List.toArray c) 4 (0, 0))) (set_at.trans (congrArg (List.map Value.bool) (by rw [List.set_set, nrU_succ, hn0, hxg, g38]; simp))), trivial⟩, by repeat (first | exact Agr.refl _ _ | exact Agr.msk _ _ _ | refine Agr.upd ?_ _ rfl | refine Agr.upds ?_ rfl | refine Agr.mskIn ?_ rfl), by repeat (first | exact Agr.refl _ _ | exact Agr.msk _ _ _ | refine Agr.upd ?_ _ rfl | refine Agr.upds ?_ rfl | refine Agr.mskIn ?_ rfl), rfl, S⟩
        · skip
          refine AS.cons (sp_skip rfl ?_)
          refine AS.cons (sp_skip rfl ?_)
          refine AS.cons (sp_skip rfl ?_)
          refine AS.cons (sp_skip rfl ?_)
          refine AS.cons (sp_pick_f rfl (v := .bool _) rfl ?_)
          refine AS.cons (sp_ia rfl rfl sl_94_4_1 (by omega) ?_)
          refine AS.cons (sp_sts 12 sz_4_1 rfl rfl rfl rfl rfl (by rw [List.length_map, List.length_set, part_len]; omega) ?_)
          refine AS.nil ?_
          intro _ S
          refine W.region S ?_
          refine AS.cons (sp_move (v := .int _ _) rfl ?_)
          refine AS.cons (sp_add rfl rfl (by first | omega | (simp only [decide_eq_true_eq, decide_eq_false_iff_not] at *; omega)) ?_)
          refine AS.cons (sp_asg (v := .int _ _) rfl ?_)
          refine AS.nil ?_
          intro _ S
          first | exact ⟨j + 1, _, by omega, by omega, ⟨by simp [upd], trivial⟩, ⟨congrArg (fun c => pt b12 (.cells (List.toArray c) 4 (0, 0))) (set_at.trans (congrArg (List.map Value.bool) (by rw [List.set_set, nrU_succ, hn0, hxg, g38]; rfl))), trivial⟩, by repeat (first | exact Agr.refl _ _ | exact Agr.msk _ _ _ | refine Agr.upd ?_ _ rfl | refine Agr.upds ?_ rfl | refine Agr.mskIn ?_ rfl), by repeat (first | exact Agr.refl _ _ | exact Agr.msk _ _ _ | refine Agr.upd ?_ _ rfl | refine Agr.upds ?_ rfl | refine Agr.mskIn ?_ rfl), rfl, S⟩ | exact ⟨j + 1, _, by omega, by omega, ⟨by simp [upd], trivial⟩, ⟨congrArg (fun c => pt b12 (.cells (List.toArray c) 4 (0, 0))) (set_at.trans (congrArg (List.map Value.bool) (by rw [List.set_set, nrU_succ, hn0, hxg, g38]; simp))), trivial⟩, by repeat (first | exact Agr.refl _ _ | exact Agr.msk _ _ _ | refine Agr.upd ?_ _ rfl | refine Agr.upds ?_ rfl | refine Agr.mskIn ?_ rfl), by repeat (first | exact Agr.refl _ _ | exact Agr.msk _ _ _ | refine Agr.upd ?_ _ rfl | refine Agr.upds ?_ rfl | refine Agr.mskIn ?_ rfl), rfl, S⟩
      · skip
        refine W.exit ?_
        have hex : nrU b f t j = nearXY b f ((t : Int) % b.wide) ((t : Int) / b.wide) := by first | (rw [← nrU_all, show sq b = j by (have := of_decide_eq_false g23; omega)]; done) | (have h1 : nrU b f t j = true := by simpa using c29); (rw [← nrU_all, h1, nrU_up hj h1])
        refine W.region S ?_
        refine AS.cons (sp_move rfl ?_)
        refine AS.cons (sp_move (v := .int _ _) rfl ?_)
        refine AS.cons (sp_move rfl ?_)
        refine AS.cons (sp_move (v := .int _ _) rfl ?_)
        refine AS.cons (sp_ia rfl rfl sl_94_4_1 (by omega) ?_)
        refine AS.cons (sp_ld 12 (v := .bool (nrU b f t j)) rfl rfl sc_4 (get_set (by rw [part_len]; exact htn)) ?_)
        refine AS.cons (sp_move (v := .bool _) rfl ?_)
        refine AS.split 51 rfl (fun g51 => ?_) (fun g51 => ?_)
        · skip
          refine AS.cons (sp_ldw 3 rfl rfl ag_26_7 ?_)
          refine AS.cons (sp_move (v := .int _ _) rfl ?_)
          refine AS.cons (sp_move (v := .int _ _) rfl ?_)
          refine AS.cons (sp_call [] rfl rfl cf_115 (fun F w _ S => allowed b la lc ca cc hb hc hn hll m t htn w (hl.ext S.mod) (hC.ext S.mod)) ?_)
          refine AS.cons (sp_pick_t rfl (v := .bool _) rfl ?_)
          refine AS.cons (sp_ia rfl rfl sl_94_4_1 (by omega) ?_)
          refine AS.cons (sp_sts 12 sz_4_1 rfl rfl rfl rfl rfl (by rw [List.length_map, List.length_set, part_len]; omega) ?_)
          refine AS.nil ?_
          intro _ S
          refine W.region S ?_
          refine AS.cons (sp_move (v := .int _ _) rfl ?_)
          refine AS.cons (sp_add rfl rfl (by first | omega | (simp only [decide_eq_true_eq, decide_eq_false_iff_not] at *; omega)) ?_)
          refine AS.cons (sp_asg (v := .int _ _) rfl ?_)
          refine AS.nil ?_
          intro _ S
          exact ⟨t + 1, _, by omega, by omega, ⟨by simp [upd], trivial⟩, ⟨congrArg (fun c => pt b12 (.cells (List.toArray c) 4 (0, 0))) (set_at.trans (congrArg (List.map Value.bool) (by rw [List.set_set, ← part_set (nxt b m f) htn]; unfold nxt; rw [← hex, g51]; rfl))), trivial⟩, by repeat (first | exact Agr.refl _ _ | exact Agr.msk _ _ _ | refine Agr.upd ?_ _ rfl | refine Agr.upds ?_ rfl | refine Agr.mskIn ?_ rfl), by repeat (first | exact Agr.refl _ _ | exact Agr.msk _ _ _ | refine Agr.upd ?_ _ rfl | refine Agr.upds ?_ rfl | refine Agr.mskIn ?_ rfl), rfl, S⟩
        · skip
          refine AS.cons (sp_skip rfl ?_)
          refine AS.cons (sp_skip rfl ?_)
          refine AS.cons (sp_skip rfl ?_)
          refine AS.cons (sp_skip rfl ?_)
          refine AS.cons (sp_pick_f rfl (v := .bool _) rfl ?_)
          refine AS.cons (sp_ia rfl rfl sl_94_4_1 (by omega) ?_)
          refine AS.cons (sp_sts 12 sz_4_1 rfl rfl rfl rfl rfl (by rw [List.length_map, List.length_set, part_len]; omega) ?_)
          refine AS.nil ?_
          intro _ S
          refine W.region S ?_
          refine AS.cons (sp_move (v := .int _ _) rfl ?_)
          refine AS.cons (sp_add rfl rfl (by first | omega | (simp only [decide_eq_true_eq, decide_eq_false_iff_not] at *; omega)) ?_)
          refine AS.cons (sp_asg (v := .int _ _) rfl ?_)
          refine AS.nil ?_
          intro _ S
          exact ⟨t + 1, _, by omega, by omega, ⟨by simp [upd], trivial⟩, ⟨congrArg (fun c => pt b12 (.cells (List.toArray c) 4 (0, 0))) (set_at.trans (congrArg (List.map Value.bool) (by rw [List.set_set, ← part_set (nxt b m f) htn]; unfold nxt; rw [← hex, g51]; rfl))), trivial⟩, by repeat (first | exact Agr.refl _ _ | exact Agr.msk _ _ _ | refine Agr.upd ?_ _ rfl | refine Agr.upds ?_ rfl | refine Agr.mskIn ?_ rfl), by repeat (first | exact Agr.refl _ _ | exact Agr.msk _ _ _ | refine Agr.upd ?_ _ rfl | refine Agr.upds ?_ rfl | refine Agr.mskIn ?_ rfl), rfl, S⟩
    · skip
      refine AS.cons (sp_skip rfl ?_)
      refine AS.cons (sp_skip rfl ?_)
      refine AS.cons (sp_skip rfl ?_)
      refine AS.cons (sp_skip rfl ?_)
      refine AS.cons (sp_skip rfl ?_)
      refine AS.cons (sp_pick_f rfl (v := .bool _) rfl ?_)
      refine AS.nil ?_
      intro _ S
      refine W.cond (b := false) rfl (fun h => nomatch h) (fun _ => ?_)
      refine W.exit ?_
      have hex : nrU b f t j = nearXY b f ((t : Int) % b.wide) ((t : Int) / b.wide) := by first | (rw [← nrU_all, show sq b = j by (have := of_decide_eq_false g23; omega)]; done) | (have h1 : nrU b f t j = true := by simpa using c29); (rw [← nrU_all, h1, nrU_up hj h1])
      refine W.region S ?_
      refine AS.cons (sp_move rfl ?_)
      refine AS.cons (sp_move (v := .int _ _) rfl ?_)
      refine AS.cons (sp_move rfl ?_)
      refine AS.cons (sp_move (v := .int _ _) rfl ?_)
      refine AS.cons (sp_ia rfl rfl sl_94_4_1 (by omega) ?_)
      refine AS.cons (sp_ld 12 (v := .bool (nrU b f t j)) rfl rfl sc_4 (get_set (by rw [part_len]; exact htn)) ?_)
      refine AS.cons (sp_move (v := .bool _) rfl ?_)
      refine AS.split 51 rfl (fun g51 => ?_) (fun g51 => ?_)
      · skip
        refine AS.cons (sp_ldw 3 rfl rfl ag_26_7 ?_)
        refine AS.cons (sp_move (v := .int _ _) rfl ?_)
        refine AS.cons (sp_move (v := .int _ _) rfl ?_)
        refine AS.cons (sp_call [] rfl rfl cf_115 (fun F w _ S => allowed b la lc ca cc hb hc hn hll m t htn w (hl.ext S.mod) (hC.ext S.mod)) ?_)
        refine AS.cons (sp_pick_t rfl (v := .bool _) rfl ?_)
        refine AS.cons (sp_ia rfl rfl sl_94_4_1 (by omega) ?_)
        refine AS.cons (sp_sts 12 sz_4_1 rfl rfl rfl rfl rfl (by rw [List.length_map, List.length_set, part_len]; omega) ?_)
        refine AS.nil ?_
        intro _ S
        refine W.region S ?_
        refine AS.cons (sp_move (v := .int _ _) rfl ?_)
        refine AS.cons (sp_add rfl rfl (by first | omega | (simp only [decide_eq_true_eq, decide_eq_false_iff_not] at *; omega)) ?_)
        refine AS.cons (sp_asg (v := .int _ _) rfl ?_)
        refine AS.nil ?_
        intro _ S
        exact ⟨t + 1, _, by omega, by omega, ⟨by simp [upd], trivial⟩, ⟨congrArg (fun c => pt b12 (.cells (List.toArray c) 4 (0, 0))) (set_at.trans (congrArg (List.map Value.bool) (by rw [List.set_set, ← part_set (nxt b m f) htn]; unfold nxt; rw [← hex, g51]; rfl))), trivial⟩, by repeat (first | exact Agr.refl _ _ | exact Agr.msk _ _ _ | refine Agr.upd ?_ _ rfl | refine Agr.upds ?_ rfl | refine Agr.mskIn ?_ rfl), by repeat (first | exact Agr.refl _ _ | exact Agr.msk _ _ _ | refine Agr.upd ?_ _ rfl | refine Agr.upds ?_ rfl | refine Agr.mskIn ?_ rfl), rfl, S⟩
      · skip
        refine AS.cons (sp_skip rfl ?_)
        refine AS.cons (sp_skip rfl ?_)
        refine AS.cons (sp_skip rfl ?_)
        refine AS.cons (sp_skip rfl ?_)
        refine AS.cons (sp_pick_f rfl (v := .bool _) rfl ?_)
        refine AS.cons (sp_ia rfl rfl sl_94_4_1 (by omega) ?_)
        refine AS.cons (sp_sts 12 sz_4_1 rfl rfl rfl rfl rfl (by rw [List.length_map, List.length_set, part_len]; omega) ?_)
        refine AS.nil ?_
        intro _ S
        refine W.region S ?_
        refine AS.cons (sp_move (v := .int _ _) rfl ?_)
        refine AS.cons (sp_add rfl rfl (by first | omega | (simp only [decide_eq_true_eq, decide_eq_false_iff_not] at *; omega)) ?_)
        refine AS.cons (sp_asg (v := .int _ _) rfl ?_)
        refine AS.nil ?_
        intro _ S
        exact ⟨t + 1, _, by omega, by omega, ⟨by simp [upd], trivial⟩, ⟨congrArg (fun c => pt b12 (.cells (List.toArray c) 4 (0, 0))) (set_at.trans (congrArg (List.map Value.bool) (by rw [List.set_set, ← part_set (nxt b m f) htn]; unfold nxt; rw [← hex, g51]; rfl))), trivial⟩, by repeat (first | exact Agr.refl _ _ | exact Agr.msk _ _ _ | refine Agr.upd ?_ _ rfl | refine Agr.upds ?_ rfl | refine Agr.mskIn ?_ rfl), by repeat (first | exact Agr.refl _ _ | exact Agr.msk _ _ _ | refine Agr.upd ?_ _ rfl | refine Agr.upds ?_ rfl | refine Agr.mskIn ?_ rfl), rfl, S⟩
  · skip
    obtain rfl : t = sq b := by omega
    refine W.exit ?_
    refine W.seq (W.region S ?_)
    refine AS.cons (sp_move rfl ?_)
    refine AS.cons (sp_asg rfl ?_)
    refine AS.nil ?_
    intro _ S
    refine W.ret ?_
    exact ret1 rfl rfl S fun w' S' => ⟨_, ⟨⟨_, rfl⟩, rfl⟩, (S'.weak (k := 12) (i := slc 4 1 (.slice (some ⟨b12, 0, none⟩) (sq b) (sq b)) (sq b) ((nextL b m f).map Value.bool)) (fun g (hg : pt b12 (.cells ((part (nxt b m f) (sq b) (sq b)).map Value.bool).toArray 4 (0, 0)) g) => slc_of_pt hg (by simp [nextL_len]) (Nat.le_refl _) (by simp [part_len]) (by rw [part_all]; exact List.take_of_length_le (by simp)))).only 12⟩
theorem listR (fa : Option Addr) (fc : Nat) (l : List Bool) (hln : l.length ≤ 1000000) (w : World) (hf : Bools w fa fc l) :
    Ct Tryd.prog 79 #[.slice fa l.length fc] w (fun u w' => ∃ i, ((∃ a c, u = .slice a (trL l).length c ∧ (trL l).length ≤ c) ∧ i = slc 3 1 u (trL l).length ((trL l).map iv)) ∧ St no w w' (upd eL 0 i) []) := by
  refine fn_intro (args := [.slice fa l.length fc]) Tryd.func79 rfl rfl (by kernel_rfl) ?_
  have S := St.start no w
  refine W.seq (W.region S ?_)
  refine AS.cons (sp_asg rfl ?_)
  refine AS.nil ?_
  intro _ S
  refine W.seq (W.region S ?_)
  refine AS.cons (sp_asg rfl ?_)
  refine AS.nil ?_
  intro _ S
  refine W.seq (W.seq (W.region S ?_))
  refine AS.cons (sp_asg rfl ?_)
  refine AS.nil ?_
  intro _ S
  have S := (S.drop 901).weak (k := 901) (i := slc 3 1 nilS 0 []) (fun f hf => by rw [upd_same] at hf; exact slc_nil 3 1 f hf)
  refine W.block ?_
  refine W.loopS S [3, 4, 5, 6, 7, 8, 9, 10, 11, 12, 13, 14, 15, 16, 17, 18] [17, 18, 901] (fun (z : Nat × Value) => [(4, iv z.1), (3, z.2)]) (fun z => [(901, slc 3 1 z.2 (trU l z.1).length ((trU l z.1).map iv))]) (fun z => z.1 ≤ l.length ∧ ∃ a c, z.2 = .slice a (trU l z.1).length c) (fun z => l.length - z.1) (0, nilS) ⟨by omega, none, 0, rfl⟩ ⟨rfl, rfl, trivial⟩ ⟨rfl, trivial⟩ ?_
  rintro ⟨j, v⟩ σ M w1 ⟨hj, a, c, hva⟩ S
  replace hj : j ≤ l.length := hj
  replace hva : v = .slice a (trU l j).length c := hva
  subst hva
  refine W.seq (W.seq (W.region S ?_))
  refine AS.cons (sp_move (v := .int _ _) rfl ?_)
  refine AS.cons (sp_move rfl ?_)
  refine AS.cons (sp_len rfl sl_94_4_1 ?_)
  refine AS.cons (sp_lss rfl rfl ?_)
  refine AS.nil ?_
  intro _ S
  refine W.condd rfl (fun c8 => ?_) (fun c8 => ?_)
  · skip
    refine W.skip ?_
    refine W.seq (W.block ?_)
    have hlt : j < l.length := by omega
    obtain ⟨x, hx⟩ := get_some hlt
    have htl := trU_len l j
    refine W.seq (W.region S ?_)
    refine AS.cons (sp_move rfl ?_)
    refine AS.cons (sp_move (v := .int _ _) rfl ?_)
    refine AS.cons (sp_iaR hf rfl rfl sl_94_4_1 (by first | omega | (simp only [decide_eq_true_eq, decide_eq_false_iff_not] at *; omega)) ?_)
    refine AS.cons (sp_ldR 0 hf (fun _ h => h) rfl sc_4 (bools_at hx) (by first | omega | (simp only [decide_eq_true_eq, decide_eq_false_iff_not] at *; omega)) ?_)
    refine AS.nil ?_
    intro _ S
    refine W.cond rfl (fun c14 => ?_) (fun c14 => ?_)
    · skip
      have hw : trU l (j + 1) = trU l j ++ [(j : Int)] := by rw [trU_succ hx, if_pos c14]
      refine W.region S ?_
      refine AS.cons (sp_move rfl ?_)
      refine AS.cons (sp_move (v := .int _ _) rfl ?_)
      refine AS.cons (sp_bs 17 [.tmp 16] _ sl_22_3_1 zs_3_1 rfl rfl rfl rfl rfl rfl (fun b17 => ?_))
      refine AS.cons (sp_app 901 [17] rfl rfl sl_22_3_1 zs_3_1 rfl (fun F w hF S => rd_pt (S.get ((hF 17 (by simp)).trans rfl)).1 rfl (by omega) (by omega)) rfl (by first | omega | (simp only [] at *; omega)) (fun a18 c18 => ?_))
      refine AS.cons (sp_asg rfl ?_)
      refine AS.nil ?_
      intro _ S
      refine W.region S ?_
      refine AS.cons (sp_move (v := .int _ _) rfl ?_)
      refine AS.cons (sp_add rfl rfl (by first | omega | (simp only [decide_eq_true_eq, decide_eq_false_iff_not] at *; omega)) ?_)
      refine AS.cons (sp_asg (v := .int _ _) rfl ?_)
      refine AS.nil ?_
      intro _ S
      first | exact ⟨(j + 1, .slice a18 ((trU l j).length + 1) c18), _, ⟨by show j + 1 ≤ l.length; omega, a18, c18, by show _ = Value.slice a18 (trU l (j + 1)).length c18; rw [hw, List.length_append]; rfl⟩, by show l.length - (j + 1) < l.length - j; omega, ⟨by simp [upd], rfl, trivial⟩, ⟨by show slc 3 1 _ _ _ = slc 3 1 _ _ _; rw [hw, List.length_append, List.map_append]; rfl, trivial⟩, by repeat (first | exact Agr.refl _ _ | exact Agr.msk _ _ _ | refine Agr.upd ?_ _ rfl | refine Agr.upds ?_ rfl | refine Agr.mskIn ?_ rfl), by repeat (first | exact Agr.refl _ _ | exact Agr.msk _ _ _ | refine Agr.upd ?_ _ rfl | refine Agr.upds ?_ rfl | refine Agr.mskIn ?_ rfl), rfl, S⟩ | exact ⟨(j + 1, .slice a (trU l j).length c), _, ⟨by show j + 1 ≤ l.length; omega, a, c, by rw [hw]⟩, by show l.length - (j + 1) < l.length - j; omega, ⟨by simp [upd], rfl, trivial⟩, ⟨by show slc 3 1 _ _ _ = slc 3 1 _ _ _; rw [hw], trivial⟩, by repeat (first | exact Agr.refl _ _ | exact Agr.msk _ _ _ | refine Agr.upd ?_ _ rfl | refine Agr.upds ?_ rfl | refine Agr.mskIn ?_ rfl), by repeat (first | exact Agr.refl _ _ | exact Agr.msk _ _ _ | refine Agr.upd ?_ _ rfl | refine Agr.upds ?_ rfl | refine Agr.mskIn ?_ rfl), rfl, S⟩
    · skip
      have hw : trU l (j + 1) = trU l j := by rw [trU_succ hx, c14]; rfl
      refine W.skip ?_
      refine W.region S ?_
      refine AS.cons (sp_move (v := .int _ _) rfl ?_)
      refine AS.cons (sp_add rfl rfl (by first | omega | (simp only [decide_eq_true_eq, decide_eq_false_iff_not] at *; omega)) ?_)
      refine AS.cons (sp_asg (v := .int _ _) rfl ?_)
      refine AS.nil ?_
      intro _ S
      first | exact ⟨(j + 1, .slice a18 ((trU l j).length + 1) c18), _, ⟨by show j + 1 ≤ l.length; omega, a18, c18, by show _ = Value.slice a18 (trU l (j + 1)).length c18; rw [hw, List.length_append]; rfl⟩, by show l.length - (j + 1) < l.length - j; omega, ⟨by simp [upd], rfl, trivial⟩, ⟨by show slc 3 1 _ _ _ = slc 3 1 _ _ _; rw [hw, List.length_append, List.map_append]; rfl, trivial⟩, by repeat (first | exact Agr.refl _ _ | exact Agr.msk _ _ _ | refine Agr.upd ?_ _ rfl | refine Agr.upds ?_ rfl | refine Agr.mskIn ?_ rfl), by repeat (first | exact Agr.refl _ _ | exact Agr.msk _ _ _ | refine Agr.upd ?_ _ rfl | refine Agr.upds ?_ rfl | refine Agr.mskIn ?_ rfl), rfl, S⟩ | exact ⟨(j + 1, .slice a (trU l j).length c), _, ⟨by show j + 1 ≤ l.length; omega, a, c, by rw [hw]⟩, by show l.length - (j + 1) < l.length - j; omega, ⟨by simp [upd], rfl, trivial⟩, ⟨by show slc 3 1 _ _ _ = slc 3 1 _ _ _; rw [hw], trivial⟩, by repeat (first | exact Agr.refl _ _ | exact Agr.msk _ _ _ | refine Agr.upd ?_ _ rfl | refine Agr.upds ?_ rfl | refine Agr.mskIn ?_ rfl), by repeat (first | exact Agr.refl _ _ | exact Agr.msk _ _ _ | refine Agr.upd ?_ _ rfl | refine Agr.upds ?_ rfl | refine Agr.mskIn ?_ rfl), rfl, S⟩
  · skip
    obtain rfl : j = l.length := by omega
    refine W.exit ?_
    refine W.seq (W.region S ?_)
    refine AS.cons (sp_move rfl ?_)
    refine AS.cons (sp_asg rfl ?_)
    refine AS.nil ?_
    intro _ S
    refine W.ret ?_
    exact ret1 rfl rfl S fun w' S' => let ⟨_, a1, c1, hv1, hv2, _⟩ := S'.slc_form (k := 901) rfl; ⟨_, ⟨⟨a1, c1, hv1, hv2⟩, rfl⟩, S'.only 901⟩
end
end Go.Proofs.YtmpclgepoemneaaDoor

/-
  The other side: all rows.
-/
namespace Go.Proofs.YtmpclgepoemneaaDoor
set_option maxRecDepth 100000
open Go.Hu Go.RowKit
section
variable (b : Bk) (la : Option Addr) (lc : Nat) (ca : Option Addr) (cc : Nat) (mp : Nat)
def SlN (N : Nat) (v : Value) : Prop := ∃ a, v = .slice a N N
theorem wholeR (hb : Num b) (hc : ∀ c ∈ b.cries, CryOk c) (hn : b.cries.length ≤ 1000000) (hll : b.land.length ≤ 1000000) (w : World) (hl : Ints w la lc b.land) (hC : Cries w ca cc b.cries) :
    Ct Tryd.prog 104 #[.agg (bkL b la lc ca cc).toArray] w (fun u w' => ∃ i, WholeR b u i ∧ St no w w' (upd eL 0 i) []) := by
  refine fn_intro (args := [.agg (bkL b la lc ca cc).toArray]) Tryd.func104 rfl rfl (by kernel_rfl) ?_
  have S := St.start no w
  have hsq := sq_le hb
  refine W.seq (W.region S ?_)
  refine AS.cons (sp_boxa 1 rfl (fun b1 => ?_))
  refine AS.cons (sp_asg rfl ?_)
  refine AS.nil ?_
  intro _ S
  refine W.seq (W.region S ?_)
  refine AS.cons (sp_asg rfl ?_)
  refine AS.nil ?_
  intro _ S
  refine W.seq (W.region S ?_)
  refine AS.cons (sp_ldw 1 rfl rfl ag_26_7 ?_)
  refine AS.cons (sp_call1 10 [] _ rfl rfl cf_111 (fun F w _ S => allR _ _ _ _ _ (by assumption) w) ?_ (by simp))
  rintro v10 i10 ⟨⟨a10, rfl⟩, rfl⟩
  refine AS.cons (sp_asg rfl ?_)
  refine AS.nil ?_
  intro _ S
  refine W.seq (W.seq (W.region S ?_))
  refine AS.cons (sp_asg rfl ?_)
  refine AS.nil ?_
  intro _ S
  have S := (S.mv (k := 900) (k' := 10) (by decide)).weak (k := 900) (i := stars (pcsF (sq b) (fr b true) 0 [.slice a10 (sq b) (sq b)])) (fun f hf => by rw [upd_same] at hf; exact sep.emp.2 hf)
  have S := (S.drop 902).weak (k := 902) (i := slc 94 1 nilS 0 []) (fun f hf => by rw [upd_same] at hf; exact slc_nil 94 1 f hf)
  refine W.block ?_
  refine W.loopS S [3, 4, 5, 11, 12, 13, 14, 15, 16, 17, 18, 19, 20, 21, 22] [18, 21, 22, 900, 902] (fun (z : Nat × List Value × Value × Value) => [(5, iv z.1), (4, z.2.2.1), (3, z.2.2.2)]) (fun z => [(900, stars (pcsF (sq b) (fr b true) 0 (.slice a10 (sq b) (sq b) :: z.2.1))), (902, slc 94 1 z.2.2.2 z.1 z.2.1)]) (fun z => (z.1 ≤ 31 ∧ z.2.1.length = z.1 ∧ ∀ v ∈ z.2.1, SlN (sq b) v) ∧ (Value.slice a10 (sq b) (sq b) :: z.2.1)[z.1]? = some z.2.2.1 ∧ SlN (sq b) z.2.2.1 ∧ ∃ a c, z.2.2.2 = .slice a z.1 c) (fun z => 31 - z.1) (0, [], .slice a10 (sq b) (sq b), nilS) ⟨⟨by omega, rfl, fun v hv => by cases hv⟩, rfl, ⟨_, rfl⟩, none, 0, rfl⟩ ⟨rfl, rfl, rfl, trivial⟩ ⟨rfl, rfl, trivial⟩ ?_
  rintro ⟨m, vt, v, o⟩ σ M w1 ⟨⟨hm, hvl, hvs⟩, hvm, ⟨av, hva⟩, ao, co, hoa⟩ S
  replace hm : m ≤ 31 := hm
  replace hvl : vt.length = m := hvl
  replace hva : v = .slice av (sq b) (sq b) := hva
  replace hoa : o = .slice ao m co := hoa
  subst hva hoa
  refine W.seq (W.seq (W.region S ?_))
  refine AS.cons (sp_move (v := .int _ _) rfl ?_)
  refine AS.cons (sp_leq rfl rfl ?_)
  refine AS.nil ?_
  intro _ S
  refine W.condd rfl (fun c12 => ?_) (fun c12 => ?_)
  · skip
    refine W.skip ?_
    refine W.seq (W.block ?_)
    refine W.seq (W.region S ?_)
    refine AS.cons (sp_ldw 1 rfl rfl ag_26_7 ?_)
    refine AS.cons (sp_move (v := .int _ _) rfl ?_)
    refine AS.cons (sp_move rfl ?_)
    refine AS.cons (sp_call1 18 [900] _ (vs := [.agg (bkL b la lc ca cc).toArray, iv m, .slice av (fr b true m).length (sq b)]) rfl (by rw [fr_len]; rfl) cf_112 (fun F w' hF S => nextR b la lc ca cc hb hc hn hll _ _ _ _ (fr_len b true m) w' (hl.ext S.mod) (hC.ext S.mod) (by have h1 := S.star_rd (k := 900) ((hF 900 (by simp)).trans rfl) (pcsF_get (sq b) (fr b true) _ 0 m _ hvm) (by omega); rw [Nat.zero_add] at h1; unfold Bools; rw [fr_len]; exact h1)) ?_ (by simp))
    rintro v18 i18 ⟨⟨a18, rfl⟩, rfl⟩
    refine AS.cons (sp_asg rfl ?_)
    refine AS.nil ?_
    intro _ S
    refine W.region S ?_
    refine AS.cons (sp_move rfl ?_)
    refine AS.cons (sp_move rfl ?_)
    refine AS.cons (sp_bs 21 [.tmp 20] _ sl_90_94_1 zs_94_1 rfl rfl rfl rfl rfl rfl (fun b21 => ?_))
    refine AS.cons (sp_app 902 [21] rfl rfl sl_90_94_1 zs_94_1 rfl (fun F w hF S => rd_pt (S.get ((hF 21 (by simp)).trans rfl)).1 rfl (by omega) (by omega)) rfl (by first | omega | (simp only [decide_eq_true_eq, decide_eq_false_iff_not] at *; omega)) (fun a22 c22 => ?_))
    refine AS.cons (sp_asg rfl ?_)
    refine AS.nil ?_
    intro _ S
    have S := (S.fold (k := 900) (k' := 18) (by decide)).weak (k := 900) (i := stars (pcsF (sq b) (fr b true) 0 (Value.slice a10 (sq b) (sq b) :: (vt ++ [.slice a18 (sq b) (sq b)])))) (fun f hf => by rw [upd_same] at hf; rw [← List.cons_append, pcsF_snoc, List.length_cons, hvl, Nat.zero_add]; exact stars_snoc hf)
    refine W.region S ?_
    refine AS.cons (sp_move (v := .int _ _) rfl ?_)
    refine AS.cons (sp_add rfl rfl (by first | omega | (simp only [decide_eq_true_eq, decide_eq_false_iff_not] at *; omega)) ?_)
    refine AS.cons (sp_asg (v := .int _ _) rfl ?_)
    refine AS.nil ?_
    intro _ S
    exact ⟨(m + 1, vt ++ [.slice a18 (sq b) (sq b)], .slice a18 (sq b) (sq b), .slice a22 (m + 1) c22), _, ⟨⟨by show m + 1 ≤ 31; omega, by simp [hvl], mem_snoc hvs ⟨_, rfl⟩⟩, by show (Value.slice a10 (sq b) (sq b) :: (vt ++ [_]))[m + 1]? = _; rw [List.getElem?_cons_succ, ← hvl]; simp, ⟨_, rfl⟩, _, _, rfl⟩, by show 31 - (m + 1) < 31 - m; omega, ⟨by simp [upd], rfl, rfl, trivial⟩, ⟨rfl, rfl, trivial⟩, by repeat (first | exact Agr.refl _ _ | exact Agr.msk _ _ _ | refine Agr.upd ?_ _ rfl | refine Agr.upds ?_ rfl | refine Agr.mskIn ?_ rfl), by repeat (first | exact Agr.refl _ _ | exact Agr.msk _ _ _ | refine Agr.upd ?_ _ rfl | refine Agr.upds ?_ rfl | refine Agr.mskIn ?_ rfl), rfl, S⟩
  · skip
    obtain rfl : m = 31 := by omega
    refine W.exit ?_
    refine W.seq (W.region S ?_)
    refine AS.cons (sp_ldw 1 rfl rfl ag_26_7 ?_)
    refine AS.cons (sp_call1 24 [] _ rfl rfl cf_111 (fun F w _ S => allR _ _ _ _ _ (by assumption) w) ?_ (by simp))
    rintro v24 i24 ⟨⟨a24, rfl⟩, rfl⟩
    refine AS.cons (sp_asg rfl ?_)
    refine AS.nil ?_
    intro _ S
    have S := S.mv (k := 903) (k' := 24) (by decide)
    refine W.seq (W.seq (W.region S ?_))
    refine AS.cons (sp_asg rfl ?_)
    refine AS.nil ?_
    intro _ S
    refine W.block ?_
    refine W.loopS S [6, 7, 8, 25, 26, 27, 28, 29, 30, 31, 32, 33, 34, 35, 36, 37, 38, 39, 40, 41, 42, 43, 44, 45, 46, 47, 48, 49, 50, 51, 52, 53, 54, 55, 56, 57] [32, 900, 903, 904] (fun (z : Nat × Value) => [(7, iv (30 - (z.1 : Int))), (6, z.2)]) (fun z => [(900, stars (pcsF (sq b) (gk b z.1) 0 (.slice a10 (sq b) (sq b) :: vt))), (903, slc 4 1 z.2 (sq b) ((fr b false z.1).map Value.bool))]) (fun z => z.1 ≤ 31 ∧ SlN (sq b) z.2) (fun z => 31 - z.1) (0, .slice a24 (sq b) (sq b)) ⟨by omega, _, rfl⟩ ⟨rfl, rfl, trivial⟩ ⟨rfl, rfl, trivial⟩ ?_
    rintro ⟨k, bv⟩ σ M w2 ⟨hk, ab, hba⟩ S
    replace hk : k ≤ 31 := hk
    replace hba : bv = .slice ab (sq b) (sq b) := hba
    subst hba
    refine W.seq (W.seq (W.region S ?_))
    refine AS.cons (sp_move (v := .int _ _) rfl ?_)
    refine AS.cons (sp_geq rfl rfl ?_)
    refine AS.nil ?_
    intro _ S
    refine W.condd rfl (fun c26 => ?_) (fun c26 => ?_)
    · skip
      refine W.skip ?_
      refine W.seq (W.block ?_)
      refine W.seq (W.region S ?_)
      refine AS.cons (sp_ldw 1 rfl rfl ag_26_7 ?_)
      refine AS.cons (sp_move (v := .int _ _) rfl ?_)
      refine AS.cons (sp_move rfl ?_)
      refine AS.cons (sp_call1 32 [903] _ (vs := [.agg (bkL b la lc ca cc).toArray, iv (30 - (k : Int)), .slice ab (fr b false k).length (sq b)]) rfl (by rw [fr_len]; rfl) cf_112 (fun F w' hF S => nextR b la lc ca cc hb hc hn hll _ _ _ _ (fr_len b false k) w' (hl.ext S.mod) (hC.ext S.mod) (by have h1 := S.slc_rd (k := 903) ((hF 903 (by simp)).trans rfl) (by omega); unfold Bools; rw [fr_len]; exact h1)) ?_ (by simp))
      rintro v32 i32 ⟨⟨a32, rfl⟩, rfl⟩
      refine AS.cons (sp_asg rfl ?_)
      refine AS.nil ?_
      intro _ S
      have hk30 : k ≤ 30 := by omega
      obtain ⟨rv, hrv⟩ := get_some (l := vt) (j := 30 - k) (by omega)
      obtain ⟨ar, rfl⟩ := hvs rv (List.mem_of_getElem? hrv)
      have hrv1 : (Value.slice a10 (sq b) (sq b) :: vt)[31 - k]? = some (.slice ar (sq b) (sq b)) := by rw [show 31 - k = 30 - k + 1 by omega, List.getElem?_cons_succ]; exact hrv
      have hrvi : vt[(30 - (k : Int)).toNat * 1]? = some (.slice ar (sq b) (sq b)) := by rw [show (30 - (k : Int)).toNat * 1 = 30 - k by omega]; exact hrv
      have S := S.mv (k := 903) (k' := 32) (by decide)
      have S := S.weak (k := 900) (i := sep (slc 4 1 (.slice ar (sq b) (sq b)) (sq b) ((fr b true (31 - k)).map Value.bool)) (stars ((pcsF (sq b) (gk b k) 0 (.slice a10 (sq b) (sq b) :: vt)).set (31 - k) emp))) (fun f hf => stars_take (by have h1 := pcsF_get (sq b) (gk b k) _ 0 (31 - k) _ hrv1; rw [Nat.zero_add, gk_front b k _ hk (Nat.le_refl _)] at h1; exact h1) hf)
      have S := S.unfold (k := 900) (k' := 904) (by decide) rfl
      refine W.seq (W.region S ?_)
      refine AS.cons (sp_asg rfl ?_)
      refine AS.nil ?_
      intro _ S
      refine W.block ?_
      refine W.loopS S [8, 33, 34, 35, 36, 37, 38, 39, 40, 41, 42, 43, 44, 45, 46, 47, 48, 49, 50, 51, 52, 53, 54, 55, 56, 57] [900] (fun (j : Nat) => [(8, iv j)]) (fun j => [(900, slc 4 1 (.slice ar (sq b) (sq b)) (sq b) ((mix (fr b true (31 - k)) (fr b false (k + 1)) (sq b) j).map Value.bool))]) (fun j => j ≤ sq b) (fun j => sq b - j) 0 (by omega) ⟨rfl, trivial⟩ ⟨by show slc 4 1 _ _ _ = slc 4 1 _ _ _; rw [mix_zero (fr_len ..)], trivial⟩ ?_
      rintro j σ M w3 hj S
      refine W.seq (W.seq (W.region S ?_))
      refine AS.cons (sp_move (v := .int _ _) rfl ?_)
      refine AS.cons (sp_move rfl ?_)
      refine AS.cons (sp_len rfl sl_94_4_1 ?_)
      refine AS.cons (sp_lss rfl rfl ?_)
      refine AS.nil ?_
      intro _ S
      refine W.condd rfl (fun c36 => ?_) (fun c36 => ?_)
      · skip
        refine W.skip ?_
        refine W.seq (W.block ?_)
        have hjn : j < sq b := by omega
        obtain ⟨x, hx⟩ := get_some (l := fr b true (31 - k)) (j := j) (by rw [fr_len]; exact hjn)
        obtain ⟨y, hy⟩ := get_some (l := fr b false (k + 1)) (j := j) (by rw [fr_len]; exact hjn)
        have hyi : ((fr b false (k + 1)).map Value.bool)[((j : Nat) : Int).toNat * 1]? = some (.bool y) := by simp [hy]
        refine W.draw S mixed (fun i => ([KD.q [], KD.q [], KD.q [902], KD.q [902], KD.q [], KD.q [], KD.q [], KD.q [902], KD.q [902], KD.q [], KD.q [900], KD.q [900], KD.q [], KD.q [], KD.q [], KD.q [903], KD.q [903], KD.q [], KD.q [900], KD.e [900] [900]] : List KD)[i]?) [] [0, 1, 2, 3, 4, 5, 6, 7, 8, 9, 10, 11, 12, 13, 14, 15, 16, 17, 18, 19] (by kernel_rfl) ?_
        refine AW.cons rfl rfl (sp_move rfl ?_)
        refine AW.cons rfl rfl (sp_move (v := .int _ _) rfl ?_)
        refine AW.cons rfl rfl (sp_iaS 902 rfl rfl rfl sl_90_94_1 (by omega) ?_)
        refine AW.cons rfl rfl (sp_ldS 902 rfl rfl sc_94 hrvi (by omega) ?_)
        refine AW.cons rfl rfl (sp_move (v := .int _ _) rfl ?_)
        refine AW.cons rfl rfl (sp_move rfl ?_)
        refine AW.cons rfl rfl (sp_move (v := .int _ _) rfl ?_)
        refine AW.cons rfl rfl (sp_iaS 902 rfl rfl rfl sl_90_94_1 (by omega) ?_)
        refine AW.cons rfl rfl (sp_ldS 902 rfl rfl sc_94 hrvi (by omega) ?_)
        refine AW.cons rfl rfl (sp_move (v := .int _ _) rfl ?_)
        refine AW.cons rfl rfl (sp_iaS 900 rfl rfl rfl sl_94_4_1 (by omega) ?_)
        refine AW.cons rfl rfl (sp_ldS 900 rfl rfl sc_4 (mix_at hx hjn) (by omega) ?_)
        refine AW.cons rfl rfl (sp_move (v := .bool _) rfl ?_)
        refine AW.split 51 rfl (fun g51 => ?_) (fun g51 => ?_)
        · skip
          refine AW.cons rfl rfl (sp_move rfl ?_)
          refine AW.cons rfl rfl (sp_move (v := .int _ _) rfl ?_)
          refine AW.cons rfl rfl (sp_iaS 903 rfl rfl rfl sl_94_4_1 (by omega) ?_)
          refine AW.cons rfl rfl (sp_ldS 903 rfl rfl sc_4 hyi (by omega) ?_)
          refine AW.cons rfl rfl (sp_pick_t rfl (v := .bool _) rfl ?_)
          refine AW.cons rfl rfl (sp_iaS 900 rfl rfl rfl sl_94_4_1 (by omega) ?_)
          refine AW.cons rfl rfl (sp_stS 900 rfl rfl rfl rfl rfl sz_4_1 (by omega) ?_)
          refine AW.nil ?_
          intro _ S
          refine W.region S ?_
          refine AS.cons (sp_move (v := .int _ _) rfl ?_)
          refine AS.cons (sp_add rfl rfl (by first | omega | (simp only [decide_eq_true_eq, decide_eq_false_iff_not] at *; omega)) ?_)
          refine AS.cons (sp_asg (v := .int _ _) rfl ?_)
          refine AS.nil ?_
          intro _ S
          exact ⟨j + 1, _, by omega, by omega, ⟨by simp [upd], trivial⟩, ⟨congrArg (slc 4 1 (.slice ar (sq b) (sq b)) (sq b)) (mix_set hx hy hjn (by rw [g51]; rfl)), trivial⟩, by repeat (first | exact Agr.refl _ _ | exact Agr.msk _ _ _ | refine Agr.upd ?_ _ rfl | refine Agr.upds ?_ rfl | refine Agr.mskIn ?_ rfl), by repeat (first | exact Agr.refl _ _ | exact Agr.msk _ _ _ | refine Agr.upd ?_ _ rfl | refine Agr.upds ?_ rfl | refine Agr.mskIn ?_ rfl), rfl, S⟩
        · skip
          refine AW.cons rfl rfl (sp_skip rfl ?_)
          refine AW.cons rfl rfl (sp_skip rfl ?_)
          refine AW.cons rfl rfl (sp_skip rfl ?_)
          refine AW.cons rfl rfl (sp_skip rfl ?_)
          refine AW.cons rfl rfl (sp_pick_f rfl (v := .bool _) rfl ?_)
          refine AW.cons rfl rfl (sp_iaS 900 rfl rfl rfl sl_94_4_1 (by omega) ?_)
          refine AW.cons rfl rfl (sp_stS 900 rfl rfl rfl rfl rfl sz_4_1 (by omega) ?_)
          refine AW.nil ?_
          intro _ S
          refine W.region S ?_
          refine AS.cons (sp_move (v := .int _ _) rfl ?_)
          refine AS.cons (sp_add rfl rfl (by first | omega | (simp only [decide_eq_true_eq, decide_eq_false_iff_not] at *; omega)) ?_)
          refine AS.cons (sp_asg (v := .int _ _) rfl ?_)
          refine AS.nil ?_
          intro _ S
          exact ⟨j + 1, _, by omega, by omega, ⟨by simp [upd], trivial⟩, ⟨congrArg (slc 4 1 (.slice ar (sq b) (sq b)) (sq b)) (mix_set hx hy hjn (by rw [g51]; rfl)), trivial⟩, by repeat (first | exact Agr.refl _ _ | exact Agr.msk _ _ _ | refine Agr.upd ?_ _ rfl | refine Agr.upds ?_ rfl | refine Agr.mskIn ?_ rfl), by repeat (first | exact Agr.refl _ _ | exact Agr.msk _ _ _ | refine Agr.upd ?_ _ rfl | refine Agr.upds ?_ rfl | refine Agr.mskIn ?_ rfl), rfl, S⟩
      · skip
        obtain rfl : j = sq b := by omega
        have S := (S.fold (k := 900) (k' := 904) (by decide)).weak (k := 900) (i := stars (pcsF (sq b) (gk b (k + 1)) 0 (.slice a10 (sq b) (sq b) :: vt))) (fun f hf => by
          rw [upd_same] at hf
          have h0 : sep (slc 4 1 (.slice ar (sq b) (sq b)) (sq b) ((mix (fr b true (31 - k)) (fr b false (k + 1)) (sq b) (sq b)).map Value.bool)) (stars ((pcsF (sq b) (gk b k) 0 (.slice a10 (sq b) (sq b) :: vt)).set (31 - k) emp)) f := hf
          have h1 := stars_put (by rw [pcsF_len, List.length_cons, hvl]; omega) h0
          rw [show mix (fr b true (31 - k)) (fr b false (k + 1)) (sq b) (sq b) = WR b (30 - k) by unfold WR; rw [show 30 - k + 1 = 31 - k by omega, show 31 - (30 - k) = k + 1 by omega], pcsF_set _ _ _ _ hrv1, Nat.zero_add] at h1
          exact h1)
        refine W.exit ?_
        refine W.region S ?_
        refine AS.cons (sp_move (v := .int _ _) rfl ?_)
        refine AS.cons (sp_sub rfl rfl (by first | omega | (simp only [decide_eq_true_eq, decide_eq_false_iff_not] at *; omega)) ?_)
        refine AS.cons (sp_asg (v := .int _ _) rfl ?_)
        refine AS.nil ?_
        intro _ S
        exact ⟨(k + 1, .slice a32 (sq b) (sq b)), _, ⟨by show k + 1 ≤ 31; omega, _, rfl⟩, by show 31 - (k + 1) < 31 - k; omega, ⟨by show iv _ = iv _; congr 1; omega, rfl, trivial⟩, ⟨rfl, rfl, trivial⟩, by repeat (first | exact Agr.refl _ _ | exact Agr.msk _ _ _ | refine Agr.upd ?_ _ rfl | refine Agr.upds ?_ rfl | refine Agr.mskIn ?_ rfl), by repeat (first | exact Agr.refl _ _ | exact Agr.msk _ _ _ | refine Agr.upd ?_ _ rfl | refine Agr.upds ?_ rfl | refine Agr.mskIn ?_ rfl), rfl, S⟩
    · skip
      obtain rfl : k = 31 := by omega
      have S := S.unfold (k := 900) (k' := 905) (i := slc 4 1 (.slice a10 (sq b) (sq b)) (sq b) ((gk b 31 0).map Value.bool)) (j := stars (pcsF (sq b) (gk b 31) 1 vt)) (by decide) rfl
      have hcg : pcsF (sq b) (gk b 31) 1 vt = pcsF (sq b) (WR b) 0 vt := pcsF_congr vt 1 0 fun j hj => by rw [Nat.add_comm 1 j, Nat.zero_add]; exact gk_back b 31 j (by omega) (by omega) (by omega)
      rw [hcg] at S
      have S := S.fold (k := 902) (k' := 905) (by decide)
      refine W.exit ?_
      refine W.seq (W.region S ?_)
      refine AS.cons (sp_move rfl ?_)
      refine AS.cons (sp_asg rfl ?_)
      refine AS.nil ?_
      intro _ S
      refine W.ret ?_
      exact ret1 rfl rfl S fun w' S' => ⟨_, ⟨ao, co, vt, rfl, hvl, hvs, rfl⟩, S'.only 902⟩
/-- What 'whole' hands back, its two pieces apart. -/
def WholeS (b : Bk) (u : Value) (i j : HP) : Prop := ∃ (a : Option Addr) (c : Nat) (vs : List Value), u = .slice a 31 c ∧ vs.length = 31 ∧ (∀ v ∈ vs, ∃ a, v = .slice a (sq b) (sq b)) ∧ i = slc 94 1 u 31 vs ∧ j = stars (pcsF (sq b) (WR b) 0 vs)
theorem wholeS (hb : Num b) (hc : ∀ c ∈ b.cries, CryOk c) (hn : b.cries.length ≤ 1000000) (hll : b.land.length ≤ 1000000) (w : World) (hl : Ints w la lc b.land) (hC : Cries w ca cc b.cries) :
    Ct Tryd.prog 104 #[.agg (bkL b la lc ca cc).toArray] w (fun u w' => ∃ i j, WholeS b u i j ∧ St no w w' (upd eL 0 (sep i j)) []) :=
  (wholeR b la lc ca cc hb hc hn hll w hl hC).mono fun _u _w' ⟨_i, ⟨a, c, vs, h1, h2, h3, h4⟩, S⟩ => ⟨_, _, ⟨a, c, vs, h1, h2, h3, rfl, rfl⟩, h4 ▸ S⟩
end
end Go.Proofs.YtmpclgepoemneaaDoor

/-
  The other side: what is asked of a book, and its answers.
-/
namespace Go.Proofs.YtmpclgepoemneaaDoor
set_option maxRecDepth 100000
open Go.Hu Go.RowKit
section
variable (b : Bk) (la : Option Addr) (lc : Nat) (ca : Option Addr) (cc : Nat) (mp : Nat)
theorem rightF (hk : BookOk b) (w : World) (hl : Ints w la lc b.land) (hC : Cries w ca cc b.cries) : Ct Tryd.prog 72 #[.agg (bkL b la lc ca cc).toArray] w (fun u w' => u = .bool (canB b) ∧ Ext w w') := by
  refine fn_intro (args := [.agg (bkL b la lc ca cc).toArray]) Tryd.func72 rfl rfl (by kernel_rfl) ?_
  have S := St.start no w
  have hsq := sq_le hk.num
  have hll := hk.ll
  have hcl := hk.lc
  refine W.seq (W.region S ?_)
  refine AS.cons (sp_boxa 1 rfl (fun b1 => ?_))
  refine AS.cons (sp_asg rfl ?_)
  refine AS.nil ?_
  intro _ S
  refine W.seq (W.region S ?_)
  refine AS.cons (sp_ldw 1 rfl rfl ag_26_7 ?_)
  refine AS.cons (sp_call1s 4 904 [] _ (by decide) rfl rfl cf_104 (fun F w' _ S => wholeS b la lc ca cc hk.num hk.cry (by omega) (by omega) w' (hl.ext S.mod) (hC.ext S.mod)) ?_ (by simp))
  rintro v4 i4 j4 ⟨a, c, vs, rfl, hvl, hvs, rfl, rfl⟩
  obtain ⟨v0, hv0⟩ := get_some (l := vs) (j := 0) (by omega)
  obtain ⟨a0, rfl⟩ := hvs v0 (List.mem_of_getElem? hv0)
  refine AS.cons (sp_iaS 4 rfl rfl rfl sl_90_94_1 (by omega) ?_)
  refine AS.cons (sp_ldS 4 rfl rfl sc_94 hv0 (by omega) ?_)
  refine AS.cons (sp_call1 7 [904] _ (vs := [.slice a0 (WR b 0).length (sq b)]) rfl (by rw [WR_len]; rfl) cf_79 (fun F w' hF S => listR _ _ _ (by rw [WR_len]; omega) w' (by have h1 := S.star_rd (k := 904) ((hF 904 (by simp)).trans rfl) (pcsF_get (sq b) (WR b) _ 0 0 _ hv0) (by omega); unfold Bools; rw [WR_len]; exact h1)) ?_ (by simp))
  rintro v7 i7 ⟨⟨a7, c7, rfl, _⟩, rfl⟩
  refine AS.cons (sp_len rfl sl_22_3_1 ?_)
  refine AS.cons (sp_gtr rfl rfl ?_)
  refine AS.cons (sp_asg (v := .bool _) rfl ?_)
  refine AS.nil ?_
  intro _ S
  refine W.ret ?_
  exact ret1 rfl rfl S fun w' S' => ⟨congrArg Value.bool (by rw [can_len b hk.num (Nat.zero_le 30), trL_WR hk.num (Nat.zero_le 30)]; exact decide_eq_decide.2 (by omega)), S'.mod⟩
theorem rightR (w : World) (hl : Ints w la lc b.land) (hC : Cries w ca cc b.cries) : Ct Tryd.prog 21 #[.agg (bkL b la lc ca cc).toArray] w (fun u w' => u = .tuple #[.bool (okAll b && canB b), iv (chkV b)] ∧ Ext w w') := by
  refine fn_intro (args := [.agg (bkL b la lc ca cc).toArray]) Tryd.func21 rfl rfl (by kernel_rfl) ?_
  have S := St.start no w
  refine W.seq (W.region S ?_)
  refine AS.cons (sp_boxa 1 rfl (fun b1 => ?_))
  refine AS.cons (sp_asg rfl ?_)
  refine AS.cons (sp_asg rfl ?_)
  refine AS.nil ?_
  intro _ S
  refine W.seq (W.seq (W.region S ?_))
  refine AS.cons (sp_ldw 1 rfl rfl ag_26_7 ?_)
  refine AS.cons (sp_call [] rfl rfl cf_19 (fun F w _ S => checkR _ _ _ _ _ w (hl.ext S.mod) (hC.ext S.mod)) ?_)
  refine AS.cons (sp_asg (v := .int _ _) rfl ?_)
  refine AS.nil ?_
  intro _ S
  refine W.seq (W.region S ?_)
  refine AS.cons (sp_move (v := .int _ _) rfl ?_)
  refine AS.cons (sp_neq rfl rfl ?_)
  refine AS.nil ?_
  intro _ S
  refine W.condd rfl (fun c8 => ?_) (fun c8 => ?_)
  · skip
    refine W.seq (W.region S ?_)
    refine AS.cons (sp_move (v := .int _ _) rfl ?_)
    refine AS.cons (sp_asg rfl ?_)
    refine AS.cons (sp_asg (v := .int _ _) rfl ?_)
    refine AS.nil ?_
    intro _ S
    refine W.ret ?_
    first | exact ret2 rfl rfl rfl S fun w' S' => ⟨by rw [chk_ok c8]; unfold chkV; rw [if_pos (chk_ok c8)]; rfl, S'.mod⟩ | exact ret2 rfl rfl rfl S fun w' S' => ⟨by rw [chk_no c8]; rfl, S'.mod⟩
  · skip
    have hok := okAll_ok (chk_ok c8)
    refine W.skip ?_
    refine W.seq (W.region S ?_)
    refine AS.cons (sp_ldw 1 rfl rfl ag_26_7 ?_)
    refine AS.cons (sp_call [] rfl rfl cf_72 (fun F w' hF S => rightF b la lc ca cc hok w' (hl.ext S.mod) (hC.ext S.mod)) ?_)
    refine AS.cons (sp_asg (v := .bool _) rfl ?_)
    refine AS.cons (sp_asg rfl ?_)
    refine AS.nil ?_
    intro _ S
    refine W.ret ?_
    first | exact ret2 rfl rfl rfl S fun w' S' => ⟨by rw [chk_ok c8]; unfold chkV; rw [if_pos (chk_ok c8)]; rfl, S'.mod⟩ | exact ret2 rfl rfl rfl S fun w' S' => ⟨by rw [chk_no c8]; rfl, S'.mod⟩
/-- What the other side hands back when something is asked. -/
def AskRR (p : Bool) (u : Value) (i j : HP) : Prop := ∃ o, u = .tuple #[o, iv (askV b p)] ∧ (askV b p = 0 → WholeS b o i j)
theorem askedR (w : World) (hl : Ints w la lc b.land) (hC : Cries w ca cc b.cries) (p : Bool) :
    Ct Tryd.prog 77 #[.agg (bkL b la lc ca cc).toArray, .bool p] w (fun u w' => ∃ i j, AskRR b p u i j ∧ St no w w' (upd eL 0 (sep i j)) []) := by
  refine fn_intro (args := [.agg (bkL b la lc ca cc).toArray, .bool p]) Tryd.func77 rfl rfl (by kernel_rfl) ?_
  have S := St.start no w
  refine W.seq (W.region S ?_)
  refine AS.cons (sp_boxa 2 rfl (fun b2 => ?_))
  refine AS.cons (sp_asg rfl ?_)
  refine AS.cons (sp_asg rfl ?_)
  refine AS.nil ?_
  intro _ S
  refine W.seq (W.seq (W.region S ?_))
  refine AS.cons (sp_ldw 2 rfl rfl ag_26_7 ?_)
  refine AS.cons (sp_call [] rfl rfl cf_19 (fun F w _ S => checkR _ _ _ _ _ w (hl.ext S.mod) (hC.ext S.mod)) ?_)
  refine AS.cons (sp_asg (v := .int _ _) rfl ?_)
  refine AS.nil ?_
  intro _ S
  refine W.seq (W.region S ?_)
  refine AS.cons (sp_move (v := .int _ _) rfl ?_)
  refine AS.cons (sp_neq rfl rfl ?_)
  refine AS.nil ?_
  intro _ S
  refine W.condd rfl (fun c11 => ?_) (fun c11 => ?_)
  · skip
    have hv : askV b p = chkV b := by unfold askV chkV; rw [chk_no c11]; rfl
    have hnz : askV b p = 0 → WholeS b nilS emp emp := fun h => absurd (hv.symm.trans h) c11
    refine W.seq (W.region S ?_)
    refine AS.cons (sp_move (v := .int _ _) rfl ?_)
    refine AS.cons (sp_asg rfl ?_)
    refine AS.cons (sp_asg (v := .int _ _) rfl ?_)
    refine AS.nil ?_
    intro _ S
    refine W.ret ?_
    first | exact ret2 rfl rfl rfl S fun w' S' => ⟨emp, emp, ⟨nilS, congrArg (fun z => Value.tuple #[nilS, iv z]) hv.symm, hnz⟩, (S'.weak (k := 999) (i := sep emp emp) (fun f hf => sep.emp.2 hf)).only 999⟩ | exact ret2 rfl rfl rfl S fun w' S' => ⟨_, _, ⟨.slice a 31 c, congrArg (fun z => Value.tuple #[.slice a 31 c, iv z]) hv.symm, fun _ => ⟨a, c, vs, rfl, hvl, hvs, rfl, rfl⟩⟩, S'.only 16⟩
  · skip
    have hok := chk_ok c11
    refine W.skip ?_
    refine W.seq (W.seq (W.region S ?_))
    refine AS.cons (sp_move (v := .bool _) rfl ?_)
    refine AS.cons (sp_not rfl ?_)
    refine AS.nil ?_
    intro _ S
    refine W.cond rfl (fun c14 => ?_) (fun c14 => ?_)
    · skip
      have hv : askV b p = 11 := by unfold askV; rw [if_pos hok, if_neg (by simpa using c14)]
      have hnz : askV b p = 0 → WholeS b nilS emp emp := fun h => absurd (hv.symm.trans h) (by decide)
      refine W.seq (W.region S ?_)
      refine AS.cons (sp_asg rfl ?_)
      refine AS.cons (sp_asg rfl ?_)
      refine AS.nil ?_
      intro _ S
      refine W.ret ?_
      first | exact ret2 rfl rfl rfl S fun w' S' => ⟨emp, emp, ⟨nilS, congrArg (fun z => Value.tuple #[nilS, iv z]) hv.symm, hnz⟩, (S'.weak (k := 999) (i := sep emp emp) (fun f hf => sep.emp.2 hf)).only 999⟩ | exact ret2 rfl rfl rfl S fun w' S' => ⟨_, _, ⟨.slice a 31 c, congrArg (fun z => Value.tuple #[.slice a 31 c, iv z]) hv.symm, fun _ => ⟨a, c, vs, rfl, hvl, hvs, rfl, rfl⟩⟩, S'.only 16⟩
    · skip
      have hpt : p = true := by simpa using c14
      have hk := okAll_ok hok
      have hsq := sq_le hk.num
      have hll := hk.ll
      have hcl := hk.lc
      refine W.skip ?_
      refine W.seq (W.region S ?_)
      refine AS.cons (sp_ldw 2 rfl rfl ag_26_7 ?_)
      refine AS.cons (sp_call1s 16 904 [] _ (by decide) rfl rfl cf_104 (fun F w' _ S => wholeS b la lc ca cc hk.num hk.cry (by omega) (by omega) w' (hl.ext S.mod) (hC.ext S.mod)) ?_ (by simp))
      rintro v16 i16 j16 ⟨a, c, vs, rfl, hvl, hvs, rfl, rfl⟩
      obtain ⟨v0, hv0⟩ := get_some (l := vs) (j := 0) (by omega)
      obtain ⟨a0, rfl⟩ := hvs v0 (List.mem_of_getElem? hv0)
      refine AS.cons (sp_asg rfl ?_)
      refine AS.nil ?_
      intro _ S
      refine W.seq (W.seq (W.region S ?_))
      refine AS.cons (sp_move rfl ?_)
      refine AS.cons (sp_iaS 16 rfl rfl rfl sl_90_94_1 (by omega) ?_)
      refine AS.cons (sp_ldS 16 rfl rfl sc_94 hv0 (by omega) ?_)
      refine AS.cons (sp_call1 20 [904] _ (vs := [.slice a0 (WR b 0).length (sq b)]) rfl (by rw [WR_len]; rfl) cf_79 (fun F w' hF S => listR _ _ _ (by rw [WR_len]; omega) w' (by have h1 := S.star_rd (k := 904) ((hF 904 (by simp)).trans rfl) (pcsF_get (sq b) (WR b) _ 0 0 _ hv0) (by omega); unfold Bools; rw [WR_len]; exact h1)) ?_ (by simp))
      rintro v20 i20 ⟨⟨a20, c20, rfl, _⟩, rfl⟩
      refine AS.cons (sp_len rfl sl_22_3_1 ?_)
      refine AS.cons (sp_eql rfl rfl ?_)
      refine AS.nil ?_
      intro _ S
      refine W.condd rfl (fun c22 => ?_) (fun c22 => ?_)
      · skip
        have hcan : canB b = false := by rw [can_len b hk.num (Nat.zero_le 30), ← trL_WR hk.num (Nat.zero_le 30)]; exact decide_eq_false (by omega)
        have hv : askV b p = 12 := by unfold askV; rw [if_pos hok, if_pos hpt, hcan]; rfl
        have hnz : askV b p = 0 → WholeS b nilS emp emp := fun h => absurd (hv.symm.trans h) (by decide)
        refine W.seq (W.region S ?_)
        refine AS.cons (sp_asg rfl ?_)
        refine AS.cons (sp_asg rfl ?_)
        refine AS.nil ?_
        intro _ S
        refine W.ret ?_
        first | exact ret2 rfl rfl rfl S fun w' S' => ⟨emp, emp, ⟨nilS, congrArg (fun z => Value.tuple #[nilS, iv z]) hv.symm, hnz⟩, (S'.weak (k := 999) (i := sep emp emp) (fun f hf => sep.emp.2 hf)).only 999⟩ | exact ret2 rfl rfl rfl S fun w' S' => ⟨_, _, ⟨.slice a 31 c, congrArg (fun z => Value.tuple #[.slice a 31 c, iv z]) hv.symm, fun _ => ⟨a, c, vs, rfl, hvl, hvs, rfl, rfl⟩⟩, S'.only 16⟩
      · skip
        have hcan : canB b = true := by rw [can_len b hk.num (Nat.zero_le 30), ← trL_WR hk.num (Nat.zero_le 30)]; exact decide_eq_true (by omega)
        have hv : askV b p = 0 := by unfold askV; rw [if_pos hok, if_pos hpt, if_pos hcan]
        have S := S.fold (k := 16) (k' := 904) (by decide)
        refine W.skip ?_
        refine W.seq (W.region S ?_)
        refine AS.cons (sp_move rfl ?_)
        refine AS.cons (sp_asg rfl ?_)
        refine AS.cons (sp_asg rfl ?_)
        refine AS.nil ?_
        intro _ S
        refine W.ret ?_
        first | exact ret2 rfl rfl rfl S fun w' S' => ⟨emp, emp, ⟨nilS, congrArg (fun z => Value.tuple #[nilS, iv z]) hv.symm, hnz⟩, (S'.weak (k := 999) (i := sep emp emp) (fun f hf => sep.emp.2 hf)).only 999⟩ | exact ret2 rfl rfl rfl S fun w' S' => ⟨_, _, ⟨.slice a 31 c, congrArg (fun z => Value.tuple #[.slice a 31 c, iv z]) hv.symm, fun _ => ⟨a, c, vs, rfl, hvl, hvs, rfl, rfl⟩⟩, S'.only 16⟩
end
end Go.Proofs.YtmpclgepoemneaaDoor

/-
  Where, on the other side; whether the shoal can be in a square, on both.
-/
namespace Go.Proofs.YtmpclgepoemneaaDoor
set_option maxRecDepth 100000
open Go.Hu Go.RowKit
section
variable (b : Bk) (la : Option Addr) (lc : Nat) (ca : Option Addr) (cc : Nat) (mp : Nat)
theorem askRR_ne (p : Bool) : ∃ u i j, AskRR b p u i j := ⟨_, _, _, .slice none 31 0, rfl, fun _ => ⟨none, 0, List.replicate 31 (.slice none (sq b) (sq b)), rfl, by simp, fun v hv => ⟨none, List.eq_of_mem_replicate hv⟩, rfl, rfl⟩⟩
theorem whereRR (m : Int) (w : World) (hl : Ints w la lc b.land) (hC : Cries w ca cc b.cries) : Ct Tryd.prog 23 #[.agg (bkL b la lc ca cc).toArray, iv m] w (fun u w' => ∃ i, ListR (whereL b m) (askV b (decide (0 ≤ m ∧ m ≤ 30))) u i ∧ St no w w' (upd eL 0 i) []) := by
  refine fn_intro (args := [.agg (bkL b la lc ca cc).toArray, iv m]) Tryd.func23 rfl rfl (by kernel_rfl) ?_
  have S := St.start no w
  refine W.seq (W.region S ?_)
  refine AS.cons (sp_boxa 2 rfl (fun b2 => ?_))
  refine AS.cons (sp_asg rfl ?_)
  refine AS.cons (sp_asg rfl ?_)
  refine AS.nil ?_
  intro _ S
  refine W.seq (W.draw S mixed (fun i => ([KD.q [2], KD.q [], KD.e [] [], KD.e [] [904, 12], KD.q [], KD.q [], KD.q [], KD.q [], KD.q []] : List KD)[i]?) [] [0, 1, 2, 3, 4, 5, 6, 7, 8] (by kernel_rfl) ?_)
  refine AW.cons rfl rfl (sp_ldw 2 rfl rfl ag_26_7 ?_)
  refine AW.cons rfl rfl (sp_move (v := .int _ _) rfl ?_)
  refine AW.cons rfl rfl (sp_call [] rfl rfl cf_78 (fun F w _ S => isMinuteR _ w) ?_)
  refine AW.cons rfl rfl (sp_call1s 12 904 [] _ (by decide) rfl rfl cf_77 (fun F w' _ S => askedR b la lc ca cc w' (hl.ext S.mod) (hC.ext S.mod) (decide (0 ≤ m ∧ m ≤ 30))) ?_ (fun _ => askRR_ne b _))
  rintro v12 i12 j12 ⟨o, rfl, hz⟩
  refine AW.cons rfl rfl (sp_move rfl ?_)
  refine AW.cons rfl rfl (sp_ext rfl rfl ?_)
  refine AW.cons rfl rfl (sp_ext rfl rfl ?_)
  refine AW.cons rfl rfl (sp_asg rfl ?_)
  refine AW.cons rfl rfl (sp_asg (v := .int _ _) rfl ?_)
  refine AW.nil ?_
  intro _ S
  refine W.seq (W.seq (W.region S ?_))
  refine AS.cons (sp_move (v := .int _ _) rfl ?_)
  refine AS.cons (sp_neq rfl rfl ?_)
  refine AS.nil ?_
  intro _ S
  refine W.condd rfl (fun c16 => ?_) (fun c16 => ?_)
  · skip
    have hwl : whereL b m = [] := by unfold whereL; rw [if_neg c16]
    refine W.seq (W.region S ?_)
    refine AS.cons (sp_move (v := .int _ _) rfl ?_)
    refine AS.cons (sp_asg rfl ?_)
    refine AS.cons (sp_asg (v := .int _ _) rfl ?_)
    refine AS.nil ?_
    intro _ S
    refine W.ret ?_
    first | exact ret2 rfl rfl rfl S fun w' S' => ⟨_, ⟨none, 0, by rw [hwl]; exact Nat.le_refl _, by rw [hwl]; rfl, by rw [hwl]; rfl⟩, St.noneS S'⟩ | exact ret2 rfl rfl rfl S fun w' S' => ⟨_, ⟨a22, c22, by rw [hwl]; exact hac, by rw [hwl, c0]; rfl, by rw [hwl]; rfl⟩, S'.only 22⟩
  · skip
    have c0 := Decidable.not_not.1 c16
    obtain ⟨a, c, vs, rfl, hvl, hvs, rfl, rfl⟩ := hz c0
    obtain ⟨hok, hmm, _⟩ := askV_zero c0
    have hmm := of_decide_eq_true hmm
    have hbk := okAll_ok hok
    have hsq := sq_le hbk.num
    obtain ⟨v0, hv0⟩ := get_some (l := vs) (j := m.toNat) (by omega)
    obtain ⟨a0, rfl⟩ := hvs v0 (List.mem_of_getElem? hv0)
    have hwl : whereL b m = trL (WR b m.toNat) := by unfold whereL; rw [if_pos c0, trL_WR hbk.num (by omega)]
    refine W.skip ?_
    refine W.seq (W.region S ?_)
    refine AS.cons (sp_move rfl ?_)
    refine AS.cons (sp_move (v := .int _ _) rfl ?_)
    refine AS.cons (sp_iaS 12 rfl rfl rfl sl_90_94_1 (by omega) ?_)
    refine AS.cons (sp_ldS 12 rfl rfl sc_94 (by rw [Nat.mul_one]; exact hv0) (by omega) ?_)
    refine AS.cons (sp_call1 22 [904] _ (vs := [.slice a0 (WR b m.toNat).length (sq b)]) rfl (by rw [WR_len]; rfl) cf_79 (fun F w' hF S => listR _ _ _ (by rw [WR_len]; omega) w' (by have h1 := S.star_rd (k := 904) ((hF 904 (by simp)).trans rfl) (pcsF_get (sq b) (WR b) _ 0 m.toNat _ hv0) (by omega); rw [Nat.zero_add] at h1; unfold Bools; rw [WR_len]; exact h1)) ?_ (by simp))
    rintro v22 i22 ⟨⟨a22, c22, rfl, hac⟩, rfl⟩
    refine AS.cons (sp_asg rfl ?_)
    refine AS.cons (sp_asg rfl ?_)
    refine AS.nil ?_
    intro _ S
    refine W.ret ?_
    first | exact ret2 rfl rfl rfl S fun w' S' => ⟨_, ⟨none, 0, by rw [hwl]; exact Nat.le_refl _, by rw [hwl]; rfl, by rw [hwl]; rfl⟩, St.noneS S'⟩ | exact ret2 rfl rfl rfl S fun w' S' => ⟨_, ⟨a22, c22, by rw [hwl]; exact hac, by rw [hwl, c0]; rfl, by rw [hwl]; rfl⟩, S'.only 22⟩
/-- What is answered to 'can it be in this square'. -/
def canL (b : Bk) (m s : Int) : Bool := decide (askV b (decide (CanP b m s)) = 0) && decide (s ∈ whs b m.toNat)
theorem canP (m s : Int) (w : World) (hK : Kinds w) (hl : Ints w la lc b.land) (hC : Cries w ca cc b.cries) : Ct Tryd.prog 24 #[.agg (bkL b la lc ca cc).toArray, iv m, iv s] w (fun u w' => u = .tuple #[.bool (canL b m s), iv (askV b (decide (CanP b m s)))] ∧ Ext w w') := by
  refine fn_intro (args := [.agg (bkL b la lc ca cc).toArray, iv m, iv s]) Tryd.func24 rfl rfl (by kernel_rfl) ?_
  have S := St.start no w
  refine W.seq (W.region S ?_)
  refine AS.cons (sp_boxa 3 rfl (fun b3 => ?_))
  refine AS.cons (sp_boxs 4 rfl rfl (fun b4 => ?_))
  refine AS.cons (sp_boxs 5 rfl rfl (fun b5 => ?_))
  refine AS.cons (sp_asg rfl ?_)
  refine AS.cons (sp_asg rfl ?_)
  refine AS.nil ?_
  intro _ S
  refine W.seq (W.region S ?_)
  refine AS.cons (sp_ldw 3 rfl rfl ag_26_7 ?_)
  refine AS.cons (sp_mf ?_)
  refine AS.cons (sp_call1 13 [3, 4, 5] _ rfl rfl cf_73 (fun F w' hF S => asked b la lc ca cc w' (hK.ext S.mod) (hl.ext S.mod) (hC.ext S.mod) 80 [oP b4, oP b5, oP b3] (decide (CanP b m s)) cf_80 (fun w'' E hok => canC b la lc ca cc (okAll_ok hok).num b4 b5 b3 m s w'' (At.ext (S.get ((hF 4 (by simp)).trans rfl)).1 E) (At.ext (S.get ((hF 5 (by simp)).trans rfl)).1 E) (At.ext (S.get ((hF 3 (by simp)).trans rfl)).1 E))) ?_ (by simp))
  rintro v13 i13 ⟨bl, hbl, hone, rfl, hz⟩
  refine AS.cons (sp_move rfl ?_)
  refine AS.cons (sp_ext rfl rfl ?_)
  refine AS.cons (sp_ext rfl rfl ?_)
  refine AS.cons (sp_alloc 8 zv_77 rfl (fun b8 => ?_))
  refine AS.cons (sp_stw 8 sz_77_8 rfl rfl rfl rfl hbl rfl hone ?_)
  refine AS.cons (sp_asg (v := .int _ _) rfl ?_)
  refine AS.nil ?_
  intro _ S
  refine W.seq (W.seq (W.region S ?_))
  refine AS.cons (sp_move (v := .int _ _) rfl ?_)
  refine AS.cons (sp_neq rfl rfl ?_)
  refine AS.nil ?_
  intro _ S
  refine W.condd rfl (fun c17 => ?_) (fun c17 => ?_)
  · skip
    have hwl : canL b m s = false := by unfold canL; rw [decide_eq_false c17]; rfl
    refine W.seq (W.region S ?_)
    refine AS.cons (sp_move (v := .int _ _) rfl ?_)
    refine AS.cons (sp_asg rfl ?_)
    refine AS.cons (sp_asg (v := .int _ _) rfl ?_)
    refine AS.nil ?_
    intro _ S
    refine W.ret ?_
    first | exact ret2 rfl rfl rfl S fun w' S' => ⟨by rw [hwl]; rfl, S'.mod⟩ | exact ret2 rfl rfl rfl S fun w' S' => ⟨by rw [hwl, c0]; rfl, S'.mod⟩
  · skip
    have c0 := Decidable.not_not.1 c17
    obtain ⟨mp, rfl, rfl⟩ := hz c0
    obtain ⟨hok, hmm, _⟩ := askV_zero c0
    have hmm := of_decide_eq_true hmm
    have hbk := okAll_ok hok
    have hwl : canL b m s = decide (s ∈ whs b m.toNat) := by unfold canL; rw [decide_eq_true c0]; rfl
    have hlen : (whs b m.toNat).length ≤ 80 := whU_len b m.toNat 80
    refine W.skip ?_
    refine W.seq (W.draw S mixed (fun i => ([KD.q [8], KD.q [4], KD.e [13] [21], KD.q [5], KD.e [21] [], KD.q [], KD.q []] : List KD)[i]?) [] [0, 1, 2, 3, 4, 5, 6] (by kernel_rfl) ?_)
    refine AW.cons rfl rfl (sp_ldw 8 rfl rfl ag_77_8 ?_)
    refine AW.cons rfl rfl (sp_ld 4 rfl rfl sc_3 rfl ?_)
    refine AW.cons rfl rfl (sp_call1 21 [13] _ rfl rfl cf_76 (fun F w' hF S => whereF b la lc ca cc mp hbk.num hbk.cry (by have := hbk.lc; omega) m hmm.1 w' (hK.ext S.mod) (hC.ext S.mod) (mapAt S ((hF 13 (by simp)).trans rfl))) ?_ (fun _ => ⟨.slice none _ _, _, ⟨none, _, rfl, Nat.le_refl _⟩, rfl⟩))
    rintro v21 i21 ⟨⟨a, c, rfl, hac⟩, rfl⟩
    refine AW.cons rfl rfl (sp_ld 5 rfl rfl sc_3 rfl ?_)
    refine AW.cons rfl rfl (sp_call [21] rfl rfl cf_68 (fun F w' hF S => contains a c (whs b m.toNat) s (by omega) w' (S.slc_rd (k := 21) ((hF 21 (by simp)).trans rfl) (by omega))) ?_)
    refine AW.cons rfl rfl (sp_asg (v := .bool _) rfl ?_)
    refine AW.cons rfl rfl (sp_asg rfl ?_)
    refine AW.nil ?_
    intro _ S
    refine W.ret ?_
    first | exact ret2 rfl rfl rfl S fun w' S' => ⟨by rw [hwl]; rfl, S'.mod⟩ | exact ret2 rfl rfl rfl S fun w' S' => ⟨by rw [hwl, c0]; rfl, S'.mod⟩
end
end Go.Proofs.YtmpclgepoemneaaDoor

/-
  Can, and Seen, on the other side.
-/
namespace Go.Proofs.YtmpclgepoemneaaDoor
set_option maxRecDepth 100000
open Go.Hu Go.RowKit
section
variable (b : Bk) (la : Option Addr) (lc : Nat) (ca : Option Addr) (cc : Nat) (mp : Nat)
theorem canRR (m s : Int) (w : World) (hl : Ints w la lc b.land) (hC : Cries w ca cc b.cries) : Ct Tryd.prog 25 #[.agg (bkL b la lc ca cc).toArray, iv m, iv s] w (fun u w' => u = .tuple #[.bool (canL b m s), iv (askV b (decide (CanP b m s)))] ∧ Ext w w') := by
  refine fn_intro (args := [.agg (bkL b la lc ca cc).toArray, iv m, iv s]) Tryd.func25 rfl rfl (by kernel_rfl) ?_
  have S := St.start no w
  have hpt : okAll b = true → IntKind.i64.wrap (IntKind.i64.wrap (b.wide * b.high) - 1) = b.wide * b.high - 1 := fun h => by
    have := sq_le (okAll_ok h).num
    rw [IntWalk.i64_in (b.wide * b.high) (by omega), IntWalk.i64_in _ (by omega)]
  refine W.seq (W.region S ?_)
  refine AS.cons (sp_boxa 3 rfl (fun b3 => ?_))
  refine AS.cons (sp_asg rfl ?_)
  refine AS.cons (sp_asg rfl ?_)
  refine AS.nil ?_
  intro _ S
  refine W.seq (W.draw S mixed (fun i => ([KD.q [3], KD.q [], KD.e [] [], KD.q [], KD.q [], KD.q [3], KD.e [] [], KD.q [], KD.e [] [], KD.q [], KD.e [] [904, 21], KD.q [], KD.q [], KD.q [], KD.q [], KD.q []] : List KD)[i]?) [3, 8, 9] [0, 1, 2, 3, 4, 5, 6, 7, 8, 9, 10, 11, 12, 13, 14, 15] (by kernel_rfl) ?_)
  refine AW.cons rfl rfl (sp_ldw 3 rfl rfl ag_26_7 ?_)
  refine AW.cons rfl rfl (sp_move (v := .int _ _) rfl ?_)
  refine AW.cons rfl rfl (sp_call [] rfl rfl cf_78 (fun F w _ S => isMinuteR _ w) ?_)
  refine AW.cons rfl rfl (sp_move (v := .bool _) rfl ?_)
  refine AW.split 14 rfl (fun g14 => ?_) (fun g14 => ?_)
  · skip
    refine AW.cons rfl rfl (sp_move (v := .int _ _) rfl ?_)
    refine AW.cons rfl rfl (sp_ldw 3 rfl rfl ag_26_7 ?_)
    refine AW.cons rfl rfl (sp_call [] rfl rfl cf_66 (fun F w _ S => squaresF _ _ _ _ _ w) ?_)
    refine AW.cons rfl rfl (sp_subw rfl rfl ?_)
    refine AW.cons rfl rfl (sp_call [] rfl rfl cf_44 (fun F w _ S => between _ _ _ w) ?_)
    refine AW.cons rfl rfl (sp_pick_t rfl (v := .bool _) rfl ?_)
    refine AW.cons rfl rfl (sp_call1s 21 904 [] _ (by decide) rfl rfl cf_77 (fun F w' _ S => askedR b la lc ca cc w' (hl.ext S.mod) (hC.ext S.mod) _) ?_ (fun _ => askRR_ne b _))
    rintro v21 i21 j21 ⟨o, rfl, hz⟩
    first | (have hp : askV b (decide (0 ≤ s ∧ s ≤ IntKind.i64.wrap (IntKind.i64.wrap (b.wide * b.high) - 1))) = askV b (decide (CanP b m s)) := askV_congr fun h => by (rw [hpt h]; exact decide_eq_decide.2 ⟨fun h => ⟨of_decide_eq_true g14, h⟩, fun h => h.2⟩)); rw [hp] at hz ⊢ | (have hp : askV b false = askV b (decide (CanP b m s)) := askV_congr fun h => (decide_eq_false (fun hh => by (rw [decide_eq_true hh.1] at g14; cases g14))).symm); rw [hp] at hz ⊢
    refine AW.cons rfl rfl (sp_move rfl ?_)
    refine AW.cons rfl rfl (sp_ext rfl rfl ?_)
    refine AW.cons rfl rfl (sp_ext rfl rfl ?_)
    refine AW.cons rfl rfl (sp_asg rfl ?_)
    refine AW.cons rfl rfl (sp_asg (v := .int _ _) rfl ?_)
    refine AW.nil ?_
    intro _ S
    refine W.seq (W.seq (W.region S ?_))
    refine AS.cons (sp_move (v := .int _ _) rfl ?_)
    refine AS.cons (sp_neq rfl rfl ?_)
    refine AS.nil ?_
    intro _ S
    refine W.condd rfl (fun c25 => ?_) (fun c25 => ?_)
    · skip
      have hwl : canL b m s = false := by unfold canL; rw [decide_eq_false c25]; rfl
      refine W.seq (W.region S ?_)
      refine AS.cons (sp_move (v := .int _ _) rfl ?_)
      refine AS.cons (sp_asg rfl ?_)
      refine AS.cons (sp_asg (v := .int _ _) rfl ?_)
      refine AS.nil ?_
      intro _ S
      refine W.ret ?_
      first | exact ret2 rfl rfl rfl S fun w' S' => ⟨by rw [hwl]; rfl, S'.mod⟩ | exact ret2 rfl rfl rfl S fun w' S' => ⟨by rw [hwl, c0, ← hxd]; rfl, S'.mod⟩
    · skip
      have c0 := Decidable.not_not.1 c25
      obtain ⟨a, c, vs, rfl, hvl, hvs, rfl, rfl⟩ := hz c0
      obtain ⟨hok, hmm, _⟩ := askV_zero c0
      have hmm := of_decide_eq_true hmm
      have hbk := okAll_ok hok
      have hsq := sq_le hbk.num
      have hwl : canL b m s = decide (s ∈ whs b m.toNat) := by unfold canL; rw [decide_eq_true c0]; rfl
      obtain ⟨v0, hv0⟩ := get_some (l := vs) (j := m.toNat) (by omega)
      obtain ⟨a0, rfl⟩ := hvs v0 (List.mem_of_getElem? hv0)
      obtain ⟨x, hx⟩ := get_some (l := WR b m.toNat) (j := s.toNat) (by rw [WR_len]; omega)
      have hxd := wr_at hbk.num (by omega) hmm.2.1 hx
      have hrd : ∀ (F : Nat → HP) (w' : World) (L : Nat → HP), L 904 = stars (pcsF (sq b) (WR b) 0 vs) → (∀ k ∈ [904], F k = L k) → St no w w' F [] → Rd w' (.slice a0 (sq b) (sq b)) (sq b) 1 ((WR b m.toNat).map Value.bool) := fun F w' L hL hF S => by
        have h1 := S.star_rd (k := 904) ((hF 904 (by simp)).trans hL) (pcsF_get (sq b) (WR b) _ 0 m.toNat _ hv0) (by omega)
        rw [Nat.zero_add] at h1; exact h1
      refine W.skip ?_
      refine W.seq (W.region S ?_)
      refine AS.cons (sp_move rfl ?_)
      refine AS.cons (sp_move (v := .int _ _) rfl ?_)
      refine AS.cons (sp_iaS 21 rfl rfl rfl sl_90_94_1 (by omega) ?_)
      refine AS.cons (sp_ldS 21 rfl rfl sc_94 (by rw [Nat.mul_one]; exact hv0) (by omega) ?_)
      refine AS.cons (sp_move (v := .int _ _) rfl ?_)
      refine AS.cons (sp_iaK [904] (fun F w' hF S => hrd F w' _ rfl hF S) rfl rfl sl_94_4_1 (by omega) ?_)
      refine AS.cons (sp_ldK [904] (fun F w' hF S => hrd F w' _ rfl hF S) rfl sc_4 (show ((WR b m.toNat).map Value.bool)[s.toNat * 1]? = some (.bool x) by simp [hx]) (by omega) ?_)
      refine AS.cons (sp_asg (v := .bool _) rfl ?_)
      refine AS.cons (sp_asg rfl ?_)
      refine AS.nil ?_
      intro _ S
      refine W.ret ?_
      first | exact ret2 rfl rfl rfl S fun w' S' => ⟨by rw [hwl]; rfl, S'.mod⟩ | exact ret2 rfl rfl rfl S fun w' S' => ⟨by rw [hwl, c0, ← hxd]; rfl, S'.mod⟩
  · skip
    refine AW.cons rfl rfl (sp_skip rfl ?_)
    refine AW.cons rfl rfl (sp_skip rfl ?_)
    refine AW.cons rfl rfl (sp_skip rfl ?_)
    refine AW.cons rfl rfl (sp_skip rfl ?_)
    refine AW.cons rfl rfl (sp_skip rfl ?_)
    refine AW.cons rfl rfl (sp_pick_f rfl (v := .bool _) rfl ?_)
    refine AW.cons rfl rfl (sp_call1s 21 904 [] _ (by decide) rfl rfl cf_77 (fun F w' _ S => askedR b la lc ca cc w' (hl.ext S.mod) (hC.ext S.mod) _) ?_ (fun _ => askRR_ne b _))
    rintro v21 i21 j21 ⟨o, rfl, hz⟩
    first | (have hp : askV b (decide (0 ≤ s ∧ s ≤ IntKind.i64.wrap (IntKind.i64.wrap (b.wide * b.high) - 1))) = askV b (decide (CanP b m s)) := askV_congr fun h => by (rw [hpt h]; exact decide_eq_decide.2 ⟨fun h => ⟨of_decide_eq_true g14, h⟩, fun h => h.2⟩)); rw [hp] at hz ⊢ | (have hp : askV b false = askV b (decide (CanP b m s)) := askV_congr fun h => (decide_eq_false (fun hh => by (rw [decide_eq_true hh.1] at g14; cases g14))).symm); rw [hp] at hz ⊢
    refine AW.cons rfl rfl (sp_move rfl ?_)
    refine AW.cons rfl rfl (sp_ext rfl rfl ?_)
    refine AW.cons rfl rfl (sp_ext rfl rfl ?_)
    refine AW.cons rfl rfl (sp_asg rfl ?_)
    refine AW.cons rfl rfl (sp_asg (v := .int _ _) rfl ?_)
    refine AW.nil ?_
    intro _ S
    refine W.seq (W.seq (W.region S ?_))
    refine AS.cons (sp_move (v := .int _ _) rfl ?_)
    refine AS.cons (sp_neq rfl rfl ?_)
    refine AS.nil ?_
    intro _ S
    refine W.condd rfl (fun c25 => ?_) (fun c25 => ?_)
    · skip
      have hwl : canL b m s = false := by unfold canL; rw [decide_eq_false c25]; rfl
      refine W.seq (W.region S ?_)
      refine AS.cons (sp_move (v := .int _ _) rfl ?_)
      refine AS.cons (sp_asg rfl ?_)
      refine AS.cons (sp_asg (v := .int _ _) rfl ?_)
      refine AS.nil ?_
      intro _ S
      refine W.ret ?_
      first | exact ret2 rfl rfl rfl S fun w' S' => ⟨by rw [hwl]; rfl, S'.mod⟩ | exact ret2 rfl rfl rfl S fun w' S' => ⟨by rw [hwl, c0, ← hxd]; rfl, S'.mod⟩
    · skip
      have c0 := Decidable.not_not.1 c25
      obtain ⟨a, c, vs, rfl, hvl, hvs, rfl, rfl⟩ := hz c0
      obtain ⟨hok, hmm, _⟩ := askV_zero c0
      have hmm := of_decide_eq_true hmm
      have hbk := okAll_ok hok
      have hsq := sq_le hbk.num
      have hwl : canL b m s = decide (s ∈ whs b m.toNat) := by unfold canL; rw [decide_eq_true c0]; rfl
      obtain ⟨v0, hv0⟩ := get_some (l := vs) (j := m.toNat) (by omega)
      obtain ⟨a0, rfl⟩ := hvs v0 (List.mem_of_getElem? hv0)
      obtain ⟨x, hx⟩ := get_some (l := WR b m.toNat) (j := s.toNat) (by rw [WR_len]; omega)
      have hxd := wr_at hbk.num (by omega) hmm.2.1 hx
      have hrd : ∀ (F : Nat → HP) (w' : World) (L : Nat → HP), L 904 = stars (pcsF (sq b) (WR b) 0 vs) → (∀ k ∈ [904], F k = L k) → St no w w' F [] → Rd w' (.slice a0 (sq b) (sq b)) (sq b) 1 ((WR b m.toNat).map Value.bool) := fun F w' L hL hF S => by
        have h1 := S.star_rd (k := 904) ((hF 904 (by simp)).trans hL) (pcsF_get (sq b) (WR b) _ 0 m.toNat _ hv0) (by omega)
        rw [Nat.zero_add] at h1; exact h1
      refine W.skip ?_
      refine W.seq (W.region S ?_)
      refine AS.cons (sp_move rfl ?_)
      refine AS.cons (sp_move (v := .int _ _) rfl ?_)
      refine AS.cons (sp_iaS 21 rfl rfl rfl sl_90_94_1 (by omega) ?_)
      refine AS.cons (sp_ldS 21 rfl rfl sc_94 (by rw [Nat.mul_one]; exact hv0) (by omega) ?_)
      refine AS.cons (sp_move (v := .int _ _) rfl ?_)
      refine AS.cons (sp_iaK [904] (fun F w' hF S => hrd F w' _ rfl hF S) rfl rfl sl_94_4_1 (by omega) ?_)
      refine AS.cons (sp_ldK [904] (fun F w' hF S => hrd F w' _ rfl hF S) rfl sc_4 (show ((WR b m.toNat).map Value.bool)[s.toNat * 1]? = some (.bool x) by simp [hx]) (by omega) ?_)
      refine AS.cons (sp_asg (v := .bool _) rfl ?_)
      refine AS.cons (sp_asg rfl ?_)
      refine AS.nil ?_
      intro _ S
      refine W.ret ?_
      first | exact ret2 rfl rfl rfl S fun w' S' => ⟨by rw [hwl]; rfl, S'.mod⟩ | exact ret2 rfl rfl rfl S fun w' S' => ⟨by rw [hwl, c0, ← hxd]; rfl, S'.mod⟩
theorem seenRR (k : Int) (w : World) (hl : Ints w la lc b.land) (hC : Cries w ca cc b.cries) : Ct Tryd.prog 16 #[.agg (bkL b la lc ca cc).toArray, iv k] w (fun u w' => ∃ i, ListR (seenL b k) (seenE b k) u i ∧ St no w w' (upd eL 0 i) []) := by
  refine fn_intro (args := [.agg (bkL b la lc ca cc).toArray, iv k]) Tryd.func16 rfl rfl (by kernel_rfl) ?_
  have S := St.start no w
  have hcn : b.cries.length ≤ 9223372036854775807 := hC.2.1
  refine W.seq (W.region S ?_)
  refine AS.cons (sp_boxa 2 rfl (fun b2 => ?_))
  refine AS.cons (sp_asg rfl ?_)
  refine AS.cons (sp_asg rfl ?_)
  refine AS.nil ?_
  intro _ S
  refine W.seq (W.seq (W.region S ?_))
  refine AS.cons (sp_ldw 2 rfl rfl ag_26_7 ?_)
  refine AS.cons (sp_call [] rfl rfl cf_19 (fun F w _ S => checkR _ _ _ _ _ w (hl.ext S.mod) (hC.ext S.mod)) ?_)
  refine AS.cons (sp_asg (v := .int _ _) rfl ?_)
  refine AS.nil ?_
  intro _ S
  refine W.seq (W.region S ?_)
  refine AS.cons (sp_move (v := .int _ _) rfl ?_)
  refine AS.cons (sp_neq rfl rfl ?_)
  refine AS.nil ?_
  intro _ S
  refine W.condd rfl (fun c12 => ?_) (fun c12 => ?_)
  · skip
    have hv : seenE b k = chkV b := by unfold seenE chkV; rw [chk_no c12]; rfl
    have hwl : seenL b k = [] := by unfold seenL; rw [hv, if_neg c12]
    refine W.seq (W.region S ?_)
    refine AS.cons (sp_move (v := .int _ _) rfl ?_)
    refine AS.cons (sp_asg rfl ?_)
    refine AS.cons (sp_asg (v := .int _ _) rfl ?_)
    refine AS.nil ?_
    intro _ S
    refine W.ret ?_
    first | exact ret2 rfl rfl rfl S fun w' S' => ⟨_, ⟨none, 0, by rw [hwl]; exact Nat.le_refl _, by rw [hwl, hv]; rfl, by rw [hwl]; rfl⟩, St.noneS S'⟩ | exact ret2 rfl rfl rfl S fun w' S' => let ⟨_, a1, c1, hv1, hv2, _⟩ := S'.slc_form (k := 901) rfl; ⟨_, ⟨a1, c1, by rw [hwl]; exact hv2, by rw [hwl, hv, ← hv1]; rfl, by rw [hwl, ← hv1]; rfl⟩, S'.only 901⟩
  · skip
    have hok := chk_ok c12
    have hbk := okAll_ok hok
    have hb := hbk.num
    have hsq := sq_le hb
    have hll := hbk.ll
    refine W.skip ?_
    refine W.seq (W.seq (W.region S ?_))
    refine AS.cons (sp_move (v := .int _ _) rfl ?_)
    refine AS.cons (sp_fa rfl fo_26_5_6 ?_)
    refine AS.cons (sp_ld 2 rfl rfl sc_24 rfl ?_)
    refine AS.cons (sp_len rfl sl_24_46_7 ?_)
    refine AS.cons (sp_sub rfl rfl (by first | omega | (simp only [decide_eq_true_eq, decide_eq_false_iff_not] at *; omega)) ?_)
    refine AS.cons (sp_call [] rfl rfl cf_44 (fun F w _ S => between _ _ _ w) ?_)
    refine AS.cons (sp_not rfl ?_)
    refine AS.nil ?_
    intro _ S
    refine W.cond rfl (fun c20 => ?_) (fun c20 => ?_)
    · skip
      have hv : seenE b k = 11 := by unfold seenE; rw [if_pos hok, if_neg (fun h => by rw [decide_eq_true h] at c20; cases c20)]
      have hwl : seenL b k = [] := by unfold seenL; rw [hv]; rfl
      refine W.seq (W.region S ?_)
      refine AS.cons (sp_asg rfl ?_)
      refine AS.cons (sp_asg rfl ?_)
      refine AS.nil ?_
      intro _ S
      refine W.ret ?_
      first | exact ret2 rfl rfl rfl S fun w' S' => ⟨_, ⟨none, 0, by rw [hwl]; exact Nat.le_refl _, by rw [hwl, hv]; rfl, by rw [hwl]; rfl⟩, St.noneS S'⟩ | exact ret2 rfl rfl rfl S fun w' S' => let ⟨_, a1, c1, hv1, hv2, _⟩ := S'.slc_form (k := 901) rfl; ⟨_, ⟨a1, c1, by rw [hwl]; exact hv2, by rw [hwl, hv, ← hv1]; rfl, by rw [hwl, ← hv1]; rfl⟩, S'.only 901⟩
    · skip
      have hkr : 0 ≤ k ∧ k ≤ (b.cries.length : Int) - 1 := by simpa using c20
      have hv : seenE b k = 0 := by unfold seenE; rw [if_pos hok, if_pos hkr]
      obtain ⟨c, hxc⟩ := get_some (l := b.cries) (j := k.toNat) (by omega)
      have hcr := hbk.cry c (List.mem_of_getElem? hxc)
      have hwl : seenL b k = seenU b c (sq b) := by unfold seenL; rw [if_pos hv, List.getD_eq_getElem?_getD, hxc]; rfl
      have hrc : rdL (b.cries.flatMap cyL) (k.toNat * 7 + 0) 7 = some (cyL c) := rdL_flat (f := cyL) (s := 7) (fun _ => rfl) hxc
      refine W.skip ?_
      refine W.seq (W.region S ?_)
      refine AS.cons (sp_asg rfl ?_)
      refine AS.nil ?_
      intro _ S
      refine W.seq (W.seq (W.region S ?_))
      refine AS.cons (sp_asg rfl ?_)
      refine AS.nil ?_
      intro _ S
      have S := (S.drop 901).weak (k := 901) (i := slc 3 1 nilS 0 []) (fun f hf => by rw [upd_same] at hf; exact slc_nil 3 1 f hf)
      refine W.block ?_
      refine W.loopS S [7, 8, 21, 22, 23, 24, 25, 26, 27, 28, 29, 30, 31, 32, 33, 34, 35, 36, 37, 38, 39, 40, 41, 42, 43, 44, 45] [44, 45, 901] (fun (z : Nat × Value) => [(8, iv z.1), (7, z.2)]) (fun z => [(901, slc 3 1 z.2 (seenU b c z.1).length ((seenU b c z.1).map iv))]) (fun z => z.1 ≤ sq b ∧ ∃ a d, z.2 = .slice a (seenU b c z.1).length d) (fun z => sq b - z.1) (0, nilS) ⟨by omega, none, 0, rfl⟩ ⟨rfl, rfl, trivial⟩ ⟨rfl, trivial⟩ ?_
      rintro ⟨j, v⟩ σ M w1 ⟨hj, a, d, hva⟩ S
      replace hj : j ≤ sq b := hj
      replace hva : v = .slice a (seenU b c j).length d := hva
      subst hva
      have htl := seenU_len b c j
      refine W.seq (W.seq (W.region S ?_))
      refine AS.cons (sp_move (v := .int _ _) rfl ?_)
      refine AS.cons (sp_ldw 2 rfl rfl ag_26_7 ?_)
      refine AS.cons (sp_call [] rfl rfl cf_66 (fun F w _ S => squaresN _ _ _ _ _ (by assumption) w) ?_)
      refine AS.cons (sp_lss rfl rfl ?_)
      refine AS.nil ?_
      intro _ S
      refine W.condd rfl (fun c24 => ?_) (fun c24 => ?_)
      · skip
        refine W.skip ?_
        refine W.seq (W.block ?_)
        refine W.seq (W.draw S mixed (fun i => ([KD.q [], KD.q [2], KD.q [], KD.e [] [], KD.q [], KD.q [], KD.q [2], KD.q [], KD.q [2], KD.q [], KD.q [], KD.q [], KD.q [], KD.e [] [], KD.q []] : List KD)[i]?) [5] [0, 1, 2, 3, 4, 5, 6, 7, 8, 9, 10, 11, 12, 13, 14] (by kernel_rfl) ?_)
        refine AW.cons rfl rfl (sp_fa rfl fo_26_2_2 ?_)
        refine AW.cons rfl rfl (sp_ld 2 rfl rfl sc_22 rfl ?_)
        refine AW.cons rfl rfl (sp_move (v := .int _ _) rfl ?_)
        refine AW.cons rfl rfl (sp_call [] rfl rfl cf_41 (fun F w _ S => place _ _ _ _ (by omega) w (hl.ext S.mod)) ?_)
        refine AW.cons rfl rfl (sp_lss rfl rfl ?_)
        refine AW.cons rfl rfl (sp_move (v := .bool _) rfl ?_)
        refine AW.split 32 rfl (fun g32 => ?_) (fun g32 => ?_)
        · skip
          refine AW.cons rfl rfl (sp_ldw 2 rfl rfl ag_26_7 ?_)
          refine AW.cons rfl rfl (sp_fa rfl fo_26_5_6 ?_)
          refine AW.cons rfl rfl (sp_ld 2 rfl rfl sc_24 rfl ?_)
          refine AW.cons rfl rfl (sp_move (v := .int _ _) rfl ?_)
          refine AW.cons rfl rfl (sp_iaR hC rfl rfl sl_24_46_7 (by first | omega | (simp only [decide_eq_true_eq, decide_eq_false_iff_not] at *; omega)) ?_)
          refine AW.cons rfl rfl (sp_ldaR 0 hC (fun _ h => h) rfl ag_46_7 (hrc) (by first | omega | (simp only [decide_eq_true_eq, decide_eq_false_iff_not] at *; omega)) ?_)
          refine AW.cons rfl rfl (sp_move (v := .int _ _) rfl ?_)
          refine AW.cons rfl rfl (sp_call [] rfl rfl cf_67 (fun F w _ S => betweenR _ _ _ _ _ hb c hcr _ (by omega) w) ?_)
          refine AW.cons rfl rfl (sp_pick_t rfl (v := .bool _) rfl ?_)
          refine AW.nil ?_
          intro _ S
          refine W.cond rfl (fun c41 => ?_) (fun c41 => ?_)
          · skip
            have hw : seenU b c (j + 1) = seenU b c j ++ [(j : Int)] := by rw [seenU_succ, if_pos ⟨(ix_lt _ _).1 (of_decide_eq_true g32), of_decide_eq_true c41⟩]
            refine W.region S ?_
            refine AS.cons (sp_move rfl ?_)
            refine AS.cons (sp_move (v := .int _ _) rfl ?_)
            refine AS.cons (sp_bs 44 [.tmp 43] _ sl_22_3_1 zs_3_1 rfl rfl rfl rfl rfl rfl (fun b44 => ?_))
            refine AS.cons (sp_app 901 [44] rfl rfl sl_22_3_1 zs_3_1 rfl (fun F w hF S => rd_pt (S.get ((hF 44 (by simp)).trans rfl)).1 rfl (by omega) (by omega)) rfl (by first | omega | (simp only [decide_eq_true_eq] at *; omega)) (fun a45 c45 => ?_))
            refine AS.cons (sp_asg rfl ?_)
            refine AS.nil ?_
            intro _ S
            refine W.region S ?_
            refine AS.cons (sp_move (v := .int _ _) rfl ?_)
            refine AS.cons (sp_add rfl rfl (by first | omega | (simp only [decide_eq_true_eq, decide_eq_false_iff_not] at *; omega)) ?_)
            refine AS.cons (sp_asg (v := .int _ _) rfl ?_)
            refine AS.nil ?_
            intro _ S
            first | exact ⟨(j + 1, .slice a45 ((seenU b c j).length + 1) c45), _, ⟨by show j + 1 ≤ sq b; omega, a45, c45, by show _ = Value.slice a45 (seenU b c (j + 1)).length c45; rw [hw, List.length_append]; rfl⟩, by show sq b - (j + 1) < sq b - j; omega, ⟨by simp [upd], rfl, trivial⟩, ⟨by show slc 3 1 _ _ _ = slc 3 1 _ _ _; rw [hw, List.length_append, List.map_append]; rfl, trivial⟩, by repeat (first | exact Agr.refl _ _ | exact Agr.msk _ _ _ | refine Agr.upd ?_ _ rfl | refine Agr.upds ?_ rfl | refine Agr.mskIn ?_ rfl), by repeat (first | exact Agr.refl _ _ | exact Agr.msk _ _ _ | refine Agr.upd ?_ _ rfl | refine Agr.upds ?_ rfl | refine Agr.mskIn ?_ rfl), rfl, S⟩ | exact ⟨(j + 1, .slice a (seenU b c j).length d), _, ⟨by show j + 1 ≤ sq b; omega, a, d, by rw [hw]⟩, by show sq b - (j + 1) < sq b - j; omega, ⟨by simp [upd], rfl, trivial⟩, ⟨by show slc 3 1 _ _ _ = slc 3 1 _ _ _; rw [hw], trivial⟩, by repeat (first | exact Agr.refl _ _ | exact Agr.msk _ _ _ | refine Agr.upd ?_ _ rfl | refine Agr.upds ?_ rfl | refine Agr.mskIn ?_ rfl), by repeat (first | exact Agr.refl _ _ | exact Agr.msk _ _ _ | refine Agr.upd ?_ _ rfl | refine Agr.upds ?_ rfl | refine Agr.mskIn ?_ rfl), rfl, S⟩ | (have hw : seenU b c (j + 1) = seenU b c j := by (rw [seenU_succ, if_neg (fun h => of_decide_eq_false g32 ((ix_lt _ _).2 h.1))])); exact ⟨(j + 1, .slice a (seenU b c j).length d), _, ⟨by show j + 1 ≤ sq b; omega, a, d, by rw [hw]⟩, by show sq b - (j + 1) < sq b - j; omega, ⟨by simp [upd], rfl, trivial⟩, ⟨by show slc 3 1 _ _ _ = slc 3 1 _ _ _; rw [hw], trivial⟩, by repeat (first | exact Agr.refl _ _ | exact Agr.msk _ _ _ | refine Agr.upd ?_ _ rfl | refine Agr.upds ?_ rfl | refine Agr.mskIn ?_ rfl), by repeat (first | exact Agr.refl _ _ | exact Agr.msk _ _ _ | refine Agr.upd ?_ _ rfl | refine Agr.upds ?_ rfl | refine Agr.mskIn ?_ rfl), rfl, S⟩
          · skip
            have hw : seenU b c (j + 1) = seenU b c j := by rw [seenU_succ, if_neg (fun h => of_decide_eq_false c41 h.2)]
            refine W.skip ?_
            refine W.region S ?_
            refine AS.cons (sp_move (v := .int _ _) rfl ?_)
            refine AS.cons (sp_add rfl rfl (by first | omega | (simp only [decide_eq_true_eq, decide_eq_false_iff_not] at *; omega)) ?_)
            refine AS.cons (sp_asg (v := .int _ _) rfl ?_)
            refine AS.nil ?_
            intro _ S
            first | exact ⟨(j + 1, .slice a45 ((seenU b c j).length + 1) c45), _, ⟨by show j + 1 ≤ sq b; omega, a45, c45, by show _ = Value.slice a45 (seenU b c (j + 1)).length c45; rw [hw, List.length_append]; rfl⟩, by show sq b - (j + 1) < sq b - j; omega, ⟨by simp [upd], rfl, trivial⟩, ⟨by show slc 3 1 _ _ _ = slc 3 1 _ _ _; rw [hw, List.length_append, List.map_append]; rfl, trivial⟩, by repeat (first | exact Agr.refl _ _ | exact Agr.msk _ _ _ | refine Agr.upd ?_ _ rfl | refine Agr.upds ?_ rfl | refine Agr.mskIn ?_ rfl), by repeat (first | exact Agr.refl _ _ | exact Agr.msk _ _ _ | refine Agr.upd ?_ _ rfl | refine Agr.upds ?_ rfl | refine Agr.mskIn ?_ rfl), rfl, S⟩ | exact ⟨(j + 1, .slice a (seenU b c j).length d), _, ⟨by show j + 1 ≤ sq b; omega, a, d, by rw [hw]⟩, by show sq b - (j + 1) < sq b - j; omega, ⟨by simp [upd], rfl, trivial⟩, ⟨by show slc 3 1 _ _ _ = slc 3 1 _ _ _; rw [hw], trivial⟩, by repeat (first | exact Agr.refl _ _ | exact Agr.msk _ _ _ | refine Agr.upd ?_ _ rfl | refine Agr.upds ?_ rfl | refine Agr.mskIn ?_ rfl), by repeat (first | exact Agr.refl _ _ | exact Agr.msk _ _ _ | refine Agr.upd ?_ _ rfl | refine Agr.upds ?_ rfl | refine Agr.mskIn ?_ rfl), rfl, S⟩ | (have hw : seenU b c (j + 1) = seenU b c j := by (rw [seenU_succ, if_neg (fun h => of_decide_eq_false g32 ((ix_lt _ _).2 h.1))])); exact ⟨(j + 1, .slice a (seenU b c j).length d), _, ⟨by show j + 1 ≤ sq b; omega, a, d, by rw [hw]⟩, by show sq b - (j + 1) < sq b - j; omega, ⟨by simp [upd], rfl, trivial⟩, ⟨by show slc 3 1 _ _ _ = slc 3 1 _ _ _; rw [hw], trivial⟩, by repeat (first | exact Agr.refl _ _ | exact Agr.msk _ _ _ | refine Agr.upd ?_ _ rfl | refine Agr.upds ?_ rfl | refine Agr.mskIn ?_ rfl), by repeat (first | exact Agr.refl _ _ | exact Agr.msk _ _ _ | refine Agr.upd ?_ _ rfl | refine Agr.upds ?_ rfl | refine Agr.mskIn ?_ rfl), rfl, S⟩
        · skip
          refine AW.cons rfl rfl (sp_skip rfl ?_)
          refine AW.cons rfl rfl (sp_skip rfl ?_)
          refine AW.cons rfl rfl (sp_skip rfl ?_)
          refine AW.cons rfl rfl (sp_skip rfl ?_)
          refine AW.cons rfl rfl (sp_skip rfl ?_)
          refine AW.cons rfl rfl (sp_skip rfl ?_)
          refine AW.cons rfl rfl (sp_skip rfl ?_)
          refine AW.cons rfl rfl (sp_skip rfl ?_)
          refine AW.cons rfl rfl (sp_pick_f rfl (v := .bool _) rfl ?_)
          refine AW.nil ?_
          intro _ S
          refine W.cond (b := false) rfl (fun h => nomatch h) (fun _ => ?_)
          refine W.skip ?_
          refine W.region S ?_
          refine AS.cons (sp_move (v := .int _ _) rfl ?_)
          refine AS.cons (sp_add rfl rfl (by first | omega | (simp only [decide_eq_true_eq, decide_eq_false_iff_not] at *; omega)) ?_)
          refine AS.cons (sp_asg (v := .int _ _) rfl ?_)
          refine AS.nil ?_
          intro _ S
          first | exact ⟨(j + 1, .slice a45 ((seenU b c j).length + 1) c45), _, ⟨by show j + 1 ≤ sq b; omega, a45, c45, by show _ = Value.slice a45 (seenU b c (j + 1)).length c45; rw [hw, List.length_append]; rfl⟩, by show sq b - (j + 1) < sq b - j; omega, ⟨by simp [upd], rfl, trivial⟩, ⟨by show slc 3 1 _ _ _ = slc 3 1 _ _ _; rw [hw, List.length_append, List.map_append]; rfl, trivial⟩, by repeat (first | exact Agr.refl _ _ | exact Agr.msk _ _ _ | refine Agr.upd ?_ _ rfl | refine Agr.upds ?_ rfl | refine Agr.mskIn ?_ rfl), by repeat (first | exact Agr.refl _ _ | exact Agr.msk _ _ _ | refine Agr.upd ?_ _ rfl | refine Agr.upds ?_ rfl | refine Agr.mskIn ?_ rfl), rfl, S⟩ | exact ⟨(j + 1, .slice a (seenU b c j).length d), _, ⟨by show j + 1 ≤ sq b; omega, a, d, by rw [hw]⟩, by show sq b - (j + 1) < sq b - j; omega, ⟨by simp [upd], rfl, trivial⟩, ⟨by show slc 3 1 _ _ _ = slc 3 1 _ _ _; rw [hw], trivial⟩, by repeat (first | exact Agr.refl _ _ | exact Agr.msk _ _ _ | refine Agr.upd ?_ _ rfl | refine Agr.upds ?_ rfl | refine Agr.mskIn ?_ rfl), by repeat (first | exact Agr.refl _ _ | exact Agr.msk _ _ _ | refine Agr.upd ?_ _ rfl | refine Agr.upds ?_ rfl | refine Agr.mskIn ?_ rfl), rfl, S⟩ | (have hw : seenU b c (j + 1) = seenU b c j := by (rw [seenU_succ, if_neg (fun h => of_decide_eq_false g32 ((ix_lt _ _).2 h.1))])); exact ⟨(j + 1, .slice a (seenU b c j).length d), _, ⟨by show j + 1 ≤ sq b; omega, a, d, by rw [hw]⟩, by show sq b - (j + 1) < sq b - j; omega, ⟨by simp [upd], rfl, trivial⟩, ⟨by show slc 3 1 _ _ _ = slc 3 1 _ _ _; rw [hw], trivial⟩, by repeat (first | exact Agr.refl _ _ | exact Agr.msk _ _ _ | refine Agr.upd ?_ _ rfl | refine Agr.upds ?_ rfl | refine Agr.mskIn ?_ rfl), by repeat (first | exact Agr.refl _ _ | exact Agr.msk _ _ _ | refine Agr.upd ?_ _ rfl | refine Agr.upds ?_ rfl | refine Agr.mskIn ?_ rfl), rfl, S⟩
      · skip
        obtain rfl : j = sq b := by omega
        refine W.exit ?_
        refine W.seq (W.region S ?_)
        refine AS.cons (sp_move rfl ?_)
        refine AS.cons (sp_asg rfl ?_)
        refine AS.cons (sp_asg rfl ?_)
        refine AS.nil ?_
        intro _ S
        refine W.ret ?_
        first | exact ret2 rfl rfl rfl S fun w' S' => ⟨_, ⟨none, 0, by rw [hwl]; exact Nat.le_refl _, by rw [hwl, hv]; rfl, by rw [hwl]; rfl⟩, St.noneS S'⟩ | exact ret2 rfl rfl rfl S fun w' S' => let ⟨_, a1, c1, hv1, hv2, _⟩ := S'.slc_form (k := 901) rfl; ⟨_, ⟨a1, c1, by rw [hwl]; exact hv2, by rw [hwl, hv, ← hv1]; rfl, by rw [hwl, ← hv1]; rfl⟩, S'.only 901⟩
end
end Go.Proofs.YtmpclgepoemneaaDoor

/-
  Seen.
-/
namespace Go.Proofs.YtmpclgepoemneaaDoor
set_option maxRecDepth 100000
open Go.Hu Go.RowKit
section
variable (b : Bk) (la : Option Addr) (lc : Nat) (ca : Option Addr) (cc : Nat) (mp : Nat)
theorem seenP (k : Int) (w : World) (hl : Ints w la lc b.land) (hC : Cries w ca cc b.cries) : Ct Tryd.prog 15 #[.agg (bkL b la lc ca cc).toArray, iv k] w (fun u w' => ∃ i, ListR (seenL b k) (seenE b k) u i ∧ St no w w' (upd eL 0 i) []) := by
  refine fn_intro (args := [.agg (bkL b la lc ca cc).toArray, iv k]) Tryd.func15 rfl rfl (by kernel_rfl) ?_
  have S := St.start no w
  have hcn : b.cries.length ≤ 9223372036854775807 := hC.2.1
  refine W.seq (W.region S ?_)
  refine AS.cons (sp_boxa 2 rfl (fun b2 => ?_))
  refine AS.cons (sp_boxs 3 rfl rfl (fun b3 => ?_))
  refine AS.cons (sp_asg rfl ?_)
  refine AS.cons (sp_asg rfl ?_)
  refine AS.nil ?_
  intro _ S
  refine W.seq (W.seq (W.region S ?_))
  refine AS.cons (sp_ldw 2 rfl rfl ag_26_7 ?_)
  refine AS.cons (sp_call [] rfl rfl cf_18 (fun F w _ S => check _ _ _ _ _ w (hl.ext S.mod) (hC.ext S.mod)) ?_)
  refine AS.cons (sp_asg (v := .int _ _) rfl ?_)
  refine AS.nil ?_
  intro _ S
  refine W.seq (W.region S ?_)
  refine AS.cons (sp_move (v := .int _ _) rfl ?_)
  refine AS.cons (sp_neq rfl rfl ?_)
  refine AS.nil ?_
  intro _ S
  refine W.condd rfl (fun c14 => ?_) (fun c14 => ?_)
  · skip
    have hv : seenE b k = chkV b := by unfold seenE chkV; rw [chk_no c14]; rfl
    have hwl : seenL b k = [] := by unfold seenL; rw [hv, if_neg c14]
    refine W.seq (W.region S ?_)
    refine AS.cons (sp_move (v := .int _ _) rfl ?_)
    refine AS.cons (sp_asg rfl ?_)
    refine AS.cons (sp_asg (v := .int _ _) rfl ?_)
    refine AS.nil ?_
    intro _ S
    refine W.ret ?_
    first | exact ret2 rfl rfl rfl S fun w' S' => ⟨_, ⟨none, 0, by rw [hwl]; exact Nat.le_refl _, by rw [hwl, hv]; rfl, by rw [hwl]; rfl⟩, St.noneS S'⟩ | exact ret2 rfl rfl rfl S fun w' S' => ⟨_, ⟨a, (seenU b c (sq b)).length, by rw [hwl]; exact Nat.le_refl _, by rw [hwl, hv]; rfl, by rw [hwl]⟩, St.capS S' 901 rfl⟩
  · skip
    have hok := chk_ok c14
    have hbk := okAll_ok hok
    have hb := hbk.num
    have hsq := sq_le hb
    have hll := hbk.ll
    refine W.skip ?_
    refine W.seq (W.seq (W.region S ?_))
    refine AS.cons (sp_ld 3 rfl rfl sc_3 rfl ?_)
    refine AS.cons (sp_fa rfl fo_26_5_6 ?_)
    refine AS.cons (sp_ld 2 rfl rfl sc_24 rfl ?_)
    refine AS.cons (sp_len rfl sl_24_46_7 ?_)
    refine AS.cons (sp_sub rfl rfl (by first | omega | (simp only [decide_eq_true_eq, decide_eq_false_iff_not] at *; omega)) ?_)
    refine AS.cons (sp_call [] rfl rfl cf_62 (fun F w _ S => within _ _ _ w) ?_)
    refine AS.cons (sp_not rfl ?_)
    refine AS.nil ?_
    intro _ S
    refine W.cond rfl (fun c22 => ?_) (fun c22 => ?_)
    · skip
      have hv : seenE b k = 11 := by unfold seenE; rw [if_pos hok, if_neg (fun h => by rw [decide_eq_true h] at c22; cases c22)]
      have hwl : seenL b k = [] := by unfold seenL; rw [hv]; rfl
      refine W.seq (W.region S ?_)
      refine AS.cons (sp_asg rfl ?_)
      refine AS.cons (sp_asg rfl ?_)
      refine AS.nil ?_
      intro _ S
      refine W.ret ?_
      first | exact ret2 rfl rfl rfl S fun w' S' => ⟨_, ⟨none, 0, by rw [hwl]; exact Nat.le_refl _, by rw [hwl, hv]; rfl, by rw [hwl]; rfl⟩, St.noneS S'⟩ | exact ret2 rfl rfl rfl S fun w' S' => ⟨_, ⟨a, (seenU b c (sq b)).length, by rw [hwl]; exact Nat.le_refl _, by rw [hwl, hv]; rfl, by rw [hwl]⟩, St.capS S' 901 rfl⟩
    · skip
      have hkr : 0 ≤ k ∧ k ≤ (b.cries.length : Int) - 1 := by simpa using c22
      have hv : seenE b k = 0 := by unfold seenE; rw [if_pos hok, if_pos hkr]
      obtain ⟨c, hxc⟩ := get_some (l := b.cries) (j := k.toNat) (by omega)
      have hcr := hbk.cry c (List.mem_of_getElem? hxc)
      have hwl : seenL b k = seenU b c (sq b) := by unfold seenL; rw [if_pos hv, List.getD_eq_getElem?_getD, hxc]; rfl
      have hrc : rdL (b.cries.flatMap cyL) (k.toNat * 7 + 0) 7 = some (cyL c) := rdL_flat (f := cyL) (s := 7) (fun _ => rfl) hxc
      refine W.skip ?_
      refine W.seq (W.region S ?_)
      refine AS.cons (sp_ldw 2 rfl rfl ag_26_7 ?_)
      refine AS.cons (sp_call1 24 [] _ rfl rfl cf_63 (fun F w _ S => opened _ _ _ _ _ (by assumption) (by omega) w (hl.ext S.mod)) ?_ (by simp))
      rintro v24 i24 ⟨mp, rfl, rfl⟩
      refine AS.cons (sp_alloc 7 zv_77 rfl (fun b7 => ?_))
      refine AS.cons (sp_st 7 rfl rfl rfl rfl sz_77_8 rfl rfl ?_)
      refine AS.nil ?_
      intro _ S
      refine W.seq (W.region S ?_)
      refine AS.cons (sp_alloc 8 zv_22 rfl (fun b8 => ?_))
      refine AS.nil ?_
      intro _ S
      refine W.seq (W.seq (W.region S ?_))
      refine AS.cons (sp_ldw 7 rfl rfl ag_77_8 ?_)
      refine AS.cons (sp_call1 26 [] _ rfl rfl cf_64 (fun F w _ S => water _ _ _ _ _ _ w) ?_ (by simp))
      rintro v26 i26 ⟨bb, rfl, rfl⟩
      refine AS.nil ?_
      intro _ S
      have S := (S.drop 901).weak (k := 901) (i := slc 3 1 nilS 0 []) (fun f hf => by rw [upd_same] at hf; exact slc_nil 3 1 f hf)
      have S := (S.fold (k := 8) (k' := 901) (by decide)).weak (k := 8) (i := fun f => ∃ x, OutC b8 (itL b c 0) x f) (fun f hf => by rw [upd_same] at hf; exact ⟨(none, 0), hf⟩)
      refine W.block ?_
      refine W.range 9001 9002 [8, 10, 39, 40, 901] (fun i => [(8, fun f => ∃ x, OutC b8 (itL b c i) x f)]) (waterIter b la lc ca cc mp hb bb) S rfl cf_98 (fun _ => rfl) ⟨rfl, trivial⟩ ⟨rfl, rfl, rfl⟩ (fun _ => rfl) (fun i M w1 S => ⟨(S.get (k := 26) rfl).1, mapAt S (k := 24) rfl⟩) ?_ ?_
      · rintro i j l M w1 hij S
        have hj := (wtr_mem (b := b)).1 (List.mem_of_getElem? hij)
        have hxy := sq_xy hb hj.1
        have hil := itL_len b c i
        obtain ⟨⟨a, d⟩, S⟩ := S.exP (k := 8) (p := OutC b8 (itL b c i)) rfl
        have S := S.unfold (k := 8) (k' := 901) (i := pt b8 (.cells [Value.slice a (itL b c i).length d].toArray 22 (0, 0))) (j := slc 3 1 (.slice a (itL b c i).length d) (itL b c i).length ((itL b c i).map iv)) (by decide) rfl
        refine W.seq (W.region S ?_)
        refine AS.cons (sp_asg (v := .int _ _) rfl ?_)
        refine AS.nil ?_
        intro _ S
        refine W.region S ?_
        refine AS.cons (sp_alloc 10 zv_82 rfl (fun b10 => ?_))
        refine AS.cons (sp_st 10 rfl rfl rfl rfl sz_82_2 rfl rfl ?_)
        refine AS.nil ?_
        intro _ S
        refine ⟨_, by repeat (first | exact Agr.refl _ _ | exact Agr.msk _ _ _ | refine Agr.upd ?_ _ rfl | refine Agr.upds ?_ rfl | refine Agr.mskIn ?_ rfl), rfl, S, fun r w3 S => ?_⟩
        refine W.block ?_
        refine W.seq (W.draw S mixed (fun i => ([KD.q [7], KD.q [], KD.q [2], KD.q [3], KD.q [], KD.q [], KD.q [10], KD.e [] []] : List KD)[i]?) [] [0, 1, 2, 3, 4, 5, 6, 7] (by kernel_rfl) ?_)
        refine AW.cons rfl rfl (sp_ldw 7 rfl rfl ag_77_8 ?_)
        refine AW.cons rfl rfl (sp_fa rfl fo_26_5_6 ?_)
        refine AW.cons rfl rfl (sp_ld 2 rfl rfl sc_24 rfl ?_)
        refine AW.cons rfl rfl (sp_ld 3 rfl rfl sc_3 rfl ?_)
        refine AW.cons rfl rfl (sp_iaR hC rfl rfl sl_24_46_7 (by first | omega | (simp only [decide_eq_true_eq, decide_eq_false_iff_not] at *; omega)) ?_)
        refine AW.cons rfl rfl (sp_ldaR 0 hC (fun _ h => h) rfl ag_46_7 (hrc) (by first | omega | (simp only [decide_eq_true_eq, decide_eq_false_iff_not] at *; omega)) ?_)
        refine AW.cons rfl rfl (sp_ldw 10 rfl rfl ag_82_2 ?_)
        refine AW.cons rfl rfl (sp_call [] rfl rfl cf_65 (fun F w _ S => betweenC _ _ _ _ _ _ (by assumption) _ (by assumption) _ _ (by omega) (by omega) w) ?_)
        refine AW.nil ?_
        intro _ S
        refine W.cond rfl (fun c36 => ?_) (fun c36 => ?_)
        · skip
          have hw : itL b c (i + 1) = itL b c i ++ [(j : Int)] := by rw [itL_succ hij, if_pos (of_decide_eq_true c36)]
          refine W.region S ?_
          refine AS.cons (sp_ld 8 (v := .slice a (itL b c i).length d) rfl rfl sc_22 rfl ?_)
          refine AS.cons (sp_move (v := .int _ _) rfl ?_)
          refine AS.cons (sp_bs 39 [.tmp 38] _ sl_22_3_1 zs_3_1 rfl rfl rfl rfl rfl rfl (fun b39 => ?_))
          refine AS.cons (sp_app 901 [39] rfl rfl sl_22_3_1 zs_3_1 rfl (fun F w hF S => rd_pt (S.get ((hF 39 (by simp)).trans rfl)).1 rfl (by omega) (by omega)) rfl (by first | omega | (simp only [decide_eq_true_eq, decide_eq_false_iff_not] at *; omega)) (fun a40 c40 => ?_))
          refine AS.cons (sp_sts 8 (v := .slice a40 ((itL b c i).length + 1) c40) sz_22_1 rfl rfl rfl rfl rfl (by simp) ?_)
          refine AS.nil ?_
          intro _ S
          first | (have S := (S.fold (k := 8) (k' := 901) (by decide)).weak (k := 8) (i := fun f => ∃ x, OutC b8 (itL b c (i + 1)) x f) (fun f hf => by rw [upd_same] at hf; exact ⟨(a40, c40), by unfold OutC; rw [hw, List.length_append, List.map_append]; exact hf⟩)); exact ⟨_, ⟨rfl, trivial⟩, by repeat (first | exact Agr.refl _ _ | exact Agr.msk _ _ _ | refine Agr.upd ?_ _ rfl | refine Agr.upds ?_ rfl | refine Agr.mskIn ?_ rfl), rfl, rfl, S⟩ | (have S := (S.fold (k := 8) (k' := 901) (by decide)).weak (k := 8) (i := fun f => ∃ x, OutC b8 (itL b c (i + 1)) x f) (fun f hf => by rw [upd_same] at hf; exact ⟨(a, d), by unfold OutC; rw [hw]; exact hf⟩)); exact ⟨_, ⟨rfl, trivial⟩, by repeat (first | exact Agr.refl _ _ | exact Agr.msk _ _ _ | refine Agr.upd ?_ _ rfl | refine Agr.upds ?_ rfl | refine Agr.mskIn ?_ rfl), rfl, rfl, S⟩
        · skip
          have hw : itL b c (i + 1) = itL b c i := by rw [itL_succ hij, if_neg (of_decide_eq_false c36)]
          refine W.skip ?_
          first | (have S := (S.fold (k := 8) (k' := 901) (by decide)).weak (k := 8) (i := fun f => ∃ x, OutC b8 (itL b c (i + 1)) x f) (fun f hf => by rw [upd_same] at hf; exact ⟨(a40, c40), by unfold OutC; rw [hw, List.length_append, List.map_append]; exact hf⟩)); exact ⟨_, ⟨rfl, trivial⟩, by repeat (first | exact Agr.refl _ _ | exact Agr.msk _ _ _ | refine Agr.upd ?_ _ rfl | refine Agr.upds ?_ rfl | refine Agr.mskIn ?_ rfl), rfl, rfl, S⟩ | (have S := (S.fold (k := 8) (k' := 901) (by decide)).weak (k := 8) (i := fun f => ∃ x, OutC b8 (itL b c (i + 1)) x f) (fun f hf => by rw [upd_same] at hf; exact ⟨(a, d), by unfold OutC; rw [hw]; exact hf⟩)); exact ⟨_, ⟨rfl, trivial⟩, by repeat (first | exact Agr.refl _ _ | exact Agr.msk _ _ _ | refine Agr.upd ?_ _ rfl | refine Agr.upds ?_ rfl | refine Agr.mskIn ?_ rfl), rfl, rfl, S⟩
      · intro dd M w2 S
        obtain ⟨⟨a, d⟩, S⟩ := S.exP (k := 8) (p := OutC b8 (itL b c (wtr b).length)) rfl
        have S := S.unfold (k := 8) (k' := 901) (i := pt b8 (.cells [Value.slice a (itL b c (wtr b).length).length d].toArray 22 (0, 0))) (j := slc 3 1 (.slice a (itL b c (wtr b).length).length d) (itL b c (wtr b).length).length ((itL b c (wtr b).length).map iv)) (by decide) rfl
        have hcap : (itL b c (wtr b).length).length ≤ d := by
          obtain ⟨_, a', c', he, hle, _⟩ := S.slc_form (k := 901) rfl
          injection he with _ _ h3
          omega
        rw [itL_all] at S hcap
        have hsl := seenU_len b c (sq b)
        refine W.seq (W.region S ?_)
        refine AS.cons (sp_ld 8 (v := .slice a (seenU b c (sq b)).length d) rfl rfl sc_22 rfl ?_)
        refine AS.cons (sp_ld 8 (v := .slice a (seenU b c (sq b)).length d) rfl rfl sc_22 rfl ?_)
        refine AS.cons (sp_len rfl sl_22_3_1 ?_)
        refine AS.cons (sp_ld 8 (v := .slice a (seenU b c (sq b)).length d) rfl rfl sc_22 rfl ?_)
        refine AS.cons (sp_len rfl sl_22_3_1 ?_)
        refine AS.cons (sp_sl3 rfl rfl rfl sl_22_3_1 (by first | omega | (simp only [decide_eq_true_eq, decide_eq_false_iff_not] at *; omega)) ?_)
        refine AS.cons (sp_asg rfl ?_)
        refine AS.cons (sp_asg rfl ?_)
        refine AS.nil ?_
        intro _ S
        refine W.ret ?_
        first | exact ret2 rfl rfl rfl S fun w' S' => ⟨_, ⟨none, 0, by rw [hwl]; exact Nat.le_refl _, by rw [hwl, hv]; rfl, by rw [hwl]; rfl⟩, St.noneS S'⟩ | exact ret2 rfl rfl rfl S fun w' S' => ⟨_, ⟨a, (seenU b c (sq b)).length, by rw [hwl]; exact Nat.le_refl _, by rw [hwl, hv]; rfl, by rw [hwl]⟩, St.capS S' 901 rfl⟩
end
end Go.Proofs.YtmpclgepoemneaaDoor

/-
  The same lists; the greatest of some numbers.
-/
namespace Go.Proofs.YtmpclgepoemneaaDoor
set_option maxRecDepth 100000
open Go.Hu Go.RowKit
section
theorem same (la : Option Addr) (lc : Nat) (l : List Int) (ma : Option Addr) (mc : Nat) (m : List Int) (w : World) (hl : Ints w la lc l) (hm : Ints w ma mc m) : Ct Tryd.prog 17 #[.slice la l.length lc, .slice ma m.length mc] w (fun u w' => u = .bool (decide (l = m)) ∧ Ext w w') := by
  refine fn_intro (args := [.slice la l.length lc, .slice ma m.length mc]) Tryd.func17 rfl rfl (by kernel_rfl) ?_
  have S := St.start no w
  have hln : l.length ≤ 9223372036854775807 := hl.2.1
  refine W.seq (W.region S ?_)
  refine AS.cons (sp_asg rfl ?_)
  refine AS.nil ?_
  intro _ S
  refine W.seq (W.region S ?_)
  refine AS.cons (sp_move rfl ?_)
  refine AS.cons (sp_len rfl sl_22_3_1 ?_)
  refine AS.cons (sp_move rfl ?_)
  refine AS.cons (sp_len rfl sl_22_3_1 ?_)
  refine AS.cons (sp_eql rfl rfl ?_)
  refine AS.cons (sp_asg (v := .bool _) rfl ?_)
  refine AS.nil ?_
  intro _ S
  refine W.seq (W.seq (W.region S ?_))
  refine AS.cons (sp_asg rfl ?_)
  refine AS.nil ?_
  intro _ S
  refine W.block ?_
  refine W.loopS S [5, 6, 12, 13, 14, 15, 16, 17, 18, 19, 20, 21, 22, 23, 24, 25, 26, 27, 28, 29] [] (fun (j : Nat) => [(6, iv j), (5, .bool (sameU l m j))]) (fun _ => []) (fun j => j ≤ l.length) (fun j => l.length - j) 0 (by omega) ⟨rfl, congrArg Value.bool (sameU_zero l m).symm, trivial⟩ trivial ?_
  rintro j σ M w1 hj S
  refine W.seq (W.seq (W.region S ?_))
  refine AS.cons (sp_move (v := .bool _) rfl ?_)
  refine AS.cons (sp_move (v := .bool _) rfl ?_)
  refine AS.split 13 rfl (fun g13 => ?_) (fun g13 => ?_)
  · skip
    refine AS.cons (sp_move (v := .int _ _) rfl ?_)
    refine AS.cons (sp_move rfl ?_)
    refine AS.cons (sp_len rfl sl_22_3_1 ?_)
    refine AS.cons (sp_lss rfl rfl ?_)
    refine AS.cons (sp_pick_t rfl (v := .bool _) rfl ?_)
    refine AS.nil ?_
    intro _ S
    refine W.cond rfl (fun c18 => ?_) (fun c18 => ?_)
    · skip
      have hlt : j < l.length := by have := of_decide_eq_true c18; omega
      have hlm := sameU_len g13
      obtain ⟨x, hx⟩ := get_some hlt
      obtain ⟨y, hy⟩ := get_some (l := m) (j := j) (by omega)
      refine W.skip ?_
      refine W.seq (W.block ?_)
      refine W.draw S mixed (fun i => ([KD.q [], KD.q [], KD.q [], KD.q [], KD.q [], KD.q [], KD.q [], KD.q [], KD.q [], KD.q []] : List KD)[i]?) [] [0, 1, 2, 3, 4, 5, 6, 7, 8, 9] (by kernel_rfl) ?_
      refine AW.cons rfl rfl (sp_move rfl ?_)
      refine AW.cons rfl rfl (sp_move (v := .int _ _) rfl ?_)
      refine AW.cons rfl rfl (sp_iaR hl rfl rfl sl_22_3_1 (by omega) ?_)
      refine AW.cons rfl rfl (sp_ldR 0 hl (fun _ h => h) rfl sc_3 (ints_at hx) (by omega) ?_)
      refine AW.cons rfl rfl (sp_move rfl ?_)
      refine AW.cons rfl rfl (sp_move (v := .int _ _) rfl ?_)
      refine AW.cons rfl rfl (sp_iaR hm rfl rfl sl_22_3_1 (by omega) ?_)
      refine AW.cons rfl rfl (sp_ldR 0 hm (fun _ h => h) rfl sc_3 (ints_at hy) (by omega) ?_)
      refine AW.cons rfl rfl (sp_eql rfl rfl ?_)
      refine AW.cons rfl rfl (sp_asg (v := .bool _) rfl ?_)
      refine AW.nil ?_
      intro _ S
      refine W.region S ?_
      refine AS.cons (sp_move (v := .int _ _) rfl ?_)
      refine AS.cons (sp_add rfl rfl (by first | omega | (simp only [decide_eq_true_eq, decide_eq_false_iff_not] at *; omega)) ?_)
      refine AS.cons (sp_asg (v := .int _ _) rfl ?_)
      refine AS.nil ?_
      intro _ S
      exact ⟨j + 1, _, by omega, by omega, ⟨by simp [upd], by show Value.bool _ = Value.bool _; rw [sameU_succ hx hy, g13]; rfl, trivial⟩, trivial, by repeat (first | exact Agr.refl _ _ | exact Agr.msk _ _ _ | refine Agr.upd ?_ _ rfl | refine Agr.upds ?_ rfl | refine Agr.mskIn ?_ rfl), by repeat (first | exact Agr.refl _ _ | exact Agr.msk _ _ _ | refine Agr.upd ?_ _ rfl | refine Agr.upds ?_ rfl | refine Agr.mskIn ?_ rfl), rfl, S⟩
    · skip
      refine W.exit ?_
      have hex : sameU l m j = decide (l = m) := by first | (rw [← sameU_all, show l.length = j by (have := of_decide_eq_false c18; omega)]; done) | (rw [← sameU_all, g13, sameU_down hj g13]; done)
      refine W.seq (W.region S ?_)
      refine AS.cons (sp_move (v := .bool _) rfl ?_)
      refine AS.cons (sp_asg (v := .bool _) rfl ?_)
      refine AS.nil ?_
      intro _ S
      refine W.ret ?_
      exact ret1 rfl rfl S fun w' S' => ⟨congrArg Value.bool hex, S'.mod⟩
  · skip
    refine AS.cons (sp_skip rfl ?_)
    refine AS.cons (sp_skip rfl ?_)
    refine AS.cons (sp_skip rfl ?_)
    refine AS.cons (sp_skip rfl ?_)
    refine AS.cons (sp_pick_f rfl (v := .bool _) rfl ?_)
    refine AS.nil ?_
    intro _ S
    refine W.cond (b := false) rfl (fun h => nomatch h) (fun _ => ?_)
    refine W.exit ?_
    have hex : sameU l m j = decide (l = m) := by first | (rw [← sameU_all, show l.length = j by (have := of_decide_eq_false c18; omega)]; done) | (rw [← sameU_all, g13, sameU_down hj g13]; done)
    refine W.seq (W.region S ?_)
    refine AS.cons (sp_move (v := .bool _) rfl ?_)
    refine AS.cons (sp_asg (v := .bool _) rfl ?_)
    refine AS.nil ?_
    intro _ S
    refine W.ret ?_
    exact ret1 rfl rfl S fun w' S' => ⟨congrArg Value.bool hex, S'.mod⟩
end
end Go.Proofs.YtmpclgepoemneaaDoor

/-
  How far the squares are apart.
-/
namespace Go.Proofs.YtmpclgepoemneaaDoor
set_option maxRecDepth 100000
open Go.Hu Go.RowKit
section
variable (b : Bk) (la : Option Addr) (lc : Nat) (ca : Option Addr) (cc : Nat) (mp : Nat)
theorem ints_of {l : List Int} {j : Nat} {x : Int} (hx : l[j]? = some x) : (l.map iv)[((j : Nat) : Int).toNat * 1]? = some (iv x) := by simp [hx]
theorem apartRR (m : Int) (w : World) (hl : Ints w la lc b.land) (hC : Cries w ca cc b.cries) : Ct Tryd.prog 27 #[.agg (bkL b la lc ca cc).toArray, iv m] w (fun u w' => u = .tuple #[iv (apartV b m), iv (askV b (decide (0 ≤ m ∧ m ≤ 30)))] ∧ Ext w w') := by
  refine fn_intro (args := [.agg (bkL b la lc ca cc).toArray, iv m]) Tryd.func27 rfl rfl (by kernel_rfl) ?_
  have S := St.start no w
  refine W.seq (W.region S ?_)
  refine AS.cons (sp_boxa 2 rfl (fun b2 => ?_))
  refine AS.cons (sp_asg rfl ?_)
  refine AS.cons (sp_asg rfl ?_)
  refine AS.nil ?_
  intro _ S
  refine W.seq (W.region S ?_)
  refine AS.cons (sp_ldw 2 rfl rfl ag_26_7 ?_)
  refine AS.cons (sp_move (v := .int _ _) rfl ?_)
  refine AS.cons (sp_call1 14 [] _ rfl rfl cf_23 (fun F w' hF S => whereRR b la lc ca cc m w' (hl.ext S.mod) (hC.ext S.mod)) ?_ (by simp))
  rintro v14 i14 ⟨a, c, hac, rfl, rfl⟩
  refine AS.cons (sp_move rfl ?_)
  refine AS.cons (sp_ext rfl rfl ?_)
  refine AS.cons (sp_ext rfl rfl ?_)
  refine AS.cons (sp_asg rfl ?_)
  refine AS.cons (sp_asg (v := .int _ _) rfl ?_)
  refine AS.nil ?_
  intro _ S
  refine W.seq (W.seq (W.region S ?_))
  refine AS.cons (sp_move (v := .int _ _) rfl ?_)
  refine AS.cons (sp_neq rfl rfl ?_)
  refine AS.nil ?_
  intro _ S
  refine W.condd rfl (fun c18 => ?_) (fun c18 => ?_)
  · skip
    have hv : apartV b m = 0 := by unfold apartV; rw [if_neg c18]
    refine W.seq (W.region S ?_)
    refine AS.cons (sp_move (v := .int _ _) rfl ?_)
    refine AS.cons (sp_asg rfl ?_)
    refine AS.cons (sp_asg (v := .int _ _) rfl ?_)
    refine AS.nil ?_
    intro _ S
    refine W.ret ?_
    first | exact ret2 rfl rfl rfl S fun w' S' => ⟨by rw [hv]; rfl, S'.mod⟩ | exact ret2 rfl rfl rfl S fun w' S' => ⟨by rw [hv, c0]; rfl, S'.mod⟩
  · skip
    have c0 := Decidable.not_not.1 c18
    obtain ⟨hok, hmm, _⟩ := askV_zero c0
    have hbk := okAll_ok hok
    have hw := hbk.num.1
    have hwl : whereL b m = whs b m.toNat := by unfold whereL; rw [if_pos c0]
    rw [hwl] at S hac
    rw [hwl]
    have hv : apartV b m = colA b (whs b m.toNat) (whs b m.toNat).length := by unfold apartV; rw [if_pos c0]
    have hlen : (whs b m.toNat).length ≤ 80 := whU_len b m.toNat 80
    obtain ⟨l, hll⟩ : ∃ l, whs b m.toNat = l := ⟨_, rfl⟩
    have hbd : ∀ n ∈ l, 0 ≤ n ∧ n < 80 := fun n hn => whs_bd (hll ▸ hn)
    rw [hll] at S hv hlen hac ⊢
    refine W.skip ?_
    refine W.seq (W.region S ?_)
    refine AS.cons (sp_asg rfl ?_)
    refine AS.nil ?_
    intro _ S
    refine W.seq (W.seq (W.region S ?_))
    refine AS.cons (sp_asg rfl ?_)
    refine AS.nil ?_
    intro _ S
    refine W.block ?_
    refine W.loopS S [8, 9, 10, 20, 21, 22, 23, 24, 25, 26, 27, 28, 29, 30, 31, 32, 33, 34, 35, 36, 37, 38, 39, 40, 41, 42, 43, 44, 45, 46, 47, 48, 49, 50, 51, 52, 53, 54, 55, 56, 57, 58, 59, 60, 61, 62, 63, 64] [] (fun (i : Nat) => [(9, iv i), (8, iv (colA b l i))]) (fun _ => []) (fun i => i ≤ l.length) (fun i => l.length - i) 0 (by omega) ⟨rfl, rfl, trivial⟩ trivial ?_
    rintro i σ M w1 hi S
    refine W.seq (W.seq (W.region S ?_))
    refine AS.cons (sp_move (v := .int _ _) rfl ?_)
    refine AS.cons (sp_move rfl ?_)
    refine AS.cons (sp_len rfl sl_22_3_1 ?_)
    refine AS.cons (sp_lss rfl rfl ?_)
    refine AS.nil ?_
    intro _ S
    refine W.condd rfl (fun c23 => ?_) (fun c23 => ?_)
    · skip
      have hin : i < l.length := by omega
      obtain ⟨x, hx⟩ := get_some hin
      have hxb := hbd x (List.mem_of_getElem? hx)
      have hxd := divB hxb.1 (show 0 < b.wide by omega)
      refine W.skip ?_
      refine W.seq (W.block ?_)
      refine W.seq (W.region S ?_)
      refine AS.cons (sp_asg rfl ?_)
      refine AS.nil ?_
      intro _ S
      refine W.block ?_
      refine W.loopS S [8, 10, 26, 27, 28, 29, 30, 31, 32, 33, 34, 35, 36, 37, 38, 39, 40, 41, 42, 43, 44, 45, 46, 47, 48, 49, 50, 51, 52, 53, 54, 55, 56, 57, 58, 59, 60, 61, 62, 63, 64] [] (fun (k : Nat) => [(10, iv k), (8, iv (rowA b l x (colA b l i) k))]) (fun _ => []) (fun k => k ≤ l.length) (fun k => l.length - k) 0 (by omega) ⟨rfl, rfl, trivial⟩ trivial ?_
      rintro k σ M w2 hk S
      refine W.seq (W.seq (W.region S ?_))
      refine AS.cons (sp_move (v := .int _ _) rfl ?_)
      refine AS.cons (sp_move rfl ?_)
      refine AS.cons (sp_len rfl sl_22_3_1 ?_)
      refine AS.cons (sp_lss rfl rfl ?_)
      refine AS.nil ?_
      intro _ S
      refine W.condd rfl (fun c29 => ?_) (fun c29 => ?_)
      · skip
        have hkn : k < l.length := by omega
        obtain ⟨y, hy⟩ := get_some hkn
        have hyb := hbd y (List.mem_of_getElem? hy)
        have hyd := divB hyb.1 (show 0 < b.wide by omega)
        refine W.skip ?_
        refine W.seq (W.block ?_)
        refine W.draw S mixed (fun i => ([KD.q [], KD.q [], KD.q [], KD.q [14], KD.q [14], KD.q [], KD.q [2], KD.q [], KD.q [], KD.q [], KD.q [14], KD.q [14], KD.q [], KD.q [2], KD.q [], KD.q [], KD.q [], KD.q [], KD.q [14], KD.q [14], KD.q [], KD.q [2], KD.q [], KD.q [], KD.q [], KD.q [14], KD.q [14], KD.q [], KD.q [2], KD.q [], KD.q [], KD.q [], KD.q [], KD.q []] : List KD)[i]?) [] [0, 1, 2, 3, 4, 5, 6, 7, 8, 9, 10, 11, 12, 13, 14, 15, 16, 17, 18, 19, 20, 21, 22, 23, 24, 25, 26, 27, 28, 29, 30, 31, 32, 33] (by kernel_rfl) ?_
        refine AW.cons rfl rfl (sp_move (v := .int _ _) rfl ?_)
        refine AW.cons rfl rfl (sp_move rfl ?_)
        refine AW.cons rfl rfl (sp_move (v := .int _ _) rfl ?_)
        refine AW.cons rfl rfl (sp_iaS 14 rfl rfl rfl sl_22_3_1 (by omega) ?_)
        refine AW.cons rfl rfl (sp_ldS 14 rfl rfl sc_3 (ints_of hx) (by omega) ?_)
        refine AW.cons rfl rfl (sp_fa rfl fo_26_0_0 ?_)
        refine AW.cons rfl rfl (sp_ld 2 rfl rfl sc_3 rfl ?_)
        refine AW.cons rfl rfl (sp_rem rfl rfl (by first | omega | (simp only [decide_eq_true_eq, decide_eq_false_iff_not] at *; omega)) (by first | omega | (simp only [decide_eq_true_eq, decide_eq_false_iff_not] at *; omega)) ?_)
        refine AW.cons rfl rfl (sp_move rfl ?_)
        refine AW.cons rfl rfl (sp_move (v := .int _ _) rfl ?_)
        refine AW.cons rfl rfl (sp_iaS 14 rfl rfl rfl sl_22_3_1 (by omega) ?_)
        refine AW.cons rfl rfl (sp_ldS 14 rfl rfl sc_3 (ints_of hy) (by omega) ?_)
        refine AW.cons rfl rfl (sp_fa rfl fo_26_0_0 ?_)
        refine AW.cons rfl rfl (sp_ld 2 rfl rfl sc_3 rfl ?_)
        refine AW.cons rfl rfl (sp_rem rfl rfl (by first | omega | (simp only [decide_eq_true_eq, decide_eq_false_iff_not] at *; omega)) (by first | omega | (simp only [decide_eq_true_eq, decide_eq_false_iff_not] at *; omega)) ?_)
        refine AW.cons rfl rfl (sp_sub rfl rfl (by first | omega | (simp only [decide_eq_true_eq, decide_eq_false_iff_not] at *; omega)) ?_)
        refine AW.cons rfl rfl (sp_move rfl ?_)
        refine AW.cons rfl rfl (sp_move (v := .int _ _) rfl ?_)
        refine AW.cons rfl rfl (sp_iaS 14 rfl rfl rfl sl_22_3_1 (by omega) ?_)
        refine AW.cons rfl rfl (sp_ldS 14 rfl rfl sc_3 (ints_of hx) (by omega) ?_)
        refine AW.cons rfl rfl (sp_fa rfl fo_26_0_0 ?_)
        refine AW.cons rfl rfl (sp_ld 2 rfl rfl sc_3 rfl ?_)
        refine AW.cons rfl rfl (sp_quo rfl rfl (by first | omega | (simp only [decide_eq_true_eq, decide_eq_false_iff_not] at *; omega)) (by first | omega | (simp only [decide_eq_true_eq, decide_eq_false_iff_not] at *; omega)) ?_)
        refine AW.cons rfl rfl (sp_move rfl ?_)
        refine AW.cons rfl rfl (sp_move (v := .int _ _) rfl ?_)
        refine AW.cons rfl rfl (sp_iaS 14 rfl rfl rfl sl_22_3_1 (by omega) ?_)
        refine AW.cons rfl rfl (sp_ldS 14 rfl rfl sc_3 (ints_of hy) (by omega) ?_)
        refine AW.cons rfl rfl (sp_fa rfl fo_26_0_0 ?_)
        refine AW.cons rfl rfl (sp_ld 2 rfl rfl sc_3 rfl ?_)
        refine AW.cons rfl rfl (sp_quo rfl rfl (by first | omega | (simp only [decide_eq_true_eq, decide_eq_false_iff_not] at *; omega)) (by first | omega | (simp only [decide_eq_true_eq, decide_eq_false_iff_not] at *; omega)) ?_)
        refine AW.cons rfl rfl (sp_sub rfl rfl (by first | omega | (simp only [decide_eq_true_eq, decide_eq_false_iff_not] at *; omega)) ?_)
        refine AW.cons rfl rfl (sp_max rfl rfl ?_)
        refine AW.cons rfl rfl (sp_max rfl rfl ?_)
        refine AW.cons rfl rfl (sp_asg (v := .int _ _) rfl ?_)
        refine AW.nil ?_
        intro _ S
        refine W.region S ?_
        refine AS.cons (sp_move (v := .int _ _) rfl ?_)
        refine AS.cons (sp_add rfl rfl (by first | omega | (simp only [decide_eq_true_eq, decide_eq_false_iff_not] at *; omega)) ?_)
        refine AS.cons (sp_asg (v := .int _ _) rfl ?_)
        refine AS.nil ?_
        intro _ S
        exact ⟨k + 1, _, by omega, by omega, ⟨by simp [upd], congrArg iv (rowA_succ hy).symm, trivial⟩, trivial, by repeat (first | exact Agr.refl _ _ | exact Agr.msk _ _ _ | refine Agr.upd ?_ _ rfl | refine Agr.upds ?_ rfl | refine Agr.mskIn ?_ rfl), by repeat (first | exact Agr.refl _ _ | exact Agr.msk _ _ _ | refine Agr.upd ?_ _ rfl | refine Agr.upds ?_ rfl | refine Agr.mskIn ?_ rfl), rfl, S⟩
      · skip
        obtain rfl : k = l.length := by omega
        refine W.exit ?_
        refine W.region S ?_
        refine AS.cons (sp_move (v := .int _ _) rfl ?_)
        refine AS.cons (sp_add rfl rfl (by first | omega | (simp only [decide_eq_true_eq, decide_eq_false_iff_not] at *; omega)) ?_)
        refine AS.cons (sp_asg (v := .int _ _) rfl ?_)
        refine AS.nil ?_
        intro _ S
        exact ⟨i + 1, _, by omega, by omega, ⟨by simp [upd], congrArg iv (colA_succ hx).symm, trivial⟩, trivial, by repeat (first | exact Agr.refl _ _ | exact Agr.msk _ _ _ | refine Agr.upd ?_ _ rfl | refine Agr.upds ?_ rfl | refine Agr.mskIn ?_ rfl), by repeat (first | exact Agr.refl _ _ | exact Agr.msk _ _ _ | refine Agr.upd ?_ _ rfl | refine Agr.upds ?_ rfl | refine Agr.mskIn ?_ rfl), rfl, S⟩
    · skip
      obtain rfl : i = l.length := by omega
      refine W.exit ?_
      refine W.seq (W.region S ?_)
      refine AS.cons (sp_move (v := .int _ _) rfl ?_)
      refine AS.cons (sp_asg (v := .int _ _) rfl ?_)
      refine AS.cons (sp_asg rfl ?_)
      refine AS.nil ?_
      intro _ S
      refine W.ret ?_
      first | exact ret2 rfl rfl rfl S fun w' S' => ⟨by rw [hv]; rfl, S'.mod⟩ | exact ret2 rfl rfl rfl S fun w' S' => ⟨by rw [hv, c0]; rfl, S'.mod⟩
end
end Go.Proofs.YtmpclgepoemneaaDoor
