/-
  Lemmas of this proof, several texts one behind the other; no condition beyond what each says.
-/
import Derived.Test.YtajocmkgdjcmkaaDoorMf
namespace Go.Proofs.YtajocmkgdjcmkaaDoor
open Go.Hu
theorem ar_58_2_3_1 : arB Tryd.prog 58 2 3 1 = true := by kernel_rfl
theorem cf_36 : cfB Tryd.prog 36 = true := by kernel_rfl
theorem cf_47 : cfB Tryd.prog 47 = true := by kernel_rfl
end Go.Proofs.YtajocmkgdjcmkaaDoor
/-
  The law of the lot that is drawn again.
-/
namespace Go.Proofs.YtajocmkgdjcmkaaDoor
set_option maxRecDepth 100000
open Go.Hu Go.RowKit
section
variable (b : Sb) (ha : Option Addr) (hc : Nat) (da : Option Addr) (dc : Nat)
theorem sd_next {b : Sb} {but : List Int} {i : Nat} (hf : fitB b but (b.s0 + i) = true) : ∀ {n : Nat}, i < n → (sdU b but n)[(sdU b but i).length]? = some (b.s0 + (i : Int))
  | 0, h => by omega
  | n + 1, h => by
    rw [sdU_succ]
    rcases Nat.lt_or_ge i n with hlt | hge
    · have ih := sd_next hf hlt
      split
      · rw [List.getElem?_append_left (List.getElem?_eq_some_iff.1 ih).1]; exact ih
      · exact ih
    · obtain rfl : n = i := by omega
      rw [if_pos hf, List.getElem?_append_right (Nat.le_refl _), Nat.sub_self]; rfl
theorem fitA {b : Sb} (hb : Good b) {s : Int} {j : Nat} {x y : Int} (hx : b.dr[j]? = some x) (hy : (ord b s)[j]? = some y) : fitU b [] s (j + 1) = (fitU b [] s j && (decide (x < 0) || decide (x = y))) := by
  have hn := hb.dn x (List.mem_of_getElem? hx)
  have h0 := ord_mem (List.mem_of_getElem? hy)
  rw [fitU_succ, List.getD_eq_getElem?_getD, hx, List.getD_eq_getElem?_getD, hy]
  congr 1
  have e1 : decide ((j : Int) ∈ ([] : List Int)) = false := decide_eq_false (by simp)
  rw [e1, Bool.false_or]
  show (decide (x = -1) || decide (y = x)) = _
  by_cases h : x = -1
  · subst h; simp
  · rw [decide_eq_false h, decide_eq_false (show ¬ x < 0 by omega), Bool.false_or, Bool.false_or]
    exact decide_eq_decide.2 ⟨Eq.symm, Eq.symm⟩
set_option maxHeartbeats 8000000 in
theorem againL (w : World) (hK : Kinds w) (hH : Hos w ha hc b.hs) (hD : Ints w da dc b.dr) : Ct Tryd.prog 8 #[.agg (sbL b ha hc da dc).toArray] w (fun u w' => u = .bool true ∧ Ext w w') := by
  refine fn_intro (args := [.agg (sbL b ha hc da dc).toArray]) Tryd.func8 rfl rfl (by kernel_rfl) ?_
  have S := St.start no w
  refine W.seq (W.region S ?_)
  refine AS.cons (sp_boxa 1 rfl (fun b1 => ?_))
  refine AS.cons (sp_asg rfl ?_)
  refine AS.nil ?_
  intro _ S
  refine W.seq (W.seq (W.region S ?_))
  refine AS.cons (sp_ldw 1 rfl rfl ag_28_9 ?_)
  refine AS.cons (sp_call [] rfl rfl cf_35 (fun F w _ S => soundF _ _ _ _ _ w (hK.ext S.mod) (hH.ext S.mod) (hD.ext S.mod)) ?_)
  refine AS.cons (sp_not rfl ?_)
  refine AS.nil ?_
  intro _ S
  refine W.cond rfl (fun c15 => ?_) (fun c15 => ?_)
  · skip
    refine W.seq (W.region S ?_)
    refine AS.cons (sp_call [] rfl rfl cf_26 (fun F w _ S => drawn w (hK.ext S.mod)) ?_)
    refine AS.cons (sp_asg (v := .bool _) rfl ?_)
    refine AS.nil ?_
    intro _ S
    refine W.ret ?_
    exact ret1 rfl rfl S fun w' S' => ⟨rfl, S'.mod⟩
  · skip
    have hok : okS b = true := by cases e : okS b with | true => rfl | false => rw [e] at c15; exact absurd c15 (by decide)
    have hb := okS_good.1 hok
    have hO := hb.own
    have hn6 := hb.n6
    have ha60 := hb.a60
    have hda := hb.da
    have hd8 := hb.d8
    obtain ⟨⟨hs1, hs2⟩, hs3, hs4⟩ := hb.se
    have hol := ord_all hb
    have hl51 := sdL_51 hb []
    have hre : (!decide (sdL b [] = [])) = decide (((sdL b []).length : Int) > 0) := by
      cases e : sdL b [] with
      | nil => rfl
      | cons x l => simp
    obtain ⟨N, hN⟩ : ∃ N, N = sdN b := ⟨_, rfl⟩
    have hNe : (N : Int) = b.s1 - b.s0 + 1 := by rw [hN]; unfold sdN; omega
    have hsdN : sdL b [] = sdU b [] N := by rw [hN]; rfl
    refine W.skip ?_
    refine W.seq (W.region S ?_)
    refine AS.cons (sp_ldw 1 rfl rfl ag_28_9 ?_)
    refine AS.cons (sp_call1 19 [] _ rfl rfl cf_24 (fun F w _ S => seedsG _ _ _ _ _ (by assumption) w (hK.ext S.mod) (hH.ext S.mod) (hD.ext S.mod)) ?_ (by simp))
    rintro v19 i19 ⟨a19, c19, h19, rfl, rfl⟩
    refine AS.cons (sp_move rfl ?_)
    refine AS.cons (sp_ext rfl rfl ?_)
    refine AS.cons (sp_ext rfl rfl ?_)
    refine AS.cons (sp_asg rfl ?_)
    refine AS.cons (sp_asg (v := .int _ _) rfl ?_)
    refine AS.nil ?_
    intro _ S
    refine W.seq (W.region S ?_)
    refine AS.cons (sp_ldw 1 rfl rfl ag_28_9 ?_)
    refine AS.cons (sp_call [] rfl rfl cf_15 (fun F w _ S => rightG _ _ _ _ _ (by assumption) w (hK.ext S.mod) (hH.ext S.mod) (hD.ext S.mod)) ?_)
    refine AS.cons (sp_move rfl ?_)
    refine AS.cons (sp_ext rfl rfl ?_)
    refine AS.cons (sp_ext rfl rfl ?_)
    refine AS.cons (sp_asg (v := .bool _) rfl ?_)
    refine AS.cons (sp_asg (v := .int _ _) rfl ?_)
    refine AS.nil ?_
    intro _ S
    refine W.seq (W.seq (W.region S ?_))
    refine AS.cons (sp_move (v := .int _ _) rfl ?_)
    refine AS.cons (sp_neq rfl rfl ?_)
    refine AS.cons (sp_move (v := .bool _) rfl ?_)
    refine AS.split 29 rfl (fun g29 => ?_) (fun g29 => ?_)
    · exact absurd g29 (by decide)
    · skip
      refine AS.cons (sp_move (v := .int _ _) rfl ?_)
      refine AS.cons (sp_neq rfl rfl ?_)
      refine AS.cons (sp_pick_f rfl (v := .bool _) rfl ?_)
      refine AS.cons (sp_move (v := .bool _) rfl ?_)
      refine AS.split 33 rfl (fun g33 => ?_) (fun g33 => ?_)
      · exact absurd g33 (by decide)
      · skip
        refine AS.cons (sp_move (v := .bool _) rfl ?_)
        refine AS.cons (sp_move rfl ?_)
        refine AS.cons (sp_len rfl sl_26_3_1 ?_)
        refine AS.cons (sp_gtr rfl rfl ?_)
        refine AS.cons (sp_neqb rfl rfl bool_4 ?_)
        refine AS.cons (sp_pick_f rfl (v := .bool _) rfl ?_)
        refine AS.nil ?_
        intro _ S
        refine W.cond rfl (fun c39 => ?_) (fun c39 => ?_)
        · exact absurd (hre ▸ c39 : (decide (((sdL b []).length : Int) > 0) != decide (((sdL b []).length : Int) > 0)) = true) (by simp)
        · skip
          refine W.skip ?_
          refine W.seq (W.region S ?_)
          refine AS.cons (sp_asg rfl ?_)
          refine AS.nil ?_
          intro _ S
          refine W.seq (W.seq (W.region S ?_))
          refine AS.cons (sp_fa rfl fo_28_3_6 ?_)
          refine AS.cons (sp_fa rfl fo_25_0_0 ?_)
          refine AS.cons (sp_ld 1 rfl rfl sc_3 rfl ?_)
          refine AS.cons (sp_asg (v := .int _ _) rfl ?_)
          refine AS.nil ?_
          intro _ S
          refine W.block ?_
          refine W.loopS S [2, 7, 8, 9, 10, 11, 12, 43, 44, 45, 46, 47, 48, 49, 50, 51, 52, 53, 54, 55, 56, 57, 58, 59, 60, 61, 62, 63, 64, 65, 66, 67, 68, 69, 70, 71, 72, 73, 74, 75, 76, 77, 78, 79, 80, 81, 82, 83, 84, 85, 86, 87, 88, 89, 90, 91, 92, 93, 94, 95, 96, 97, 98, 99, 100, 101, 102, 103, 104, 105, 106, 107, 108, 109] [53] (fun (i : Nat) => [(8, iv (b.s0 + (i : Int))), (7, iv ((sdU b [] i).length : Int))]) (fun _ => []) (fun i => i ≤ N) (fun i => N - i) 0 (by omega) ⟨by show iv b.s0 = iv (b.s0 + ((0 : Nat) : Int)); congr 1; omega, rfl, trivial⟩ trivial ?_
          rintro i σ M w1 hi S
          have hul := sdU_len b [] i
          refine W.seq (W.seq (W.region S ?_))
          refine AS.cons (sp_move (v := .int _ _) rfl ?_)
          refine AS.cons (sp_fa rfl fo_28_3_6 ?_)
          refine AS.cons (sp_fa rfl fo_25_1_1 ?_)
          refine AS.cons (sp_ld 1 rfl rfl sc_3 rfl ?_)
          refine AS.cons (sp_leq rfl rfl ?_)
          refine AS.nil ?_
          intro _ S
          refine W.condd rfl (fun c47 => ?_) (fun c47 => ?_)
          · skip
            replace c47 : b.s0 + (i : Int) ≤ b.s1 := c47
            have hlt : i < N := by omega
            have hsb : 0 ≤ b.s0 + (i : Int) ∧ b.s0 + (i : Int) ≤ 9999 := by omega
            obtain ⟨s, hse⟩ : ∃ s, s = b.s0 + (i : Int) := ⟨_, rfl⟩
            have hols := hol s
            have hsu := sdU_succ b [] i
            rw [← hse] at hsu hsb
            have hcall : ∀ (w : World), Kinds w → Hos w ha hc b.hs → Ints w da dc b.dr → Ct Tryd.prog 22 #[.agg (sbL b ha hc da dc).toArray, iv (b.s0 + (i : Int))] w (fun u w' => ∃ i, LsE (ord b s) 0 u i ∧ St no w w' (upd eL 0 i) []) := fun w h1 h2 h3 => by rw [← hse]; exact orderG b ha hc da dc hb s hsb w h1 h2 h3
            refine W.skip ?_
            refine W.seq (W.block ?_)
            refine W.seq (W.region S ?_)
            refine AS.cons (sp_ldw 1 rfl rfl ag_28_9 ?_)
            refine AS.cons (sp_move (v := .int _ _) rfl ?_)
            refine AS.cons (sp_call1 53 [] _ rfl rfl cf_22 (fun F w _ S => hcall w (hK.ext S.mod) (hH.ext S.mod) (hD.ext S.mod)) ?_ (by simp))
            rintro v53 i53 ⟨a53, c53, h53, rfl, rfl⟩
            refine AS.cons (sp_move rfl ?_)
            refine AS.cons (sp_ext rfl rfl ?_)
            refine AS.cons (sp_ext rfl rfl ?_)
            refine AS.cons (sp_asg rfl ?_)
            refine AS.cons (sp_asg (v := .int _ _) rfl ?_)
            refine AS.nil ?_
            intro _ S
            refine W.seq (W.seq (W.region S ?_))
            refine AS.cons (sp_move (v := .int _ _) rfl ?_)
            refine AS.cons (sp_neq rfl rfl ?_)
            refine AS.cons (sp_move (v := .bool _) rfl ?_)
            refine AS.split 58 rfl (fun g58 => ?_) (fun g58 => ?_)
            · exact absurd g58 (by decide)
            · skip
              refine AS.cons (sp_move rfl ?_)
              refine AS.cons (sp_len rfl sl_26_3_1 ?_)
              refine AS.cons (sp_fa rfl fo_28_4_8 ?_)
              refine AS.cons (sp_ld 1 rfl rfl sc_26 rfl ?_)
              refine AS.cons (sp_len rfl sl_26_3_1 ?_)
              refine AS.cons (sp_lss rfl rfl ?_)
              refine AS.cons (sp_pick_f rfl (v := .bool _) rfl ?_)
              refine AS.nil ?_
              intro _ S
              refine W.cond rfl (fun c65 => ?_) (fun c65 => ?_)
              · exact absurd (of_decide_eq_true c65) (by omega)
              · skip
                refine W.skip ?_
                refine W.seq (W.region S ?_)
                refine AS.cons (sp_asg rfl ?_)
                refine AS.nil ?_
                intro _ S
                refine W.seq (W.seq (W.region S ?_))
                refine AS.cons (sp_asg rfl ?_)
                refine AS.nil ?_
                intro _ S
                refine W.block ?_
                refine W.loopS S [11, 12, 66, 67, 68, 69, 70, 71, 72, 73, 74, 75, 76, 77, 78, 79, 80, 81, 82, 83, 84, 85, 86, 87, 88, 89, 90, 91, 92, 93] [] (fun (j : Nat) => [(12, iv j), (11, .bool (fitU b [] s j))]) (fun _ => []) (fun j => j ≤ b.dr.length) (fun j => b.dr.length - j) 0 (by omega) ⟨rfl, rfl, trivial⟩ trivial ?_
                rintro j σ2 M2 w2 hj S
                refine W.seq (W.seq (W.region S ?_))
                refine AS.cons (sp_move (v := .int _ _) rfl ?_)
                refine AS.cons (sp_fa rfl fo_28_4_8 ?_)
                refine AS.cons (sp_ld 1 rfl rfl sc_26 rfl ?_)
                refine AS.cons (sp_len rfl sl_26_3_1 ?_)
                refine AS.cons (sp_lss rfl rfl ?_)
                refine AS.nil ?_
                intro _ S
                refine W.condd rfl (fun c70 => ?_) (fun c70 => ?_)
                · skip
                  have hltj : j < b.dr.length := by omega
                  obtain ⟨x, hx⟩ := get_some hltj
                  obtain ⟨y, hy⟩ := get_some (l := ord b s) (j := j) (by omega)
                  have hfs := fitA hb hx hy
                  refine W.skip ?_
                  refine W.seq (W.block ?_)
                  refine W.draw S mixed (fun i => ([KD.q [], KD.q [], KD.q [], KD.q [1], KD.q [], KD.q [], KD.q [], KD.q [], KD.q [], KD.q [], KD.q [1], KD.q [], KD.q [], KD.q [], KD.q [], KD.q [], KD.q [53], KD.q [53], KD.q [], KD.q [], KD.q [], KD.q []] : List KD)[i]?) [] [0, 1, 2, 3, 4, 5, 6, 7, 8, 9, 10, 11, 12, 13, 14, 15, 16, 17, 18, 19, 20, 21] (by kernel_rfl) ?_
                  refine AW.cons rfl rfl (sp_move (v := .bool _) rfl ?_)
                  refine AW.cons rfl rfl (sp_move (v := .bool _) rfl ?_)
                  refine AW.split 74 rfl (fun g74 => ?_) (fun g74 => ?_)
                  · skip
                    refine AW.cons rfl rfl (sp_fa rfl fo_28_4_8 ?_)
                    refine AW.cons rfl rfl (sp_ld 1 rfl rfl sc_26 rfl ?_)
                    refine AW.cons rfl rfl (sp_move (v := .int _ _) rfl ?_)
                    refine AW.cons rfl rfl (sp_iaR hD rfl rfl sl_26_3_1 (by first | omega | (simp only [decide_eq_true_eq, decide_eq_false_iff_not] at *; omega)) ?_)
                    refine AW.cons rfl rfl (sp_ldR 0 hD (fun _ h => h) rfl sc_3 (ints_at hx) (by first | omega | (simp only [decide_eq_true_eq, decide_eq_false_iff_not] at *; omega)) ?_)
                    refine AW.cons rfl rfl (sp_lss rfl rfl ?_)
                    refine AW.cons rfl rfl (sp_move (v := .bool _) rfl ?_)
                    refine AW.split 81 rfl (fun g81 => ?_) (fun g81 => ?_)
                    · skip
                      refine AW.cons rfl rfl (sp_skip rfl ?_)
                      refine AW.cons rfl rfl (sp_skip rfl ?_)
                      refine AW.cons rfl rfl (sp_skip rfl ?_)
                      refine AW.cons rfl rfl (sp_skip rfl ?_)
                      refine AW.cons rfl rfl (sp_skip rfl ?_)
                      refine AW.cons rfl rfl (sp_skip rfl ?_)
                      refine AW.cons rfl rfl (sp_skip rfl ?_)
                      refine AW.cons rfl rfl (sp_skip rfl ?_)
                      refine AW.cons rfl rfl (sp_skip rfl ?_)
                      refine AW.cons rfl rfl (sp_skip rfl ?_)
                      refine AW.cons rfl rfl (sp_pick_t rfl (v := .bool _) rfl ?_)
                      refine AW.cons rfl rfl (sp_pick_t rfl (v := .bool _) rfl ?_)
                      refine AW.cons rfl rfl (sp_asg (v := .bool _) rfl ?_)
                      refine AW.nil ?_
                      intro _ S
                      refine W.region S ?_
                      refine AS.cons (sp_move (v := .int _ _) rfl ?_)
                      refine AS.cons (sp_add rfl rfl (by first | omega | (simp only [decide_eq_true_eq, decide_eq_false_iff_not] at *; omega)) ?_)
                      refine AS.cons (sp_asg (v := .int _ _) rfl ?_)
                      refine AS.nil ?_
                      intro _ S
                      exact ⟨j + 1, _, by omega, by omega, ⟨by simp [upd], by show _ = Value.bool (fitU b [] s (j + 1)); rw [hfs]; first | (rw [show fitU b [] s j = true from g74, show decide (x < 0) = true from g81]; rfl) | (rw [show fitU b [] s j = true from g74, show decide (x < 0) = false from g81]; rfl) | (rw [show fitU b [] s j = false from g74]; rfl), trivial⟩, trivial, by repeat (first | exact Agr.refl _ _ | exact Agr.msk _ _ _ | refine Agr.upd ?_ _ rfl | refine Agr.upds ?_ rfl | refine Agr.mskIn ?_ rfl), by repeat (first | exact Agr.refl _ _ | exact Agr.msk _ _ _ | refine Agr.upd ?_ _ rfl | refine Agr.upds ?_ rfl | refine Agr.mskIn ?_ rfl), rfl, S⟩
                    · skip
                      refine AW.cons rfl rfl (sp_fa rfl fo_28_4_8 ?_)
                      refine AW.cons rfl rfl (sp_ld 1 rfl rfl sc_26 rfl ?_)
                      refine AW.cons rfl rfl (sp_move (v := .int _ _) rfl ?_)
                      refine AW.cons rfl rfl (sp_iaR hD rfl rfl sl_26_3_1 (by first | omega | (simp only [decide_eq_true_eq, decide_eq_false_iff_not] at *; omega)) ?_)
                      refine AW.cons rfl rfl (sp_ldR 0 hD (fun _ h => h) rfl sc_3 (ints_at hx) (by first | omega | (simp only [decide_eq_true_eq, decide_eq_false_iff_not] at *; omega)) ?_)
                      refine AW.cons rfl rfl (sp_move rfl ?_)
                      refine AW.cons rfl rfl (sp_move (v := .int _ _) rfl ?_)
                      refine AW.cons rfl rfl (sp_iaS 53 rfl rfl rfl sl_26_3_1 (by omega) ?_)
                      refine AW.cons rfl rfl (sp_ldS 53 rfl rfl sc_3 (v := iv y) (by simp [hy]) (by omega) ?_)
                      refine AW.cons rfl rfl (sp_eql rfl rfl ?_)
                      refine AW.cons rfl rfl (sp_pick_f rfl (v := .bool _) rfl ?_)
                      refine AW.cons rfl rfl (sp_pick_t rfl (v := .bool _) rfl ?_)
                      refine AW.cons rfl rfl (sp_asg (v := .bool _) rfl ?_)
                      refine AW.nil ?_
                      intro _ S
                      refine W.region S ?_
                      refine AS.cons (sp_move (v := .int _ _) rfl ?_)
                      refine AS.cons (sp_add rfl rfl (by first | omega | (simp only [decide_eq_true_eq, decide_eq_false_iff_not] at *; omega)) ?_)
                      refine AS.cons (sp_asg (v := .int _ _) rfl ?_)
                      refine AS.nil ?_
                      intro _ S
                      exact ⟨j + 1, _, by omega, by omega, ⟨by simp [upd], by show _ = Value.bool (fitU b [] s (j + 1)); rw [hfs]; first | (rw [show fitU b [] s j = true from g74, show decide (x < 0) = true from g81]; rfl) | (rw [show fitU b [] s j = true from g74, show decide (x < 0) = false from g81]; rfl) | (rw [show fitU b [] s j = false from g74]; rfl), trivial⟩, trivial, by repeat (first | exact Agr.refl _ _ | exact Agr.msk _ _ _ | refine Agr.upd ?_ _ rfl | refine Agr.upds ?_ rfl | refine Agr.mskIn ?_ rfl), by repeat (first | exact Agr.refl _ _ | exact Agr.msk _ _ _ | refine Agr.upd ?_ _ rfl | refine Agr.upds ?_ rfl | refine Agr.mskIn ?_ rfl), rfl, S⟩
                  · skip
                    refine AW.cons rfl rfl (sp_skip rfl ?_)
                    refine AW.cons rfl rfl (sp_skip rfl ?_)
                    refine AW.cons rfl rfl (sp_skip rfl ?_)
                    refine AW.cons rfl rfl (sp_skip rfl ?_)
                    refine AW.cons rfl rfl (sp_skip rfl ?_)
                    refine AW.cons rfl rfl (sp_skip rfl ?_)
                    refine AW.cons rfl rfl (sp_skip rfl ?_)
                    refine AW.cons rfl rfl (sp_skip rfl ?_)
                    refine AW.cons rfl rfl (sp_skip rfl ?_)
                    refine AW.cons rfl rfl (sp_skip rfl ?_)
                    refine AW.cons rfl rfl (sp_skip rfl ?_)
                    refine AW.cons rfl rfl (sp_skip rfl ?_)
                    refine AW.cons rfl rfl (sp_skip rfl ?_)
                    refine AW.cons rfl rfl (sp_skip rfl ?_)
                    refine AW.cons rfl rfl (sp_skip rfl ?_)
                    refine AW.cons rfl rfl (sp_skip rfl ?_)
                    refine AW.cons rfl rfl (sp_skip rfl ?_)
                    refine AW.cons rfl rfl (sp_skip rfl ?_)
                    refine AW.cons rfl rfl (sp_pick_f rfl (v := .bool _) rfl ?_)
                    refine AW.cons rfl rfl (sp_asg (v := .bool _) rfl ?_)
                    refine AW.nil ?_
                    intro _ S
                    refine W.region S ?_
                    refine AS.cons (sp_move (v := .int _ _) rfl ?_)
                    refine AS.cons (sp_add rfl rfl (by first | omega | (simp only [decide_eq_true_eq, decide_eq_false_iff_not] at *; omega)) ?_)
                    refine AS.cons (sp_asg (v := .int _ _) rfl ?_)
                    refine AS.nil ?_
                    intro _ S
                    exact ⟨j + 1, _, by omega, by omega, ⟨by simp [upd], by show _ = Value.bool (fitU b [] s (j + 1)); rw [hfs]; first | (rw [show fitU b [] s j = true from g74, show decide (x < 0) = true from g81]; rfl) | (rw [show fitU b [] s j = true from g74, show decide (x < 0) = false from g81]; rfl) | (rw [show fitU b [] s j = false from g74]; rfl), trivial⟩, trivial, by repeat (first | exact Agr.refl _ _ | exact Agr.msk _ _ _ | refine Agr.upd ?_ _ rfl | refine Agr.upds ?_ rfl | refine Agr.mskIn ?_ rfl), by repeat (first | exact Agr.refl _ _ | exact Agr.msk _ _ _ | refine Agr.upd ?_ _ rfl | refine Agr.upds ?_ rfl | refine Agr.mskIn ?_ rfl), rfl, S⟩
                · skip
                  obtain rfl : j = b.dr.length := by omega
                  refine W.exit ?_
                  refine W.seq (W.seq (W.region S ?_))
                  refine AS.cons (sp_move (v := .bool _) rfl ?_)
                  refine AS.cons (sp_not rfl ?_)
                  refine AS.nil ?_
                  intro _ S
                  refine W.cond rfl (fun c95 => ?_) (fun c95 => ?_)
                  · skip
                    have hfb : fitB b [] s = false := by cases e : fitU b [] s b.dr.length with | false => exact e | true => rw [e] at c95; exact absurd c95 (by decide)
                    have hsu2 : sdU b [] (i + 1) = sdU b [] i := by rw [hsu, if_neg (by rw [hfb]; decide)]
                    refine W.exit ?_
                    refine W.region S ?_
                    refine AS.cons (sp_move (v := .int _ _) rfl ?_)
                    refine AS.cons (sp_add rfl rfl (by first | omega | (simp only [decide_eq_true_eq, decide_eq_false_iff_not] at *; omega)) ?_)
                    refine AS.cons (sp_asg (v := .int _ _) rfl ?_)
                    refine AS.nil ?_
                    intro _ S
                    first | exact ⟨i + 1, _, by omega, by omega, ⟨by show iv (b.s0 + (i : Int) + 1) = iv (b.s0 + ((i + 1 : Nat) : Int)); congr 1; omega, by show iv ((sdU b [] i).length : Int) = iv ((sdU b [] (i + 1)).length : Int); rw [hsu2], trivial⟩, trivial, by repeat (first | exact Agr.refl _ _ | exact Agr.msk _ _ _ | refine Agr.upd ?_ _ rfl | refine Agr.upds ?_ rfl | refine Agr.mskIn ?_ rfl), by repeat (first | exact Agr.refl _ _ | exact Agr.msk _ _ _ | refine Agr.upd ?_ _ rfl | refine Agr.upds ?_ rfl | refine Agr.mskIn ?_ rfl), rfl, S⟩ | exact ⟨i + 1, _, by omega, by omega, ⟨by show iv (b.s0 + (i : Int) + 1) = iv (b.s0 + ((i + 1 : Nat) : Int)); congr 1; omega, by rw [hsu2, List.length_append]; rfl, trivial⟩, trivial, by repeat (first | exact Agr.refl _ _ | exact Agr.msk _ _ _ | refine Agr.upd ?_ _ rfl | refine Agr.upds ?_ rfl | refine Agr.mskIn ?_ rfl), by repeat (first | exact Agr.refl _ _ | exact Agr.msk _ _ _ | refine Agr.upd ?_ _ rfl | refine Agr.upds ?_ rfl | refine Agr.mskIn ?_ rfl), rfl, S⟩
                  · skip
                    have hfb : fitB b [] s = true := by cases e : fitU b [] s b.dr.length with | true => exact e | false => rw [e] at c95; exact absurd c95 (by decide)
                    have hsu2 : sdU b [] (i + 1) = sdU b [] i ++ [s] := by rw [hsu, if_pos hfb]
                    have hnx := sd_next (n := N) (by rw [← hse]; exact hfb) hlt
                    rw [← hsdN, ← hse] at hnx
                    have hnl := (List.getElem?_eq_some_iff.1 hnx).1
                    have hlv : ((sdL b []).map iv)[(((sdU b [] i).length : Int)).toNat * 1]? = some (iv s) := by rw [Nat.mul_one, List.getElem?_map, Int.toNat_natCast, hnx]; rfl
                    refine W.skip ?_
                    refine W.seq (W.seq (W.region S ?_))
                    refine AS.cons (sp_move (v := .int _ _) rfl ?_)
                    refine AS.cons (sp_move rfl ?_)
                    refine AS.cons (sp_len rfl sl_26_3_1 ?_)
                    refine AS.cons (sp_geq rfl rfl ?_)
                    refine AS.cons (sp_move (v := .bool _) rfl ?_)
                    refine AS.split 100 rfl (fun g100 => ?_) (fun g100 => ?_)
                    · exact absurd (of_decide_eq_true g100) (by omega)
                    · skip
                      refine AS.cons (sp_move rfl ?_)
                      refine AS.cons (sp_move (v := .int _ _) rfl ?_)
                      refine AS.cons (sp_iaS 19 rfl rfl rfl sl_26_3_1 (by omega) ?_)
                      refine AS.cons (sp_ldS 19 rfl rfl sc_3 hlv (by omega) ?_)
                      refine AS.cons (sp_move (v := .int _ _) rfl ?_)
                      refine AS.cons (sp_neq rfl rfl ?_)
                      refine AS.cons (sp_pick_f rfl (v := .bool _) rfl ?_)
                      refine AS.nil ?_
                      intro _ S
                      refine W.cond rfl (fun c107 => ?_) (fun c107 => ?_)
                      · exact absurd hse (of_decide_eq_true c107)
                      · skip
                        refine W.skip ?_
                        refine W.region S ?_
                        refine AS.cons (sp_move (v := .int _ _) rfl ?_)
                        refine AS.cons (sp_add rfl rfl (by first | omega | (simp only [decide_eq_true_eq, decide_eq_false_iff_not] at *; omega)) ?_)
                        refine AS.cons (sp_asg (v := .int _ _) rfl ?_)
                        refine AS.nil ?_
                        intro _ S
                        refine W.region S ?_
                        refine AS.cons (sp_move (v := .int _ _) rfl ?_)
                        refine AS.cons (sp_add rfl rfl (by first | omega | (simp only [decide_eq_true_eq, decide_eq_false_iff_not] at *; omega)) ?_)
                        refine AS.cons (sp_asg (v := .int _ _) rfl ?_)
                        refine AS.nil ?_
                        intro _ S
                        first | exact ⟨i + 1, _, by omega, by omega, ⟨by show iv (b.s0 + (i : Int) + 1) = iv (b.s0 + ((i + 1 : Nat) : Int)); congr 1; omega, by show iv ((sdU b [] i).length : Int) = iv ((sdU b [] (i + 1)).length : Int); rw [hsu2], trivial⟩, trivial, by repeat (first | exact Agr.refl _ _ | exact Agr.msk _ _ _ | refine Agr.upd ?_ _ rfl | refine Agr.upds ?_ rfl | refine Agr.mskIn ?_ rfl), by repeat (first | exact Agr.refl _ _ | exact Agr.msk _ _ _ | refine Agr.upd ?_ _ rfl | refine Agr.upds ?_ rfl | refine Agr.mskIn ?_ rfl), rfl, S⟩ | exact ⟨i + 1, _, by omega, by omega, ⟨by show iv (b.s0 + (i : Int) + 1) = iv (b.s0 + ((i + 1 : Nat) : Int)); congr 1; omega, by rw [hsu2, List.length_append]; rfl, trivial⟩, trivial, by repeat (first | exact Agr.refl _ _ | exact Agr.msk _ _ _ | refine Agr.upd ?_ _ rfl | refine Agr.upds ?_ rfl | refine Agr.mskIn ?_ rfl), by repeat (first | exact Agr.refl _ _ | exact Agr.msk _ _ _ | refine Agr.upd ?_ _ rfl | refine Agr.upds ?_ rfl | refine Agr.mskIn ?_ rfl), rfl, S⟩
          · skip
            replace c47 : ¬ b.s0 + (i : Int) ≤ b.s1 := c47
            obtain rfl : i = N := by omega
            refine W.exit ?_
            refine W.seq (W.region S ?_)
            refine AS.cons (sp_move (v := .int _ _) rfl ?_)
            refine AS.cons (sp_move rfl ?_)
            refine AS.cons (sp_len rfl sl_26_3_1 ?_)
            refine AS.cons (sp_eql rfl rfl ?_)
            refine AS.cons (sp_move (v := .bool _) rfl ?_)
            refine AS.split 114 rfl (fun g114 => ?_) (fun g114 => ?_)
            · skip
              refine AS.cons (sp_call [] rfl rfl cf_26 (fun F w _ S => drawn w (hK.ext S.mod)) ?_)
              refine AS.cons (sp_pick_t rfl (v := .bool _) rfl ?_)
              refine AS.cons (sp_asg (v := .bool _) rfl ?_)
              refine AS.nil ?_
              intro _ S
              refine W.ret ?_
              exact ret1 rfl rfl S fun w' S' => ⟨rfl, S'.mod⟩
            · exact absurd (show ((sdU b [] i).length : Int) = ((sdL b []).length : Int) by rw [hsdN]) (of_decide_eq_false g114)
/-! ### A penny more -/
theorem su_same (b : Sb) (m s : Int) : SameH (suB b m s) b := ⟨rfl, rfl, rfl, rfl⟩
theorem su_good {b : Sb} (hb : Good b) {m s : Int} (hm : 0 ≤ m ∧ m ≤ 9999) (hs : 0 ≤ s ∧ s ≤ 9999) : Good (suB b m s) :=
  (su_same b m s).good hb ⟨⟨hm.1, Int.le_refl m⟩, hm.2, by show m - m ≤ 20; omega⟩ ⟨⟨hs.1, Int.le_refl s⟩, hs.2, by show s - s ≤ 50; omega⟩ (Nat.zero_le _) (fun n hn => by cases hn) (by have := hb.a1; show ((0 : Nat) : Int) ≤ allN b; omega)
theorem su_sd (b : Sb) (m s : Int) : sdL (suB b m s) [] = [s] := by
  have h1 : sdN (suB b m s) = 1 := by show (s - s + 1).toNat = 1; omega
  have h2 : fitB (suB b m s) [] (s + ((0 : Nat) : Int)) = true := rfl
  unfold sdL
  rw [h1, sdU_succ, if_pos h2]
  show ([] ++ [s + ((0 : Nat) : Int)] : List Int) = [s]
  simp
theorem su_pay {b : Sb} (hb : Good b) {m s : Int} (hm : 0 ≤ m ∧ m ≤ 9999) {k : Nat} (hk : k < b.hs.length) : payLo (suB b m s) k = payK b s m k ∧ payHi (suB b m s) k = payK b s m k := by
  have hp : ∀ j, j < mnN (suB b m s) → payF (suB b m s) k s j = payK b s m k := fun j hj => by
    have h1 : mnN (suB b m s) = 1 := by show (m - m + 1).toNat = 1; omega
    obtain rfl : j = 0 := by omega
    show payK (suB b m s) s (m + ((0 : Nat) : Int)) k = _
    rw [(su_same b m s).pay, show m + ((0 : Nat) : Int) = m by omega]
  have h1 : 0 < mnN (suB b m s) := by show 0 < (m - m + 1).toNat; omega
  have hbd := payK_bd hb s hk hm.1
  refine ⟨Int.le_antisymm ?_ ?_, Int.le_antisymm ?_ ?_⟩
  · have := (fldS_min.1 (Int.le_refl (payLo (suB b m s) k))).2 s (by rw [su_sd]; simp) 0 h1
    rw [hp 0 h1] at this; exact this
  · refine fldS_min.2 ⟨by omega, fun s' hs' j hj => ?_⟩
    rw [su_sd] at hs'
    obtain rfl := List.mem_singleton.1 hs'
    rw [hp j hj]; exact Int.le_refl _
  · refine fldS_max.2 ⟨by omega, fun s' hs' j hj => ?_⟩
    rw [su_sd] at hs'
    obtain rfl := List.mem_singleton.1 hs'
    rw [hp j hj]; exact Int.le_refl _
  · have := (fldS_max.1 (Int.le_refl (payHi (suB b m s) k))).2 s (by rw [su_sd]; simp) 0 h1
    rw [hp 0 h1] at this; exact this
theorem payS (hb : Good b) (m s : Int) (hm : 0 ≤ m ∧ m ≤ 9999) (hs : 0 ≤ s ∧ s ≤ 9999) (k : Nat) (hk : k < b.hs.length) (w : World) (hK : Kinds w) (hH : Hos w ha hc b.hs) : Ct Tryd.prog 27 #[.agg (sbL (suB b m s) ha hc none 0).toArray, iv k] w (fun u w' => u = .tuple #[.agg [iv (payK b s m k), iv (payK b s m k)].toArray, iv 0] ∧ Ext w w') := by
  have h := paysG (suB b m s) ha hc none 0 (su_good hb hm hs) k hk (by rw [su_sd]; simp) w hK hH ⟨rfl, Nat.zero_le _, .inl ⟨rfl, none, 0, rfl⟩⟩
  obtain ⟨e1, e2⟩ := su_pay hb (s := s) hm hk
  rw [e1, e2] at h
  exact h
set_option maxHeartbeats 16000000 in
theorem pennyL (n0 n1 : Int) (w : World) (hK : Kinds w) (hH : Hos w ha hc b.hs) (hD : Ints w da dc b.dr) : Ct Tryd.prog 9 #[.agg (sbL b ha hc da dc).toArray, .agg [iv n0, iv n1].toArray] w (fun u w' => u = .bool true ∧ Ext w w') := by
  refine fn_intro (args := [.agg (sbL b ha hc da dc).toArray, .agg [iv n0, iv n1].toArray]) Tryd.func9 rfl rfl (by kernel_rfl) ?_
  have S := St.start no w
  refine W.seq (W.region S ?_)
  refine AS.cons (sp_boxa 2 rfl (fun b2 => ?_))
  refine AS.cons (sp_boxa 3 rfl (fun b3 => ?_))
  refine AS.cons (sp_asg rfl ?_)
  refine AS.nil ?_
  intro _ S
  refine W.seq (W.seq (W.region S ?_))
  refine AS.cons (sp_ldw 2 rfl rfl ag_28_9 ?_)
  refine AS.cons (sp_call [] rfl rfl cf_35 (fun F w _ S => soundF _ _ _ _ _ w (hK.ext S.mod) (hH.ext S.mod) (hD.ext S.mod)) ?_)
  refine AS.cons (sp_not rfl ?_)
  refine AS.nil ?_
  intro _ S
  refine W.cond rfl (fun c16 => ?_) (fun c16 => ?_)
  · skip
    refine W.seq (W.region S ?_)
    refine AS.cons (sp_call [] rfl rfl cf_26 (fun F w _ S => drawn w (hK.ext S.mod)) ?_)
    refine AS.cons (sp_asg (v := .bool _) rfl ?_)
    refine AS.nil ?_
    intro _ S
    refine W.ret ?_
    exact ret1 rfl rfl S fun w' S' => ⟨rfl, S'.mod⟩
  · skip
    have hok : okS b = true := by cases e : okS b with | true => rfl | false => rw [e] at c16; exact absurd c16 (by decide)
    have hb := okS_good.1 hok
    have hO := hb.own
    have hn6 := hb.n6
    have ha1 := hb.a1
    have ha60 := hb.a60
    obtain ⟨⟨hs1, hs2⟩, hs3, hs4⟩ := hb.se
    have hwm := whl_bd n0 (k := 9999) (by omega)
    obtain ⟨m, hme⟩ : ∃ m, m = whlV n0 9999 := ⟨_, rfl⟩
    have hws := some_bd n1 hs2
    obtain ⟨s, hse⟩ : ∃ s, s = someV b.s0 b.s1 n1 := ⟨_, rfl⟩
    rw [← hme] at hwm
    rw [← hse] at hws
    have hsb : 0 ≤ s ∧ s ≤ 9999 := by omega
    have hol := ord_all hb s
    have hmr : 0 ≤ m % ((ord b s).length : Int) ∧ m % ((ord b s).length : Int) < ((ord b s).length : Int) := ⟨Int.emod_nonneg _ (by omega), Int.emod_lt_of_pos _ (by omega)⟩
    obtain ⟨y, hy⟩ := get_some (l := ord b s) (j := (m % ((ord b s).length : Int)).toNat) (by omega)
    have hyg : (ord b s).getD (m % allN b).toNat 0 = y := by rw [← hol, List.getD_eq_getElem?_getD, hy]; rfl
    have hyv : ((ord b s).map iv)[(m % ((ord b s).length : Int)).toNat * 1]? = some (iv y) := by rw [Nat.mul_one, List.getElem?_map, hy]; rfl
    refine W.skip ?_
    refine W.seq (W.draw S mixed (fun i => ([KD.q [], KD.q [3], KD.e [] [], KD.q [], KD.q [2], KD.q [], KD.q [3], KD.e [] [], KD.q [], KD.q []] : List KD)[i]?) [] [0, 1, 2, 3, 4, 5, 6, 7, 8, 9] (by kernel_rfl) ?_)
    refine AW.cons rfl rfl (sp_iaa rfl rfl ar_58_2_3_1 (by first | omega | (simp only [decide_eq_true_eq, decide_eq_false_iff_not] at *; omega)) ?_)
    refine AW.cons rfl rfl (sp_ld 3 rfl rfl sc_3 rfl ?_)
    refine AW.cons rfl rfl (sp_call [] rfl rfl cf_39 (fun F w _ S => by have h := wheelV n0 9999 (by omega) w; rw [← hme] at h; exact h) ?_)
    refine AW.cons rfl rfl (sp_fa rfl fo_28_3_6 ?_)
    refine AW.cons rfl rfl (sp_lda 2 2 rfl rfl ag_25_2 rfl ?_)
    refine AW.cons rfl rfl (sp_iaa rfl rfl ar_58_2_3_1 (by first | omega | (simp only [decide_eq_true_eq, decide_eq_false_iff_not] at *; omega)) ?_)
    refine AW.cons rfl rfl (sp_ld 3 rfl rfl sc_3 rfl ?_)
    refine AW.cons rfl rfl (sp_call [] rfl rfl cf_36 (fun F w _ S => by have h := someF b.s0 b.s1 n1 (by omega) w; rw [← hse] at h; exact h) ?_)
    refine AW.cons rfl rfl (sp_asg (v := .int _ _) rfl ?_)
    refine AW.cons rfl rfl (sp_asg (v := .int _ _) rfl ?_)
    refine AW.nil ?_
    intro _ S
    refine W.seq (W.region S ?_)
    refine AS.cons (sp_ldw 2 rfl rfl ag_28_9 ?_)
    refine AS.cons (sp_move (v := .int _ _) rfl ?_)
    refine AS.cons (sp_call1 29 [] _ rfl rfl cf_22 (fun F w _ S => orderG _ _ _ _ _ (by assumption) _ (by omega) w (hK.ext S.mod) (hH.ext S.mod) (hD.ext S.mod)) ?_ (by simp))
    rintro v29 i29 ⟨a29, c29, h29, rfl, rfl⟩
    refine AS.cons (sp_move rfl ?_)
    refine AS.cons (sp_ext rfl rfl ?_)
    refine AS.cons (sp_ext rfl rfl ?_)
    refine AS.cons (sp_asg rfl ?_)
    refine AS.cons (sp_asg (v := .int _ _) rfl ?_)
    refine AS.nil ?_
    intro _ S
    refine W.seq (W.seq (W.region S ?_))
    refine AS.cons (sp_move (v := .int _ _) rfl ?_)
    refine AS.cons (sp_neq rfl rfl ?_)
    refine AS.cons (sp_move (v := .bool _) rfl ?_)
    refine AS.split 34 rfl (fun g34 => ?_) (fun g34 => ?_)
    · exact absurd g34 (by decide)
    · skip
      refine AS.cons (sp_move rfl ?_)
      refine AS.cons (sp_len rfl sl_26_3_1 ?_)
      refine AS.cons (sp_ldw 2 rfl rfl ag_28_9 ?_)
      refine AS.cons (sp_call [] rfl rfl cf_44 (fun F w _ S => allLF _ _ _ _ _ (by assumption) w (hH.ext S.mod)) ?_)
      refine AS.cons (sp_neq rfl rfl ?_)
      refine AS.cons (sp_pick_f rfl (v := .bool _) rfl ?_)
      refine AS.nil ?_
      intro _ S
      refine W.cond rfl (fun c40 => ?_) (fun c40 => ?_)
      · exact absurd hol (of_decide_eq_true c40)
      · skip
        refine W.skip ?_
        refine W.seq (W.seq (W.region S ?_))
        refine AS.cons (sp_asg rfl ?_)
        refine AS.nil ?_
        intro _ S
        refine W.block ?_
        refine W.loopS S [4, 9, 10, 11, 12, 13, 41, 42, 43, 44, 45, 46, 47, 48, 49, 50, 51, 52, 53, 54, 55, 56, 57, 58, 59, 60, 61, 62, 63, 64, 65, 66, 67, 68, 69, 70, 71, 72, 73, 74, 75, 76, 77, 78, 79, 80, 81, 82, 83, 84, 85, 86, 87, 88, 89, 90, 91, 92, 93, 94, 95, 96, 97, 98, 99, 100, 101, 102, 103, 104, 105, 106, 107, 108, 109, 110, 111, 112, 113, 114, 115, 116, 117, 118, 119] [10, 12] (fun (k : Nat) => [(9, iv k)]) (fun _ => []) (fun k => k ≤ b.hs.length) (fun k => b.hs.length - k) 0 (by omega) ⟨rfl, trivial⟩ trivial ?_
        rintro k σ M w1 hk S
        refine W.seq (W.seq (W.region S ?_))
        refine AS.cons (sp_move (v := .int _ _) rfl ?_)
        refine AS.cons (sp_fa rfl fo_28_1_3 ?_)
        refine AS.cons (sp_ld 2 rfl rfl sc_23 rfl ?_)
        refine AS.cons (sp_len rfl sl_23_75_3 ?_)
        refine AS.cons (sp_lss rfl rfl ?_)
        refine AS.nil ?_
        intro _ S
        refine W.condd rfl (fun c45 => ?_) (fun c45 => ?_)
        · skip
          have hlt : k < b.hs.length := by omega
          have hp1 := payK_bd hb s hlt hwm.1
          have hst := payK_succ hb s hwm.1 hlt
          rw [hyg] at hst
          obtain ⟨p, hp⟩ : ∃ p, p = payK b s m k := ⟨_, rfl⟩
          obtain ⟨q, hq⟩ : ∃ q, q = payK b s (m + 1) k := ⟨_, rfl⟩
          rw [← hp] at hp1
          rw [← hp, ← hq] at hst
          have hqp : q = p ∨ q = p + 1 := by rw [hst]; split <;> omega
          have hqb : (decide (q > p)) = decide (y = (k : Int)) := decide_eq_decide.2 (by rw [hst]; split <;> omega)
          refine W.skip ?_
          refine W.seq (W.block ?_)
          refine W.seq (W.region S ?_)
          refine AS.cons (sp_ldw 2 rfl rfl ag_28_9 ?_)
          refine AS.cons (sp_move (v := .int _ _) rfl ?_)
          refine AS.cons (sp_move (v := .int _ _) rfl ?_)
          refine AS.cons (sp_call [] rfl rfl cf_47 (fun F w _ S => sureF _ _ _ _ _ _ _ w) ?_)
          refine AS.cons (sp_move (v := .int _ _) rfl ?_)
          refine AS.cons (sp_call [] rfl rfl cf_27 (fun F w _ S => by have h := payS b ha hc hb m s (by omega) hsb k hlt w (hK.ext S.mod) (hH.ext S.mod); rw [← hp] at h; exact h) ?_)
          refine AS.cons (sp_move rfl ?_)
          refine AS.cons (sp_ext rfl rfl ?_)
          refine AS.cons (sp_ext rfl rfl ?_)
          refine AS.cons (sp_alloc 10 zv_25 rfl (fun b10 => ?_))
          refine AS.cons (sp_st 10 rfl rfl rfl rfl sz_25_2 rfl rfl ?_)
          refine AS.cons (sp_asg (v := .int _ _) rfl ?_)
          refine AS.nil ?_
          intro _ S
          refine W.seq (W.region S ?_)
          refine AS.cons (sp_ldw 2 rfl rfl ag_28_9 ?_)
          refine AS.cons (sp_move (v := .int _ _) rfl ?_)
          refine AS.cons (sp_add rfl rfl (by first | omega | (simp only [decide_eq_true_eq, decide_eq_false_iff_not] at *; omega)) ?_)
          refine AS.cons (sp_move (v := .int _ _) rfl ?_)
          refine AS.cons (sp_call [] rfl rfl cf_47 (fun F w _ S => sureF _ _ _ _ _ _ _ w) ?_)
          refine AS.cons (sp_move (v := .int _ _) rfl ?_)
          refine AS.cons (sp_call [] rfl rfl cf_27 (fun F w _ S => by have h := payS b ha hc hb (m + 1) s (by omega) hsb k hlt w (hK.ext S.mod) (hH.ext S.mod); rw [← hq] at h; exact h) ?_)
          refine AS.cons (sp_move rfl ?_)
          refine AS.cons (sp_ext rfl rfl ?_)
          refine AS.cons (sp_ext rfl rfl ?_)
          refine AS.cons (sp_alloc 12 zv_25 rfl (fun b12 => ?_))
          refine AS.cons (sp_st 12 rfl rfl rfl rfl sz_25_2 rfl rfl ?_)
          refine AS.cons (sp_asg (v := .int _ _) rfl ?_)
          refine AS.nil ?_
          intro _ S
          refine W.seq (W.drawL S mixed (fun i => ([KD.q [], KD.q [], KD.q [], KD.q [], KD.q [], KD.q [], KD.q [], KD.q [], KD.q [10], KD.q [], KD.q [10], KD.q [], KD.q [], KD.q [], KD.q [], KD.q [12], KD.q [], KD.q [12], KD.q [], KD.q [], KD.q [], KD.q [], KD.q [12], KD.q [], KD.q [10], KD.q [], KD.q [], KD.q [], KD.q [], KD.q [], KD.q [12], KD.q [], KD.q [10], KD.q [], KD.q [], KD.q [], KD.q [], KD.q [], KD.q [12], KD.q [], KD.q [10], KD.q [], KD.q [], KD.q [], KD.q [], KD.q [], KD.q [], KD.q [29], KD.q [29], KD.q [], KD.q [], KD.q [], KD.q []] : List KD)[i]?) [] [0, 1, 2, 3, 4, 5, 6, 7, 8, 9, 10, 11, 12, 13, 14, 15, 16, 17, 18, 19, 20, 21, 22, 23, 24, 25, 26, 27, 28, 29, 30, 31, 32, 33, 34, 35, 36, 37, 38, 39, 40, 41, 42, 43, 44, 45, 46, 47, 48, 49, 50, 51, 52] (by kernel_rfl) ?_)
          refine AW.cons rfl rfl (sp_move (v := .int _ _) rfl ?_)
          refine AW.cons rfl rfl (sp_neq rfl rfl ?_)
          refine AW.cons rfl rfl (sp_move (v := .bool _) rfl ?_)
          refine AW.split 69 rfl (fun g69 => ?_) (fun g69 => ?_)
          · exact absurd g69 (by decide)
          · skip
            refine AW.cons rfl rfl (sp_move (v := .int _ _) rfl ?_)
            refine AW.cons rfl rfl (sp_neq rfl rfl ?_)
            refine AW.cons rfl rfl (sp_pick_f rfl (v := .bool _) rfl ?_)
            refine AW.cons rfl rfl (sp_move (v := .bool _) rfl ?_)
            refine AW.split 73 rfl (fun g73 => ?_) (fun g73 => ?_)
            · exact absurd g73 (by decide)
            · skip
              refine AW.cons rfl rfl (sp_fa rfl fo_25_0_0 ?_)
              refine AW.cons rfl rfl (sp_ld 10 rfl rfl sc_3 rfl ?_)
              refine AW.cons rfl rfl (sp_fa rfl fo_25_1_1 ?_)
              refine AW.cons rfl rfl (sp_ld 10 rfl rfl sc_3 rfl ?_)
              refine AW.cons rfl rfl (sp_neq rfl rfl ?_)
              refine AW.cons rfl rfl (sp_pick_f rfl (v := .bool _) rfl ?_)
              refine AW.cons rfl rfl (sp_move (v := .bool _) rfl ?_)
              refine AW.split 80 rfl (fun g80 => ?_) (fun g80 => ?_)
              · exact absurd rfl (of_decide_eq_true g80)
              · skip
                refine AW.cons rfl rfl (sp_fa rfl fo_25_0_0 ?_)
                refine AW.cons rfl rfl (sp_ld 12 rfl rfl sc_3 rfl ?_)
                refine AW.cons rfl rfl (sp_fa rfl fo_25_1_1 ?_)
                refine AW.cons rfl rfl (sp_ld 12 rfl rfl sc_3 rfl ?_)
                refine AW.cons rfl rfl (sp_neq rfl rfl ?_)
                refine AW.cons rfl rfl (sp_pick_f rfl (v := .bool _) rfl ?_)
                refine AW.cons rfl rfl (sp_move (v := .bool _) rfl ?_)
                refine AW.split 87 rfl (fun g87 => ?_) (fun g87 => ?_)
                · exact absurd rfl (of_decide_eq_true g87)
                · skip
                  refine AW.cons rfl rfl (sp_fa rfl fo_25_0_0 ?_)
                  refine AW.cons rfl rfl (sp_ld 12 rfl rfl sc_3 rfl ?_)
                  refine AW.cons rfl rfl (sp_fa rfl fo_25_0_0 ?_)
                  refine AW.cons rfl rfl (sp_ld 10 rfl rfl sc_3 rfl ?_)
                  refine AW.cons rfl rfl (sp_sub rfl rfl (by first | omega | (simp only [decide_eq_true_eq, decide_eq_false_iff_not] at *; omega)) ?_)
                  refine AW.cons rfl rfl (sp_lss rfl rfl ?_)
                  refine AW.cons rfl rfl (sp_pick_f rfl (v := .bool _) rfl ?_)
                  refine AW.cons rfl rfl (sp_move (v := .bool _) rfl ?_)
                  refine AW.split 95 rfl (fun g95 => ?_) (fun g95 => ?_)
                  · exact absurd (of_decide_eq_true g95) (by omega)
                  · skip
                    refine AW.cons rfl rfl (sp_fa rfl fo_25_0_0 ?_)
                    refine AW.cons rfl rfl (sp_ld 12 rfl rfl sc_3 rfl ?_)
                    refine AW.cons rfl rfl (sp_fa rfl fo_25_0_0 ?_)
                    refine AW.cons rfl rfl (sp_ld 10 rfl rfl sc_3 rfl ?_)
                    refine AW.cons rfl rfl (sp_sub rfl rfl (by first | omega | (simp only [decide_eq_true_eq, decide_eq_false_iff_not] at *; omega)) ?_)
                    refine AW.cons rfl rfl (sp_gtr rfl rfl ?_)
                    refine AW.cons rfl rfl (sp_pick_f rfl (v := .bool _) rfl ?_)
                    refine AW.cons rfl rfl (sp_move (v := .bool _) rfl ?_)
                    refine AW.split 103 rfl (fun g103 => ?_) (fun g103 => ?_)
                    · exact absurd (of_decide_eq_true g103) (by omega)
                    · skip
                      refine AW.cons rfl rfl (sp_fa rfl fo_25_0_0 ?_)
                      refine AW.cons rfl rfl (sp_ld 12 rfl rfl sc_3 rfl ?_)
                      refine AW.cons rfl rfl (sp_fa rfl fo_25_0_0 ?_)
                      refine AW.cons rfl rfl (sp_ld 10 rfl rfl sc_3 rfl ?_)
                      refine AW.cons rfl rfl (sp_gtr rfl rfl ?_)
                      refine AW.cons rfl rfl (sp_move rfl ?_)
                      refine AW.cons rfl rfl (sp_move (v := .int _ _) rfl ?_)
                      refine AW.cons rfl rfl (sp_move rfl ?_)
                      refine AW.cons rfl rfl (sp_len rfl sl_26_3_1 ?_)
                      refine AW.cons rfl rfl (sp_rem rfl rfl (by first | omega | (simp only [decide_eq_true_eq, decide_eq_false_iff_not] at *; omega)) (by first | omega | (simp only [decide_eq_true_eq, decide_eq_false_iff_not] at *; omega)) ?_)
                      refine AW.cons rfl rfl (sp_iaS 29 rfl rfl rfl sl_26_3_1 hmr ?_)
                      refine AW.cons rfl rfl (sp_ldS 29 rfl rfl sc_3 hyv (by omega) ?_)
                      refine AW.cons rfl rfl (sp_move (v := .int _ _) rfl ?_)
                      refine AW.cons rfl rfl (sp_eql rfl rfl ?_)
                      refine AW.cons rfl rfl (sp_neqb rfl rfl bool_4 ?_)
                      refine AW.cons rfl rfl (sp_pick_f rfl (v := .bool _) rfl ?_)
                      refine AW.nil ?_
                      intro _ S
                      refine W.cond rfl (fun c119 => ?_) (fun c119 => ?_)
                      · exact absurd (hqb ▸ c119 : (decide (y = (k : Int)) != decide (y = (k : Int))) = true) (by simp)
                      · skip
                        refine W.skip ?_
                        refine W.region S ?_
                        refine AS.cons (sp_move (v := .int _ _) rfl ?_)
                        refine AS.cons (sp_add rfl rfl (by first | omega | (simp only [decide_eq_true_eq, decide_eq_false_iff_not] at *; omega)) ?_)
                        refine AS.cons (sp_asg (v := .int _ _) rfl ?_)
                        refine AS.nil ?_
                        intro _ S
                        exact ⟨k + 1, _, by omega, by omega, ⟨by simp [upd], trivial⟩, trivial, by repeat (first | exact Agr.refl _ _ | exact Agr.msk _ _ _ | refine Agr.upd ?_ _ rfl | refine Agr.upds ?_ rfl | refine Agr.mskIn ?_ rfl), by repeat (first | exact Agr.refl _ _ | exact Agr.msk _ _ _ | refine Agr.upd ?_ _ rfl | refine Agr.upds ?_ rfl | refine Agr.mskIn ?_ rfl), rfl, S⟩
        · skip
          refine W.exit ?_
          refine W.seq (W.region S ?_)
          refine AS.cons (sp_call [] rfl rfl cf_26 (fun F w _ S => drawn w (hK.ext S.mod)) ?_)
          refine AS.cons (sp_asg (v := .bool _) rfl ?_)
          refine AS.nil ?_
          intro _ S
          refine W.ret ?_
          exact ret1 rfl rfl S fun w' S' => ⟨rfl, S'.mod⟩
end
end Go.Proofs.YtajocmkgdjcmkaaDoor
