/-
  Lemmas of this proof, several texts one behind the other; no condition beyond what each says.
-/
import Derived.Test.YtmpclgepoemneaaDoorMm
namespace Go.Proofs.YtmpclgepoemneaaDoor
open Go.Hu
theorem cf_52 : cfB Tryd.prog 52 = true := by kernel_rfl
end Go.Proofs.YtmpclgepoemneaaDoor
/-
  The law of the cries that must be wrong, walked.
-/
namespace Go.Proofs.YtmpclgepoemneaaDoor
set_option maxRecDepth 100000
open Go.Hu Go.RowKit
section
variable (b : Bk) (la : Option Addr) (lc : Nat) (ca : Option Addr) (cc : Nat)
theorem kpU_full {l : List Cry} {q : Nat → Bool} : ∀ j, (∀ i, i < j → q i = true) → kpU l q j = []
  | j, h => by
    unfold kpU
    rw [List.filter_eq_nil_iff.2 fun i hi => by rw [h i (List.mem_range.1 hi)]; simp]
    rfl
theorem wo_full (b : Bk) : wo b (inQ (btU (2 ^ b.cries.length - 1) b.cries.length)) = clr b := by
  unfold wo clr
  rw [kpU_full (q := inQ (btU (2 ^ b.cries.length - 1) b.cries.length)) b.cries.length fun i hi => decide_eq_true (btU_mem.2 ⟨i, rfl, hi, bt_all hi⟩)]
theorem clr_can {b : Bk} (hb : Num b) (h : wtI b (sq b) ≠ []) : canB (clr b) = true := by
  refine Classical.byContradiction fun hn => h ?_
  have := whs_none (b := clr b) hb (Nat.zero_le 30) (by simpa using hn)
  rwa [clr_whs hb (Nat.zero_le 30)] at this
/-- What Wrong answers, whatever the book. -/
theorem wrong_sum (b : Bk) : ∃ wl e, wrongL b = wl ∧ wrongE b = e ∧ wl.length ≤ 8 ∧ (okAll b = false → e = 10 ∧ wl = []) ∧
    (okAll b = true → (wtI b (sq b) = [] → e = 12 ∧ wl = []) ∧ (wtI b (sq b) ≠ [] → e = 0 ∧ Best b.cries.length (Pw b) wl ∧ canB b = decide ((wl.length : Int) = 0))) := by
  refine ⟨_, _, rfl, rfl, wrongL_len b, fun h => ?_, fun h => ⟨fun hw => ?_, fun hw => ?_⟩⟩
  · unfold wrongE wrongL; rw [h]; exact ⟨rfl, rfl⟩
  · have hb := (okAll_ok h).num
    have hd : wtr b = [] := by unfold wtI at hw; rwa [List.map_eq_nil_iff] at hw
    have := wrong_dry hb hd
    unfold wrongE wrongL
    rw [this, if_pos h, if_pos h]
    exact ⟨rfl, rfl⟩
  · have hbk := okAll_ok h
    have hb := hbk.num
    cases e : wrongO b with
    | none =>
      have h1 := wrO_none e (btU_up (2 ^ b.cries.length - 1) (Nat.le_refl b.cries.length))
      unfold Pw at h1
      rw [wo_full, clr_can hb hw] at h1
      cases h1
    | some l =>
      have hB := wrO_some e
      have hwl : wrongL b = l := by unfold wrongL; rw [if_pos h, e]; rfl
      refine ⟨by unfold wrongE; rw [if_pos h, e]; rfl, by rw [hwl]; exact hB, ?_⟩
      rw [hwl, Bool.eq_iff_iff, decide_eq_true_eq]
      constructor
      · intro hc
        have := hB.uniq (Best.nil (N := b.cries.length) (P := Pw b) (by rw [Pw_nil]; exact hc))
        rw [this]; rfl
      · intro hl
        have : l = [] := List.eq_nil_of_length_eq_zero (by omega)
        rw [this] at hB
        have := hB.ok
        rwa [Pw_nil] at this
set_option maxHeartbeats 4000000 in
theorem wrongL' (n : Int) (w : World) (hK : Kinds w) (hl : Ints w la lc b.land) (hC : Cries w ca cc b.cries) : Ct Tryd.prog 13 #[.agg (bkL b la lc ca cc).toArray, iv n] w (fun u w' => u = .bool true ∧ Ext w w') := by
  refine fn_intro (args := [.agg (bkL b la lc ca cc).toArray, iv n]) Tryd.func13 rfl rfl (by kernel_rfl) ?_
  have S := St.start no w
  obtain ⟨wl, e, hwl, hee, hwl8, hno, hyes⟩ := wrong_sum b
  refine W.seq (W.region S ?_)
  refine AS.cons (sp_boxa 2 rfl (fun b2 => ?_))
  refine AS.cons (sp_asg rfl ?_)
  refine AS.nil ?_
  intro _ S
  refine W.seq (W.region S ?_)
  refine AS.cons (sp_ldw 2 rfl rfl ag_26_7 ?_)
  refine AS.cons (sp_call1 16 [] _ rfl rfl cf_35 (fun F w hF S => by have h := wrongP b la lc ca cc w (hK.ext S.mod) (hl.ext S.mod) (hC.ext S.mod); rw [hwl, hee] at h; exact h) ?_ (by simp))
  rintro v16 i16 ⟨a16, c16, h16, rfl, rfl⟩
  refine AS.cons (sp_move rfl ?_)
  refine AS.cons (sp_ext rfl rfl ?_)
  refine AS.cons (sp_ext rfl rfl ?_)
  refine AS.cons (sp_asg rfl ?_)
  refine AS.cons (sp_asg (v := .int _ _) rfl ?_)
  refine AS.nil ?_
  intro _ S
  refine W.seq (W.seq (W.region S ?_))
  refine AS.cons (sp_ldw 2 rfl rfl ag_26_7 ?_)
  refine AS.cons (sp_call [] rfl rfl cf_37 (fun F w _ S => soundF _ _ _ _ _ w (hl.ext S.mod) (hC.ext S.mod)) ?_)
  refine AS.cons (sp_not rfl ?_)
  refine AS.nil ?_
  intro _ S
  refine W.cond rfl (fun c21 => ?_) (fun c21 => ?_)
  · skip
    have hn := hno (by rw [Bool.not_eq_true'] at c21; exact c21)
    refine W.seq (W.region S ?_)
    refine AS.cons (sp_move (v := .int _ _) rfl ?_)
    refine AS.cons (sp_eql rfl rfl ?_)
    refine AS.cons (sp_move (v := .bool _) rfl ?_)
    refine AS.split 24 rfl (fun g24 => ?_) (fun g24 => ?_)
    · skip
      refine AS.cons (sp_move rfl ?_)
      refine AS.cons (sp_len rfl sl_22_3_1 ?_)
      refine AS.cons (sp_eql rfl rfl ?_)
      refine AS.cons (sp_pick_t rfl (v := .bool _) rfl ?_)
      refine AS.cons (sp_move (v := .bool _) rfl ?_)
      refine AS.split 29 rfl (fun g29 => ?_) (fun g29 => ?_)
      · skip
        refine AS.cons (sp_call [] rfl rfl cf_28 (fun F w _ S => cried w (hK.ext S.mod)) ?_)
        refine AS.cons (sp_pick_t rfl (v := .bool _) rfl ?_)
        refine AS.cons (sp_asg (v := .bool _) rfl ?_)
        refine AS.nil ?_
        intro _ S
        refine W.ret ?_
        exact ret1 rfl rfl S fun w' S' => ⟨rfl, S'.mod⟩
      · exact absurd (show ((wl.length : Nat) : Int) = 0 by rw [hn.2]; rfl) (of_decide_eq_false g29)
    · exact absurd hn.1 (of_decide_eq_false g24)
  · skip
    refine W.skip ?_
    have hok : okAll b = true := by rw [Bool.not_eq_false'] at c21; exact c21
    have hbk := okAll_ok hok
    have hb := hbk.num
    have hcl := hbk.lc
    obtain ⟨hy1, hy2⟩ := hyes hok
    obtain ⟨ws, hws⟩ : ∃ ws, wtI b (sq b) = ws := ⟨_, rfl⟩
    rw [hws] at hy1 hy2
    refine W.seq (W.seq (W.region S ?_))
    refine AS.cons (sp_ldw 2 rfl rfl ag_26_7 ?_)
    refine AS.cons (sp_call1 33 [] _ rfl rfl cf_51 (fun F w hF S => by have h := waterF b la lc ca cc hbk w (hl.ext S.mod); rw [hws] at h; exact h) ?_ (by simp))
    rintro v33 i33 ⟨⟨a33, c33, rfl, h33⟩, rfl⟩
    refine AS.cons (sp_len rfl sl_22_3_1 ?_)
    refine AS.cons (sp_eql rfl rfl ?_)
    refine AS.nil ?_
    intro _ S
    refine W.condd rfl (fun c35 => ?_) (fun c35 => ?_)
    · skip
      have hn := hy1 (List.eq_nil_of_length_eq_zero (by omega))
      refine W.seq (W.region S ?_)
      refine AS.cons (sp_move (v := .int _ _) rfl ?_)
      refine AS.cons (sp_eql rfl rfl ?_)
      refine AS.cons (sp_move (v := .bool _) rfl ?_)
      refine AS.split 38 rfl (fun g38 => ?_) (fun g38 => ?_)
      · skip
        refine AS.cons (sp_move rfl ?_)
        refine AS.cons (sp_len rfl sl_22_3_1 ?_)
        refine AS.cons (sp_eql rfl rfl ?_)
        refine AS.cons (sp_pick_t rfl (v := .bool _) rfl ?_)
        refine AS.cons (sp_move (v := .bool _) rfl ?_)
        refine AS.split 43 rfl (fun g43 => ?_) (fun g43 => ?_)
        · skip
          refine AS.cons (sp_call [] rfl rfl cf_28 (fun F w _ S => cried w (hK.ext S.mod)) ?_)
          refine AS.cons (sp_pick_t rfl (v := .bool _) rfl ?_)
          refine AS.cons (sp_asg (v := .bool _) rfl ?_)
          refine AS.nil ?_
          intro _ S
          refine W.ret ?_
          exact ret1 rfl rfl S fun w' S' => ⟨rfl, S'.mod⟩
        · exact absurd (show ((wl.length : Nat) : Int) = 0 by rw [hn.2]; rfl) (of_decide_eq_false g43)
      · exact absurd hn.1 (of_decide_eq_false g38)
    · skip
      refine W.skip ?_
      obtain ⟨he0, hB, hcan⟩ := hy2 (fun h => c35 (by rw [h]; rfl))
      obtain ⟨bc, hbc⟩ : ∃ bc, canB b = bc := ⟨_, rfl⟩
      rw [hbc] at hcan
      have hch : ∀ q, chkV (wo b q) = 0 := fun q => by unfold chkV; rw [if_pos (ok_of (wo_ok hbk q))]
      have hchb : chkV b = 0 := by unfold chkV; rw [if_pos hok]
      have hrb : (okAll b && canB b) = bc := by rw [hok, hbc]; rfl
      have hrw : (okAll (wo b (inQ wl)) && canB (wo b (inQ wl))) = true := by rw [ok_of (wo_ok hbk _)]; exact hB.ok
      have hwq : ∀ q, (wo b q).cries.length ≤ 8 := fun q => (wo_ok hbk q).lc
      obtain ⟨N, hN⟩ : ∃ N, b.cries.length = N := ⟨_, rfl⟩
      obtain ⟨M, hM⟩ : ∃ M, 2 ^ N = M := ⟨_, rfl⟩
      have hp : (1 : Int) * 2 ^ ((b.cries.length : Int)).toNat = (M : Int) := by rw [hN, Int.toNat_natCast, Int.one_mul, ← hM, Int.natCast_pow]; rfl
      have hM1 : 1 ≤ M ∧ M ≤ 256 := by
        rw [← hM]
        exact ⟨Nat.one_le_two_pow, Nat.le_trans (Nat.pow_le_pow_right (by omega) (show N ≤ 8 by omega)) (by decide)⟩
      obtain ⟨s, hs, hs256⟩ : ∃ s : Nat, (if (M : Int) < 2 then 0 else n % (M : Int)) = (s : Int) ∧ s ≤ 256 := by
        refine ⟨(if (M : Int) < 2 then 0 else n % (M : Int)).toNat, ?_, ?_⟩
        · rw [Int.toNat_of_nonneg]
          split
          · omega
          · exact Int.emod_nonneg n (by omega)
        · split
          · omega
          · have := Int.emod_lt_of_pos n (show (0 : Int) < M by omega)
            omega
      obtain ⟨ot, hot⟩ : ∃ ot, btU s b.cries.length = ot := ⟨_, rfl⟩
      have hotl : ot.length ≤ 8 := by rw [← hot]; have := btU_len s b.cries.length; omega
      have hotu : Up 0 b.cries.length ot := hot ▸ btU_up s (Nat.le_refl _)
      obtain ⟨fw, hfw⟩ : ∃ fw, fewL ot wl = fw := ⟨_, rfl⟩
      obtain ⟨so, hso⟩ : ∃ so, (okAll (wo b (inQ ot)) && canB (wo b (inQ ot))) = so := ⟨_, rfl⟩
      have hsof : fw = true → so = false := fun h => by
        rw [← hso, ok_of (wo_ok hbk _)]
        exact hB.no ot hotu (hfw.trans h)
      refine W.seq (W.region S ?_)
      refine AS.cons (sp_ldw 2 rfl rfl ag_26_7 ?_)
      refine AS.cons (sp_call [] rfl rfl cf_20 (fun F w hF S => by have h := right b la lc ca cc w (hK.ext S.mod) (hl.ext S.mod) (hC.ext S.mod); rw [hrb, hchb] at h; exact h) ?_)
      refine AS.cons (sp_move rfl ?_)
      refine AS.cons (sp_ext rfl rfl ?_)
      refine AS.cons (sp_ext rfl rfl ?_)
      refine AS.cons (sp_asg (v := .bool _) rfl ?_)
      refine AS.cons (sp_asg (v := .int _ _) rfl ?_)
      refine AS.nil ?_
      intro _ S
      refine W.seq (W.seq (W.region S ?_))
      refine AS.cons (sp_move (v := .int _ _) rfl ?_)
      refine AS.cons (sp_neq rfl rfl ?_)
      refine AS.cons (sp_move (v := .bool _) rfl ?_)
      refine AS.split 53 rfl (fun g53 => ?_) (fun g53 => ?_)
      · exact absurd he0 (of_decide_eq_true g53)
      · skip
        refine AS.cons (sp_move (v := .int _ _) rfl ?_)
        refine AS.cons (sp_neq rfl rfl ?_)
        refine AS.cons (sp_pick_f rfl (v := .bool _) rfl ?_)
        refine AS.cons (sp_move (v := .bool _) rfl ?_)
        refine AS.split 57 rfl (fun g57 => ?_) (fun g57 => ?_)
        · exact absurd g57 (by decide)
        · skip
          refine AS.cons (sp_move rfl ?_)
          refine AS.cons (sp_fa rfl fo_26_5_6 ?_)
          refine AS.cons (sp_ld 2 rfl rfl sc_24 rfl ?_)
          refine AS.cons (sp_len rfl sl_24_46_7 ?_)
          refine AS.cons (sp_call [16] rfl rfl cf_42 (fun F w hF S => risesF a16 c16 wl b.cries.length (by omega) hB.up w (S.slc_rd (k := 16) ((hF 16 (by simp)).trans rfl) (by omega))) ?_)
          refine AS.cons (sp_not rfl ?_)
          refine AS.cons (sp_pick_f rfl (v := .bool _) rfl ?_)
          refine AS.cons (sp_move (v := .bool _) rfl ?_)
          refine AS.split 65 rfl (fun g65 => ?_) (fun g65 => ?_)
          · exact absurd g65 (by decide)
          · skip
            refine AS.cons (sp_move rfl ?_)
            refine AS.cons (sp_len rfl sl_22_3_1 ?_)
            refine AS.cons (sp_eql rfl rfl ?_)
            refine AS.cons (sp_move (v := .bool _) rfl ?_)
            refine AS.cons (sp_neqb rfl rfl bool_4 ?_)
            refine AS.cons (sp_pick_f rfl (v := .bool _) rfl ?_)
            refine AS.nil ?_
            intro _ S
            refine W.cond rfl (fun c71 => ?_) (fun c71 => ?_)
            · exfalso; rw [hcan] at c71; simp at c71
            · skip
              refine W.skip ?_
              refine W.seq (W.seq (W.region S ?_))
              refine AS.cons (sp_ldw 2 rfl rfl ag_26_7 ?_)
              refine AS.cons (sp_move rfl ?_)
              refine AS.cons (sp_call1 75 [16] _ rfl rfl cf_52 (fun F w hF S => withoutL b la lc ca cc a16 c16 wl (by omega) (by omega) w (hC.ext S.mod) (S.slc_rd (k := 16) ((hF 16 (by simp)).trans rfl) (by omega))) ?_ (by simp))
              rintro v75 i75 ⟨a75, c75, rfl, h75, rfl⟩
              refine AS.cons (sp_call [75] rfl rfl cf_20 (fun F w hF S => by have h := right (wo b (inQ wl)) la lc a75 c75 w (hK.ext S.mod) (hl.ext S.mod) (S.slc_rd (k := 75) ((hF 75 (by simp)).trans rfl) (by have := hwq (inQ wl); omega)); rw [hrw, hch] at h; exact h) ?_)
              refine AS.cons (sp_move rfl ?_)
              refine AS.cons (sp_ext rfl rfl ?_)
              refine AS.cons (sp_ext rfl rfl ?_)
              refine AS.cons (sp_asg (v := .bool _) rfl ?_)
              refine AS.cons (sp_asg (v := .int _ _) rfl ?_)
              refine AS.nil ?_
              intro _ S
              refine W.seq (W.region S ?_)
              refine AS.cons (sp_move (v := .int _ _) rfl ?_)
              refine AS.cons (sp_neq rfl rfl ?_)
              refine AS.cons (sp_move (v := .bool _) rfl ?_)
              refine AS.split 81 rfl (fun g81 => ?_) (fun g81 => ?_)
              · exact absurd g81 (by decide)
              · skip
                refine AS.cons (sp_move (v := .bool _) rfl ?_)
                refine AS.cons (sp_not rfl ?_)
                refine AS.cons (sp_pick_f rfl (v := .bool _) rfl ?_)
                refine AS.nil ?_
                intro _ S
                refine W.cond rfl (fun c84 => ?_) (fun c84 => ?_)
                · exact absurd c84 (by decide)
                · skip
                  refine W.skip ?_
                  refine W.seq (W.draw S mixed (fun i => ([KD.q [], KD.q [], KD.q [2], KD.q [], KD.q [], KD.e [] [], KD.q [], KD.q [2], KD.q [], KD.e [] [94], KD.q []] : List KD)[i]?) [] [0, 1, 2, 3, 4, 5, 6, 7, 8, 9, 10] (by kernel_rfl) ?_)
                  refine AW.cons rfl rfl (sp_move (v := .int _ _) rfl ?_)
                  refine AW.cons rfl rfl (sp_fa rfl fo_26_5_6 ?_)
                  refine AW.cons rfl rfl (sp_ld 2 rfl rfl sc_24 rfl ?_)
                  refine AW.cons rfl rfl (sp_len rfl sl_24_46_7 ?_)
                  refine AW.cons rfl rfl (sp_shl rfl rfl (by omega) (by rw [hp]; omega) ?_)
                  refine AW.cons rfl rfl (sp_call [] rfl rfl cf_40 (fun F w _ S => by have h := wheel n (1 * 2 ^ ((b.cries.length : Int)).toNat) (by rw [hp]; omega) w; rw [hp, hs, ← hp] at h; exact h) ?_)
                  refine AW.cons rfl rfl (sp_fa rfl fo_26_5_6 ?_)
                  refine AW.cons rfl rfl (sp_ld 2 rfl rfl sc_24 rfl ?_)
                  refine AW.cons rfl rfl (sp_len rfl sl_24_46_7 ?_)
                  refine AW.cons rfl rfl (sp_call1 94 [] _ rfl rfl cf_53 (fun F w _ S => by have h := bitsF s b.cries.length (by omega) (by omega) w; rw [hot] at h; exact h) ?_ (fun _ => (⟨_, _, ⟨none, _, rfl, Nat.le_refl _⟩, rfl⟩ : ∃ u i, (∃ a c, u = Value.slice a ot.length c ∧ ot.length ≤ c) ∧ i = slc 3 1 u ot.length (ot.map iv))))
                  rintro v94 i94 ⟨⟨a94, c94, rfl, h94⟩, rfl⟩
                  refine AW.cons rfl rfl (sp_asg rfl ?_)
                  refine AW.nil ?_
                  intro _ S
                  refine W.seq (W.seq (W.region S ?_))
                  refine AS.cons (sp_move rfl ?_)
                  refine AS.cons (sp_move rfl ?_)
                  refine AS.cons (sp_call [94, 16] rfl rfl cf_54 (fun F w' hF S => by have h := fewerF a94 c94 ot a16 c16 wl w' (S.slc_rd (k := 94) ((hF 94 (by simp)).trans rfl) (by omega)) (S.slc_rd (k := 16) ((hF 16 (by simp)).trans rfl) (by omega)); rw [hfw] at h; exact h) ?_)
                  refine AS.cons (sp_not rfl ?_)
                  refine AS.nil ?_
                  intro _ S
                  refine W.cond rfl (fun c98 => ?_) (fun c98 => ?_)
                  · skip
                    refine W.seq (W.region S ?_)
                    refine AS.cons (sp_call [] rfl rfl cf_28 (fun F w _ S => cried w (hK.ext S.mod)) ?_)
                    refine AS.cons (sp_asg (v := .bool _) rfl ?_)
                    refine AS.nil ?_
                    intro _ S
                    refine W.ret ?_
                    exact ret1 rfl rfl S fun w' S' => ⟨rfl, S'.mod⟩
                  · skip
                    refine W.skip ?_
                    have hfw1 : fw = true := by rw [Bool.not_eq_false'] at c98; exact c98
                    have hso1 := hsof hfw1
                    refine W.seq (W.region S ?_)
                    refine AS.cons (sp_ldw 2 rfl rfl ag_26_7 ?_)
                    refine AS.cons (sp_move rfl ?_)
                    refine AS.cons (sp_call1 103 [94] _ rfl rfl cf_52 (fun F w hF S => withoutL b la lc ca cc a94 c94 ot (by omega) (by omega) w (hC.ext S.mod) (S.slc_rd (k := 94) ((hF 94 (by simp)).trans rfl) (by omega))) ?_ (by simp))
                    rintro v103 i103 ⟨a103, c103, rfl, h103, rfl⟩
                    refine AS.cons (sp_call [103] rfl rfl cf_20 (fun F w hF S => by have h := right (wo b (inQ ot)) la lc a103 c103 w (hK.ext S.mod) (hl.ext S.mod) (S.slc_rd (k := 103) ((hF 103 (by simp)).trans rfl) (by have := hwq (inQ ot); omega)); rw [hso, hch] at h; exact h) ?_)
                    refine AS.cons (sp_move rfl ?_)
                    refine AS.cons (sp_ext rfl rfl ?_)
                    refine AS.cons (sp_ext rfl rfl ?_)
                    refine AS.cons (sp_asg (v := .bool _) rfl ?_)
                    refine AS.cons (sp_asg (v := .int _ _) rfl ?_)
                    refine AS.nil ?_
                    intro _ S
                    refine W.seq (W.region S ?_)
                    refine AS.cons (sp_move (v := .int _ _) rfl ?_)
                    refine AS.cons (sp_eql rfl rfl ?_)
                    refine AS.cons (sp_move (v := .bool _) rfl ?_)
                    refine AS.split 109 rfl (fun g109 => ?_) (fun g109 => ?_)
                    · skip
                      refine AS.cons (sp_move (v := .bool _) rfl ?_)
                      refine AS.cons (sp_not rfl ?_)
                      refine AS.cons (sp_pick_t rfl (v := .bool _) rfl ?_)
                      refine AS.cons (sp_move (v := .bool _) rfl ?_)
                      refine AS.split 113 rfl (fun g113 => ?_) (fun g113 => ?_)
                      · skip
                        refine AS.cons (sp_call [] rfl rfl cf_28 (fun F w _ S => cried w (hK.ext S.mod)) ?_)
                        refine AS.cons (sp_pick_t rfl (v := .bool _) rfl ?_)
                        refine AS.cons (sp_asg (v := .bool _) rfl ?_)
                        refine AS.nil ?_
                        intro _ S
                        refine W.ret ?_
                        exact ret1 rfl rfl S fun w' S' => ⟨rfl, S'.mod⟩
                      · rw [hso1] at g113; exact absurd g113 (by decide)
                    · exact absurd g109 (by decide)
end
end Go.Proofs.YtmpclgepoemneaaDoor
