/-
  Lemmas of this proof, several texts one behind the other; no condition beyond what each says.
-/
import Derived.Test.YtajocmkgdjcmkaaDoorMc
import Derived.Test.YtajocmkgdjcmkaaDoorMb
/-
  The reference: shares, orders, numbers, whether a book can be true; what is asked.
-/
namespace Go.Proofs.YtajocmkgdjcmkaaDoor
set_option maxRecDepth 100000
open Go.Hu Go.RowKit
section
variable (b : Sb) (ha : Option Addr) (hc : Nat) (da : Option Addr) (dc : Nat)
/-- A list in a slice of its own, with a code. -/
def LsE (l : List Int) (e : Int) (u : Value) (i : HP) : Prop := ∃ a c, l.length ≤ c ∧ u = .tuple #[.slice a l.length c, iv e] ∧ i = slc 3 1 (.slice a l.length c) l.length (l.map iv)
theorem nilE {B : Nat → Prop} {w0 w : World} {L : Nat → HP} {Ds : List Nat} (S : St B w0 w L Ds) : St B w0 w (upd eL 0 (slc 3 1 (.slice none 0 0) 0 [])) Ds := by
  have h := ((S.drop 901).only 901)
  rw [upd_same] at h
  have h2 := h.weak (k := 0) (i := slc 3 1 (.slice none 0 0) 0 []) (fun f hf => by rw [upd_same] at hf; exact slc_nil 3 1 f hf)
  rwa [upd_upd] at h2
theorem seedsR (w : World) (hH : Hos w ha hc b.hs) (hD : Ints w da dc b.dr) : Ct Tryd.prog 25 #[.agg (sbL b ha hc da dc).toArray] w (fun u w' => ∃ i, LsE (sdV b) (chkV b) u i ∧ St no w w' (upd eL 0 i) []) := by
  refine fn_intro (args := [.agg (sbL b ha hc da dc).toArray]) Tryd.func25 rfl rfl (by kernel_rfl) ?_
  have S := St.start no w
  refine W.seq (W.region S ?_)
  refine AS.cons (sp_boxa 1 rfl (fun b1 => ?_))
  refine AS.cons (sp_asg rfl ?_)
  refine AS.cons (sp_asg rfl ?_)
  refine AS.nil ?_
  intro _ S
  refine W.seq (W.seq (W.region S ?_))
  refine AS.cons (sp_ldw 1 rfl rfl ag_28_9 ?_)
  refine AS.cons (sp_call [] rfl rfl cf_18 (fun F w _ S => checkR _ _ _ _ _ w (hH.ext S.mod) (hD.ext S.mod)) ?_)
  refine AS.cons (sp_asg (v := .int _ _) rfl ?_)
  refine AS.nil ?_
  intro _ S
  refine W.seq (W.region S ?_)
  refine AS.cons (sp_move (v := .int _ _) rfl ?_)
  refine AS.cons (sp_neq rfl rfl ?_)
  refine AS.nil ?_
  intro _ S
  refine W.condd rfl (fun c8 => ?_) (fun c8 => ?_)
  · skip
    have hl : sdV b = [] := by unfold sdV; rw [chk_isn c8]; rfl
    refine W.seq (W.region S ?_)
    refine AS.cons (sp_move (v := .int _ _) rfl ?_)
    refine AS.cons (sp_asg rfl ?_)
    refine AS.cons (sp_asg (v := .int _ _) rfl ?_)
    refine AS.nil ?_
    intro _ S
    refine W.ret ?_
    first | exact ret2 rfl rfl rfl S fun w' S' => ⟨_, ⟨none, 0, by rw [hl]; exact Nat.le_refl 0, by rw [hl]; rfl, by rw [hl]; rfl⟩, nilE S'⟩ | exact ret2 rfl rfl rfl S fun w' S' => ⟨_, ⟨a11, c11, by rw [hl]; exact h11, by rw [hl, he]; rfl, by rw [hl]; rfl⟩, S'.only 11⟩
  · skip
    have hok := chk_is (by simpa using c8)
    have hb := okS_good.1 hok
    have hl : sdV b = sdL b [] := by unfold sdV; rw [if_pos hok]
    have he := chk_ok hok
    refine W.skip ?_
    refine W.seq (W.region S ?_)
    refine AS.cons (sp_ldw 1 rfl rfl ag_28_9 ?_)
    refine AS.cons (sp_call1 11 [] _ rfl rfl cf_64 (fun F w _ S => seedsF _ _ _ _ _ (by assumption) w (hH.ext S.mod) (hD.ext S.mod)) ?_ (by simp))
    rintro v11 i11 ⟨⟨a11, c11, rfl, h11⟩, rfl⟩
    refine AS.cons (sp_asg rfl ?_)
    refine AS.cons (sp_asg rfl ?_)
    refine AS.nil ?_
    intro _ S
    refine W.ret ?_
    first | exact ret2 rfl rfl rfl S fun w' S' => ⟨_, ⟨none, 0, by rw [hl]; exact Nat.le_refl 0, by rw [hl]; rfl, by rw [hl]; rfl⟩, nilE S'⟩ | exact ret2 rfl rfl rfl S fun w' S' => ⟨_, ⟨a11, c11, by rw [hl]; exact h11, by rw [hl, he]; rfl, by rw [hl]; rfl⟩, S'.only 11⟩
theorem rightR (w : World) (hH : Hos w ha hc b.hs) (hD : Ints w da dc b.dr) : Ct Tryd.prog 16 #[.agg (sbL b ha hc da dc).toArray] w (fun u w' => u = .tuple #[.bool (rgtV b), iv (chkV b)] ∧ Ext w w') := by
  refine fn_intro (args := [.agg (sbL b ha hc da dc).toArray]) Tryd.func16 rfl rfl (by kernel_rfl) ?_
  have S := St.start no w
  refine W.seq (W.region S ?_)
  refine AS.cons (sp_boxa 1 rfl (fun b1 => ?_))
  refine AS.cons (sp_asg rfl ?_)
  refine AS.cons (sp_asg rfl ?_)
  refine AS.nil ?_
  intro _ S
  refine W.seq (W.seq (W.region S ?_))
  refine AS.cons (sp_ldw 1 rfl rfl ag_28_9 ?_)
  refine AS.cons (sp_call [] rfl rfl cf_18 (fun F w _ S => checkR _ _ _ _ _ w (hH.ext S.mod) (hD.ext S.mod)) ?_)
  refine AS.cons (sp_asg (v := .int _ _) rfl ?_)
  refine AS.nil ?_
  intro _ S
  refine W.seq (W.region S ?_)
  refine AS.cons (sp_move (v := .int _ _) rfl ?_)
  refine AS.cons (sp_neq rfl rfl ?_)
  refine AS.nil ?_
  intro _ S
  refine W.condd rfl (fun c8 => ?_) (fun c8 => ?_)
  · skip
    have hl : rgtV b = false := by unfold rgtV; rw [chk_isn c8]; rfl
    refine W.seq (W.region S ?_)
    refine AS.cons (sp_move (v := .int _ _) rfl ?_)
    refine AS.cons (sp_asg rfl ?_)
    refine AS.cons (sp_asg (v := .int _ _) rfl ?_)
    refine AS.nil ?_
    intro _ S
    refine W.ret ?_
    first | exact ret2 rfl rfl rfl S fun w' S' => ⟨by rw [hl]; rfl, S'.mod⟩ | exact ret2 rfl rfl rfl S fun w' S' => ⟨by rw [hl, he]; rfl, S'.mod⟩
  · skip
    have hok := chk_is (by simpa using c8)
    have hb := okS_good.1 hok
    have he := chk_ok hok
    have hl : rgtV b = decide ((sdL b []).length > (0 : Int)) := by
      unfold rgtV; rw [if_pos hok]
      cases sdL b [] <;> simp <;> omega
    refine W.skip ?_
    refine W.seq (W.region S ?_)
    refine AS.cons (sp_ldw 1 rfl rfl ag_28_9 ?_)
    refine AS.cons (sp_call1 11 [] _ rfl rfl cf_64 (fun F w _ S => seedsF _ _ _ _ _ (by assumption) w (hH.ext S.mod) (hD.ext S.mod)) ?_ (by simp))
    rintro v11 i11 ⟨⟨a11, c11, rfl, h11⟩, rfl⟩
    refine AS.cons (sp_len rfl sl_26_3_1 ?_)
    refine AS.cons (sp_gtr rfl rfl ?_)
    refine AS.cons (sp_asg (v := .bool _) rfl ?_)
    refine AS.cons (sp_asg rfl ?_)
    refine AS.nil ?_
    intro _ S
    refine W.ret ?_
    first | exact ret2 rfl rfl rfl S fun w' S' => ⟨by rw [hl]; rfl, S'.mod⟩ | exact ret2 rfl rfl rfl S fun w' S' => ⟨by rw [hl, he]; rfl, S'.mod⟩
theorem askedR (p : Bool) (w : World) (hH : Hos w ha hc b.hs) (hD : Ints w da dc b.dr) : Ct Tryd.prog 77 #[.agg (sbL b ha hc da dc).toArray, .bool p] w (fun u w' => u = iv (askV b p) ∧ Ext w w') := by
  refine fn_intro (args := [.agg (sbL b ha hc da dc).toArray, .bool p]) Tryd.func77 rfl rfl (by kernel_rfl) ?_
  have S := St.start no w
  refine W.seq (W.region S ?_)
  refine AS.cons (sp_boxa 2 rfl (fun b2 => ?_))
  refine AS.cons (sp_asg rfl ?_)
  refine AS.nil ?_
  intro _ S
  refine W.seq (W.seq (W.region S ?_))
  refine AS.cons (sp_ldw 2 rfl rfl ag_28_9 ?_)
  refine AS.cons (sp_call [] rfl rfl cf_18 (fun F w _ S => checkR _ _ _ _ _ w (hH.ext S.mod) (hD.ext S.mod)) ?_)
  refine AS.cons (sp_asg (v := .int _ _) rfl ?_)
  refine AS.nil ?_
  intro _ S
  refine W.seq (W.region S ?_)
  refine AS.cons (sp_move (v := .int _ _) rfl ?_)
  refine AS.cons (sp_neq rfl rfl ?_)
  refine AS.nil ?_
  intro _ S
  refine W.condd rfl (fun c9 => ?_) (fun c9 => ?_)
  · skip
    have hv : askV b p = chkV b := by unfold askV; rw [chk_isn c9, chk_no (chk_isn c9)]; rfl
    refine W.seq (W.region S ?_)
    refine AS.cons (sp_move (v := .int _ _) rfl ?_)
    refine AS.cons (sp_asg (v := .int _ _) rfl ?_)
    refine AS.nil ?_
    intro _ S
    refine W.ret ?_
    exact ret1 rfl rfl S fun w' S' => ⟨by rw [hv]; rfl, S'.mod⟩
  · skip
    have hok := chk_is (by simpa using c9)
    have hb := okS_good.1 hok
    refine W.skip ?_
    refine W.seq (W.seq (W.region S ?_))
    refine AS.cons (sp_move (v := .bool _) rfl ?_)
    refine AS.cons (sp_not rfl ?_)
    refine AS.nil ?_
    intro _ S
    refine W.cond rfl (fun c12 => ?_) (fun c12 => ?_)
    · skip
      have hp : p = false := by simpa using c12
      have hv : askV b p = 81 := by unfold askV; rw [if_pos hok, hp]; rfl
      refine W.seq (W.region S ?_)
      refine AS.cons (sp_asg rfl ?_)
      refine AS.nil ?_
      intro _ S
      refine W.ret ?_
      exact ret1 rfl rfl S fun w' S' => ⟨by rw [hv]; rfl, S'.mod⟩
    · skip
      have hp : p = true := by simpa using c12
      refine W.skip ?_
      refine W.seq (W.seq (W.region S ?_))
      refine AS.cons (sp_ldw 2 rfl rfl ag_28_9 ?_)
      refine AS.cons (sp_call1 14 [] _ rfl rfl cf_64 (fun F w _ S => seedsF _ _ _ _ _ (by assumption) w (hH.ext S.mod) (hD.ext S.mod)) ?_ (by simp))
      rintro v14 i14 ⟨⟨a14, c14, rfl, h14⟩, rfl⟩
      refine AS.cons (sp_len rfl sl_26_3_1 ?_)
      refine AS.cons (sp_eql rfl rfl ?_)
      refine AS.nil ?_
      intro _ S
      refine W.condd rfl (fun c16 => ?_) (fun c16 => ?_)
      · skip
        have hv : askV b p = 82 := by unfold askV; rw [if_pos hok, if_pos hp, if_pos (List.length_eq_zero_iff.1 (by omega))]
        refine W.seq (W.region S ?_)
        refine AS.cons (sp_asg rfl ?_)
        refine AS.nil ?_
        intro _ S
        refine W.ret ?_
        exact ret1 rfl rfl S fun w' S' => ⟨by rw [hv]; rfl, S'.mod⟩
      · skip
        have hv : askV b p = 0 := by unfold askV; rw [if_pos hok, if_pos hp, if_neg (fun h => c16 (by rw [h]; rfl))]
        refine W.skip ?_
        refine W.seq (W.region S ?_)
        refine AS.cons (sp_asg rfl ?_)
        refine AS.nil ?_
        intro _ S
        refine W.ret ?_
        exact ret1 rfl rfl S fun w' S' => ⟨by rw [hv]; rfl, S'.mod⟩
theorem sharesR (w : World) (hH : Hos w ha hc b.hs) (hD : Ints w da dc b.dr) : Ct Tryd.prog 20 #[.agg (sbL b ha hc da dc).toArray] w (fun u w' => ∃ i, LsE (shsV b) (chkV b) u i ∧ St no w w' (upd eL 0 i) []) := by
  refine fn_intro (args := [.agg (sbL b ha hc da dc).toArray]) Tryd.func20 rfl rfl (by kernel_rfl) ?_
  have S := St.start no w
  have hhn : b.hs.length ≤ 9223372036854775807 := hH.2.1
  refine W.seq (W.region S ?_)
  refine AS.cons (sp_boxa 1 rfl (fun b1 => ?_))
  refine AS.cons (sp_asg rfl ?_)
  refine AS.cons (sp_asg rfl ?_)
  refine AS.nil ?_
  intro _ S
  refine W.seq (W.seq (W.region S ?_))
  refine AS.cons (sp_ldw 1 rfl rfl ag_28_9 ?_)
  refine AS.cons (sp_call [] rfl rfl cf_18 (fun F w _ S => checkR _ _ _ _ _ w (hH.ext S.mod) (hD.ext S.mod)) ?_)
  refine AS.cons (sp_asg (v := .int _ _) rfl ?_)
  refine AS.nil ?_
  intro _ S
  refine W.seq (W.region S ?_)
  refine AS.cons (sp_move (v := .int _ _) rfl ?_)
  refine AS.cons (sp_neq rfl rfl ?_)
  refine AS.nil ?_
  intro _ S
  refine W.condd rfl (fun c10 => ?_) (fun c10 => ?_)
  · skip
    have hl : shsV b = [] := by unfold shsV; rw [chk_isn c10]; rfl
    refine W.seq (W.region S ?_)
    refine AS.cons (sp_move (v := .int _ _) rfl ?_)
    refine AS.cons (sp_asg rfl ?_)
    refine AS.cons (sp_asg (v := .int _ _) rfl ?_)
    refine AS.nil ?_
    intro _ S
    refine W.ret ?_
    first | exact ret2 rfl rfl rfl S fun w' S' => ⟨_, ⟨none, 0, by rw [hl]; exact Nat.le_refl 0, by rw [hl]; rfl, by rw [hl]; rfl⟩, nilE S'⟩ | exact ret2 rfl rfl rfl S fun w' S' => ⟨_, ⟨a, c, by rw [hl, hsl]; exact hjc, by rw [hl, he, hsl]; rfl, by rw [hl, hsl]; rfl⟩, S'.only 901⟩
  · skip
    have hok := chk_is (by simpa using c10)
    have hb := okS_good.1 hok
    have hO := hb.own
    have hn6 := hb.n6
    have hl : shsV b = shsL b := by unfold shsV; rw [if_pos hok]
    have he := chk_ok hok
    refine W.skip ?_
    refine W.seq (W.region S ?_)
    refine AS.cons (sp_bsS0 901 sl_26_3_1 (fun b12 => ?_))
    refine AS.cons (sp_asg rfl ?_)
    refine AS.nil ?_
    intro _ S
    refine W.seq (W.seq (W.region S ?_))
    refine AS.cons (sp_asg rfl ?_)
    refine AS.nil ?_
    intro _ S
    refine W.block ?_
    refine W.loopS S [5, 6, 13, 14, 15, 16, 17, 18, 19, 20, 21, 22, 23, 24, 25] [24, 25, 901] (fun (z : Nat × Value) => [(6, iv z.1), (5, z.2)]) (fun z => [(901, slc 3 1 z.2 z.1 (((List.range z.1).map (ofK b)).map iv))]) (fun z => z.1 ≤ b.hs.length ∧ ∃ a c, z.2 = .slice a z.1 c) (fun z => b.hs.length - z.1) (0, _) ⟨by omega, _, 0, rfl⟩ ⟨rfl, rfl, trivial⟩ ⟨rfl, trivial⟩ ?_
    rintro ⟨j, v⟩ σ M w1 ⟨hj, a, c, hva⟩ S
    replace hj : j ≤ b.hs.length := hj
    replace hva : v = .slice a j c := hva
    subst hva
    refine W.seq (W.seq (W.region S ?_))
    refine AS.cons (sp_move (v := .int _ _) rfl ?_)
    refine AS.cons (sp_fa rfl fo_28_1_3 ?_)
    refine AS.cons (sp_ld 1 rfl rfl sc_23 rfl ?_)
    refine AS.cons (sp_len rfl sl_23_75_3 ?_)
    refine AS.cons (sp_lss rfl rfl ?_)
    refine AS.nil ?_
    intro _ S
    refine W.condd rfl (fun c17 => ?_) (fun c17 => ?_)
    · skip
      have hlt : j < b.hs.length := by omega
      refine W.skip ?_
      refine W.seq (W.block ?_)
      refine W.region S ?_
      refine AS.cons (sp_move rfl ?_)
      refine AS.cons (sp_ldw 1 rfl rfl ag_28_9 ?_)
      refine AS.cons (sp_move (v := .int _ _) rfl ?_)
      refine AS.cons (sp_call [] rfl rfl cf_72 (fun F w _ S => ofF _ _ _ _ _ (by assumption) _ (by assumption) w (hH.ext S.mod)) ?_)
      refine AS.cons (sp_bs 24 [.tmp 23] _ sl_26_3_1 zs_3_1 rfl rfl rfl rfl rfl rfl (fun b24 => ?_))
      refine AS.cons (sp_app 901 [24] rfl rfl sl_26_3_1 zs_3_1 rfl (fun F w hF S => rd_pt (S.get ((hF 24 (by simp)).trans rfl)).1 rfl (by omega) (by omega)) rfl (by first | omega | (simp only [decide_eq_true_eq, decide_eq_false_iff_not] at *; omega)) (fun a25 c25 => ?_))
      refine AS.cons (sp_asg rfl ?_)
      refine AS.nil ?_
      intro _ S
      refine W.region S ?_
      refine AS.cons (sp_move (v := .int _ _) rfl ?_)
      refine AS.cons (sp_add rfl rfl (by first | omega | (simp only [decide_eq_true_eq, decide_eq_false_iff_not] at *; omega)) ?_)
      refine AS.cons (sp_asg (v := .int _ _) rfl ?_)
      refine AS.nil ?_
      intro _ S
      exact ⟨(j + 1, .slice a25 (j + 1) c25), _, ⟨by show j + 1 ≤ _; omega, a25, c25, rfl⟩, by show _ - (j + 1) < _ - j; omega, ⟨by simp [upd], rfl, trivial⟩, ⟨by show slc 3 1 _ _ _ = slc 3 1 _ _ _; rw [List.range_succ, List.map_append, List.map_append]; rfl, trivial⟩, by repeat (first | exact Agr.refl _ _ | exact Agr.msk _ _ _ | refine Agr.upd ?_ _ rfl | refine Agr.upds ?_ rfl | refine Agr.mskIn ?_ rfl), by repeat (first | exact Agr.refl _ _ | exact Agr.msk _ _ _ | refine Agr.upd ?_ _ rfl | refine Agr.upds ?_ rfl | refine Agr.mskIn ?_ rfl), rfl, S⟩
    · skip
      obtain rfl : j = b.hs.length := by omega
      have hjc : b.hs.length ≤ c := St.slc_le S 901 rfl
      have hsl : (shsL b).length = b.hs.length := by simp [shsL]
      refine W.exit ?_
      refine W.seq (W.region S ?_)
      refine AS.cons (sp_move rfl ?_)
      refine AS.cons (sp_asg rfl ?_)
      refine AS.cons (sp_asg rfl ?_)
      refine AS.nil ?_
      intro _ S
      refine W.ret ?_
      first | exact ret2 rfl rfl rfl S fun w' S' => ⟨_, ⟨none, 0, by rw [hl]; exact Nat.le_refl 0, by rw [hl]; rfl, by rw [hl]; rfl⟩, nilE S'⟩ | exact ret2 rfl rfl rfl S fun w' S' => ⟨_, ⟨a, c, by rw [hl, hsl]; exact hjc, by rw [hl, he, hsl]; rfl, by rw [hl, hsl]; rfl⟩, S'.only 901⟩
theorem orderR (s : Int) (w : World) (hH : Hos w ha hc b.hs) (hD : Ints w da dc b.dr) : Ct Tryd.prog 23 #[.agg (sbL b ha hc da dc).toArray, iv s] w (fun u w' => ∃ i, LsE (ordV b s) (ordE b s) u i ∧ St no w w' (upd eL 0 i) []) := by
  refine fn_intro (args := [.agg (sbL b ha hc da dc).toArray, iv s]) Tryd.func23 rfl rfl (by kernel_rfl) ?_
  have S := St.start no w
  refine W.seq (W.region S ?_)
  refine AS.cons (sp_boxa 2 rfl (fun b2 => ?_))
  refine AS.cons (sp_asg rfl ?_)
  refine AS.cons (sp_asg rfl ?_)
  refine AS.nil ?_
  intro _ S
  refine W.seq (W.seq (W.region S ?_))
  refine AS.cons (sp_ldw 2 rfl rfl ag_28_9 ?_)
  refine AS.cons (sp_call [] rfl rfl cf_18 (fun F w _ S => checkR _ _ _ _ _ w (hH.ext S.mod) (hD.ext S.mod)) ?_)
  refine AS.cons (sp_asg (v := .int _ _) rfl ?_)
  refine AS.nil ?_
  intro _ S
  refine W.seq (W.region S ?_)
  refine AS.cons (sp_move (v := .int _ _) rfl ?_)
  refine AS.cons (sp_neq rfl rfl ?_)
  refine AS.nil ?_
  intro _ S
  refine W.condd rfl (fun c10 => ?_) (fun c10 => ?_)
  · skip
    have he : ordE b s = chkV b := by unfold ordE; rw [chk_isn c10, chk_no (chk_isn c10)]; rfl
    have hl : ordV b s = [] := by unfold ordV; rw [he, if_neg c10]
    refine W.seq (W.region S ?_)
    refine AS.cons (sp_move (v := .int _ _) rfl ?_)
    refine AS.cons (sp_asg rfl ?_)
    refine AS.cons (sp_asg (v := .int _ _) rfl ?_)
    refine AS.nil ?_
    intro _ S
    refine W.ret ?_
    first | exact ret2 rfl rfl rfl S fun w' S' => ⟨_, ⟨none, 0, by rw [hl]; exact Nat.le_refl 0, by rw [hl, he]; rfl, by rw [hl]; rfl⟩, nilE S'⟩ | exact ret2 rfl rfl rfl S fun w' S' => ⟨_, ⟨a17, c17, by rw [hl]; exact h17, by rw [hl, he]; rfl, by rw [hl]; rfl⟩, S'.only 17⟩
  · skip
    have hok := chk_is (by simpa using c10)
    have hb := okS_good.1 hok
    refine W.skip ?_
    refine W.seq (W.seq (W.region S ?_))
    refine AS.cons (sp_move (v := .int _ _) rfl ?_)
    refine AS.cons (sp_call [] rfl rfl cf_45 (fun F w _ S => between _ _ _ w) ?_)
    refine AS.cons (sp_not rfl ?_)
    refine AS.nil ?_
    intro _ S
    refine W.cond rfl (fun c14 => ?_) (fun c14 => ?_)
    · skip
      have hs : ¬ (0 ≤ s ∧ s ≤ 9999) := fun h => by rw [decide_eq_true h] at c14; cases c14
      have he : ordE b s = 81 := by unfold ordE; rw [if_pos hok, if_neg hs]
      have hl : ordV b s = [] := by unfold ordV; rw [he]; rfl
      refine W.seq (W.region S ?_)
      refine AS.cons (sp_asg rfl ?_)
      refine AS.cons (sp_asg rfl ?_)
      refine AS.nil ?_
      intro _ S
      refine W.ret ?_
      first | exact ret2 rfl rfl rfl S fun w' S' => ⟨_, ⟨none, 0, by rw [hl]; exact Nat.le_refl 0, by rw [hl, he]; rfl, by rw [hl]; rfl⟩, nilE S'⟩ | exact ret2 rfl rfl rfl S fun w' S' => ⟨_, ⟨a17, c17, by rw [hl]; exact h17, by rw [hl, he]; rfl, by rw [hl]; rfl⟩, S'.only 17⟩
    · skip
      have hs : 0 ≤ s ∧ s ≤ 9999 := by simpa using c14
      have he : ordE b s = 0 := by unfold ordE; rw [if_pos hok, if_pos hs]
      have hl : ordV b s = ord b s := by unfold ordV; rw [he]; rfl
      refine W.skip ?_
      refine W.seq (W.region S ?_)
      refine AS.cons (sp_ldw 2 rfl rfl ag_28_9 ?_)
      refine AS.cons (sp_move (v := .int _ _) rfl ?_)
      refine AS.cons (sp_call1 17 [] _ rfl rfl cf_75 (fun F w _ S => drawingF _ _ _ _ _ (by assumption) _ (by omega) w (hH.ext S.mod)) ?_ (by simp))
      rintro v17 i17 ⟨⟨a17, c17, rfl, h17⟩, rfl⟩
      refine AS.cons (sp_asg rfl ?_)
      refine AS.cons (sp_asg rfl ?_)
      refine AS.nil ?_
      intro _ S
      refine W.ret ?_
      first | exact ret2 rfl rfl rfl S fun w' S' => ⟨_, ⟨none, 0, by rw [hl]; exact Nat.le_refl 0, by rw [hl, he]; rfl, by rw [hl]; rfl⟩, nilE S'⟩ | exact ret2 rfl rfl rfl S fun w' S' => ⟨_, ⟨a17, c17, by rw [hl]; exact h17, by rw [hl, he]; rfl, by rw [hl]; rfl⟩, S'.only 17⟩
end
end Go.Proofs.YtajocmkgdjcmkaaDoor

/-
  The reference: what is paid.
-/
namespace Go.Proofs.YtajocmkgdjcmkaaDoor
set_option maxRecDepth 100000
open Go.Hu Go.RowKit
section
variable (b : Sb) (ha : Option Addr) (hc : Nat) (da : Option Addr) (dc : Nat)
theorem LsR.ne (l : List Int) : ∃ u i, LsR l u i := ⟨.slice none l.length l.length, _, ⟨_, _, rfl, Nat.le_refl _⟩, rfl⟩
theorem Good.tot {b : Sb} (hb : Good b) {k : Nat} (hk : k < b.hs.length) : ofK b k ≤ allN b := by
  have h1 := hb.mono (show k + 1 ≤ b.hs.length from hk)
  have h2 := hb.up k
  simp only [totU] at h1
  unfold allN; omega
def pyU (b : Sb) (s m : Int) (j : Nat) : List Int := (List.range b.hs.length).map fun k => ofK b k * (m / allN b) + cntU (ord b s) k j
theorem pyU_len (b : Sb) (s m : Int) (j : Nat) : (pyU b s m j).length = b.hs.length := by simp [pyU]
theorem pyU_at {b : Sb} {s m : Int} {j k : Nat} (hk : k < b.hs.length) : (pyU b s m j)[k]? = some (ofK b k * (m / allN b) + cntU (ord b s) k j) := by
  unfold pyU; rw [List.getElem?_map, List.getElem?_range hk]; rfl
theorem pyU_zero (b : Sb) (s m : Int) : pyU b s m 0 = (List.range b.hs.length).map fun k => ofK b k * (m / allN b) := by
  unfold pyU; congr 1; funext k; simp [cntU]
theorem pyU_done (b : Sb) (s m : Int) : pyU b s m (m % allN b).toNat = payL b s m := rfl
theorem pyU_set {b : Sb} {s m y : Int} {j k : Nat} (hy : (ord b s)[j]? = some y) (hk : y = (k : Int)) (hk2 : k < b.hs.length) : (pyU b s m j).set k (ofK b k * (m / allN b) + cntU (ord b s) k j + 1) = pyU b s m (j + 1) := by
  refine List.ext_getElem? fun i => ?_
  rw [List.getElem?_set, pyU_len]
  by_cases e : k = i
  · subst e
    rw [if_pos rfl, if_pos hk2, pyU_at hk2, cntU_succ hy, if_pos hk, Int.add_assoc]
  · rw [if_neg e]
    by_cases hi : i < b.hs.length
    · rw [pyU_at hi, pyU_at hi, cntU_succ hy, if_neg (by omega), Int.add_zero]
    · rw [List.getElem?_eq_none (by rw [pyU_len]; omega), List.getElem?_eq_none (by rw [pyU_len]; omega)]
set_option maxHeartbeats 4000000 in
theorem paidF (hb : Good b) (m s : Int) (hm : 0 ≤ m ∧ m ≤ 100000) (hs : 0 ≤ s ∧ s ≤ 100000) (w : World) (hH : Hos w ha hc b.hs) : Ct Tryd.prog 78 #[.agg (sbL b ha hc da dc).toArray, iv m, iv s] w (fun u w' => ∃ i, LsR (payL b s m) u i ∧ St no w w' (upd eL 0 i) []) := by
  refine fn_intro (args := [.agg (sbL b ha hc da dc).toArray, iv m, iv s]) Tryd.func78 rfl rfl (by kernel_rfl) ?_
  have S := St.start no w
  have hO := hb.own
  have hn6 := hb.n6
  have h1 := hb.a1
  have h60 := hb.a60
  have hol : ((ord b s).length : Int) = allN b := by rw [ord_len]; exact rowF_len hb
  have hq : 0 ≤ m / allN b ∧ m / allN b ≤ 100000 := ⟨Int.ediv_nonneg hm.1 (by omega), Int.le_trans (Int.ediv_le_self _ hm.1) hm.2⟩
  have hr : 0 ≤ m % allN b ∧ m % allN b < allN b := ⟨Int.emod_nonneg _ (by omega), Int.emod_lt_of_pos _ (by omega)⟩
  refine W.seq (W.region S ?_)
  refine AS.cons (sp_boxa 3 rfl (fun b3 => ?_))
  refine AS.cons (sp_asg rfl ?_)
  refine AS.nil ?_
  intro _ S
  refine W.seq (W.draw S mixed (fun i => ([KD.q [3], KD.e [] [], KD.q [3], KD.q [], KD.e [] [16], KD.q [], KD.q []] : List KD)[i]?) [] [0, 1, 2, 3, 4, 5, 6] (by kernel_rfl) ?_)
  refine AW.cons rfl rfl (sp_ldw 3 rfl rfl ag_28_9 ?_)
  refine AW.cons rfl rfl (sp_call [] rfl rfl cf_71 (fun F w _ S => allRF _ _ _ _ _ (by assumption) w (hH.ext S.mod)) ?_)
  refine AW.cons rfl rfl (sp_ldw 3 rfl rfl ag_28_9 ?_)
  refine AW.cons rfl rfl (sp_move (v := .int _ _) rfl ?_)
  refine AW.cons rfl rfl (sp_call1 16 [] _ rfl rfl cf_75 (fun F w _ S => drawingF _ _ _ _ _ (by assumption) _ (by omega) w (hH.ext S.mod)) ?_ (fun _ => LsR.ne _))
  rintro v16 i16 ⟨⟨a16, c16, rfl, h16⟩, rfl⟩
  refine AW.cons rfl rfl (sp_asg (v := .int _ _) rfl ?_)
  refine AW.cons rfl rfl (sp_asg rfl ?_)
  refine AW.nil ?_
  intro _ S
  refine W.seq (W.region S ?_)
  refine AS.cons (sp_bsS0 901 sl_26_3_1 (fun b17 => ?_))
  refine AS.cons (sp_asg rfl ?_)
  refine AS.nil ?_
  intro _ S
  refine W.seq (W.seq (W.region S ?_))
  refine AS.cons (sp_asg rfl ?_)
  refine AS.nil ?_
  intro _ S
  refine W.block ?_
  refine W.loopS S [9, 10, 18, 19, 20, 21, 22, 23, 24, 25, 26, 27, 28, 29, 30, 31, 32, 33, 34] [33, 34, 901] (fun (z : Nat × Value) => [(10, iv z.1), (9, z.2)]) (fun z => [(901, slc 3 1 z.2 z.1 (((List.range z.1).map fun k => ofK b k * (m / allN b)).map iv))]) (fun z => z.1 ≤ b.hs.length ∧ ∃ a c, z.2 = .slice a z.1 c) (fun z => b.hs.length - z.1) (0, _) ⟨by omega, _, 0, rfl⟩ ⟨rfl, rfl, trivial⟩ ⟨rfl, trivial⟩ ?_
  rintro ⟨j, v⟩ σ M w1 ⟨hj, a, c, hva⟩ S
  replace hj : j ≤ b.hs.length := hj
  replace hva : v = .slice a j c := hva
  subst hva
  refine W.seq (W.seq (W.region S ?_))
  refine AS.cons (sp_move (v := .int _ _) rfl ?_)
  refine AS.cons (sp_fa rfl fo_28_1_3 ?_)
  refine AS.cons (sp_ld 3 rfl rfl sc_23 rfl ?_)
  refine AS.cons (sp_len rfl sl_23_75_3 ?_)
  refine AS.cons (sp_lss rfl rfl ?_)
  refine AS.nil ?_
  intro _ S
  refine W.condd rfl (fun c22 => ?_) (fun c22 => ?_)
  · skip
    have hlt : j < b.hs.length := by omega
    have hof := hb.of j
    have hot := hb.tot hlt
    refine W.skip ?_
    refine W.seq (W.block ?_)
    refine W.draw S mixed (fun i => ([KD.q [], KD.q [3], KD.q [], KD.e [] [], KD.q [], KD.q [], KD.q [], KD.q [], KD.a 33, KD.e [901, 33] [901], KD.q []] : List KD)[i]?) [] [0, 1, 2, 3, 4, 5, 6, 7, 8, 9, 10] (by kernel_rfl) ?_
    refine AW.cons rfl rfl (sp_move rfl ?_)
    refine AW.cons rfl rfl (sp_ldw 3 rfl rfl ag_28_9 ?_)
    refine AW.cons rfl rfl (sp_move (v := .int _ _) rfl ?_)
    refine AW.cons rfl rfl (sp_call [] rfl rfl cf_72 (fun F w _ S => ofF _ _ _ _ _ (by assumption) _ (by assumption) w (hH.ext S.mod)) ?_)
    refine AW.cons rfl rfl (sp_move (v := .int _ _) rfl ?_)
    refine AW.cons rfl rfl (sp_move (v := .int _ _) rfl ?_)
    refine AW.cons rfl rfl (sp_quo rfl rfl (by first | omega | (simp only [decide_eq_true_eq, decide_eq_false_iff_not] at *; omega)) (by first | omega | (simp only [decide_eq_true_eq, decide_eq_false_iff_not] at *; omega)) ?_)
    refine AW.cons rfl rfl (sp_mul rfl rfl (mulB (by first | omega | (simp only [] at *; omega)) (by first | omega | (simp only [decide_eq_true_eq, decide_eq_false_iff_not] at *; omega))) ?_)
    refine AW.cons rfl rfl (sp_bs 33 [.tmp 32] _ sl_26_3_1 zs_3_1 rfl rfl rfl rfl rfl rfl (fun b33 => ?_))
    refine AW.cons rfl rfl (sp_app 901 [33] rfl rfl sl_26_3_1 zs_3_1 rfl (fun F w hF S => rd_pt (S.get ((hF 33 (by simp)).trans rfl)).1 rfl (by omega) (by omega)) rfl (by first | omega | (simp only [decide_eq_true_eq, decide_eq_false_iff_not] at *; omega)) (fun a34 c34 => ?_))
    refine AW.cons rfl rfl (sp_asg rfl ?_)
    refine AW.nil ?_
    intro _ S
    refine W.region S ?_
    refine AS.cons (sp_move (v := .int _ _) rfl ?_)
    refine AS.cons (sp_add rfl rfl (by first | omega | (simp only [decide_eq_true_eq, decide_eq_false_iff_not] at *; omega)) ?_)
    refine AS.cons (sp_asg (v := .int _ _) rfl ?_)
    refine AS.nil ?_
    intro _ S
    exact ⟨(j + 1, .slice a34 (j + 1) c34), _, ⟨by show j + 1 ≤ _; omega, a34, c34, rfl⟩, by show _ - (j + 1) < _ - j; omega, ⟨by simp [upd], rfl, trivial⟩, ⟨by show slc 3 1 _ _ _ = slc 3 1 _ _ _; rw [List.range_succ, List.map_append, List.map_append]; rfl, trivial⟩, by repeat (first | exact Agr.refl _ _ | exact Agr.msk _ _ _ | refine Agr.upd ?_ _ rfl | refine Agr.upds ?_ rfl | refine Agr.mskIn ?_ rfl), by repeat (first | exact Agr.refl _ _ | exact Agr.msk _ _ _ | refine Agr.upd ?_ _ rfl | refine Agr.upds ?_ rfl | refine Agr.mskIn ?_ rfl), rfl, S⟩
  · skip
    obtain rfl : j = b.hs.length := by omega
    refine W.exit ?_
    refine W.seq (W.seq (W.region S ?_))
    refine AS.cons (sp_asg rfl ?_)
    refine AS.nil ?_
    intro _ S
    refine W.block ?_
    refine W.loopS S [11, 35, 36, 37, 38, 39, 40, 41, 42, 43, 44, 45, 46, 47, 48, 49, 50] [901] (fun (k : Nat) => [(11, iv k)]) (fun k => [(901, slc 3 1 (.slice a b.hs.length c) b.hs.length ((pyU b s m k).map iv))]) (fun k => k ≤ (m % allN b).toNat) (fun k => (m % allN b).toNat - k) 0 (by omega) ⟨rfl, trivial⟩ ⟨by show slc 3 1 _ _ _ = slc 3 1 _ _ _; rw [pyU_zero], trivial⟩ ?_
    rintro k σ2 M2 w2 hk S
    refine W.seq (W.seq (W.region S ?_))
    refine AS.cons (sp_move (v := .int _ _) rfl ?_)
    refine AS.cons (sp_move (v := .int _ _) rfl ?_)
    refine AS.cons (sp_move (v := .int _ _) rfl ?_)
    refine AS.cons (sp_rem rfl rfl (by first | omega | (simp only [decide_eq_true_eq, decide_eq_false_iff_not] at *; omega)) (by first | omega | (simp only [decide_eq_true_eq, decide_eq_false_iff_not] at *; omega)) ?_)
    refine AS.cons (sp_lss rfl rfl ?_)
    refine AS.nil ?_
    intro _ S
    refine W.condd rfl (fun c39 => ?_) (fun c39 => ?_)
    · skip
      have hlt : k < (m % allN b).toNat := by omega
      obtain ⟨y, hy⟩ := get_some (l := ord b s) (j := k) (by omega)
      have hym := ord_mem (List.mem_of_getElem? hy)
      obtain ⟨yn, rfl⟩ : ∃ yn : Nat, y = yn := ⟨y.toNat, by omega⟩
      have hyn : yn < b.hs.length := by omega
      have hof := hb.of yn
      have hot := hb.tot hyn
      have hc0 := cntU_nonneg (ord b s) yn k
      have hc1 := cntU_le (ord b s) yn k
      have hmb := mul_bd (a := ofK b yn) (c := m / allN b) (A := 60) (C := 100000) (by omega) hq
      have hpy : ((pyU b s m k).map iv)[((yn : Int)).toNat * 1]? = some (iv (ofK b yn * (m / allN b) + cntU (ord b s) yn k)) := by rw [Nat.mul_one, List.getElem?_map, Int.toNat_natCast, pyU_at hyn]; rfl
      refine W.skip ?_
      refine W.seq (W.block ?_)
      refine W.region S ?_
      refine AS.cons (sp_move rfl ?_)
      refine AS.cons (sp_move rfl ?_)
      refine AS.cons (sp_move (v := .int _ _) rfl ?_)
      refine AS.cons (sp_iaS 16 rfl rfl rfl sl_26_3_1 (by omega) ?_)
      refine AS.cons (sp_ldS 16 rfl rfl sc_3 (v := iv (yn : Int)) (by simp [hy]) (by omega) ?_)
      refine AS.cons (sp_iaS 901 rfl rfl rfl sl_26_3_1 (by omega) ?_)
      refine AS.cons (sp_ldS 901 rfl rfl sc_3 hpy (by omega) ?_)
      refine AS.cons (sp_add rfl rfl (by first | omega | (simp only [decide_eq_true_eq, decide_eq_false_iff_not] at *; omega)) ?_)
      refine AS.cons (sp_iaS 901 rfl rfl rfl sl_26_3_1 (by omega) ?_)
      refine AS.cons (sp_stS 901 rfl rfl rfl rfl rfl sz_3_1 (by omega) ?_)
      refine AS.nil ?_
      intro _ S
      refine W.region S ?_
      refine AS.cons (sp_move (v := .int _ _) rfl ?_)
      refine AS.cons (sp_add rfl rfl (by first | omega | (simp only [decide_eq_true_eq, decide_eq_false_iff_not] at *; omega)) ?_)
      refine AS.cons (sp_asg (v := .int _ _) rfl ?_)
      refine AS.nil ?_
      intro _ S
      exact ⟨k + 1, _, by omega, by omega, ⟨by simp [upd], trivial⟩, ⟨by show slc 3 1 _ _ _ = slc 3 1 _ _ _; rw [← pyU_set hy rfl hyn, List.map_set]; rfl, trivial⟩, by repeat (first | exact Agr.refl _ _ | exact Agr.msk _ _ _ | refine Agr.upd ?_ _ rfl | refine Agr.upds ?_ rfl | refine Agr.mskIn ?_ rfl), by repeat (first | exact Agr.refl _ _ | exact Agr.msk _ _ _ | refine Agr.upd ?_ _ rfl | refine Agr.upds ?_ rfl | refine Agr.mskIn ?_ rfl), rfl, S⟩
    · skip
      obtain rfl : k = (m % allN b).toNat := by omega
      have hjc : b.hs.length ≤ c := St.slc_le S 901 rfl
      refine W.exit ?_
      refine W.seq (W.region S ?_)
      refine AS.cons (sp_move rfl ?_)
      refine AS.cons (sp_asg rfl ?_)
      refine AS.nil ?_
      intro _ S
      refine W.ret ?_
      exact ret1 rfl rfl S fun w' S' => ⟨_, ⟨⟨a, c, by rw [payL_len]; rfl, by rw [payL_len]; exact hjc⟩, by rw [payL_len]; rfl⟩, S'.only 901⟩
end
end Go.Proofs.YtajocmkgdjcmkaaDoor

/-
  The reference: between what a holder is paid; whether all can be paid just so.
-/
namespace Go.Proofs.YtajocmkgdjcmkaaDoor
set_option maxRecDepth 100000
open Go.Hu Go.RowKit
section
variable (b : Sb) (ha : Option Addr) (hc : Nat) (da : Option Addr) (dc : Nat)
theorem ask_is {b : Sb} {p : Bool} (h : askV b p = 0) : Good b ∧ p = true ∧ sdL b [] ≠ [] := by
  unfold askV at h
  split at h
  · next hok =>
    split at h
    · next hp =>
      split at h
      · exact absurd h (by decide)
      · next hs => exact ⟨okS_good.1 hok, hp, hs⟩
    · exact absurd h (by decide)
  · exact absurd h (by decide)
theorem mnN_is {b : Sb} (hb : Good b) : (mnN b : Int) = b.m1 - b.m0 + 1 := by have := hb.mo; unfold mnN; omega
theorem mnN_pos {b : Sb} (hb : Good b) : 0 < mnN b := by have := mnN_is hb; have := hb.mo; omega
theorem sd_bd {b : Sb} (hb : Good b) {but : List Int} {s : Int} (h : s ∈ sdL b but) : 0 ≤ s ∧ s ≤ 9999 := by
  have h1 := sdL_mem h; have h2 := hb.se; omega
theorem sdL_51 {b : Sb} (hb : Good b) (but : List Int) : (sdL b but).length ≤ 51 := by
  have h1 := sdU_len b but (sdN b); have h2 := hb.se; unfold sdN at h1; unfold sdL sdN; omega
theorem payLo_is {b : Sb} (hb : Good b) {k : Nat} (hk : k < b.hs.length) {s : Int} (hs : (sdL b [])[0]? = some s) : fldS min (payF b k) (mnN b) (payK b s b.m0 k) (sdL b []) = payLo b k :=
  fldS_minE (List.mem_of_getElem? hs) (mnN_pos hb) (by unfold payF; simp) (fun s _ j hj => (payF_bd hb hk hj).2)
theorem payHi_is {b : Sb} (hb : Good b) {k : Nat} (hk : k < b.hs.length) {s : Int} (hs : (sdL b [])[0]? = some s) : fldS max (payF b k) (mnN b) (payK b s b.m0 k) (sdL b []) = payHi b k :=
  fldS_maxE (List.mem_of_getElem? hs) (mnN_pos hb) (by unfold payF; simp) (fun s _ j hj => (payF_bd hb hk hj).1)
abbrev spL (lo hi : Int) : List Value := [iv lo, iv hi]
set_option maxHeartbeats 4000000 in
theorem paysR (k : Int) (w : World) (hH : Hos w ha hc b.hs) (hD : Ints w da dc b.dr) : Ct Tryd.prog 28 #[.agg (sbL b ha hc da dc).toArray, iv k] w (fun u w' => u = .tuple #[.agg (spL (payLoV b k) (payHiV b k)).toArray, iv (payE b k)] ∧ Ext w w') := by
  refine fn_intro (args := [.agg (sbL b ha hc da dc).toArray, iv k]) Tryd.func28 rfl rfl (by kernel_rfl) ?_
  have S := St.start no w
  have hhn : b.hs.length ≤ 9223372036854775807 := hH.2.1
  have hcm : ∀ {j : Nat} {s : Int} {v : Value} (hj : j < b.hs.length) (x : Int), v = iv (payK b s x j) → ((payL b s x).map iv)[((j : Int)).toNat * 1]? = some v := fun {j s v} hj x hv => by rw [Nat.mul_one, List.getElem?_map, Int.toNat_natCast, payL_at hj, hv]; rfl
  refine W.seq (W.region S ?_)
  refine AS.cons (sp_boxa 2 rfl (fun b2 => ?_))
  refine AS.cons (sp_alloc 4 zv_25 rfl (fun b4 => ?_))
  refine AS.cons (sp_asg rfl ?_)
  refine AS.nil ?_
  intro _ S
  refine W.seq (W.seq (W.draw S mixed (fun i => ([KD.q [2], KD.q [], KD.q [], KD.q [2], KD.q [], KD.q [], KD.e [] [], KD.e [] [], KD.q []] : List KD)[i]?) [] [0, 1, 2, 3, 4, 5, 6, 7, 8] (by kernel_rfl) ?_))
  refine AW.cons rfl rfl (sp_ldw 2 rfl rfl ag_28_9 ?_)
  refine AW.cons rfl rfl (sp_move (v := .int _ _) rfl ?_)
  refine AW.cons rfl rfl (sp_fa rfl fo_28_1_3 ?_)
  refine AW.cons rfl rfl (sp_ld 2 rfl rfl sc_23 rfl ?_)
  refine AW.cons rfl rfl (sp_len rfl sl_23_75_3 ?_)
  refine AW.cons rfl rfl (sp_sub rfl rfl (by first | omega | (simp only [decide_eq_true_eq, decide_eq_false_iff_not] at *; omega)) ?_)
  refine AW.cons rfl rfl (sp_call [] rfl rfl cf_45 (fun F w _ S => between _ _ _ w) ?_)
  refine AW.cons rfl rfl (sp_call [] rfl rfl cf_77 (fun F w _ S => askedR _ _ _ _ _ _ w (hH.ext S.mod) (hD.ext S.mod)) ?_)
  refine AW.cons rfl rfl (sp_asg (v := .int _ _) rfl ?_)
  refine AW.nil ?_
  intro _ S
  refine W.seq (W.region S ?_)
  refine AS.cons (sp_move (v := .int _ _) rfl ?_)
  refine AS.cons (sp_neq rfl rfl ?_)
  refine AS.nil ?_
  intro _ S
  refine W.condd rfl (fun c21 => ?_) (fun c21 => ?_)
  · skip
    have he : ¬ payE b k = 0 := c21
    have hlo : payLoV b k = 0 := by unfold payLoV; rw [if_neg he]
    have hhi : payHiV b k = 0 := by unfold payHiV; rw [if_neg he]
    refine W.seq (W.region S ?_)
    refine AS.cons (sp_build [iv 0, iv 0] (by kernel_rfl) ?_)
    refine AS.cons (sp_move (v := .int _ _) rfl ?_)
    refine AS.cons (sp_st 4 rfl rfl rfl rfl sz_25_2 rfl rfl ?_)
    refine AS.cons (sp_asg (v := .int _ _) rfl ?_)
    refine AS.nil ?_
    intro _ S
    refine W.ret ?_
    exact retct 4 ag_25_2 rfl rfl rfl rfl rfl rfl S fun w' S' => ⟨by rw [hlo, hhi]; first | rfl | (rw [he]; rfl), S'.mod⟩
  · skip
    have he : payE b k = 0 := Decidable.not_not.1 c21
    have hlo : payLoV b k = payLo b k.toNat := by unfold payLoV; rw [if_pos he]
    have hhi : payHiV b k = payHi b k.toNat := by unfold payHiV; rw [if_pos he]
    obtain ⟨hb, hkb, hne⟩ := ask_is he
    unfold holdB at hkb
    rw [decide_eq_true_eq] at hkb
    obtain ⟨kn, rfl⟩ : ∃ kn : Nat, k = kn := ⟨k.toNat, by omega⟩
    have hkn : kn < b.hs.length := by omega
    rw [Int.toNat_natCast] at hlo hhi
    have hl51 := sdL_51 hb []
    have hlp : 0 < (sdL b []).length := by cases h : sdL b [] with | nil => exact absurd h hne | cons => simp
    obtain ⟨s0, hs0⟩ := get_some hlp
    have hsb := sd_bd hb (List.mem_of_getElem? hs0)
    obtain ⟨⟨m1, m2⟩, m3, m4⟩ := hb.mo
    have hN := mnN_is hb
    refine W.skip ?_
    refine W.seq (W.region S ?_)
    refine AS.cons (sp_ldw 2 rfl rfl ag_28_9 ?_)
    refine AS.cons (sp_call1 25 [] _ rfl rfl cf_64 (fun F w _ S => seedsF _ _ _ _ _ (by assumption) w (hH.ext S.mod) (hD.ext S.mod)) ?_ (by simp))
    rintro v25 i25 ⟨⟨a25, c25, rfl, h25⟩, rfl⟩
    refine AS.cons (sp_asg rfl ?_)
    refine AS.nil ?_
    intro _ S
    refine W.seq (W.draw S mixed (fun i => ([KD.q [2], KD.q [], KD.q [], KD.q [2], KD.q [], KD.q [25], KD.q [25], KD.e [] [33], KD.q [], KD.q [33], KD.q [33], KD.e [] [], KD.a 8, KD.e [8] [8]] : List KD)[i]?) [9] [0, 1, 2, 3, 4, 5, 6, 7, 8, 9, 10, 11, 12, 13] (by kernel_rfl) ?_)
    refine AW.cons rfl rfl (sp_ldw 2 rfl rfl ag_28_9 ?_)
    refine AW.cons rfl rfl (sp_fa rfl fo_28_2_4 ?_)
    refine AW.cons rfl rfl (sp_fa rfl fo_25_0_0 ?_)
    refine AW.cons rfl rfl (sp_ld 2 rfl rfl sc_3 rfl ?_)
    refine AW.cons rfl rfl (sp_move rfl ?_)
    refine AW.cons rfl rfl (sp_iaS 25 rfl rfl rfl sl_26_3_1 (by omega) ?_)
    refine AW.cons rfl rfl (sp_ldS 25 rfl rfl sc_3 (v := iv s0) (by simp [hs0]) (by omega) ?_)
    refine AW.cons rfl rfl (sp_call1 33 [] _ rfl rfl cf_78 (fun F w _ S => paidF _ _ _ _ _ (by assumption) _ _ (by omega) (by omega) w (hH.ext S.mod)) ?_ (fun _ => LsR.ne _))
    rintro v33 i33 ⟨⟨a33, c33, rfl, h33⟩, rfl⟩
    refine AW.cons rfl rfl (sp_move (v := .int _ _) rfl ?_)
    refine AW.cons rfl rfl (sp_iaS 33 rfl rfl rfl sl_26_3_1 (by rw [payL_len]; omega) ?_)
    refine AW.cons rfl rfl (sp_ldS 33 rfl rfl sc_3 (hcm (v := iv (payK b s0 b.m0 kn)) hkn b.m0 rfl) (by rw [payL_len]; omega) ?_)
    refine AW.cons rfl rfl (sp_call [] rfl rfl cf_48 (fun F w _ S => justF _ w) ?_)
    refine AW.cons rfl rfl (sp_alloc 8 zv_25 rfl (fun b8 => ?_))
    refine AW.cons rfl rfl (sp_st 8 rfl rfl rfl rfl sz_25_2 rfl rfl ?_)
    refine AW.nil ?_
    intro _ S
    refine W.seq (W.seq (W.region S ?_))
    refine AS.cons (sp_asg rfl ?_)
    refine AS.nil ?_
    intro _ S
    refine W.block ?_
    refine W.loopS S [9, 10, 11, 38, 39, 40, 41, 42, 43, 44, 45, 46, 47, 48, 49, 50, 51, 52, 53, 54, 55, 56, 57, 58, 59, 60, 61, 62, 63, 64, 65, 66, 67, 68, 69, 70, 71, 72] [8, 60] (fun (i : Nat) => [(9, iv i)]) (fun i => [(8, pt b8 (.cells [iv (fldS min (payF b kn) (mnN b) (payK b s0 b.m0 kn) ((sdL b []).take i)), iv (fldS max (payF b kn) (mnN b) (payK b s0 b.m0 kn) ((sdL b []).take i))].toArray 25 (0, 0)))]) (fun i => i ≤ (sdL b []).length) (fun i => (sdL b []).length - i) 0 (by omega) ⟨rfl, trivial⟩ ⟨rfl, trivial⟩ ?_
    rintro i σ M w1 hi S
    refine W.seq (W.seq (W.region S ?_))
    refine AS.cons (sp_move (v := .int _ _) rfl ?_)
    refine AS.cons (sp_move rfl ?_)
    refine AS.cons (sp_len rfl sl_26_3_1 ?_)
    refine AS.cons (sp_lss rfl rfl ?_)
    refine AS.nil ?_
    intro _ S
    refine W.condd rfl (fun c41 => ?_) (fun c41 => ?_)
    · skip
      have hlt : i < (sdL b []).length := by omega
      obtain ⟨s, hs⟩ := get_some hlt
      have hsb2 := sd_bd hb (List.mem_of_getElem? hs)
      obtain ⟨lo, hlod⟩ : ∃ lo, lo = fldS min (payF b kn) (mnN b) (payK b s0 b.m0 kn) ((sdL b []).take i) := ⟨_, rfl⟩
      obtain ⟨hi2, hhid⟩ : ∃ hi2, hi2 = fldS max (payF b kn) (mnN b) (payK b s0 b.m0 kn) ((sdL b []).take i) := ⟨_, rfl⟩
      rw [← hlod, ← hhid] at S
      refine W.skip ?_
      refine W.seq (W.block ?_)
      refine W.seq (W.region S ?_)
      refine AS.cons (sp_fa rfl fo_28_2_4 ?_)
      refine AS.cons (sp_fa rfl fo_25_0_0 ?_)
      refine AS.cons (sp_ld 2 rfl rfl sc_3 rfl ?_)
      refine AS.cons (sp_asg (v := .int _ _) rfl ?_)
      refine AS.nil ?_
      intro _ S
      refine W.block ?_
      refine W.loopS S [10, 11, 47, 48, 49, 50, 51, 52, 53, 54, 55, 56, 57, 58, 59, 60, 61, 62, 63, 64, 65, 66, 67, 68, 69, 70, 71, 72] [8, 60] (fun (j : Nat) => [(10, iv (b.m0 + (j : Int)))]) (fun j => [(8, pt b8 (.cells [iv (fldU min (payF b kn s) lo j), iv (fldU max (payF b kn s) hi2 j)].toArray 25 (0, 0)))]) (fun j => j ≤ mnN b) (fun j => mnN b - j) 0 (by omega) ⟨by show iv b.m0 = iv (b.m0 + (0 : Nat)); simp, trivial⟩ ⟨by rw [hlod, hhid]; rfl, trivial⟩ ?_
      rintro j σ2 M2 w2 hj S
      refine W.seq (W.seq (W.region S ?_))
      refine AS.cons (sp_move (v := .int _ _) rfl ?_)
      refine AS.cons (sp_fa rfl fo_28_2_4 ?_)
      refine AS.cons (sp_fa rfl fo_25_1_1 ?_)
      refine AS.cons (sp_ld 2 rfl rfl sc_3 rfl ?_)
      refine AS.cons (sp_leq rfl rfl ?_)
      refine AS.nil ?_
      intro _ S
      refine W.condd rfl (fun c51 => ?_) (fun c51 => ?_)
      · skip
        have hlt2 : j < mnN b := by omega
        refine W.skip ?_
        refine W.seq (W.block ?_)
        refine W.seq (W.draw S mixed (fun i => ([KD.q [2], KD.q [], KD.q [], KD.q [], KD.q [25], KD.q [25], KD.e [] [60], KD.q [], KD.q [60], KD.q [60], KD.q []] : List KD)[i]?) [8] [0, 1, 2, 3, 4, 5, 6, 7, 8, 9, 10] (by kernel_rfl) ?_)
        refine AW.cons rfl rfl (sp_ldw 2 rfl rfl ag_28_9 ?_)
        refine AW.cons rfl rfl (sp_move (v := .int _ _) rfl ?_)
        refine AW.cons rfl rfl (sp_move rfl ?_)
        refine AW.cons rfl rfl (sp_move (v := .int _ _) rfl ?_)
        refine AW.cons rfl rfl (sp_iaS 25 rfl rfl rfl sl_26_3_1 (by omega) ?_)
        refine AW.cons rfl rfl (sp_ldS 25 rfl rfl sc_3 (v := iv s) (by simp [hs]) (by omega) ?_)
        refine AW.cons rfl rfl (sp_call1 60 [] _ rfl rfl cf_78 (fun F w _ S => paidF _ _ _ _ _ (by assumption) _ _ (by omega) (by omega) w (hH.ext S.mod)) ?_ (fun _ => LsR.ne _))
        rintro v60 i60 ⟨⟨a60, c60, rfl, h60⟩, rfl⟩
        refine AW.cons rfl rfl (sp_move (v := .int _ _) rfl ?_)
        refine AW.cons rfl rfl (sp_iaS 60 rfl rfl rfl sl_26_3_1 (by rw [payL_len]; omega) ?_)
        refine AW.cons rfl rfl (sp_ldS 60 rfl rfl sc_3 (hcm (v := iv (payF b kn s j)) hkn (b.m0 + (j : Int)) rfl) (by rw [payL_len]; omega) ?_)
        refine AW.cons rfl rfl (sp_asg (v := .int _ _) rfl ?_)
        refine AW.nil ?_
        intro _ S
        refine W.region S ?_
        refine AS.cons (sp_fa rfl fo_25_0_0 ?_)
        refine AS.cons (sp_ld 8 rfl rfl sc_3 rfl ?_)
        refine AS.cons (sp_move (v := .int _ _) rfl ?_)
        refine AS.cons (sp_min rfl rfl ?_)
        refine AS.cons (sp_fa rfl fo_25_1_1 ?_)
        refine AS.cons (sp_ld 8 rfl rfl sc_3 rfl ?_)
        refine AS.cons (sp_move (v := .int _ _) rfl ?_)
        refine AS.cons (sp_max rfl rfl ?_)
        refine AS.cons (sp_call [] rfl rfl cf_51 (fun F w _ S => toF _ _ w) ?_)
        refine AS.cons (sp_st 8 rfl rfl rfl rfl sz_25_2 rfl rfl ?_)
        refine AS.nil ?_
        intro _ S
        refine W.region S ?_
        refine AS.cons (sp_move (v := .int _ _) rfl ?_)
        refine AS.cons (sp_add rfl rfl (by first | omega | (simp only [decide_eq_true_eq, decide_eq_false_iff_not] at *; omega)) ?_)
        refine AS.cons (sp_asg (v := .int _ _) rfl ?_)
        refine AS.nil ?_
        intro _ S
        exact ⟨j + 1, _, by omega, by omega, ⟨by show iv (b.m0 + (j : Int) + 1) = iv (b.m0 + ((j + 1 : Nat) : Int)); congr 1; omega, trivial⟩, ⟨rfl, trivial⟩, by repeat (first | exact Agr.refl _ _ | exact Agr.msk _ _ _ | refine Agr.upd ?_ _ rfl | refine Agr.upds ?_ rfl | refine Agr.mskIn ?_ rfl), by repeat (first | exact Agr.refl _ _ | exact Agr.msk _ _ _ | refine Agr.upd ?_ _ rfl | refine Agr.upds ?_ rfl | refine Agr.mskIn ?_ rfl), rfl, S⟩
      · skip
        obtain rfl : j = mnN b := by omega
        refine W.exit ?_
        refine W.region S ?_
        refine AS.cons (sp_move (v := .int _ _) rfl ?_)
        refine AS.cons (sp_add rfl rfl (by first | omega | (simp only [decide_eq_true_eq, decide_eq_false_iff_not] at *; omega)) ?_)
        refine AS.cons (sp_asg (v := .int _ _) rfl ?_)
        refine AS.nil ?_
        intro _ S
        exact ⟨i + 1, _, by omega, by omega, ⟨by simp [upd], trivial⟩, ⟨by rw [fldS_at hs, fldS_at hs, ← hlod, ← hhid]; rfl, trivial⟩, by repeat (first | exact Agr.refl _ _ | exact Agr.msk _ _ _ | refine Agr.upd ?_ _ rfl | refine Agr.upds ?_ rfl | refine Agr.mskIn ?_ rfl), by repeat (first | exact Agr.refl _ _ | exact Agr.msk _ _ _ | refine Agr.upd ?_ _ rfl | refine Agr.upds ?_ rfl | refine Agr.mskIn ?_ rfl), rfl, S⟩
    · skip
      obtain rfl : i = (sdL b []).length := by omega
      rw [List.take_length, payLo_is hb hkn hs0, payHi_is hb hkn hs0] at S
      refine W.exit ?_
      refine W.seq (W.region S ?_)
      refine AS.cons (sp_ldw 8 rfl rfl ag_25_2 ?_)
      refine AS.cons (sp_st 4 rfl rfl rfl rfl sz_25_2 rfl rfl ?_)
      refine AS.cons (sp_asg rfl ?_)
      refine AS.nil ?_
      intro _ S
      refine W.ret ?_
      exact retct 4 ag_25_2 rfl rfl rfl rfl rfl rfl S fun w' S' => ⟨by rw [hlo, hhi]; first | rfl | (rw [he]; rfl), S'.mod⟩
end
end Go.Proofs.YtajocmkgdjcmkaaDoor

/-
  The reference: whether all can be paid just so.
-/
namespace Go.Proofs.YtajocmkgdjcmkaaDoor
set_option maxRecDepth 100000
open Go.Hu Go.RowKit
section
variable (b : Sb) (ha : Option Addr) (hc : Nat) (da : Option Addr) (dc : Nat)
def plU (b : Sb) (l : List Int) (j : Nat) : Bool := decide (l.length = b.hs.length) && allU (fun i => decide (0 ≤ l.getD i 0)) j
theorem plU_succ {b : Sb} {l : List Int} {j : Nat} {x : Int} (h : l[j]? = some x) : plU b l (j + 1) = (plU b l j && decide (0 ≤ x)) := by
  unfold plU; rw [allU_succ, Bool.and_assoc, List.getD_eq_getElem?_getD, h]; rfl
theorem plU_all (b : Sb) (l : List Int) : plU b l l.length = plB b l := by
  unfold plU plB; rw [allU_list (p := fun x => decide (0 ≤ x)) (fun i x h => by rw [List.getD_eq_getElem?_getD, h]; rfl)]
theorem plU_down {b : Sb} {l : List Int} {j k : Nat} (hjk : j ≤ k) (h : plU b l j = false) : plU b l k = false := by
  unfold plU at h ⊢
  cases e : decide (l.length = b.hs.length) with
  | false => rfl
  | true => rw [e] at h; simp only [Bool.true_and] at h ⊢; exact allU_down hjk h
theorem payableF (pa : Option Addr) (pc : Nat) (l : List Int) (w : World) (_hH : Hos w ha hc b.hs) (hL : Ints w pa pc l) : Ct Tryd.prog 82 #[.agg (sbL b ha hc da dc).toArray, .slice pa l.length pc] w (fun u w' => u = .bool (plB b l) ∧ Ext w w') := by
  refine fn_intro (args := [.agg (sbL b ha hc da dc).toArray, .slice pa l.length pc]) Tryd.func82 rfl rfl (by kernel_rfl) ?_
  have S := St.start no w
  have hln : l.length ≤ 9223372036854775807 := hL.2.1
  refine W.seq (W.region S ?_)
  refine AS.cons (sp_boxa 2 rfl (fun b2 => ?_))
  refine AS.cons (sp_asg rfl ?_)
  refine AS.nil ?_
  intro _ S
  refine W.seq (W.region S ?_)
  refine AS.cons (sp_move rfl ?_)
  refine AS.cons (sp_len rfl sl_26_3_1 ?_)
  refine AS.cons (sp_fa rfl fo_28_1_3 ?_)
  refine AS.cons (sp_ld 2 rfl rfl sc_23 rfl ?_)
  refine AS.cons (sp_len rfl sl_23_75_3 ?_)
  refine AS.cons (sp_eql rfl rfl ?_)
  refine AS.cons (sp_asg (v := .bool _) rfl ?_)
  refine AS.nil ?_
  intro _ S
  refine W.seq (W.seq (W.region S ?_))
  refine AS.cons (sp_asg rfl ?_)
  refine AS.nil ?_
  intro _ S
  refine W.block ?_
  refine W.loopS S [5, 6, 13, 14, 15, 16, 17, 18, 19, 20, 21, 22, 23, 24, 25, 26] [] (fun (j : Nat) => [(6, iv j), (5, .bool (decide (plU b l j = true)))]) (fun _ => []) (fun j => j ≤ l.length) (fun j => l.length - j) 0 (by omega) ⟨rfl, by show Value.bool _ = Value.bool _; congr 1; unfold plU; simp only [allU, Bool.and_true, decide_eq_true_eq]; exact decide_eq_decide.2 (by omega), trivial⟩ trivial ?_
  rintro j σ M w1 hj S
  refine W.seq (W.seq (W.regionc S [13, 14, 15, 16, 17, 18, 19] 19 (plU b l j = true ∧ (j : Int) < (l.length : Int)) ?_ ?_))
  · skip
    refine AS.cons (sp_move (v := .bool _) rfl ?_)
    refine AS.cons (sp_move (v := .bool _) rfl ?_)
    refine AS.split 14 rfl (fun g14 => ?_) (fun g14 => ?_)
    · skip
      refine AS.cons (sp_move (v := .int _ _) rfl ?_)
      refine AS.cons (sp_move rfl ?_)
      refine AS.cons (sp_len rfl sl_26_3_1 ?_)
      refine AS.cons (sp_lss rfl rfl ?_)
      refine AS.cons (sp_pick_t rfl (v := .bool _) rfl ?_)
      refine AS.nil ⟨⟨_, rfl, ?_⟩, ?_, rfl⟩
      · (try simp only [decide_eq_true_eq] at *); first | omega | (simp_all; done) | (simp_all; omega)
      · repeat (first | exact Agr.refl _ _ | exact Agr.msk _ _ _ | refine Agr.upd ?_ _ rfl | refine Agr.upds ?_ rfl | refine Agr.mskIn ?_ rfl)
    · skip
      refine AS.cons (sp_skip rfl ?_)
      refine AS.cons (sp_skip rfl ?_)
      refine AS.cons (sp_skip rfl ?_)
      refine AS.cons (sp_skip rfl ?_)
      refine AS.cons (sp_pick_f rfl (v := .bool _) rfl ?_)
      refine AS.nil ⟨⟨_, rfl, ?_⟩, ?_, rfl⟩
      · (try simp only [decide_eq_false_iff_not] at *); first | omega | (simp_all; done) | (simp_all; omega)
      · repeat (first | exact Agr.refl _ _ | exact Agr.msk _ _ _ | refine Agr.upd ?_ _ rfl | refine Agr.upds ?_ rfl | refine Agr.mskIn ?_ rfl)
  intro σ3 _ S
  refine W.cond rfl (fun c19 => ?_) (fun c19 => ?_)
  · skip
    replace c19 := of_decide_eq_true c19
    have hlt : j < l.length := by omega
    obtain ⟨x, hx⟩ := get_some hlt
    refine W.skip ?_
    refine W.seq (W.block ?_)
    refine W.region S ?_
    refine AS.cons (sp_move rfl ?_)
    refine AS.cons (sp_move (v := .int _ _) rfl ?_)
    refine AS.cons (sp_iaR hL rfl rfl sl_26_3_1 (by first | omega | (simp only [decide_eq_true_eq, decide_eq_false_iff_not] at *; omega)) ?_)
    refine AS.cons (sp_ldR 0 hL (fun _ h => h) rfl sc_3 (ints_at hx) (by first | omega | (simp only [decide_eq_true_eq, decide_eq_false_iff_not] at *; omega)) ?_)
    refine AS.cons (sp_geq rfl rfl ?_)
    refine AS.cons (sp_asg (v := .bool _) rfl ?_)
    refine AS.nil ?_
    intro _ S
    have hpx : decide (0 ≤ x) = decide (plU b l (j + 1) = true) := by rw [plU_succ hx, c19.1, dec_t]; rfl
    refine W.region S ?_
    refine AS.cons (sp_move (v := .int _ _) rfl ?_)
    refine AS.cons (sp_add rfl rfl (by first | omega | (simp only [decide_eq_true_eq, decide_eq_false_iff_not] at *; omega)) ?_)
    refine AS.cons (sp_asg (v := .int _ _) rfl ?_)
    refine AS.nil ?_
    intro _ S
    exact ⟨j + 1, _, by omega, by omega, ⟨by simp [upd], congrArg Value.bool hpx, trivial⟩, trivial, by repeat (first | exact Agr.refl _ _ | exact Agr.msk _ _ _ | refine Agr.upd ?_ _ rfl | refine Agr.upds ?_ rfl | refine Agr.mskIn ?_ rfl), by repeat (first | exact Agr.refl _ _ | exact Agr.msk _ _ _ | refine Agr.upd ?_ _ rfl | refine Agr.upds ?_ rfl | refine Agr.mskIn ?_ rfl), rfl, S⟩
  · skip
    replace c19 := of_decide_eq_false c19
    have hex : decide (plU b l j = true) = plB b l := by
      rw [← plU_all, dec_t]
      by_cases h : (j : Int) < (l.length : Int)
      · have h1 : plU b l j = false := by
          cases e : plU b l j with
          | true => exact absurd ⟨e, h⟩ c19
          | false => rfl
        rw [h1, plU_down hj h1]
      · rw [show j = l.length by omega]
    refine W.exit ?_
    refine W.seq (W.region S ?_)
    refine AS.cons (sp_move (v := .bool _) rfl ?_)
    refine AS.cons (sp_asg (v := .bool _) rfl ?_)
    refine AS.nil ?_
    intro _ S
    refine W.ret ?_
    exact ret1 rfl rfl S fun w' S' => ⟨congrArg Value.bool hex, S'.mod⟩
theorem canB_no {b : Sb} {l : List Int} (h : ∀ s ∈ sdL b [], ∀ j, j < mnN b → payL b s (b.m0 + j) ≠ l) : canB b l = false := by
  unfold canB
  rw [List.any_eq_false]
  intro s hs
  rw [Bool.not_eq_true, List.any_eq_false]
  intro j hj
  rw [decide_eq_true_eq]
  exact h s hs j (List.mem_range.1 hj)
theorem canB_yes {b : Sb} {l : List Int} {s : Int} {j : Nat} (hs : s ∈ sdL b []) (hj : j < mnN b) (h : payL b s (b.m0 + j) = l) : canB b l = true := by
  unfold canB
  rw [List.any_eq_true]
  exact ⟨s, hs, List.any_eq_true.2 ⟨j, List.mem_range.2 hj, decide_eq_true h⟩⟩
theorem take_mem {α : Type} {p : α → Prop} {l : List α} {i : Nat} {x : α} (hx : l[i]? = some x) (h : ∀ s ∈ l.take i, p s) (h' : p x) : ∀ s ∈ l.take (i + 1), p s := by
  rw [take_at hx]; exact mem_snoc h h'
set_option maxHeartbeats 4000000 in
theorem canR (pa : Option Addr) (pc : Nat) (l : List Int) (w : World) (hH : Hos w ha hc b.hs) (hD : Ints w da dc b.dr) (hL : Ints w pa pc l) : Ct Tryd.prog 30 #[.agg (sbL b ha hc da dc).toArray, .slice pa l.length pc] w (fun u w' => u = .tuple #[.bool (canV b l), iv (canE b l)] ∧ Ext w w') := by
  refine fn_intro (args := [.agg (sbL b ha hc da dc).toArray, .slice pa l.length pc]) Tryd.func30 rfl rfl (by kernel_rfl) ?_
  have S := St.start no w
  refine W.seq (W.region S ?_)
  refine AS.cons (sp_boxa 2 rfl (fun b2 => ?_))
  refine AS.cons (sp_asg rfl ?_)
  refine AS.cons (sp_asg rfl ?_)
  refine AS.nil ?_
  intro _ S
  refine W.seq (W.seq (W.draw S mixed (fun i => ([KD.q [2], KD.q [2], KD.q [], KD.e [] [], KD.e [] [], KD.q []] : List KD)[i]?) [] [0, 1, 2, 3, 4, 5] (by kernel_rfl) ?_))
  refine AW.cons rfl rfl (sp_ldw 2 rfl rfl ag_28_9 ?_)
  refine AW.cons rfl rfl (sp_ldw 2 rfl rfl ag_28_9 ?_)
  refine AW.cons rfl rfl (sp_move rfl ?_)
  refine AW.cons rfl rfl (sp_call [] rfl rfl cf_82 (fun F w _ S => payableF _ _ _ _ _ _ _ _ w (hH.ext S.mod) (hL.ext S.mod)) ?_)
  refine AW.cons rfl rfl (sp_call [] rfl rfl cf_77 (fun F w _ S => askedR _ _ _ _ _ _ w (hH.ext S.mod) (hD.ext S.mod)) ?_)
  refine AW.cons rfl rfl (sp_asg (v := .int _ _) rfl ?_)
  refine AW.nil ?_
  intro _ S
  refine W.seq (W.region S ?_)
  refine AS.cons (sp_move (v := .int _ _) rfl ?_)
  refine AS.cons (sp_neq rfl rfl ?_)
  refine AS.nil ?_
  intro _ S
  refine W.condd rfl (fun c16 => ?_) (fun c16 => ?_)
  · skip
    have he : ¬ canE b l = 0 := c16
    have hv : canV b l = false := by unfold canV; rw [if_neg he]
    refine W.seq (W.region S ?_)
    refine AS.cons (sp_move (v := .int _ _) rfl ?_)
    refine AS.cons (sp_asg rfl ?_)
    refine AS.cons (sp_asg (v := .int _ _) rfl ?_)
    refine AS.nil ?_
    intro _ S
    refine W.ret ?_
    first | exact ret2 rfl rfl rfl S fun w' S' => ⟨by rw [hv]; rfl, S'.mod⟩ | exact ret2 rfl rfl rfl S fun w' S' => ⟨by rw [hv, hcan, he]; rfl, S'.mod⟩
  · skip
    have he : canE b l = 0 := Decidable.not_not.1 c16
    have hv : canV b l = canB b l := by unfold canV; rw [if_pos he]
    obtain ⟨hb, hpl, hne⟩ := ask_is he
    have hl51 := sdL_51 hb []
    obtain ⟨⟨m1, m2⟩, m3, m4⟩ := hb.mo
    have hN := mnN_is hb
    refine W.skip ?_
    refine W.seq (W.region S ?_)
    refine AS.cons (sp_ldw 2 rfl rfl ag_28_9 ?_)
    refine AS.cons (sp_call1 19 [] _ rfl rfl cf_64 (fun F w _ S => seedsF _ _ _ _ _ (by assumption) w (hH.ext S.mod) (hD.ext S.mod)) ?_ (by simp))
    rintro v19 i19 ⟨⟨a19, c19, rfl, h19⟩, rfl⟩
    refine AS.cons (sp_asg rfl ?_)
    refine AS.nil ?_
    intro _ S
    refine W.seq (W.seq (W.region S ?_))
    refine AS.cons (sp_asg rfl ?_)
    refine AS.nil ?_
    intro _ S
    refine W.block ?_
    refine W.loopS S [4, 5, 8, 9, 20, 21, 22, 23, 24, 25, 26, 27, 28, 29, 30, 31, 32, 33, 34, 35, 36, 37, 38, 39, 40, 41, 42, 43, 44] [42] (fun (i : Nat) => [(8, iv i)]) (fun _ => []) (fun i => i ≤ (sdL b []).length ∧ ∀ s ∈ (sdL b []).take i, ∀ j, j < mnN b → payL b s (b.m0 + j) ≠ l) (fun i => (sdL b []).length - i) 0 ⟨by omega, fun s hs => by simp at hs⟩ ⟨rfl, trivial⟩ trivial ?_
    rintro i σ M w1 ⟨hi, hno⟩ S
    refine W.seq (W.seq (W.region S ?_))
    refine AS.cons (sp_move (v := .int _ _) rfl ?_)
    refine AS.cons (sp_move rfl ?_)
    refine AS.cons (sp_len rfl sl_26_3_1 ?_)
    refine AS.cons (sp_lss rfl rfl ?_)
    refine AS.nil ?_
    intro _ S
    refine W.condd rfl (fun c23 => ?_) (fun c23 => ?_)
    · skip
      have hlt : i < (sdL b []).length := by omega
      obtain ⟨s, hs⟩ := get_some hlt
      have hsm := List.mem_of_getElem? hs
      have hsb2 := sd_bd hb hsm
      refine W.skip ?_
      refine W.seq (W.block ?_)
      refine W.seq (W.region S ?_)
      refine AS.cons (sp_fa rfl fo_28_2_4 ?_)
      refine AS.cons (sp_fa rfl fo_25_0_0 ?_)
      refine AS.cons (sp_ld 2 rfl rfl sc_3 rfl ?_)
      refine AS.cons (sp_asg (v := .int _ _) rfl ?_)
      refine AS.nil ?_
      intro _ S
      refine W.block ?_
      refine W.loopS S [4, 5, 9, 29, 30, 31, 32, 33, 34, 35, 36, 37, 38, 39, 40, 41, 42, 43, 44] [42] (fun (j : Nat) => [(9, iv (b.m0 + (j : Int)))]) (fun _ => []) (fun j => j ≤ mnN b ∧ ∀ t, t < j → payL b s (b.m0 + t) ≠ l) (fun j => mnN b - j) 0 ⟨by omega, fun t ht => absurd ht (by omega)⟩ ⟨by show iv b.m0 = iv (b.m0 + (0 : Nat)); simp, trivial⟩ trivial ?_
      rintro j σ2 M2 w2 ⟨hj, hno2⟩ S
      refine W.seq (W.seq (W.region S ?_))
      refine AS.cons (sp_move (v := .int _ _) rfl ?_)
      refine AS.cons (sp_fa rfl fo_28_2_4 ?_)
      refine AS.cons (sp_fa rfl fo_25_1_1 ?_)
      refine AS.cons (sp_ld 2 rfl rfl sc_3 rfl ?_)
      refine AS.cons (sp_leq rfl rfl ?_)
      refine AS.nil ?_
      intro _ S
      refine W.condd rfl (fun c33 => ?_) (fun c33 => ?_)
      · skip
        have hlt2 : j < mnN b := by omega
        refine W.skip ?_
        refine W.seq (W.block ?_)
        refine W.seq (W.draw S mixed (fun i => ([KD.q [2], KD.q [], KD.q [], KD.q [], KD.q [19], KD.q [19], KD.e [] [42], KD.q [], KD.e [42] []] : List KD)[i]?) [] [0, 1, 2, 3, 4, 5, 6, 7, 8] (by kernel_rfl) ?_)
        refine AW.cons rfl rfl (sp_ldw 2 rfl rfl ag_28_9 ?_)
        refine AW.cons rfl rfl (sp_move (v := .int _ _) rfl ?_)
        refine AW.cons rfl rfl (sp_move rfl ?_)
        refine AW.cons rfl rfl (sp_move (v := .int _ _) rfl ?_)
        refine AW.cons rfl rfl (sp_iaS 19 rfl rfl rfl sl_26_3_1 (by omega) ?_)
        refine AW.cons rfl rfl (sp_ldS 19 rfl rfl sc_3 (v := iv s) (by simp [hs]) (by omega) ?_)
        refine AW.cons rfl rfl (sp_call1 42 [] _ rfl rfl cf_78 (fun F w _ S => paidF _ _ _ _ _ (by assumption) _ _ (by omega) (by omega) w (hH.ext S.mod)) ?_ (fun _ => LsR.ne _))
        rintro v42 i42 ⟨⟨a42, c42, rfl, h42⟩, rfl⟩
        refine AW.cons rfl rfl (sp_move rfl ?_)
        refine AW.cons rfl rfl (sp_call [42] rfl rfl cf_21 (fun F w hF S => same a42 c42 _ pa pc l w (S.slc_rd (k := 42) ((hF 42 (by simp)).trans rfl) (by rw [payL_len]; have := hb.n6; omega)) (hL.ext S.mod)) ?_)
        refine AW.nil ?_
        intro _ S
        refine W.cond rfl (fun c44 => ?_) (fun c44 => ?_)
        · skip
          have hcan := canB_yes hsm hlt2 (of_decide_eq_true c44)
          refine W.seq (W.region S ?_)
          refine AS.cons (sp_asg rfl ?_)
          refine AS.cons (sp_asg rfl ?_)
          refine AS.nil ?_
          intro _ S
          refine W.ret ?_
          first | exact ret2 rfl rfl rfl S fun w' S' => ⟨by rw [hv]; rfl, S'.mod⟩ | exact ret2 rfl rfl rfl S fun w' S' => ⟨by rw [hv, hcan, he]; rfl, S'.mod⟩
        · skip
          have hne2 := of_decide_eq_false c44
          refine W.skip ?_
          refine W.region S ?_
          refine AS.cons (sp_move (v := .int _ _) rfl ?_)
          refine AS.cons (sp_add rfl rfl (by first | omega | (simp only [decide_eq_true_eq, decide_eq_false_iff_not] at *; omega)) ?_)
          refine AS.cons (sp_asg (v := .int _ _) rfl ?_)
          refine AS.nil ?_
          intro _ S
          exact ⟨j + 1, _, ⟨by omega, snoc_lt hno2 hne2⟩, by omega, ⟨by show iv (b.m0 + (j : Int) + 1) = iv (b.m0 + ((j + 1 : Nat) : Int)); congr 1; omega, trivial⟩, trivial, by repeat (first | exact Agr.refl _ _ | exact Agr.msk _ _ _ | refine Agr.upd ?_ _ rfl | refine Agr.upds ?_ rfl | refine Agr.mskIn ?_ rfl), by repeat (first | exact Agr.refl _ _ | exact Agr.msk _ _ _ | refine Agr.upd ?_ _ rfl | refine Agr.upds ?_ rfl | refine Agr.mskIn ?_ rfl), rfl, S⟩
      · skip
        obtain rfl : j = mnN b := by omega
        refine W.exit ?_
        refine W.region S ?_
        refine AS.cons (sp_move (v := .int _ _) rfl ?_)
        refine AS.cons (sp_add rfl rfl (by first | omega | (simp only [decide_eq_true_eq, decide_eq_false_iff_not] at *; omega)) ?_)
        refine AS.cons (sp_asg (v := .int _ _) rfl ?_)
        refine AS.nil ?_
        intro _ S
        exact ⟨i + 1, _, ⟨by omega, take_mem hs hno hno2⟩, by omega, ⟨by simp [upd], trivial⟩, trivial, by repeat (first | exact Agr.refl _ _ | exact Agr.msk _ _ _ | refine Agr.upd ?_ _ rfl | refine Agr.upds ?_ rfl | refine Agr.mskIn ?_ rfl), by repeat (first | exact Agr.refl _ _ | exact Agr.msk _ _ _ | refine Agr.upd ?_ _ rfl | refine Agr.upds ?_ rfl | refine Agr.mskIn ?_ rfl), rfl, S⟩
    · skip
      obtain rfl : i = (sdL b []).length := by omega
      rw [List.take_length] at hno
      have hcan := canB_no hno
      refine W.exit ?_
      refine W.seq (W.region S ?_)
      refine AS.cons (sp_asg rfl ?_)
      refine AS.cons (sp_asg rfl ?_)
      refine AS.nil ?_
      intro _ S
      refine W.ret ?_
      first | exact ret2 rfl rfl rfl S fun w' S' => ⟨by rw [hv]; rfl, S'.mod⟩ | exact ret2 rfl rfl rfl S fun w' S' => ⟨by rw [hv, hcan, he]; rfl, S'.mod⟩
end
end Go.Proofs.YtajocmkgdjcmkaaDoor

/-
  The reference: the draw to ask for, and the notes that must be false.
-/
namespace Go.Proofs.YtajocmkgdjcmkaaDoor
set_option maxRecDepth 100000
open Go.Hu Go.RowKit
section
variable (b : Sb) (ha : Option Addr) (hc : Nat) (da : Option Addr) (dc : Nat)
theorem wst_bd (b : Sb) (l : List Int) (d : Nat) (j : Nat) : 0 ≤ fldU max (fun k => lftN b l d (k : Int)) 0 j ∧ fldU max (fun k => lftN b l d (k : Int)) 0 j ≤ l.length :=
  ⟨(fldU_max.1 (Int.le_refl _)).1, fldU_max.2 ⟨Int.natCast_nonneg _, fun k _ => (lftN_le b l d k).2⟩⟩
set_option maxHeartbeats 4000000 in
theorem worstF (hb : Good b) (d : Nat) (hd : (d : Int) < allN b) (w : World) (hH : Hos w ha hc b.hs) (hD : Ints w da dc b.dr) : Ct Tryd.prog 85 #[.agg (sbL b ha hc da dc).toArray, iv d] w (fun u w' => u = iv (wstN b (sdL b []) d) ∧ Ext w w') := by
  refine fn_intro (args := [.agg (sbL b ha hc da dc).toArray, iv d]) Tryd.func85 rfl rfl (by kernel_rfl) ?_
  have S := St.start no w
  have hn6 := hb.n6
  have hl51 := sdL_51 hb []
  have hol : ∀ s, ((ord b s).length : Int) = allN b := fun s => by rw [ord_len]; exact rowF_len hb
  refine W.seq (W.region S ?_)
  refine AS.cons (sp_boxa 2 rfl (fun b2 => ?_))
  refine AS.cons (sp_asg rfl ?_)
  refine AS.nil ?_
  intro _ S
  refine W.seq (W.region S ?_)
  refine AS.cons (sp_ldw 2 rfl rfl ag_28_9 ?_)
  refine AS.cons (sp_call1 11 [] _ rfl rfl cf_64 (fun F w _ S => seedsF _ _ _ _ _ (by assumption) w (hH.ext S.mod) (hD.ext S.mod)) ?_ (by simp))
  rintro v11 i11 ⟨⟨a11, c11, rfl, h11⟩, rfl⟩
  refine AS.cons (sp_asg rfl ?_)
  refine AS.nil ?_
  intro _ S
  refine W.seq (W.region S ?_)
  refine AS.cons (sp_asg rfl ?_)
  refine AS.nil ?_
  intro _ S
  refine W.seq (W.seq (W.region S ?_))
  refine AS.cons (sp_asg rfl ?_)
  refine AS.nil ?_
  intro _ S
  refine W.block ?_
  refine W.loopS S [6, 7, 8, 9, 12, 13, 14, 15, 16, 17, 18, 19, 20, 21, 22, 23, 24, 25, 26, 27, 28, 29, 30, 31, 32, 33, 34, 35, 36, 37, 38, 39, 40] [30] (fun (j : Nat) => [(7, iv j), (6, iv (fldU max (fun k => lftN b (sdL b []) d (k : Int)) 0 j))]) (fun _ => []) (fun j => j ≤ b.hs.length) (fun j => b.hs.length - j) 0 (by omega) ⟨rfl, rfl, trivial⟩ trivial ?_
  rintro j σ M w1 hj S
  refine W.seq (W.seq (W.region S ?_))
  refine AS.cons (sp_move (v := .int _ _) rfl ?_)
  refine AS.cons (sp_fa rfl fo_28_1_3 ?_)
  refine AS.cons (sp_ld 2 rfl rfl sc_23 rfl ?_)
  refine AS.cons (sp_len rfl sl_23_75_3 ?_)
  refine AS.cons (sp_lss rfl rfl ?_)
  refine AS.nil ?_
  intro _ S
  refine W.condd rfl (fun c16 => ?_) (fun c16 => ?_)
  · skip
    have hlt : j < b.hs.length := by omega
    obtain ⟨mx, hmx⟩ : ∃ mx, mx = fldU max (fun k => lftN b (sdL b []) d (k : Int)) 0 j := ⟨_, rfl⟩
    rw [← hmx]
    refine W.skip ?_
    refine W.seq (W.block ?_)
    refine W.seq (W.region S ?_)
    refine AS.cons (sp_asg rfl ?_)
    refine AS.nil ?_
    intro _ S
    refine W.seq (W.seq (W.region S ?_))
    refine AS.cons (sp_asg rfl ?_)
    refine AS.nil ?_
    intro _ S
    refine W.block ?_
    refine W.loopS S [8, 9, 19, 20, 21, 22, 23, 24, 25, 26, 27, 28, 29, 30, 31, 32, 33, 34, 35, 36, 37] [30] (fun (i : Nat) => [(9, iv i), (8, iv (lftN b ((sdL b []).take i) d j))]) (fun _ => []) (fun i => i ≤ (sdL b []).length) (fun i => (sdL b []).length - i) 0 (by omega) ⟨rfl, by show iv 0 = iv _; congr 1, trivial⟩ trivial ?_
    rintro i σ2 M2 w2 hi S
    refine W.seq (W.seq (W.region S ?_))
    refine AS.cons (sp_move (v := .int _ _) rfl ?_)
    refine AS.cons (sp_move rfl ?_)
    refine AS.cons (sp_len rfl sl_26_3_1 ?_)
    refine AS.cons (sp_lss rfl rfl ?_)
    refine AS.nil ?_
    intro _ S
    refine W.condd rfl (fun c22 => ?_) (fun c22 => ?_)
    · skip
      have hlt2 : i < (sdL b []).length := by omega
      obtain ⟨s, hs⟩ := get_some hlt2
      have hsb := sd_bd hb (List.mem_of_getElem? hs)
      obtain ⟨y, hy⟩ := get_some (l := ord b s) (j := d) (by have := hol s; omega)
      have hls := lftN_succ (k := (j : Int)) hs hy
      have hlb := lftN_le b ((sdL b []).take i) d (j : Int)
      have hlt3 := List.length_take_le i (sdL b [])
      refine W.skip ?_
      refine W.seq (W.block ?_)
      refine W.seq (W.draw S mixed (fun i => ([KD.q [2], KD.q [], KD.q [], KD.q [11], KD.q [11], KD.e [] [30], KD.q [], KD.q [30], KD.q [30], KD.q [], KD.q []] : List KD)[i]?) [7] [0, 1, 2, 3, 4, 5, 6, 7, 8, 9, 10] (by kernel_rfl) ?_)
      refine AW.cons rfl rfl (sp_ldw 2 rfl rfl ag_28_9 ?_)
      refine AW.cons rfl rfl (sp_move rfl ?_)
      refine AW.cons rfl rfl (sp_move (v := .int _ _) rfl ?_)
      refine AW.cons rfl rfl (sp_iaS 11 rfl rfl rfl sl_26_3_1 (by omega) ?_)
      refine AW.cons rfl rfl (sp_ldS 11 rfl rfl sc_3 (v := iv s) (by simp [hs]) (by omega) ?_)
      refine AW.cons rfl rfl (sp_call1 30 [] _ rfl rfl cf_75 (fun F w _ S => drawingF _ _ _ _ _ (by assumption) _ (by omega) w (hH.ext S.mod)) ?_ (fun _ => LsR.ne _))
      rintro v30 i30 ⟨⟨a30, c30, rfl, h30⟩, rfl⟩
      refine AW.cons rfl rfl (sp_move (v := .int _ _) rfl ?_)
      refine AW.cons rfl rfl (sp_iaS 30 rfl rfl rfl sl_26_3_1 (by have := hol s; omega) ?_)
      refine AW.cons rfl rfl (sp_ldS 30 rfl rfl sc_3 (v := iv y) (by simp [hy]) (by have := hol s; omega) ?_)
      refine AW.cons rfl rfl (sp_move (v := .int _ _) rfl ?_)
      refine AW.cons rfl rfl (sp_eql rfl rfl ?_)
      refine AW.nil ?_
      intro _ S
      refine W.condd rfl (fun c35 => ?_) (fun c35 => ?_)
      · skip
        rw [if_pos c35] at hls
        refine W.region S ?_
        refine AS.cons (sp_move (v := .int _ _) rfl ?_)
        refine AS.cons (sp_add rfl rfl (by first | omega | (simp only [decide_eq_true_eq, decide_eq_false_iff_not] at *; omega)) ?_)
        refine AS.cons (sp_asg (v := .int _ _) rfl ?_)
        refine AS.nil ?_
        intro _ S
        refine W.region S ?_
        refine AS.cons (sp_move (v := .int _ _) rfl ?_)
        refine AS.cons (sp_add rfl rfl (by first | omega | (simp only [decide_eq_true_eq, decide_eq_false_iff_not] at *; omega)) ?_)
        refine AS.cons (sp_asg (v := .int _ _) rfl ?_)
        refine AS.nil ?_
        intro _ S
        exact ⟨i + 1, _, by omega, by omega, ⟨by simp [upd], by show iv _ = iv _; rw [hls], trivial⟩, trivial, by repeat (first | exact Agr.refl _ _ | exact Agr.msk _ _ _ | refine Agr.upd ?_ _ rfl | refine Agr.upds ?_ rfl | refine Agr.mskIn ?_ rfl), by repeat (first | exact Agr.refl _ _ | exact Agr.msk _ _ _ | refine Agr.upd ?_ _ rfl | refine Agr.upds ?_ rfl | refine Agr.mskIn ?_ rfl), rfl, S⟩
      · skip
        rw [if_neg c35, Int.add_zero] at hls
        refine W.skip ?_
        refine W.region S ?_
        refine AS.cons (sp_move (v := .int _ _) rfl ?_)
        refine AS.cons (sp_add rfl rfl (by first | omega | (simp only [decide_eq_true_eq, decide_eq_false_iff_not] at *; omega)) ?_)
        refine AS.cons (sp_asg (v := .int _ _) rfl ?_)
        refine AS.nil ?_
        intro _ S
        exact ⟨i + 1, _, by omega, by omega, ⟨by simp [upd], by show iv _ = iv _; rw [hls], trivial⟩, trivial, by repeat (first | exact Agr.refl _ _ | exact Agr.msk _ _ _ | refine Agr.upd ?_ _ rfl | refine Agr.upds ?_ rfl | refine Agr.mskIn ?_ rfl), by repeat (first | exact Agr.refl _ _ | exact Agr.msk _ _ _ | refine Agr.upd ?_ _ rfl | refine Agr.upds ?_ rfl | refine Agr.mskIn ?_ rfl), rfl, S⟩
    · skip
      obtain rfl : i = (sdL b []).length := by omega
      rw [List.take_length]
      refine W.exit ?_
      refine W.region S ?_
      refine AS.cons (sp_move (v := .int _ _) rfl ?_)
      refine AS.cons (sp_move (v := .int _ _) rfl ?_)
      refine AS.cons (sp_max rfl rfl ?_)
      refine AS.cons (sp_asg (v := .int _ _) rfl ?_)
      refine AS.nil ?_
      intro _ S
      refine W.region S ?_
      refine AS.cons (sp_move (v := .int _ _) rfl ?_)
      refine AS.cons (sp_add rfl rfl (by first | omega | (simp only [decide_eq_true_eq, decide_eq_false_iff_not] at *; omega)) ?_)
      refine AS.cons (sp_asg (v := .int _ _) rfl ?_)
      refine AS.nil ?_
      intro _ S
      exact ⟨j + 1, _, by omega, by omega, ⟨by simp [upd], by show iv (max mx _) = iv _; rw [hmx]; rfl, trivial⟩, trivial, by repeat (first | exact Agr.refl _ _ | exact Agr.msk _ _ _ | refine Agr.upd ?_ _ rfl | refine Agr.upds ?_ rfl | refine Agr.mskIn ?_ rfl), by repeat (first | exact Agr.refl _ _ | exact Agr.msk _ _ _ | refine Agr.upd ?_ _ rfl | refine Agr.upds ?_ rfl | refine Agr.mskIn ?_ rfl), rfl, S⟩
  · skip
    obtain rfl : j = b.hs.length := by omega
    refine W.exit ?_
    refine W.seq (W.region S ?_)
    refine AS.cons (sp_move (v := .int _ _) rfl ?_)
    refine AS.cons (sp_asg (v := .int _ _) rfl ?_)
    refine AS.nil ?_
    intro _ S
    refine W.ret ?_
    exact ret1 rfl rfl S fun w' S' => ⟨rfl, S'.mod⟩
set_option maxHeartbeats 4000000 in
theorem askR (w : World) (hH : Hos w ha hc b.hs) (hD : Ints w da dc b.dr) : Ct Tryd.prog 32 #[.agg (sbL b ha hc da dc).toArray] w (fun u w' => u = .tuple #[iv (asV b), iv (asE b)] ∧ Ext w w') := by
  refine fn_intro (args := [.agg (sbL b ha hc da dc).toArray]) Tryd.func32 rfl rfl (by kernel_rfl) ?_
  have S := St.start no w
  refine W.seq (W.region S ?_)
  refine AS.cons (sp_boxa 1 rfl (fun b1 => ?_))
  refine AS.cons (sp_asg rfl ?_)
  refine AS.cons (sp_asg rfl ?_)
  refine AS.nil ?_
  intro _ S
  refine W.seq (W.seq (W.region S ?_))
  refine AS.cons (sp_ldw 1 rfl rfl ag_28_9 ?_)
  refine AS.cons (sp_call [] rfl rfl cf_77 (fun F w _ S => askedR _ _ _ _ _ _ w (hH.ext S.mod) (hD.ext S.mod)) ?_)
  refine AS.cons (sp_asg (v := .int _ _) rfl ?_)
  refine AS.nil ?_
  intro _ S
  refine W.seq (W.region S ?_)
  refine AS.cons (sp_move (v := .int _ _) rfl ?_)
  refine AS.cons (sp_neq rfl rfl ?_)
  refine AS.nil ?_
  intro _ S
  refine W.condd rfl (fun c10 => ?_) (fun c10 => ?_)
  · skip
    have he : asE b = askV b true := by unfold asE; rw [if_neg c10]
    have hv : asV b = 0 := by unfold asV; rw [he, if_neg c10]
    refine W.seq (W.region S ?_)
    refine AS.cons (sp_move (v := .int _ _) rfl ?_)
    refine AS.cons (sp_asg rfl ?_)
    refine AS.cons (sp_asg (v := .int _ _) rfl ?_)
    refine AS.nil ?_
    intro _ S
    refine W.ret ?_
    exact ret2 rfl rfl rfl S fun w' S' => ⟨by rw [hv, he]; rfl, S'.mod⟩
  · skip
    have hz : askV b true = 0 := Decidable.not_not.1 c10
    obtain ⟨hb, _, hne⟩ := ask_is hz
    have hO := hb.own
    have h1 := hb.a1
    have h60 := hb.a60
    refine W.skip ?_
    refine W.seq (W.seq (W.region S ?_))
    refine AS.cons (sp_ldw 1 rfl rfl ag_28_9 ?_)
    refine AS.cons (sp_call1 13 [] _ rfl rfl cf_64 (fun F w _ S => seedsF _ _ _ _ _ (by assumption) w (hH.ext S.mod) (hD.ext S.mod)) ?_ (by simp))
    rintro v13 i13 ⟨⟨a13, c13, rfl, h13⟩, rfl⟩
    refine AS.cons (sp_len rfl sl_26_3_1 ?_)
    refine AS.cons (sp_eql rfl rfl ?_)
    refine AS.nil ?_
    intro _ S
    refine W.condd rfl (fun c15 => ?_) (fun c15 => ?_)
    · skip
      have he : asE b = 4 := by unfold asE; rw [if_pos hz, if_pos (by omega)]
      have hv : asV b = 0 := by unfold asV; rw [he]; rfl
      refine W.seq (W.region S ?_)
      refine AS.cons (sp_asg rfl ?_)
      refine AS.cons (sp_asg rfl ?_)
      refine AS.nil ?_
      intro _ S
      refine W.ret ?_
      exact ret2 rfl rfl rfl S fun w' S' => ⟨by rw [hv, he]; rfl, S'.mod⟩
    · skip
      have he : asE b = 0 := by unfold asE; rw [if_pos hz, if_neg (by omega)]
      have hv : asV b = (amU (wstN b (sdL b [])) (allN b).toNat : Int) := by unfold asV; rw [if_pos he]
      obtain ⟨f, hf⟩ : ∃ f, f = wstN b (sdL b []) := ⟨_, rfl⟩
      rw [← hf] at hv
      have hwf : ∀ (d : Nat) (hd : (d : Int) < allN b) (w : World), Hos w ha hc b.hs → Ints w da dc b.dr → Ct Tryd.prog 85 #[.agg (sbL b ha hc da dc).toArray, iv d] w (fun u w' => u = iv (f d) ∧ Ext w w') := fun d hd w h1 h2 => by rw [hf]; exact worstF b ha hc da dc hb d hd w h1 h2
      refine W.skip ?_
      refine W.seq (W.region S ?_)
      refine AS.cons (sp_asg rfl ?_)
      refine AS.nil ?_
      intro _ S
      refine W.seq (W.seq (W.region S ?_))
      refine AS.cons (sp_asg rfl ?_)
      refine AS.nil ?_
      intro _ S
      refine W.block ?_
      refine W.loopS S [5, 6, 16, 17, 18, 19, 20, 21, 22, 23, 24, 25, 26, 27, 28, 29] [] (fun (j : Nat) => [(6, iv j), (5, iv (amU f j : Int))]) (fun _ => []) (fun j => 1 ≤ j ∧ j ≤ (allN b).toNat) (fun j => (allN b).toNat - j) 1 (by omega) ⟨rfl, by show iv 0 = iv _; congr 1; simp [amU], trivial⟩ trivial ?_
      rintro j σ M w1 ⟨hj1, hj⟩ S
      have hal := amU_lt (f := f) (n := j) (by omega)
      refine W.seq (W.seq (W.region S ?_))
      refine AS.cons (sp_move (v := .int _ _) rfl ?_)
      refine AS.cons (sp_ldw 1 rfl rfl ag_28_9 ?_)
      refine AS.cons (sp_call [] rfl rfl cf_71 (fun F w _ S => allRF _ _ _ _ _ (by assumption) w (hH.ext S.mod)) ?_)
      refine AS.cons (sp_lss rfl rfl ?_)
      refine AS.nil ?_
      intro _ S
      refine W.condd rfl (fun c19 => ?_) (fun c19 => ?_)
      · skip
        refine W.skip ?_
        refine W.seq (W.block ?_)
        refine W.seq (W.draw S mixed (fun i => ([KD.q [1], KD.q [], KD.e [] [], KD.q [1], KD.q [], KD.e [] [], KD.q []] : List KD)[i]?) [] [0, 1, 2, 3, 4, 5, 6] (by kernel_rfl) ?_)
        refine AW.cons rfl rfl (sp_ldw 1 rfl rfl ag_28_9 ?_)
        refine AW.cons rfl rfl (sp_move (v := .int _ _) rfl ?_)
        refine AW.cons rfl rfl (sp_call [] rfl rfl cf_85 (fun F w _ S => hwf j (by omega) w (hH.ext S.mod) (hD.ext S.mod)) ?_)
        refine AW.cons rfl rfl (sp_ldw 1 rfl rfl ag_28_9 ?_)
        refine AW.cons rfl rfl (sp_move (v := .int _ _) rfl ?_)
        refine AW.cons rfl rfl (sp_call [] rfl rfl cf_85 (fun F w _ S => hwf (amU f j) (by omega) w (hH.ext S.mod) (hD.ext S.mod)) ?_)
        refine AW.cons rfl rfl (sp_lss rfl rfl ?_)
        refine AW.nil ?_
        intro _ S
        refine W.condd rfl (fun c28 => ?_) (fun c28 => ?_)
        · skip
          have hst : amU f (j + 1) = j := by rw [amU, if_pos c28]
          refine W.region S ?_
          refine AS.cons (sp_move (v := .int _ _) rfl ?_)
          refine AS.cons (sp_asg (v := .int _ _) rfl ?_)
          refine AS.nil ?_
          intro _ S
          refine W.region S ?_
          refine AS.cons (sp_move (v := .int _ _) rfl ?_)
          refine AS.cons (sp_add rfl rfl (by first | omega | (simp only [decide_eq_true_eq, decide_eq_false_iff_not] at *; omega)) ?_)
          refine AS.cons (sp_asg (v := .int _ _) rfl ?_)
          refine AS.nil ?_
          intro _ S
          exact ⟨j + 1, _, ⟨by omega, by omega⟩, by omega, ⟨by simp [upd], by rw [hst]; rfl, trivial⟩, trivial, by repeat (first | exact Agr.refl _ _ | exact Agr.msk _ _ _ | refine Agr.upd ?_ _ rfl | refine Agr.upds ?_ rfl | refine Agr.mskIn ?_ rfl), by repeat (first | exact Agr.refl _ _ | exact Agr.msk _ _ _ | refine Agr.upd ?_ _ rfl | refine Agr.upds ?_ rfl | refine Agr.mskIn ?_ rfl), rfl, S⟩
        · skip
          have hst : amU f (j + 1) = amU f j := by rw [amU, if_neg c28]
          refine W.skip ?_
          refine W.region S ?_
          refine AS.cons (sp_move (v := .int _ _) rfl ?_)
          refine AS.cons (sp_add rfl rfl (by first | omega | (simp only [decide_eq_true_eq, decide_eq_false_iff_not] at *; omega)) ?_)
          refine AS.cons (sp_asg (v := .int _ _) rfl ?_)
          refine AS.nil ?_
          intro _ S
          exact ⟨j + 1, _, ⟨by omega, by omega⟩, by omega, ⟨by simp [upd], by rw [hst]; rfl, trivial⟩, trivial, by repeat (first | exact Agr.refl _ _ | exact Agr.msk _ _ _ | refine Agr.upd ?_ _ rfl | refine Agr.upds ?_ rfl | refine Agr.mskIn ?_ rfl), by repeat (first | exact Agr.refl _ _ | exact Agr.msk _ _ _ | refine Agr.upd ?_ _ rfl | refine Agr.upds ?_ rfl | refine Agr.mskIn ?_ rfl), rfl, S⟩
      · skip
        obtain rfl : j = (allN b).toNat := by omega
        refine W.exit ?_
        refine W.seq (W.region S ?_)
        refine AS.cons (sp_move (v := .int _ _) rfl ?_)
        refine AS.cons (sp_asg (v := .int _ _) rfl ?_)
        refine AS.cons (sp_asg rfl ?_)
        refine AS.nil ?_
        intro _ S
        refine W.ret ?_
        exact ret2 rfl rfl rfl S fun w' S' => ⟨by rw [hv, he]; rfl, S'.mod⟩
/-- A book whose notes lie in a slice of their own. -/
def SbR (b : Sb) (ha : Option Addr) (hc : Nat) (u : Value) (i : HP) : Prop := ∃ a c, b.dr.length ≤ c ∧ u = .agg (sbL b ha hc a c).toArray ∧ i = slc 3 1 (.slice a b.dr.length c) b.dr.length (b.dr.map iv)
theorem SbR.ne (b : Sb) (ha : Option Addr) (hc : Nat) : ∃ u i, SbR b ha hc u i := ⟨_, _, none, _, Nat.le_refl _, rfl, rfl⟩
set_option maxHeartbeats 4000000 in
theorem withoutR (set : Nat) (hs : set ≤ 1000000) (hn : b.dr.length ≤ 60) (w : World) (hD : Ints w da dc b.dr) : Ct Tryd.prog 88 #[.agg (sbL b ha hc da dc).toArray, iv set] w (fun u w' => ∃ i, SbR (wo b (fun k => set.testBit k)) ha hc u i ∧ St no w w' (upd eL 0 i) []) := by
  refine fn_intro (args := [.agg (sbL b ha hc da dc).toArray, iv set]) Tryd.func88 rfl rfl (by kernel_rfl) ?_
  have S := St.start no w
  obtain ⟨q, hq⟩ : ∃ q : Nat → Bool, q = fun k => set.testBit k := ⟨_, rfl⟩
  have hqk : ∀ k, set.testBit k = q k := fun k => by rw [hq]
  rw [← hq]
  refine W.seq (W.region S ?_)
  refine AS.cons (sp_boxa 2 rfl (fun b2 => ?_))
  refine AS.cons (sp_alloc 4 zv_28 rfl (fun b4 => ?_))
  refine AS.nil ?_
  intro _ S
  refine W.seq (W.region S ?_)
  refine AS.cons (sp_ldw 2 rfl rfl ag_28_9 ?_)
  refine AS.cons (sp_alloc 5 zv_28 rfl (fun b5 => ?_))
  refine AS.cons (sp_st 5 rfl rfl rfl rfl sz_28_9 rfl rfl ?_)
  refine AS.nil ?_
  intro _ S
  refine W.seq (W.region S ?_)
  refine AS.cons (sp_bsS0 901 sl_26_3_1 (fun b9 => ?_))
  refine AS.cons (sp_fa rfl fo_28_4_8 ?_)
  refine AS.cons (sp_st 5 rfl rfl rfl rfl sz_26_1 rfl rfl ?_)
  refine AS.nil ?_
  intro _ S
  refine W.seq (W.seq (W.region S ?_))
  refine AS.cons (sp_asg rfl ?_)
  refine AS.nil ?_
  intro _ S
  refine W.block ?_
  refine W.loopS S [6, 7, 11, 12, 13, 14, 15, 16, 17, 18, 19, 20, 21, 22, 23, 24, 25, 26, 27, 28, 29, 30, 31] [5, 29, 30, 901] (fun (z : Nat × Option Addr × Nat) => [(6, iv z.1)]) (fun z => [(5, pt b5 (.cells (sbL (wd b (woU b q z.1)) ha hc z.2.1 z.2.2).toArray 28 (0, 0))), (901, slc 3 1 (.slice z.2.1 (woU b q z.1).length z.2.2) (woU b q z.1).length ((woU b q z.1).map iv))]) (fun z => z.1 ≤ b.dr.length) (fun z => b.dr.length - z.1) (0, _, _) (Nat.zero_le _) ⟨rfl, trivial⟩ ⟨rfl, rfl, trivial⟩ ?_
  rintro ⟨j, a, c⟩ σ M w1 hj S
  replace hj : j ≤ b.dr.length := hj
  have hkl := woU_len b q j
  refine W.seq (W.seq (W.region S ?_))
  refine AS.cons (sp_move (v := .int _ _) rfl ?_)
  refine AS.cons (sp_fa rfl fo_28_4_8 ?_)
  refine AS.cons (sp_ld 2 rfl rfl sc_26 rfl ?_)
  refine AS.cons (sp_len rfl sl_26_3_1 ?_)
  refine AS.cons (sp_lss rfl rfl ?_)
  refine AS.nil ?_
  intro _ S
  refine W.condd rfl (fun c15 => ?_) (fun c15 => ?_)
  · skip
    have hlt : j < b.dr.length := by omega
    obtain ⟨x, hx⟩ := get_some hlt
    refine W.skip ?_
    refine W.seq (W.block ?_)
    refine W.seq (W.region S ?_)
    refine AS.cons (sp_fa rfl fo_28_4_8 ?_)
    refine AS.cons (sp_ld 2 rfl rfl sc_26 rfl ?_)
    refine AS.cons (sp_move (v := .int _ _) rfl ?_)
    refine AS.cons (sp_iaR hD rfl rfl sl_26_3_1 (by first | omega | (simp only [decide_eq_true_eq, decide_eq_false_iff_not] at *; omega)) ?_)
    refine AS.cons (sp_ldR 0 hD (fun _ h => h) rfl sc_3 (ints_at hx) (by first | omega | (simp only [decide_eq_true_eq, decide_eq_false_iff_not] at *; omega)) ?_)
    refine AS.cons (sp_asg (v := .int _ _) rfl ?_)
    refine AS.nil ?_
    intro _ S
    refine W.seq (W.seq (W.region S ?_))
    refine AS.cons (sp_move (v := .int _ _) rfl ?_)
    refine AS.cons (sp_move (v := .int _ _) rfl ?_)
    refine AS.cons (sp_call [] rfl rfl cf_89 (fun F w _ S => bitF _ _ (by omega) (by omega) w) ?_)
    refine AS.nil ?_
    intro _ S
    refine W.cond rfl (fun c25 => ?_) (fun c25 => ?_)
    · skip
      have hw : woU b q (j + 1) = woU b q j ++ [-1] := by rw [woU_succ hx, if_pos (by rw [← hqk]; exact c25)]
      refine W.region S ?_
      refine AS.cons (sp_asg rfl ?_)
      refine AS.nil ?_
      intro _ S
      refine W.region S ?_
      refine AS.cons (sp_fa rfl fo_28_4_8 ?_)
      refine AS.cons (sp_ld 5 rfl rfl sc_26 rfl ?_)
      refine AS.cons (sp_move (v := .int _ _) rfl ?_)
      refine AS.cons (sp_bs 29 [.tmp 28] _ sl_26_3_1 zs_3_1 rfl rfl rfl rfl rfl rfl (fun b29 => ?_))
      refine AS.cons (sp_app 901 [29] rfl rfl sl_26_3_1 zs_3_1 rfl (fun F w hF S => rd_pt (S.get ((hF 29 (by simp)).trans rfl)).1 rfl (by omega) (by omega)) rfl (by first | omega | (simp only [] at *; omega)) (fun a30 c30 => ?_))
      refine AS.cons (sp_fa rfl fo_28_4_8 ?_)
      refine AS.cons (sp_st 5 rfl rfl rfl rfl sz_26_1 rfl rfl ?_)
      refine AS.nil ?_
      intro _ S
      refine W.region S ?_
      refine AS.cons (sp_move (v := .int _ _) rfl ?_)
      refine AS.cons (sp_add rfl rfl (by first | omega | (simp only [decide_eq_true_eq, decide_eq_false_iff_not] at *; omega)) ?_)
      refine AS.cons (sp_asg (v := .int _ _) rfl ?_)
      refine AS.nil ?_
      intro _ S
      exact ⟨(j + 1, a30, c30), _, hlt, by show b.dr.length - (j + 1) < b.dr.length - j; omega, ⟨by simp [upd], trivial⟩, ⟨by show pt b5 _ = pt b5 (.cells [iv b.r0, iv b.r1, iv b.r2, .slice ha b.hs.length hc, iv b.m0, iv b.m1, iv b.s0, iv b.s1, .slice a30 (woU b q (j + 1)).length c30].toArray 28 (0, 0)); rw [hw, List.length_append]; rfl, by show slc 3 1 _ _ _ = slc 3 1 (.slice a30 (woU b q (j + 1)).length c30) (woU b q (j + 1)).length ((woU b q (j + 1)).map iv); rw [hw, List.length_append, List.map_append]; rfl, trivial⟩, by repeat (first | exact Agr.refl _ _ | exact Agr.msk _ _ _ | refine Agr.upd ?_ _ rfl | refine Agr.upds ?_ rfl | refine Agr.mskIn ?_ rfl), by repeat (first | exact Agr.refl _ _ | exact Agr.msk _ _ _ | refine Agr.upd ?_ _ rfl | refine Agr.upds ?_ rfl | refine Agr.mskIn ?_ rfl), rfl, S⟩
    · skip
      have hw : woU b q (j + 1) = woU b q j ++ [x] := by rw [woU_succ hx, if_neg (by rw [← hqk, c25]; simp)]
      refine W.skip ?_
      refine W.region S ?_
      refine AS.cons (sp_fa rfl fo_28_4_8 ?_)
      refine AS.cons (sp_ld 5 rfl rfl sc_26 rfl ?_)
      refine AS.cons (sp_move (v := .int _ _) rfl ?_)
      refine AS.cons (sp_bs 29 [.tmp 28] _ sl_26_3_1 zs_3_1 rfl rfl rfl rfl rfl rfl (fun b29 => ?_))
      refine AS.cons (sp_app 901 [29] rfl rfl sl_26_3_1 zs_3_1 rfl (fun F w hF S => rd_pt (S.get ((hF 29 (by simp)).trans rfl)).1 rfl (by omega) (by omega)) rfl (by first | omega | (simp only [] at *; omega)) (fun a30 c30 => ?_))
      refine AS.cons (sp_fa rfl fo_28_4_8 ?_)
      refine AS.cons (sp_st 5 rfl rfl rfl rfl sz_26_1 rfl rfl ?_)
      refine AS.nil ?_
      intro _ S
      refine W.region S ?_
      refine AS.cons (sp_move (v := .int _ _) rfl ?_)
      refine AS.cons (sp_add rfl rfl (by first | omega | (simp only [decide_eq_true_eq, decide_eq_false_iff_not] at *; omega)) ?_)
      refine AS.cons (sp_asg (v := .int _ _) rfl ?_)
      refine AS.nil ?_
      intro _ S
      exact ⟨(j + 1, a30, c30), _, hlt, by show b.dr.length - (j + 1) < b.dr.length - j; omega, ⟨by simp [upd], trivial⟩, ⟨by show pt b5 _ = pt b5 (.cells [iv b.r0, iv b.r1, iv b.r2, .slice ha b.hs.length hc, iv b.m0, iv b.m1, iv b.s0, iv b.s1, .slice a30 (woU b q (j + 1)).length c30].toArray 28 (0, 0)); rw [hw, List.length_append]; rfl, by show slc 3 1 _ _ _ = slc 3 1 (.slice a30 (woU b q (j + 1)).length c30) (woU b q (j + 1)).length ((woU b q (j + 1)).map iv); rw [hw, List.length_append, List.map_append]; rfl, trivial⟩, by repeat (first | exact Agr.refl _ _ | exact Agr.msk _ _ _ | refine Agr.upd ?_ _ rfl | refine Agr.upds ?_ rfl | refine Agr.mskIn ?_ rfl), by repeat (first | exact Agr.refl _ _ | exact Agr.msk _ _ _ | refine Agr.upd ?_ _ rfl | refine Agr.upds ?_ rfl | refine Agr.mskIn ?_ rfl), rfl, S⟩
  · skip
    obtain rfl : j = b.dr.length := by omega
    refine W.exit ?_
    refine W.seq (W.region S ?_)
    refine AS.cons (sp_ldw 5 rfl rfl ag_28_9 ?_)
    refine AS.cons (sp_st 4 rfl rfl rfl rfl sz_28_9 rfl rfl ?_)
    refine AS.nil ?_
    intro _ S
    refine W.ret ?_
    refine retc (l := sbL (wo b q) ha hc a c) 4 ag_28_9 rfl rfl rfl rfl rfl S fun w' S' => ?_
    exact ⟨_, ⟨a, c, St.slc_le S' 901 rfl, rfl, rfl⟩, S'.only 901⟩
set_option maxHeartbeats 4000000 in
theorem wrongR (w : World) (hH : Hos w ha hc b.hs) (hD : Ints w da dc b.dr) : Ct Tryd.prog 34 #[.agg (sbL b ha hc da dc).toArray] w (fun u w' => ∃ i, LsE (wrV b) (chkV b) u i ∧ St no w w' (upd eL 0 i) []) := by
  refine fn_intro (args := [.agg (sbL b ha hc da dc).toArray]) Tryd.func34 rfl rfl (by kernel_rfl) ?_
  have S := St.start no w
  have hdn : b.dr.length ≤ 9223372036854775807 := hD.2.1
  refine W.seq (W.region S ?_)
  refine AS.cons (sp_boxa 1 rfl (fun b1 => ?_))
  refine AS.cons (sp_asg rfl ?_)
  refine AS.cons (sp_asg rfl ?_)
  refine AS.nil ?_
  intro _ S
  refine W.seq (W.seq (W.region S ?_))
  refine AS.cons (sp_ldw 1 rfl rfl ag_28_9 ?_)
  refine AS.cons (sp_call [] rfl rfl cf_18 (fun F w _ S => checkR _ _ _ _ _ w (hH.ext S.mod) (hD.ext S.mod)) ?_)
  refine AS.cons (sp_asg (v := .int _ _) rfl ?_)
  refine AS.nil ?_
  intro _ S
  refine W.seq (W.region S ?_)
  refine AS.cons (sp_move (v := .int _ _) rfl ?_)
  refine AS.cons (sp_neq rfl rfl ?_)
  refine AS.nil ?_
  intro _ S
  refine W.condd rfl (fun c12 => ?_) (fun c12 => ?_)
  · skip
    have hl : wrV b = [] := by unfold wrV; rw [chk_isn c12]; rfl
    refine W.seq (W.region S ?_)
    refine AS.cons (sp_move (v := .int _ _) rfl ?_)
    refine AS.cons (sp_asg rfl ?_)
    refine AS.cons (sp_asg (v := .int _ _) rfl ?_)
    refine AS.nil ?_
    intro _ S
    refine W.ret ?_
    first | exact ret2 rfl rfl rfl S fun w' S' => ⟨_, ⟨none, 0, by rw [hl]; exact Nat.le_refl 0, by rw [hl]; rfl, by rw [hl]; rfl⟩, nilE S'⟩ | exact ret2 rfl rfl rfl S fun w' S' => ⟨_, ⟨a, c, by rw [hl]; exact St.slc_le S' 900 rfl, by rw [hl, he]; rfl, by rw [hl]; rfl⟩, S'.only 900⟩
  · skip
    have hok := chk_is (Decidable.not_not.1 c12)
    have hb := okS_good.1 hok
    have he := chk_ok hok
    have hd8 := hb.d8
    obtain ⟨N, hN⟩ : ∃ N, b.dr.length = N := ⟨_, rfl⟩
    obtain ⟨M, hM⟩ : ∃ M, 2 ^ N = M := ⟨_, rfl⟩
    have hp : (1 : Int) * 2 ^ ((b.dr.length : Int)).toNat = (M : Int) := by rw [hN, Int.toNat_natCast, Int.one_mul, ← hM, Int.natCast_pow]; rfl
    have hM1 : 1 ≤ M ∧ M ≤ 256 := by
      rw [← hM]
      exact ⟨Nat.one_le_two_pow, Nat.le_trans (Nat.pow_le_pow_right (by omega) (show N ≤ 8 by omega)) (by decide)⟩
    have hq : (M : Int) - 1 = ((M - 1 : Nat) : Int) := by omega
    have hl : wrV b = rfU N (wrP b) M := by rw [wrV_is hb, hN, hM]
    have hall := sd_all hb
    have hrl : ∀ j, (rfU N (wrP b) j).length ≤ N := fun j => by
      have := Up.len (Int.le_refl 0) (by omega) (rfU_best (N := N) (P := wrP b) (by rw [← hN]; exact hall) j).1
      omega
    refine W.skip ?_
    refine W.seq (W.region S ?_)
    refine AS.cons (sp_fa rfl fo_28_4_8 ?_)
    refine AS.cons (sp_ld 1 rfl rfl sc_26 rfl ?_)
    refine AS.cons (sp_len rfl sl_26_3_1 ?_)
    refine AS.cons (sp_asg (v := .int _ _) rfl ?_)
    refine AS.nil ?_
    intro _ S
    refine W.seq (W.region S ?_)
    refine AS.cons (sp_move (v := .int _ _) rfl ?_)
    refine AS.cons (sp_shl rfl rfl (by omega) (by rw [hp]; omega) ?_)
    refine AS.cons (sp_sub rfl rfl (by rw [hp]; omega) ?_)
    refine AS.cons (sp_move (v := .int _ _) rfl ?_)
    refine AS.cons (sp_call1 21 [] _ (vs := [iv ((M - 1 : Nat) : Int), iv (b.dr.length : Int)]) rfl (by rw [← hq, ← hp]; rfl) cf_55 (fun F w _ S => bitsF (M - 1) b.dr.length (by omega) (by omega) w) ?_ (by simp))
    rintro v21 i21 ⟨⟨a21, c21, rfl, hac⟩, rfl⟩
    refine AS.cons (sp_asg rfl ?_)
    refine AS.nil ?_
    intro _ S
    have S := S.mv (k := 900) (k' := 21) (by decide)
    refine W.seq (W.seq (W.region S ?_))
    refine AS.cons (sp_asg rfl ?_)
    refine AS.nil ?_
    intro _ S
    refine W.block ?_
    refine W.loopS S [6, 7, 8, 22, 23, 24, 25, 26, 27, 28, 29, 30, 31, 32, 33, 34, 35, 36, 37, 38, 39, 40, 41, 42] [30, 37, 38, 900] (fun (z : Nat × Option Addr × Nat) => [(7, iv z.1), (6, .slice z.2.1 (rfU N (wrP b) z.1).length z.2.2)]) (fun z => [(900, slc 3 1 (.slice z.2.1 (rfU N (wrP b) z.1).length z.2.2) (rfU N (wrP b) z.1).length ((rfU N (wrP b) z.1).map iv))]) (fun z => z.1 ≤ M) (fun z => M - z.1) (0, a21, c21) (Nat.zero_le _) ⟨rfl, by show Value.slice a21 (btU (M - 1) b.dr.length).length c21 = .slice a21 (btU (2 ^ N - 1) N).length c21; rw [hN, hM], trivial⟩ ⟨by show slc 3 1 (.slice a21 (btU (M - 1) b.dr.length).length c21) (btU (M - 1) b.dr.length).length ((btU (M - 1) b.dr.length).map iv) = slc 3 1 (.slice a21 (btU (2 ^ N - 1) N).length c21) (btU (2 ^ N - 1) N).length ((btU (2 ^ N - 1) N).map iv); rw [hN, hM], trivial⟩ ?_
    rintro ⟨j, a, c⟩ σ M' w1 hj S
    replace hj : j ≤ M := hj
    have hrj := hrl j
    refine W.seq (W.seq (W.region S ?_))
    refine AS.cons (sp_move (v := .int _ _) rfl ?_)
    refine AS.cons (sp_move (v := .int _ _) rfl ?_)
    refine AS.cons (sp_shl rfl rfl (by omega) (by rw [hp]; omega) ?_)
    refine AS.cons (sp_lss rfl rfl ?_)
    refine AS.nil ?_
    intro _ S
    refine W.condd rfl (fun c25 => ?_) (fun c25 => ?_)
    · skip
      rw [hp] at c25
      have hlt : j < M := by omega
      refine W.skip ?_
      refine W.seq (W.block ?_)
      refine W.seq (W.region S ?_)
      refine AS.cons (sp_move (v := .int _ _) rfl ?_)
      refine AS.cons (sp_move (v := .int _ _) rfl ?_)
      refine AS.cons (sp_call1 30 [] _ rfl rfl cf_55 (fun F w _ S => bitsF _ _ (by omega) (by omega) w) ?_ (by simp))
      rintro v30 i30 ⟨⟨a30, c30, rfl, hac30⟩, rfl⟩
      have hbl := btU_len j b.dr.length
      refine AS.cons (sp_asg rfl ?_)
      refine AS.nil ?_
      intro _ S
      refine W.seq (W.region S ?_)
      refine AS.cons (sp_move rfl ?_)
      refine AS.cons (sp_move rfl ?_)
      refine AS.cons (sp_call [30, 900] rfl rfl cf_54 (fun F w' hF S => fewerF a30 c30 (btU j b.dr.length) a c (rfU N (wrP b) j) w' (S.slc_rd (k := 30) ((hF 30 (by simp)).trans rfl) (by omega)) (S.slc_rd (k := 900) ((hF 900 (by simp)).trans rfl) (by omega))) ?_)
      refine AS.cons (sp_move (v := .bool _) rfl ?_)
      refine AS.split 34 rfl (fun g34 => ?_) (fun g34 => ?_)
      · skip
        refine AS.cons (sp_ldw 1 rfl rfl ag_28_9 ?_)
        refine AS.cons (sp_move (v := .int _ _) rfl ?_)
        refine AS.cons (sp_call1 37 [] _ rfl rfl cf_88 (fun F w _ S => withoutR _ _ _ _ _ _ (by omega) (by omega) w (hD.ext S.mod)) ?_ (by simp))
        rintro v37 i37 ⟨a37, c37, hac37, rfl, rfl⟩
        have hgw := wo_good hb (fun k => j.testBit k)
        refine AS.cons (sp_call1 38 [37] _ rfl rfl cf_64 (fun F w' hF S => seedsF (wo b (fun k => j.testBit k)) ha hc a37 c37 hgw w' (hH.ext S.mod) (S.slc_rd (k := 37) ((hF 37 (by simp)).trans rfl) (by rw [show (wo b (fun k => j.testBit k)).dr.length = b.dr.length from woU_len _ _ _]; omega))) ?_ (by simp))
        rintro v38 i38 ⟨⟨a38, c38, rfl, hac38⟩, rfl⟩
        have hwb := wo_bt b j
        refine AS.cons (sp_len rfl sl_26_3_1 ?_)
        refine AS.cons (sp_gtr rfl rfl ?_)
        refine AS.cons (sp_pick_t rfl (v := .bool _) rfl ?_)
        refine AS.nil ?_
        intro _ S
        refine W.cond rfl (fun c41 => ?_) (fun c41 => ?_)
        · skip
          have hst : rfU N (wrP b) (j + 1) = btU j N := by
            rw [rfU, if_pos]
            refine ⟨by rw [hN] at g34; exact g34, ?_⟩
            unfold wrP; rw [← hN, ← hwb, Bool.not_eq_true', decide_eq_false_iff_not]
            intro h; rw [h] at c41; simp at c41
          have S := S.mv (k := 900) (k' := 30) (by decide)
          refine W.region S ?_
          refine AS.cons (sp_move rfl ?_)
          refine AS.cons (sp_asg rfl ?_)
          refine AS.nil ?_
          intro _ S
          refine W.region S ?_
          refine AS.cons (sp_move (v := .int _ _) rfl ?_)
          refine AS.cons (sp_add rfl rfl (by first | omega | (simp only [decide_eq_true_eq, decide_eq_false_iff_not] at *; omega)) ?_)
          refine AS.cons (sp_asg (v := .int _ _) rfl ?_)
          refine AS.nil ?_
          intro _ S
          first | exact ⟨(j + 1, a30, c30), _, hlt, by show M - (j + 1) < M - j; omega, ⟨by simp [upd], by show Value.slice a30 (btU j b.dr.length).length c30 = .slice a30 (rfU N (wrP b) (j + 1)).length c30; rw [hst, hN], trivial⟩, ⟨by show slc 3 1 (.slice a30 (btU j b.dr.length).length c30) (btU j b.dr.length).length ((btU j b.dr.length).map iv) = slc 3 1 (.slice a30 (rfU N (wrP b) (j + 1)).length c30) (rfU N (wrP b) (j + 1)).length ((rfU N (wrP b) (j + 1)).map iv); rw [hst, hN], trivial⟩, by repeat (first | exact Agr.refl _ _ | exact Agr.msk _ _ _ | refine Agr.upd ?_ _ rfl | refine Agr.upds ?_ rfl | refine Agr.mskIn ?_ rfl), by repeat (first | exact Agr.refl _ _ | exact Agr.msk _ _ _ | refine Agr.upd ?_ _ rfl | refine Agr.upds ?_ rfl | refine Agr.mskIn ?_ rfl), rfl, S⟩ | exact ⟨(j + 1, a, c), _, hlt, by show M - (j + 1) < M - j; omega, ⟨by simp [upd], by show Value.slice a (rfU N (wrP b) j).length c = .slice a (rfU N (wrP b) (j + 1)).length c; first | rw [hst] | (rw [rfU, if_neg]; rintro ⟨h1, _⟩; rw [hN, h1] at g34; cases g34), trivial⟩, ⟨by show slc 3 1 (.slice a (rfU N (wrP b) j).length c) (rfU N (wrP b) j).length ((rfU N (wrP b) j).map iv) = slc 3 1 (.slice a (rfU N (wrP b) (j + 1)).length c) (rfU N (wrP b) (j + 1)).length ((rfU N (wrP b) (j + 1)).map iv); first | rw [hst] | (rw [rfU, if_neg]; rintro ⟨h1, _⟩; rw [hN, h1] at g34; cases g34), trivial⟩, by repeat (first | exact Agr.refl _ _ | exact Agr.msk _ _ _ | refine Agr.upd ?_ _ rfl | refine Agr.upds ?_ rfl | refine Agr.mskIn ?_ rfl), by repeat (first | exact Agr.refl _ _ | exact Agr.msk _ _ _ | refine Agr.upd ?_ _ rfl | refine Agr.upds ?_ rfl | refine Agr.mskIn ?_ rfl), rfl, S⟩
        · skip
          have hst : rfU N (wrP b) (j + 1) = rfU N (wrP b) j := by
            rw [rfU, if_neg]
            rintro ⟨h1, h2⟩
            unfold wrP at h2
            rw [← hN, ← hwb, Bool.not_eq_true', decide_eq_false_iff_not] at h2
            exact h2 (List.length_eq_zero_iff.1 (by have := of_decide_eq_false c41; omega))
          refine W.skip ?_
          refine W.region S ?_
          refine AS.cons (sp_move (v := .int _ _) rfl ?_)
          refine AS.cons (sp_add rfl rfl (by first | omega | (simp only [decide_eq_true_eq, decide_eq_false_iff_not] at *; omega)) ?_)
          refine AS.cons (sp_asg (v := .int _ _) rfl ?_)
          refine AS.nil ?_
          intro _ S
          first | exact ⟨(j + 1, a30, c30), _, hlt, by show M - (j + 1) < M - j; omega, ⟨by simp [upd], by show Value.slice a30 (btU j b.dr.length).length c30 = .slice a30 (rfU N (wrP b) (j + 1)).length c30; rw [hst, hN], trivial⟩, ⟨by show slc 3 1 (.slice a30 (btU j b.dr.length).length c30) (btU j b.dr.length).length ((btU j b.dr.length).map iv) = slc 3 1 (.slice a30 (rfU N (wrP b) (j + 1)).length c30) (rfU N (wrP b) (j + 1)).length ((rfU N (wrP b) (j + 1)).map iv); rw [hst, hN], trivial⟩, by repeat (first | exact Agr.refl _ _ | exact Agr.msk _ _ _ | refine Agr.upd ?_ _ rfl | refine Agr.upds ?_ rfl | refine Agr.mskIn ?_ rfl), by repeat (first | exact Agr.refl _ _ | exact Agr.msk _ _ _ | refine Agr.upd ?_ _ rfl | refine Agr.upds ?_ rfl | refine Agr.mskIn ?_ rfl), rfl, S⟩ | exact ⟨(j + 1, a, c), _, hlt, by show M - (j + 1) < M - j; omega, ⟨by simp [upd], by show Value.slice a (rfU N (wrP b) j).length c = .slice a (rfU N (wrP b) (j + 1)).length c; first | rw [hst] | (rw [rfU, if_neg]; rintro ⟨h1, _⟩; rw [hN, h1] at g34; cases g34), trivial⟩, ⟨by show slc 3 1 (.slice a (rfU N (wrP b) j).length c) (rfU N (wrP b) j).length ((rfU N (wrP b) j).map iv) = slc 3 1 (.slice a (rfU N (wrP b) (j + 1)).length c) (rfU N (wrP b) (j + 1)).length ((rfU N (wrP b) (j + 1)).map iv); first | rw [hst] | (rw [rfU, if_neg]; rintro ⟨h1, _⟩; rw [hN, h1] at g34; cases g34), trivial⟩, by repeat (first | exact Agr.refl _ _ | exact Agr.msk _ _ _ | refine Agr.upd ?_ _ rfl | refine Agr.upds ?_ rfl | refine Agr.mskIn ?_ rfl), by repeat (first | exact Agr.refl _ _ | exact Agr.msk _ _ _ | refine Agr.upd ?_ _ rfl | refine Agr.upds ?_ rfl | refine Agr.mskIn ?_ rfl), rfl, S⟩
      · skip
        refine AS.cons (sp_skip rfl ?_)
        refine AS.cons (sp_skip rfl ?_)
        refine AS.cons (sp_skip rfl ?_)
        refine AS.cons (sp_skip rfl ?_)
        refine AS.cons (sp_skip rfl ?_)
        refine AS.cons (sp_skip rfl ?_)
        refine AS.cons (sp_pick_f rfl (v := .bool _) rfl ?_)
        refine AS.nil ?_
        intro _ S
        refine W.cond (b := false) rfl (fun h => nomatch h) (fun _ => ?_)
        refine W.skip ?_
        refine W.region S ?_
        refine AS.cons (sp_move (v := .int _ _) rfl ?_)
        refine AS.cons (sp_add rfl rfl (by first | omega | (simp only [decide_eq_true_eq, decide_eq_false_iff_not] at *; omega)) ?_)
        refine AS.cons (sp_asg (v := .int _ _) rfl ?_)
        refine AS.nil ?_
        intro _ S
        first | exact ⟨(j + 1, a30, c30), _, hlt, by show M - (j + 1) < M - j; omega, ⟨by simp [upd], by show Value.slice a30 (btU j b.dr.length).length c30 = .slice a30 (rfU N (wrP b) (j + 1)).length c30; rw [hst, hN], trivial⟩, ⟨by show slc 3 1 (.slice a30 (btU j b.dr.length).length c30) (btU j b.dr.length).length ((btU j b.dr.length).map iv) = slc 3 1 (.slice a30 (rfU N (wrP b) (j + 1)).length c30) (rfU N (wrP b) (j + 1)).length ((rfU N (wrP b) (j + 1)).map iv); rw [hst, hN], trivial⟩, by repeat (first | exact Agr.refl _ _ | exact Agr.msk _ _ _ | refine Agr.upd ?_ _ rfl | refine Agr.upds ?_ rfl | refine Agr.mskIn ?_ rfl), by repeat (first | exact Agr.refl _ _ | exact Agr.msk _ _ _ | refine Agr.upd ?_ _ rfl | refine Agr.upds ?_ rfl | refine Agr.mskIn ?_ rfl), rfl, S⟩ | exact ⟨(j + 1, a, c), _, hlt, by show M - (j + 1) < M - j; omega, ⟨by simp [upd], by show Value.slice a (rfU N (wrP b) j).length c = .slice a (rfU N (wrP b) (j + 1)).length c; first | rw [hst] | (rw [rfU, if_neg]; rintro ⟨h1, _⟩; rw [hN, h1] at g34; cases g34), trivial⟩, ⟨by show slc 3 1 (.slice a (rfU N (wrP b) j).length c) (rfU N (wrP b) j).length ((rfU N (wrP b) j).map iv) = slc 3 1 (.slice a (rfU N (wrP b) (j + 1)).length c) (rfU N (wrP b) (j + 1)).length ((rfU N (wrP b) (j + 1)).map iv); first | rw [hst] | (rw [rfU, if_neg]; rintro ⟨h1, _⟩; rw [hN, h1] at g34; cases g34), trivial⟩, by repeat (first | exact Agr.refl _ _ | exact Agr.msk _ _ _ | refine Agr.upd ?_ _ rfl | refine Agr.upds ?_ rfl | refine Agr.mskIn ?_ rfl), by repeat (first | exact Agr.refl _ _ | exact Agr.msk _ _ _ | refine Agr.upd ?_ _ rfl | refine Agr.upds ?_ rfl | refine Agr.mskIn ?_ rfl), rfl, S⟩
    · skip
      rw [hp] at c25
      obtain rfl : j = M := by omega
      refine W.exit ?_
      refine W.seq (W.region S ?_)
      refine AS.cons (sp_move rfl ?_)
      refine AS.cons (sp_asg rfl ?_)
      refine AS.cons (sp_asg rfl ?_)
      refine AS.nil ?_
      intro _ S
      refine W.ret ?_
      first | exact ret2 rfl rfl rfl S fun w' S' => ⟨_, ⟨none, 0, by rw [hl]; exact Nat.le_refl 0, by rw [hl]; rfl, by rw [hl]; rfl⟩, nilE S'⟩ | exact ret2 rfl rfl rfl S fun w' S' => ⟨_, ⟨a, c, by rw [hl]; exact St.slc_le S' 900 rfl, by rw [hl, he]; rfl, by rw [hl]; rfl⟩, S'.only 900⟩
end
end Go.Proofs.YtajocmkgdjcmkaaDoor

/-
  The program: shares counted, and the check.
-/
namespace Go.Proofs.YtajocmkgdjcmkaaDoor
set_option maxRecDepth 100000
open Go.Hu Go.RowKit
section
variable (b : Sb) (ha : Option Addr) (hc : Nat) (da : Option Addr) (dc : Nat)
theorem boatsF (x : Ho) (w : World) : Ct Tryd.prog 116 #[.agg (hoL x).toArray] w (fun v w' => v = iv x.bo ∧ Ext w w') := by
  refine fn_intro (args := [.agg (hoL x).toArray]) Tryd.func116 rfl rfl (by kernel_rfl) ?_
  have S := St.start no w
  refine W.seq (W.region S ?_)
  refine AS.cons (sp_boxa 1 rfl (fun b1 => ?_))
  refine AS.cons (sp_asg rfl ?_)
  refine AS.nil ?_
  intro _ S
  refine W.seq (W.region S ?_)
  refine AS.cons (sp_fa rfl fo_88_0_0 ?_)
  refine AS.cons (sp_ld 1 rfl rfl sc_3 rfl ?_)
  refine AS.cons (sp_asg (v := .int _ _) rfl ?_)
  refine AS.nil ?_
  intro _ S
  refine W.ret ?_
  exact ret1 rfl rfl S fun w' S' => ⟨rfl, S'.mod⟩
theorem netsF (x : Ho) (w : World) : Ct Tryd.prog 118 #[.agg (hoL x).toArray] w (fun v w' => v = iv x.ne ∧ Ext w w') := by
  refine fn_intro (args := [.agg (hoL x).toArray]) Tryd.func118 rfl rfl (by kernel_rfl) ?_
  have S := St.start no w
  refine W.seq (W.region S ?_)
  refine AS.cons (sp_boxa 1 rfl (fun b1 => ?_))
  refine AS.cons (sp_asg rfl ?_)
  refine AS.nil ?_
  intro _ S
  refine W.seq (W.region S ?_)
  refine AS.cons (sp_fa rfl fo_88_1_1 ?_)
  refine AS.cons (sp_ld 1 rfl rfl sc_3 rfl ?_)
  refine AS.cons (sp_asg (v := .int _ _) rfl ?_)
  refine AS.nil ?_
  intro _ S
  refine W.ret ?_
  exact ret1 rfl rfl S fun w' S' => ⟨rfl, S'.mod⟩
theorem menF (x : Ho) (w : World) : Ct Tryd.prog 119 #[.agg (hoL x).toArray] w (fun v w' => v = iv x.me ∧ Ext w w') := by
  refine fn_intro (args := [.agg (hoL x).toArray]) Tryd.func119 rfl rfl (by kernel_rfl) ?_
  have S := St.start no w
  refine W.seq (W.region S ?_)
  refine AS.cons (sp_boxa 1 rfl (fun b1 => ?_))
  refine AS.cons (sp_asg rfl ?_)
  refine AS.nil ?_
  intro _ S
  refine W.seq (W.region S ?_)
  refine AS.cons (sp_fa rfl fo_88_2_2 ?_)
  refine AS.cons (sp_ld 1 rfl rfl sc_3 rfl ?_)
  refine AS.cons (sp_asg (v := .int _ _) rfl ?_)
  refine AS.nil ?_
  intro _ S
  refine W.ret ?_
  exact ret1 rfl rfl S fun w' S' => ⟨rfl, S'.mod⟩
theorem kindF (x : Ho) {n : Nat} (hn : n < 3) (w : World) : Ct Tryd.prog (kf n) #[.agg (hoL x).toArray] w (fun v w' => v = iv (kV x n) ∧ Ext w w') := by
  match n, hn with
  | 0, _ => exact boatsF x w
  | 1, _ => exact netsF x w
  | 2, _ => exact menF x w
theorem cf_kf {n : Nat} (hn : n < 3) : cfB Tryd.prog (kf n) = true := by
  match n, hn with
  | 0, _ => exact cf_116
  | 1, _ => exact cf_118
  | 2, _ => exact cf_119
theorem noneF (w : World) : Ct Tryd.prog 68 #[] w (fun v w' => v = .agg [iv 0, iv 0, iv 0, iv 0, iv 0, iv 0].toArray ∧ Ext w w') := by
  refine fn_intro (args := []) Tryd.func68 rfl rfl (by kernel_rfl) ?_
  have S := St.start no w
  refine W.seq (W.region S ?_)
  refine AS.cons (sp_alloc 0 zv_78 rfl (fun b0 => ?_))
  refine AS.nil ?_
  intro _ S
  refine W.seq (W.region S ?_)
  refine AS.cons (sp_alloc 1 zv_78 rfl (fun b1 => ?_))
  refine AS.nil ?_
  intro _ S
  refine W.seq (W.region S ?_)
  refine AS.cons (sp_ldw 1 rfl rfl ag_78_6 ?_)
  refine AS.cons (sp_st 0 rfl rfl rfl rfl sz_78_6 rfl rfl ?_)
  refine AS.nil ?_
  intro _ S
  refine W.ret ?_
  exact retc 0 ag_78_6 rfl rfl rfl rfl rfl S fun w' S' => ⟨rfl, S'.mod⟩
theorem sumF (la : Option Addr) (lc : Nat) (l : List Int) (hn : l.length ≤ 1000000) (hb : ∀ x ∈ l, 0 ≤ x ∧ x ≤ 1000000) (w : World) (hl : Ints w la lc l) : Ct Tryd.prog 69 #[.slice la l.length lc] w (fun v w' => v = iv (sumU l l.length) ∧ Ext w w') := by
  refine fn_intro (args := [.slice la l.length lc]) Tryd.func69 rfl rfl (by kernel_rfl) ?_
  have S := St.start no w
  refine W.seq (W.region S ?_)
  refine AS.cons (sp_asg rfl ?_)
  refine AS.nil ?_
  intro _ S
  refine W.seq (W.region S ?_)
  refine AS.cons (sp_asg rfl ?_)
  refine AS.nil ?_
  intro _ S
  refine W.seq (W.seq (W.region S ?_))
  refine AS.cons (sp_move rfl ?_)
  refine AS.cons (sp_len rfl sl_26_3_1 ?_)
  refine AS.cons (sp_move rfl ?_)
  refine AS.nil ?_
  intro _ S
  refine W.block ?_
  refine W.loopS S [3, 5, 8, 9, 10, 11, 12, 13, 14, 15] [] (fun (j : Nat) => [(8, iv j), (3, iv (sumU l j))]) (fun _ => []) (fun j => j ≤ l.length) (fun j => l.length - j) 0 (by omega) ⟨rfl, rfl, trivial⟩ trivial ?_
  rintro j σ M w1 hj S
  refine W.seq (W.region S ?_)
  refine AS.cons (sp_lss rfl rfl ?_)
  refine AS.nil ?_
  intro _ S
  refine W.seq (W.condd rfl (fun c9 => ?_) (fun c9 => ?_))
  · skip
    have hlt : j < l.length := by omega
    obtain ⟨x, hx⟩ := get_some hlt
    have hxb := hb x (List.mem_of_getElem? hx)
    have hsb := sumU_bd hb j
    have hsn : sumU l (j + 1) = sumU l j + x := by simp only [sumU]; rw [List.getD_eq_getElem?_getD, hx]; rfl
    refine W.skip ?_
    refine W.seq (W.block ?_)
    refine W.seq (W.region S ?_)
    refine AS.cons (sp_iaR hl rfl rfl sl_26_3_1 (by first | omega | (simp only [decide_eq_true_eq, decide_eq_false_iff_not] at *; omega)) ?_)
    refine AS.cons (sp_ldR 0 hl (fun _ h => h) rfl sc_3 (ints_at hx) (by first | omega | (simp only [decide_eq_true_eq, decide_eq_false_iff_not] at *; omega)) ?_)
    refine AS.cons (sp_asg (v := .int _ _) rfl ?_)
    refine AS.nil ?_
    intro _ S
    refine W.region S ?_
    refine AS.cons (sp_move (v := .int _ _) rfl ?_)
    refine AS.cons (sp_move (v := .int _ _) rfl ?_)
    refine AS.cons (sp_add rfl rfl (by first | omega | (simp only [decide_eq_true_eq, decide_eq_false_iff_not] at *; omega)) ?_)
    refine AS.cons (sp_asg (v := .int _ _) rfl ?_)
    refine AS.nil ?_
    intro _ S
    refine W.region S ?_
    refine AS.cons (sp_add rfl rfl (by first | omega | (simp only [decide_eq_true_eq, decide_eq_false_iff_not] at *; omega)) ?_)
    refine AS.cons (sp_move (v := .int _ _) rfl ?_)
    refine AS.nil ?_
    intro _ S
    exact ⟨j + 1, _, by omega, by omega, ⟨by simp [upd], by show iv _ = iv _; rw [hsn], trivial⟩, trivial, by repeat (first | exact Agr.refl _ _ | exact Agr.msk _ _ _ | refine Agr.upd ?_ _ rfl | refine Agr.upds ?_ rfl | refine Agr.mskIn ?_ rfl), by repeat (first | exact Agr.refl _ _ | exact Agr.msk _ _ _ | refine Agr.upd ?_ _ rfl | refine Agr.upds ?_ rfl | refine Agr.mskIn ?_ rfl), rfl, S⟩
  · skip
    obtain rfl : j = l.length := by omega
    refine W.exit ?_
    refine W.seq (W.region S ?_)
    refine AS.cons (sp_move (v := .int _ _) rfl ?_)
    refine AS.cons (sp_asg (v := .int _ _) rfl ?_)
    refine AS.nil ?_
    intro _ S
    refine W.ret ?_
    exact ret1 rfl rfl S fun w' S' => ⟨rfl, S'.mod⟩
set_option maxHeartbeats 4000000 in
theorem countedF (hb : Own b) (w : World) (hK : Kinds w) (hH : Hos w ha hc b.hs) : Ct Tryd.prog 67 #[.agg (sbL b ha hc da dc).toArray] w (fun v w' => v = .agg (shA b).toArray ∧ Ext w w') := by
  refine fn_intro (args := [.agg (sbL b ha hc da dc).toArray]) Tryd.func67 rfl rfl (by kernel_rfl) ?_
  have S := St.start no w
  have hn6 := hb.n6
  have hmin : min (b.hs.length : Int) 6 = (b.hs.length : Int) := by omega
  obtain ⟨q0, q1, q2⟩ : (0 ≤ b.r0 ∧ b.r0 ≤ 9) ∧ (0 ≤ b.r1 ∧ b.r1 ≤ 9) ∧ 0 ≤ b.r2 ∧ b.r2 ≤ 9 := ⟨hb.r0, hb.r1, hb.r2⟩
  have hcap : b.hs.length ≤ hc := by
    rcases hH.2.2 with ⟨h0, _⟩ | ⟨_, _, c', he, hle, _⟩
    · omega
    · injection he with _ _ h3; omega
  refine W.seq (W.region S ?_)
  refine AS.cons (sp_boxa 1 rfl (fun b1 => ?_))
  refine AS.cons (sp_alloc 2 zv_78 rfl (fun b2 => ?_))
  refine AS.nil ?_
  intro _ S
  refine W.seq (W.region S ?_)
  refine AS.cons (sp_call [] rfl rfl cf_68 (fun F w _ S => noneF w) ?_)
  refine AS.cons (sp_alloc 3 zv_78 rfl (fun b3 => ?_))
  refine AS.cons (sp_st 3 rfl rfl rfl rfl sz_78_6 rfl rfl ?_)
  refine AS.nil ?_
  intro _ S
  refine W.seq (W.seq (W.region S ?_))
  refine AS.cons (sp_fa rfl fo_28_1_3 ?_)
  refine AS.cons (sp_ld 1 rfl rfl sc_23 rfl ?_)
  refine AS.cons (sp_fa rfl fo_28_1_3 ?_)
  refine AS.cons (sp_ld 1 rfl rfl sc_23 rfl ?_)
  refine AS.cons (sp_len rfl sl_23_75_3 ?_)
  refine AS.cons (sp_min rfl rfl ?_)
  refine AS.cons (sp_sl2 (a := ha) (len := b.hs.length) (cap := hc) (h' := (b.hs.length : Int)) rfl (congrArg iv hmin) sl_23_75_3 (by omega) ?_)
  refine AS.cons (sp_len rfl sl_23_75_3 ?_)
  refine AS.cons (sp_move rfl ?_)
  refine AS.nil ?_
  intro _ S
  refine W.block ?_
  refine W.loopS S [4, 5, 6, 7, 17, 18, 19, 20, 21, 22, 23, 24, 25, 26, 27, 28, 29, 30, 31, 32, 33, 34, 35, 36, 37, 38, 39, 40, 41] [3, 5] (fun (j : Nat) => [(17, iv j)]) (fun j => [(3, pt b3 (.cells (shU b j 0).toArray 78 (0, 0)))]) (fun j => j ≤ b.hs.length) (fun j => b.hs.length - j) 0 (by omega) ⟨rfl, trivial⟩ ⟨rfl, trivial⟩ ?_
  rintro j σ M w1 hj S
  refine W.seq (W.region S ?_)
  refine AS.cons (sp_lss rfl rfl ?_)
  refine AS.nil ?_
  intro _ S
  refine W.seq (W.condd rfl (fun c18 => ?_) (fun c18 => ?_))
  · skip
    have hlt : j < b.hs.length := by omega
    obtain ⟨x, hx⟩ := get_some hlt
    have hox := hb.ho x (List.mem_of_getElem? hx)
    refine W.skip ?_
    refine W.seq (W.block ?_)
    refine W.seq (W.region S ?_)
    refine AS.cons (sp_move (v := .int _ _) rfl ?_)
    refine AS.cons (sp_iaR hH rfl rfl sl_23_75_3 (by omega) ?_)
    refine AS.cons (sp_ldaR 0 hH (fun _ h => h) rfl ag_75_3 (hos_at hx) (by omega) ?_)
    refine AS.cons (sp_alloc 5 zv_75 rfl (fun b5 => ?_))
    refine AS.cons (sp_asg (v := .int _ _) rfl ?_)
    refine AS.cons (sp_st 5 rfl rfl rfl rfl sz_75_3 rfl rfl ?_)
    refine AS.nil ?_
    intro _ S
    refine W.seq (W.region S ?_)
    refine AS.cons (sp_ldoa (vs := kindsL) rfl ag_87_3 hK.cs (fun h => h) ?_)
    refine AS.cons (sp_move rfl ?_)
    refine AS.nil ?_
    intro _ S
    refine W.block ?_
    refine W.loopS S [6, 7, 23, 24, 25, 26, 27, 28, 29, 30, 31, 32, 33, 34, 35, 36, 37, 38, 39, 40] [3] (fun (n : Nat) => [(23, iv n)]) (fun n => [(3, pt b3 (.cells (shU b j (ofP b x n)).toArray 78 (0, 0)))]) (fun n => n ≤ 3) (fun n => 3 - n) 0 (by omega) ⟨rfl, trivial⟩ ⟨rfl, trivial⟩ ?_
    rintro n σ2 M2 w2 hn S
    refine W.seq (W.region S ?_)
    refine AS.cons (sp_lss rfl rfl ?_)
    refine AS.nil ?_
    intro _ S
    refine W.seq (W.condd rfl (fun c24 => ?_) (fun c24 => ?_))
    · skip
      have hltn : n < 3 := by omega
      have hrt : (sbL b ha hc da dc)[0 + 0 + (n : Int).toNat * 1]? = some (iv (rtK b n)) := by
        match n, hltn with
        | 0, _ => rfl
        | 1, _ => rfl
        | 2, _ => rfl
      have hrb : 0 ≤ rtK b n ∧ rtK b n ≤ 9 := by
        match n, hltn with
        | 0, _ => exact q0
        | 1, _ => exact q1
        | 2, _ => exact q2
      have hkb := kV_own hox hltn
      have hmb := mul_bd hrb hkb
      have hpb : ∀ n, n ≤ 3 → 0 ≤ ofP b x n ∧ ofP b x n ≤ 45 * n := fun n => by
        induction n with
        | zero => intro _; simp [ofP]
        | succ n ih =>
          intro hn
          have h1 := ih (by omega)
          have h2 : 0 ≤ rtK b n ∧ rtK b n ≤ 9 := by
            match n, hn with
            | 0, _ => exact q0
            | 1, _ => exact q1
            | 2, _ => exact q2
          have h3 := mul_bd h2 (kV_own hox (show n < 3 by omega))
          simp only [ofP]; omega
      have hpn := hpb n hn
      refine W.skip ?_
      refine W.seq (W.block ?_)
      refine W.seq (W.region S ?_)
      refine AS.cons (sp_move (v := .int _ _) rfl ?_)
      refine AS.cons (sp_ixs rfl rfl ar_87_3_86_1 sc_86 (by omega) (kinds_at hltn) ?_)
      refine AS.cons (sp_asg (v := .int _ _) rfl ?_)
      refine AS.cons (sp_asg rfl ?_)
      refine AS.nil ?_
      intro _ S
      refine W.draw S mixed (fun i => ([KD.q [], KD.q [], KD.q [3], KD.q [], KD.q [], KD.q [], KD.q [1], KD.q [], KD.q [5], KD.e [] [], KD.q [], KD.q [], KD.q [], KD.e [3] [3]] : List KD)[i]?) [] [0, 1, 2, 3, 4, 5, 6, 7, 8, 9, 10, 11, 12, 13] (by kernel_rfl) ?_
      refine AW.cons rfl rfl (sp_move (v := .int _ _) rfl ?_)
      refine AW.cons rfl rfl (sp_iaa rfl rfl ar_78_6_3_1 (by omega) ?_)
      refine AW.cons rfl rfl (sp_ld 3 rfl rfl sc_3 (shU_at (by omega)) ?_)
      refine AW.cons rfl rfl (sp_move (v := .int _ _) rfl ?_)
      refine AW.cons rfl rfl (sp_fa rfl fo_28_0_0 ?_)
      refine AW.cons rfl rfl (sp_iaa rfl rfl ar_22_3_3_1 (by first | omega | (simp only [decide_eq_true_eq, decide_eq_false_iff_not] at *; omega)) ?_)
      refine AW.cons rfl rfl (sp_ld 1 rfl rfl sc_3 hrt ?_)
      refine AW.cons rfl rfl (sp_move rfl ?_)
      refine AW.cons rfl rfl (sp_ldw 5 rfl rfl ag_75_3 ?_)
      refine AW.cons rfl rfl (sp_call [] rfl rfl (cf_kf hltn) (fun F w _ S => kindF x hltn w) ?_)
      refine AW.cons rfl rfl (sp_mul rfl rfl (mulB (by first | omega | (simp only [decide_eq_true_eq, decide_eq_false_iff_not] at *; omega)) (by first | omega | (simp only [decide_eq_true_eq, decide_eq_false_iff_not] at *; omega))) ?_)
      refine AW.cons rfl rfl (sp_add rfl rfl (by first | omega | (simp only [decide_eq_true_eq, decide_eq_false_iff_not] at *; omega)) ?_)
      refine AW.cons rfl rfl (sp_iaa rfl rfl ar_78_6_3_1 (by omega) ?_)
      refine AW.cons rfl rfl (sp_sts 3 sz_3_1 rfl rfl rfl rfl rfl (by rw [shU_len]; omega) ?_)
      refine AW.nil ?_
      intro _ S
      refine W.region S ?_
      refine AS.cons (sp_add rfl rfl (by first | omega | (simp only [decide_eq_true_eq, decide_eq_false_iff_not] at *; omega)) ?_)
      refine AS.cons (sp_move (v := .int _ _) rfl ?_)
      refine AS.nil ?_
      intro _ S
      exact ⟨n + 1, _, by omega, by omega, ⟨by simp [upd], trivial⟩, ⟨by show pt b3 _ = pt b3 (.cells (shU b j (ofP b x (n + 1))).toArray 78 (0, 0)); rw [← shU_set (p := ofP b x n) (p' := ofP b x (n + 1))]; rfl, trivial⟩, by repeat (first | exact Agr.refl _ _ | exact Agr.msk _ _ _ | refine Agr.upd ?_ _ rfl | refine Agr.upds ?_ rfl | refine Agr.mskIn ?_ rfl), by repeat (first | exact Agr.refl _ _ | exact Agr.msk _ _ _ | refine Agr.upd ?_ _ rfl | refine Agr.upds ?_ rfl | refine Agr.mskIn ?_ rfl), rfl, S⟩
    · skip
      obtain rfl : n = 3 := by omega
      have hof : ofP b x 3 = ofK b j := by rw [ofP_all, ofK_at hx]
      refine W.exit ?_
      refine W.region S ?_
      refine AS.cons (sp_add rfl rfl (by first | omega | (simp only [decide_eq_true_eq, decide_eq_false_iff_not] at *; omega)) ?_)
      refine AS.cons (sp_move (v := .int _ _) rfl ?_)
      refine AS.nil ?_
      intro _ S
      exact ⟨j + 1, _, by omega, by omega, ⟨by simp [upd], trivial⟩, ⟨by rw [← shU_next, ← hof]; rfl, trivial⟩, by repeat (first | exact Agr.refl _ _ | exact Agr.msk _ _ _ | refine Agr.upd ?_ _ rfl | refine Agr.upds ?_ rfl | refine Agr.mskIn ?_ rfl), by repeat (first | exact Agr.refl _ _ | exact Agr.msk _ _ _ | refine Agr.upd ?_ _ rfl | refine Agr.upds ?_ rfl | refine Agr.mskIn ?_ rfl), rfl, S⟩
  · skip
    obtain rfl : j = b.hs.length := by omega
    rw [shU_all] at S
    refine W.exit ?_
    refine W.seq (W.region S ?_)
    refine AS.cons (sp_ldw 3 rfl rfl ag_78_6 ?_)
    refine AS.cons (sp_st 2 rfl rfl rfl rfl sz_78_6 rfl rfl ?_)
    refine AS.nil ?_
    intro _ S
    refine W.ret ?_
    exact retc 2 ag_78_6 rfl rfl rfl rfl rfl S fun w' S' => ⟨rfl, S'.mod⟩
end
end Go.Proofs.YtajocmkgdjcmkaaDoor

/-
  The program's check.
-/
namespace Go.Proofs.YtajocmkgdjcmkaaDoor
set_option maxRecDepth 100000
open Go.Hu Go.RowKit
section
variable (b : Sb) (ha : Option Addr) (hc : Nat) (da : Option Addr) (dc : Nat)
theorem int_3 : Tryd.prog.underlying 3 = some (.int .i64) := by kernel_rfl
theorem gt_78 : Tryd.prog.eqGuardType Tryd.prog.depth 78 = false := by kernel_rfl
theorem arSix : arB Tryd.prog 78 6 3 1 = true := by kernel_rfl
theorem sh_zero {b : Sb} (hb : Own b) : (shI b == [0, 0, 0, 0, 0, 0]) = decide (allN b = 0) := by
  have hof : ∀ k, 0 ≤ ofK b k := fun k => by
    unfold ofK; split
    · next x hx => exact (ofH_bd hb.r0 hb.r1 hb.r2 (hb.ho x (List.mem_of_getElem? hx))).1
    · omega
  have hs := sum_sh b hb.n6
  have h0 := hof 0; have h1 := hof 1; have h2 := hof 2; have h3 := hof 3; have h4 := hof 4; have h5 := hof 5
  have e : shI b = [ofK b 0, ofK b 1, ofK b 2, ofK b 3, ofK b 4, ofK b 5] := rfl
  rw [e] at hs ⊢
  simp only [sumU, List.getD_cons_zero, List.getD_cons_succ] at hs
  rw [Bool.eq_iff_iff, beq_iff_eq, decide_eq_true_eq]
  constructor
  · intro h; injection h with a1 h; injection h with a2 h; injection h with a3 h; injection h with a4 h; injection h with a5 h; injection h with a6 h; omega
  · intro h
    rw [show ofK b 0 = 0 by omega, show ofK b 1 = 0 by omega, show ofK b 2 = 0 by omega, show ofK b 3 = 0 by omega, show ofK b 4 = 0 by omega, show ofK b 5 = 0 by omega]
theorem shI_bd {b : Sb} (hb : Own b) : ∀ x ∈ shI b, 0 ≤ x ∧ x ≤ 1000000 := fun x hx => by
  obtain ⟨k, _, rfl⟩ := List.mem_map.1 hx
  show 0 ≤ ofK b k ∧ ofK b k ≤ 1000000
  unfold ofK; split
  · next x hx => have := ofH_bd hb.r0 hb.r1 hb.r2 (hb.ho x (List.mem_of_getElem? hx)); omega
  · omega
theorem ints_pt {w : World} {bl E : Nat} {fr : Nat × Nat} {l : List Int} (h : w.heap[bl]? = some (.cells (l.map iv).toArray E fr)) (hn : l.length ≤ 9223372036854775807) {c : Nat} (hc : l.length ≤ c) : Ints w (some ⟨bl, 0, none⟩) c l := rd_pt h (by simp) hn hc
set_option maxHeartbeats 8000000 in
theorem checkP (w : World) (hK : Kinds w) (hH : Hos w ha hc b.hs) (hD : Ints w da dc b.dr) : Ct Tryd.prog 17 #[.agg (sbL b ha hc da dc).toArray] w (fun u w' => u = iv (chkV b) ∧ Ext w w') := by
  refine fn_intro (args := [.agg (sbL b ha hc da dc).toArray]) Tryd.func17 rfl rfl (by kernel_rfl) ?_
  have S := St.start no w
  have hhn : b.hs.length ≤ 9223372036854775807 := hH.2.1
  have hdn : b.dr.length ≤ 9223372036854775807 := hD.2.1
  refine W.seq (W.region S ?_)
  refine AS.cons (sp_boxa 1 rfl (fun b1 => ?_))
  refine AS.cons (sp_asg rfl ?_)
  refine AS.nil ?_
  intro _ S
  refine W.seq (W.regionc S [3, 13, 14, 15, 16, 17, 18, 19, 20, 21, 22, 23, 24, 25, 26, 27, 28, 29, 30, 31, 32] 3 (Num0P b) ?_ ?_)
  · skip
    refine AS.cons (sp_fa rfl fo_28_1_3 ?_)
    refine AS.cons (sp_ld 1 rfl rfl sc_23 rfl ?_)
    refine AS.cons (sp_len rfl sl_23_75_3 ?_)
    refine AS.cons (sp_call [] rfl rfl cf_65 (fun F w _ S => onF _ _ _ w) ?_)
    refine AS.cons (sp_move (v := .bool _) rfl ?_)
    refine AS.split 17 rfl (fun g17 => ?_) (fun g17 => ?_)
    · skip
      refine AS.cons (sp_fa rfl fo_28_2_4 ?_)
      refine AS.cons (sp_lda 1 2 rfl rfl ag_25_2 rfl ?_)
      refine AS.cons (sp_call [] rfl rfl cf_66 (fun F w _ S => isSpanF _ _ _ _ (by decide) w) ?_)
      refine AS.cons (sp_pick_t rfl (v := .bool _) rfl ?_)
      refine AS.cons (sp_move (v := .bool _) rfl ?_)
      refine AS.split 22 rfl (fun g22 => ?_) (fun g22 => ?_)
      · skip
        refine AS.cons (sp_fa rfl fo_28_3_6 ?_)
        refine AS.cons (sp_lda 1 2 rfl rfl ag_25_2 rfl ?_)
        refine AS.cons (sp_call [] rfl rfl cf_66 (fun F w _ S => isSpanF _ _ _ _ (by decide) w) ?_)
        refine AS.cons (sp_pick_t rfl (v := .bool _) rfl ?_)
        refine AS.cons (sp_move (v := .bool _) rfl ?_)
        refine AS.split 27 rfl (fun g27 => ?_) (fun g27 => ?_)
        · skip
          refine AS.cons (sp_fa rfl fo_28_4_8 ?_)
          refine AS.cons (sp_ld 1 rfl rfl sc_26 rfl ?_)
          refine AS.cons (sp_len rfl sl_26_3_1 ?_)
          refine AS.cons (sp_leq rfl rfl ?_)
          refine AS.cons (sp_pick_t rfl (v := .bool _) rfl ?_)
          refine AS.cons (sp_asg (v := .bool _) rfl ?_)
          refine AS.nil ⟨⟨_, rfl, ?_⟩, ?_, rfl⟩
          · (try simp only [decide_eq_true_eq] at *); first | omega | (simp_all; done) | (simp_all; omega)
          · repeat (first | exact Agr.refl _ _ | exact Agr.msk _ _ _ | refine Agr.upd ?_ _ rfl | refine Agr.upds ?_ rfl | refine Agr.mskIn ?_ rfl)
        · skip
          refine AS.cons (sp_skip rfl ?_)
          refine AS.cons (sp_skip rfl ?_)
          refine AS.cons (sp_skip rfl ?_)
          refine AS.cons (sp_skip rfl ?_)
          refine AS.cons (sp_pick_f rfl (v := .bool _) rfl ?_)
          refine AS.cons (sp_asg (v := .bool _) rfl ?_)
          refine AS.nil ⟨⟨_, rfl, ?_⟩, ?_, rfl⟩
          · (try simp only [decide_eq_true_eq, decide_eq_false_iff_not] at *); first | omega | (simp_all; done) | (simp_all; omega)
          · repeat (first | exact Agr.refl _ _ | exact Agr.msk _ _ _ | refine Agr.upd ?_ _ rfl | refine Agr.upds ?_ rfl | refine Agr.mskIn ?_ rfl)
      · skip
        refine AS.cons (sp_skip rfl ?_)
        refine AS.cons (sp_skip rfl ?_)
        refine AS.cons (sp_skip rfl ?_)
        refine AS.cons (sp_pick_f rfl (v := .bool _) rfl ?_)
        refine AS.cons (sp_move (v := .bool _) rfl ?_)
        refine AS.cons (sp_skip rfl ?_)
        refine AS.cons (sp_skip rfl ?_)
        refine AS.cons (sp_skip rfl ?_)
        refine AS.cons (sp_skip rfl ?_)
        refine AS.cons (sp_pick_f rfl (v := .bool _) rfl ?_)
        refine AS.cons (sp_asg (v := .bool _) rfl ?_)
        refine AS.nil ⟨⟨_, rfl, ?_⟩, ?_, rfl⟩
        · (try simp only [decide_eq_true_eq, decide_eq_false_iff_not] at *); first | omega | (simp_all; done) | (simp_all; omega)
        · repeat (first | exact Agr.refl _ _ | exact Agr.msk _ _ _ | refine Agr.upd ?_ _ rfl | refine Agr.upds ?_ rfl | refine Agr.mskIn ?_ rfl)
    · skip
      refine AS.cons (sp_skip rfl ?_)
      refine AS.cons (sp_skip rfl ?_)
      refine AS.cons (sp_skip rfl ?_)
      refine AS.cons (sp_pick_f rfl (v := .bool _) rfl ?_)
      refine AS.cons (sp_move (v := .bool _) rfl ?_)
      refine AS.cons (sp_skip rfl ?_)
      refine AS.cons (sp_skip rfl ?_)
      refine AS.cons (sp_skip rfl ?_)
      refine AS.cons (sp_pick_f rfl (v := .bool _) rfl ?_)
      refine AS.cons (sp_move (v := .bool _) rfl ?_)
      refine AS.cons (sp_skip rfl ?_)
      refine AS.cons (sp_skip rfl ?_)
      refine AS.cons (sp_skip rfl ?_)
      refine AS.cons (sp_skip rfl ?_)
      refine AS.cons (sp_pick_f rfl (v := .bool _) rfl ?_)
      refine AS.cons (sp_asg (v := .bool _) rfl ?_)
      refine AS.nil ⟨⟨_, rfl, ?_⟩, ?_, rfl⟩
      · (try simp only [decide_eq_false_iff_not] at *); first | omega | (simp_all; done) | (simp_all; omega)
      · repeat (first | exact Agr.refl _ _ | exact Agr.msk _ _ _ | refine Agr.upd ?_ _ rfl | refine Agr.upds ?_ rfl | refine Agr.mskIn ?_ rfl)
  intro σ1 _ S
  refine W.seq (W.seq (W.region S ?_))
  refine AS.cons (sp_fa rfl fo_28_0_0 ?_)
  refine AS.cons (sp_lda 1 3 rfl rfl ag_22_3 rfl ?_)
  refine AS.cons (sp_move rfl ?_)
  refine AS.nil ?_
  intro _ S
  refine W.block ?_
  refine W.loopS S [3, 5, 35, 36, 37, 38, 39, 40, 41, 42, 43] [] (fun (j : Nat) => [(35, iv j), (3, .bool (decide (rtU b j = true)))]) (fun _ => []) (fun j => j ≤ 3) (fun j => 3 - j) 0 (by omega) ⟨rfl, by show Value.bool _ = Value.bool _; congr 1; unfold rtU; simp [allU], trivial⟩ trivial ?_
  rintro j σ M w1 hj S
  refine W.seq (W.region S ?_)
  refine AS.cons (sp_lss rfl rfl ?_)
  refine AS.nil ?_
  intro _ S
  refine W.seq (W.condd rfl (fun c36 => ?_) (fun c36 => ?_))
  · skip
    have hlt : j < 3 := by omega
    have hrt : [iv b.r0, iv b.r1, iv b.r2][(j : Int).toNat * 1]? = some (iv (rtK b j)) := by
      match j, hlt with
      | 0, _ => rfl
      | 1, _ => rfl
      | 2, _ => rfl
    refine W.skip ?_
    refine W.seq (W.block ?_)
    refine W.seq (W.region S ?_)
    refine AS.cons (sp_ixs (l := [iv b.r0, iv b.r1, iv b.r2]) rfl rfl ar_22_3_3_1 sc_3 (by omega) hrt ?_)
    refine AS.cons (sp_asg (v := .int _ _) rfl ?_)
    refine AS.nil ?_
    intro _ S
    refine W.regionc S [3, 38, 39, 40, 41, 42] 3 (rtU b (j + 1) = true) ?_ ?_
    · skip
      refine AS.cons (sp_move (v := .bool _) rfl ?_)
      refine AS.cons (sp_move (v := .bool _) rfl ?_)
      refine AS.split 39 rfl (fun g39 => ?_) (fun g39 => ?_)
      · skip
        refine AS.cons (sp_move (v := .int _ _) rfl ?_)
        refine AS.cons (sp_call [] rfl rfl cf_65 (fun F w _ S => onF _ _ _ w) ?_)
        refine AS.cons (sp_pick_t rfl (v := .bool _) rfl ?_)
        refine AS.cons (sp_asg (v := .bool _) rfl ?_)
        refine AS.nil ⟨⟨_, rfl, ?_⟩, ?_, rfl⟩
        · rw [rtU_succ]; simp_all
        · repeat (first | exact Agr.refl _ _ | exact Agr.msk _ _ _ | refine Agr.upd ?_ _ rfl | refine Agr.upds ?_ rfl | refine Agr.mskIn ?_ rfl)
      · skip
        refine AS.cons (sp_skip rfl ?_)
        refine AS.cons (sp_skip rfl ?_)
        refine AS.cons (sp_pick_f rfl (v := .bool _) rfl ?_)
        refine AS.cons (sp_asg (v := .bool _) rfl ?_)
        refine AS.nil ⟨⟨_, rfl, ?_⟩, ?_, rfl⟩
        · rw [rtU_succ]; simp_all
        · repeat (first | exact Agr.refl _ _ | exact Agr.msk _ _ _ | refine Agr.upd ?_ _ rfl | refine Agr.upds ?_ rfl | refine Agr.mskIn ?_ rfl)
    intro σ5 _ S
    refine W.region S ?_
    refine AS.cons (sp_add rfl rfl (by first | omega | (simp only [decide_eq_true_eq, decide_eq_false_iff_not] at *; omega)) ?_)
    refine AS.cons (sp_move (v := .int _ _) rfl ?_)
    refine AS.nil ?_
    intro _ S
    exact ⟨j + 1, _, by omega, by omega, ⟨by simp [upd], rfl, trivial⟩, trivial, by repeat (first | exact Agr.refl _ _ | exact Agr.msk _ _ _ | refine Agr.upd ?_ _ rfl | refine Agr.upds ?_ rfl | refine Agr.mskIn ?_ rfl), by repeat (first | exact Agr.refl _ _ | exact Agr.msk _ _ _ | refine Agr.upd ?_ _ rfl | refine Agr.upds ?_ rfl | refine Agr.mskIn ?_ rfl), rfl, S⟩
  · skip
    obtain rfl : j = 3 := by omega
    refine W.exit ?_
    refine W.seq (W.seq (W.region S ?_))
    refine AS.cons (sp_fa rfl fo_28_1_3 ?_)
    refine AS.cons (sp_ld 1 rfl rfl sc_23 rfl ?_)
    refine AS.cons (sp_len rfl sl_23_75_3 ?_)
    refine AS.cons (sp_move rfl ?_)
    refine AS.nil ?_
    intro _ S
    refine W.block ?_
    refine W.loopS S [3, 7, 9, 47, 48, 49, 50, 51, 52, 53, 54, 55, 56, 57, 58, 59, 60, 61, 62, 63] [7] (fun (j : Nat) => [(47, iv j), (3, .bool (decide (hoU b j = true)))]) (fun _ => []) (fun j => j ≤ b.hs.length) (fun j => b.hs.length - j) 0 (by omega) ⟨rfl, by show Value.bool _ = Value.bool _; congr 1; unfold hoU; simp [allU], trivial⟩ trivial ?_
    rintro j σ M w1 hj S
    refine W.seq (W.region S ?_)
    refine AS.cons (sp_lss rfl rfl ?_)
    refine AS.nil ?_
    intro _ S
    refine W.seq (W.condd rfl (fun c48 => ?_) (fun c48 => ?_))
    · skip
      have hlt : j < b.hs.length := by omega
      obtain ⟨x, hx⟩ := get_some hlt
      refine W.skip ?_
      refine W.seq (W.block ?_)
      refine W.seq (W.region S ?_)
      refine AS.cons (sp_iaR hH rfl rfl sl_23_75_3 (by first | omega | (simp only [decide_eq_true_eq, decide_eq_false_iff_not] at *; omega)) ?_)
      refine AS.cons (sp_ldaR 0 hH (fun _ h => h) rfl ag_75_3 (hos_at hx) (by first | omega | (simp only [decide_eq_true_eq, decide_eq_false_iff_not] at *; omega)) ?_)
      refine AS.cons (sp_alloc 7 zv_75 rfl (fun b7 => ?_))
      refine AS.cons (sp_st 7 rfl rfl rfl rfl sz_75_3 rfl rfl ?_)
      refine AS.nil ?_
      intro _ S
      refine W.seq (W.region S ?_)
      refine AS.cons (sp_ldoa (vs := kindsL) rfl ag_87_3 hK.cs (fun h => h) ?_)
      refine AS.cons (sp_move rfl ?_)
      refine AS.nil ?_
      intro _ S
      refine W.block ?_
      refine W.loopS S [3, 9, 52, 53, 54, 55, 56, 57, 58, 59, 60, 61, 62] [] (fun (n : Nat) => [(52, iv n), (3, .bool (decide (hoN b x j n = true)))]) (fun _ => []) (fun n => n ≤ 3) (fun n => 3 - n) 0 (by omega) ⟨rfl, by rw [hoN_zero]; rfl, trivial⟩ trivial ?_
      rintro n σ2 M2 w2 hn S
      refine W.seq (W.region S ?_)
      refine AS.cons (sp_lss rfl rfl ?_)
      refine AS.nil ?_
      intro _ S
      refine W.seq (W.condd rfl (fun c53 => ?_) (fun c53 => ?_))
      · skip
        have hltn : n < 3 := by omega
        refine W.skip ?_
        refine W.seq (W.block ?_)
        refine W.seq (W.region S ?_)
        refine AS.cons (sp_ixs rfl rfl ar_87_3_86_1 sc_86 (by omega) (kinds_at hltn) ?_)
        refine AS.cons (sp_asg rfl ?_)
        refine AS.nil ?_
        intro _ S
        refine W.regionc S [3, 55, 56, 57, 58, 59, 60, 61] 3 (hoN b x j (n + 1) = true) ?_ ?_
        · skip
          refine AS.cons (sp_move (v := .bool _) rfl ?_)
          refine AS.cons (sp_move (v := .bool _) rfl ?_)
          refine AS.split 56 rfl (fun g56 => ?_) (fun g56 => ?_)
          · skip
            refine AS.cons (sp_move rfl ?_)
            refine AS.cons (sp_ldw 7 rfl rfl ag_75_3 ?_)
            refine AS.cons (sp_call [] rfl rfl (cf_kf hltn) (fun F w _ S => kindF x hltn w) ?_)
            refine AS.cons (sp_call [] rfl rfl cf_65 (fun F w _ S => onF _ _ _ w) ?_)
            refine AS.cons (sp_pick_t rfl (v := .bool _) rfl ?_)
            refine AS.cons (sp_asg (v := .bool _) rfl ?_)
            refine AS.nil ⟨⟨_, rfl, ?_⟩, ?_, rfl⟩
            · rw [hoN_succ]; simp_all
            · repeat (first | exact Agr.refl _ _ | exact Agr.msk _ _ _ | refine Agr.upd ?_ _ rfl | refine Agr.upds ?_ rfl | refine Agr.mskIn ?_ rfl)
          · skip
            refine AS.cons (sp_skip rfl ?_)
            refine AS.cons (sp_skip rfl ?_)
            refine AS.cons (sp_skip rfl ?_)
            refine AS.cons (sp_skip rfl ?_)
            refine AS.cons (sp_pick_f rfl (v := .bool _) rfl ?_)
            refine AS.cons (sp_asg (v := .bool _) rfl ?_)
            refine AS.nil ⟨⟨_, rfl, ?_⟩, ?_, rfl⟩
            · rw [hoN_succ]; simp_all
            · repeat (first | exact Agr.refl _ _ | exact Agr.msk _ _ _ | refine Agr.upd ?_ _ rfl | refine Agr.upds ?_ rfl | refine Agr.mskIn ?_ rfl)
        intro σ13 _ S
        refine W.region S ?_
        refine AS.cons (sp_add rfl rfl (by first | omega | (simp only [decide_eq_true_eq, decide_eq_false_iff_not] at *; omega)) ?_)
        refine AS.cons (sp_move (v := .int _ _) rfl ?_)
        refine AS.nil ?_
        intro _ S
        exact ⟨n + 1, _, by omega, by omega, ⟨by simp [upd], rfl, trivial⟩, trivial, by repeat (first | exact Agr.refl _ _ | exact Agr.msk _ _ _ | refine Agr.upd ?_ _ rfl | refine Agr.upds ?_ rfl | refine Agr.mskIn ?_ rfl), by repeat (first | exact Agr.refl _ _ | exact Agr.msk _ _ _ | refine Agr.upd ?_ _ rfl | refine Agr.upds ?_ rfl | refine Agr.mskIn ?_ rfl), rfl, S⟩
      · skip
        obtain rfl : n = 3 := by omega
        rw [hoN_all hx]
        refine W.exit ?_
        refine W.region S ?_
        refine AS.cons (sp_add rfl rfl (by first | omega | (simp only [decide_eq_true_eq, decide_eq_false_iff_not] at *; omega)) ?_)
        refine AS.cons (sp_move (v := .int _ _) rfl ?_)
        refine AS.nil ?_
        intro _ S
        exact ⟨j + 1, _, by omega, by omega, ⟨by simp [upd], rfl, trivial⟩, trivial, by repeat (first | exact Agr.refl _ _ | exact Agr.msk _ _ _ | refine Agr.upd ?_ _ rfl | refine Agr.upds ?_ rfl | refine Agr.mskIn ?_ rfl), by repeat (first | exact Agr.refl _ _ | exact Agr.msk _ _ _ | refine Agr.upd ?_ _ rfl | refine Agr.upds ?_ rfl | refine Agr.mskIn ?_ rfl), rfl, S⟩
    · skip
      obtain rfl : j = b.hs.length := by omega
      refine W.exit ?_
      refine W.seq (W.seq (W.region S ?_))
      refine AS.cons (sp_fa rfl fo_28_4_8 ?_)
      refine AS.cons (sp_ld 1 rfl rfl sc_26 rfl ?_)
      refine AS.cons (sp_len rfl sl_26_3_1 ?_)
      refine AS.cons (sp_move rfl ?_)
      refine AS.nil ?_
      intro _ S
      refine W.block ?_
      refine W.loopS S [3, 11, 67, 68, 69, 70, 71, 72, 73, 74, 75, 76, 77, 78, 79, 80] [] (fun (k : Nat) => [(67, iv k), (3, .bool (decide (drU b k = true)))]) (fun _ => []) (fun k => k ≤ b.dr.length) (fun k => b.dr.length - k) 0 (by omega) ⟨rfl, by show Value.bool _ = Value.bool _; congr 1; unfold drU; simp [allU], trivial⟩ trivial ?_
      rintro k σ3 M3 w3 hk S
      refine W.seq (W.region S ?_)
      refine AS.cons (sp_lss rfl rfl ?_)
      refine AS.nil ?_
      intro _ S
      refine W.seq (W.condd rfl (fun c68 => ?_) (fun c68 => ?_))
      · skip
        have hlt2 : k < b.dr.length := by omega
        obtain ⟨y, hy⟩ := get_some hlt2
        refine W.skip ?_
        refine W.seq (W.block ?_)
        refine W.seq (W.region S ?_)
        refine AS.cons (sp_iaR hD rfl rfl sl_26_3_1 (by omega) ?_)
        refine AS.cons (sp_ldR 0 hD (fun _ h => h) rfl sc_3 (ints_at hy) (by omega) ?_)
        refine AS.cons (sp_asg (v := .int _ _) rfl ?_)
        refine AS.nil ?_
        intro _ S
        refine W.regionc S [3, 71, 72, 73, 74, 75, 76, 77, 78, 79] 3 (drU b (k + 1) = true) ?_ ?_
        · skip
          refine AS.cons (sp_move (v := .bool _) rfl ?_)
          refine AS.cons (sp_move (v := .bool _) rfl ?_)
          refine AS.split 72 rfl (fun g72 => ?_) (fun g72 => ?_)
          · skip
            refine AS.cons (sp_move (v := .int _ _) rfl ?_)
            refine AS.cons (sp_fa rfl fo_28_1_3 ?_)
            refine AS.cons (sp_ld 1 rfl rfl sc_23 rfl ?_)
            refine AS.cons (sp_len rfl sl_23_75_3 ?_)
            refine AS.cons (sp_sub rfl rfl (by first | omega | (simp only [decide_eq_true_eq, decide_eq_false_iff_not] at *; omega)) ?_)
            refine AS.cons (sp_call [] rfl rfl cf_65 (fun F w _ S => onF _ _ _ w) ?_)
            refine AS.cons (sp_pick_t rfl (v := .bool _) rfl ?_)
            refine AS.cons (sp_asg (v := .bool _) rfl ?_)
            refine AS.nil ⟨⟨_, rfl, ?_⟩, ?_, rfl⟩
            · rw [drU_succ hy]; simp_all
            · repeat (first | exact Agr.refl _ _ | exact Agr.msk _ _ _ | refine Agr.upd ?_ _ rfl | refine Agr.upds ?_ rfl | refine Agr.mskIn ?_ rfl)
          · skip
            refine AS.cons (sp_skip rfl ?_)
            refine AS.cons (sp_skip rfl ?_)
            refine AS.cons (sp_skip rfl ?_)
            refine AS.cons (sp_skip rfl ?_)
            refine AS.cons (sp_skip rfl ?_)
            refine AS.cons (sp_skip rfl ?_)
            refine AS.cons (sp_pick_f rfl (v := .bool _) rfl ?_)
            refine AS.cons (sp_asg (v := .bool _) rfl ?_)
            refine AS.nil ⟨⟨_, rfl, ?_⟩, ?_, rfl⟩
            · rw [drU_succ hy]; simp_all
            · repeat (first | exact Agr.refl _ _ | exact Agr.msk _ _ _ | refine Agr.upd ?_ _ rfl | refine Agr.upds ?_ rfl | refine Agr.mskIn ?_ rfl)
        intro σ19 _ S
        refine W.region S ?_
        refine AS.cons (sp_add rfl rfl (by first | omega | (simp only [decide_eq_true_eq, decide_eq_false_iff_not] at *; omega)) ?_)
        refine AS.cons (sp_move (v := .int _ _) rfl ?_)
        refine AS.nil ?_
        intro _ S
        exact ⟨k + 1, _, by omega, by omega, ⟨by simp [upd], rfl, trivial⟩, trivial, by repeat (first | exact Agr.refl _ _ | exact Agr.msk _ _ _ | refine Agr.upd ?_ _ rfl | refine Agr.upds ?_ rfl | refine Agr.mskIn ?_ rfl), by repeat (first | exact Agr.refl _ _ | exact Agr.msk _ _ _ | refine Agr.upd ?_ _ rfl | refine Agr.upds ?_ rfl | refine Agr.mskIn ?_ rfl), rfl, S⟩
      · skip
        obtain rfl : k = b.dr.length := by omega
        rw [drU_all]
        refine W.exit ?_
        refine W.seq (W.seq (W.region S ?_))
        refine AS.cons (sp_move (v := .bool _) rfl ?_)
        refine AS.cons (sp_not rfl ?_)
        refine AS.nil ?_
        intro _ S
        refine W.cond rfl (fun c82 => ?_) (fun c82 => ?_)
        · skip
          have hv : chkV b = 80 := chk_no (okS_not (by simpa using c82))
          refine W.seq (W.region S ?_)
          refine AS.cons (sp_asg rfl ?_)
          refine AS.nil ?_
          intro _ S
          refine W.ret ?_
          exact ret1 rfl rfl S fun w' S' => ⟨congrArg iv hv.symm, S'.mod⟩
        · skip
          have hok : okN b = true := by simpa using c82
          have hO := okN_own hok
          have hkk := okS_of hok
          have hn6 := hO.n6
          have hal := hO.tot b.hs.length
          have hal0 : 0 ≤ allN b := hal.1
          refine W.skip ?_
          refine W.seq (W.seq (W.region S ?_))
          refine AS.cons (sp_ldw 1 rfl rfl ag_28_9 ?_)
          refine AS.cons (sp_call [] rfl rfl cf_67 (fun F w _ S => countedF _ _ _ _ _ (by assumption) w (hK.ext S.mod) (hH.ext S.mod)) ?_)
          refine AS.cons (sp_alloc 12 zv_78 rfl (fun b12 => ?_))
          refine AS.cons (sp_st 12 rfl rfl rfl rfl sz_78_6 rfl rfl ?_)
          refine AS.nil ?_
          intro _ S
          refine W.seq (W.drawc S mixed [85, 86, 87, 88, 89, 90, 91, 92, 93, 94, 95, 96] 96 (¬ okS b = true) (fun i => ([KD.q [12], KD.e [] [], KD.q [], KD.q [], KD.q [], KD.e [12] [], KD.q [], KD.q [1], KD.q [], KD.e [] [], KD.q [], KD.q []] : List KD)[i]?) [3] [1, 0, 2, 3, 4, 5, 6, 7, 8, 9, 10, 11] (by kernel_rfl) ?_ ?_)
          · skip
            refine AW.cons rfl rfl (sp_call [] rfl rfl cf_68 (fun F w _ S => noneF w) ?_)
            refine AW.cons rfl rfl (sp_ldw 12 rfl rfl ag_78_6 ?_)
            refine AW.cons rfl rfl (sp_eqla (l := shA b) (r := ([0, 0, 0, 0, 0, 0] : List Int).map iv) rfl rfl gt_78 (eqP_ints arSix int_3 rfl rfl) ?_)
            refine AW.cons rfl rfl (sp_move (v := .bool _) rfl ?_)
            refine AW.split 88 rfl (fun g88 => ?_) (fun g88 => ?_)
            · skip
              refine AW.cons rfl rfl (sp_skip rfl ?_)
              refine AW.cons rfl rfl (sp_skip rfl ?_)
              refine AW.cons rfl rfl (sp_skip rfl ?_)
              refine AW.cons rfl rfl (sp_skip rfl ?_)
              refine AW.cons rfl rfl (sp_skip rfl ?_)
              refine AW.cons rfl rfl (sp_skip rfl ?_)
              refine AW.cons rfl rfl (sp_skip rfl ?_)
              refine AW.cons rfl rfl (sp_pick_t rfl (v := .bool _) rfl ?_)
              refine AW.nil ⟨⟨_, rfl, ?_⟩, ?_, rfl⟩
              · rw [hkk]; rw [sh_zero hO] at g88; simp only [decide_eq_true_eq, true_iff, Bool.not_eq_false'] at *; omega
              · repeat (first | exact Agr.refl _ _ | exact Agr.msk _ _ _ | refine Agr.upd ?_ _ rfl | refine Agr.upds ?_ rfl | refine Agr.mskIn ?_ rfl)
            · skip
              refine AW.cons rfl rfl (sp_slA rfl arSix ?_)
              refine AW.cons rfl rfl (sp_call [12] rfl rfl cf_69 (fun F w hF S => by have h := sumF (some ⟨b12, 0, none⟩) 6 (shI b) (by show 6 ≤ _; omega) (shI_bd hO) w (ints_pt (S.get ((hF 12 (by simp)).trans rfl)).1 (by show 6 ≤ _; omega) (Nat.le_refl 6)); rw [show (shI b).length = 6 from rfl, sum_sh b hn6] at h; exact h) ?_)
              refine AW.cons rfl rfl (sp_fa rfl fo_28_4_8 ?_)
              refine AW.cons rfl rfl (sp_ld 1 rfl rfl sc_26 rfl ?_)
              refine AW.cons rfl rfl (sp_len rfl sl_26_3_1 ?_)
              refine AW.cons rfl rfl (sp_call [] rfl rfl cf_65 (fun F w _ S => onF _ _ _ w) ?_)
              refine AW.cons rfl rfl (sp_not rfl ?_)
              refine AW.cons rfl rfl (sp_pick_f rfl (v := .bool _) rfl ?_)
              refine AW.nil ⟨⟨_, rfl, ?_⟩, ?_, rfl⟩
              · rw [hkk]; rw [sh_zero hO] at g88; simp only [Bool.not_eq_true', decide_eq_true_eq, decide_eq_false_iff_not, Bool.not_eq_false'] at *; omega
              · repeat (first | exact Agr.refl _ _ | exact Agr.msk _ _ _ | refine Agr.upd ?_ _ rfl | refine Agr.upds ?_ rfl | refine Agr.mskIn ?_ rfl)
          intro σ24 _ S
          refine W.cond rfl (fun c96 => ?_) (fun c96 => ?_)
          · skip
            have hv : chkV b = 80 := chk_no (by simpa using of_decide_eq_true c96)
            refine W.seq (W.region S ?_)
            refine AS.cons (sp_asg rfl ?_)
            refine AS.nil ?_
            intro _ S
            refine W.ret ?_
            exact ret1 rfl rfl S fun w' S' => ⟨congrArg iv hv.symm, S'.mod⟩
          · skip
            have hv : chkV b = 0 := chk_ok (by simpa using of_decide_eq_false c96)
            refine W.skip ?_
            refine W.seq (W.region S ?_)
            refine AS.cons (sp_asg rfl ?_)
            refine AS.nil ?_
            intro _ S
            refine W.ret ?_
            exact ret1 rfl rfl S fun w' S' => ⟨congrArg iv hv.symm, S'.mod⟩
end
end Go.Proofs.YtajocmkgdjcmkaaDoor

/-
  The program: an element cut out; the order of draws, remembered.
-/
namespace Go.Proofs.YtajocmkgdjcmkaaDoor
set_option maxRecDepth 100000
open Go.Hu Go.RowKit
section
variable (b : Sb) (ha : Option Addr) (hc : Nat) (da : Option Addr) (dc : Nat)
theorem oneB_iv (l : List Int) : oneB (l.map iv) = true := by unfold oneB; rw [List.all_eq_true]; intro v hv; obtain ⟨x, _, rfl⟩ := List.mem_map.1 hv; rfl
set_option maxHeartbeats 4000000 in
theorem deleteF (a : Option Addr) (n c : Nat) (l : List Int) (k : Int) (hk : 0 ≤ k ∧ k < n) (hl : l.length = n) (hn : n ≤ 1000) (Bp : Nat → Prop) (w : World) (S : St Bp w w (upd eL 0 (slc 3 1 (.slice a n c) n (l.map iv))) []) :
    Ct Tryd.prog 93 #[.slice a n c, iv k, iv (k + 1)] w (fun u w' => ∃ i, (u = .slice a (n - 1) c ∧ i = slc 3 1 (.slice a (n - 1) c) (n - 1) ((l.eraseIdx k.toNat).map iv)) ∧ St Bp w w' (upd eL 0 i) []) := by
  refine fn_intro (args := [.slice a n c, iv k, iv (k + 1)]) Tryd.func93 rfl rfl (by kernel_rfl) ?_
  have hnc : n ≤ c := St.slc_le S 0 rfl
  have hlen : k.toNat + (n - (k + 1).toNat) = n - 1 := by omega
  refine W.seq (W.region S ?_)
  refine AS.cons (sp_asg rfl ?_)
  refine AS.nil ?_
  intro _ S
  refine W.seq (W.region S ?_)
  refine AS.cons (sp_move rfl ?_)
  refine AS.cons (sp_move (v := .int _ _) rfl ?_)
  refine AS.cons (sp_move (v := .int _ _) rfl ?_)
  refine AS.cons (sp_move rfl ?_)
  refine AS.cons (sp_len rfl sl_26_3_1 ?_)
  refine AS.cons (sp_slF (a := a) (len := n) (cap := c) (l' := k) (h' := k + 1) (m' := (n : Int)) rfl rfl rfl rfl sl_26_3_1 (by omega) ?_)
  refine AS.nil ?_
  intro _ S
  refine W.seq (W.seq (W.region S ?_))
  refine AS.cons (sp_move (v := .int _ _) rfl ?_)
  refine AS.cons (sp_move (v := .int _ _) rfl ?_)
  refine AS.cons (sp_eql rfl rfl ?_)
  refine AS.nil ?_
  intro _ S
  refine W.condd rfl (fun c16 => ?_) (fun c16 => ?_)
  · exfalso; omega
  · skip
    refine W.skip ?_
    refine W.seq (W.region S ?_)
    refine AS.cons (sp_move rfl ?_)
    refine AS.cons (sp_len rfl sl_26_3_1 ?_)
    refine AS.cons (sp_asg (v := .int _ _) rfl ?_)
    refine AS.nil ?_
    intro _ S
    refine W.seq (W.draw S mixed (fun i => ([KD.q [], KD.q [], KD.q [], KD.q [], KD.q [], KD.q [], KD.e [0] [0], KD.q []] : List KD)[i]?) [] [0, 1, 2, 3, 4, 5, 6, 7] (by kernel_rfl) ?_)
    refine AW.cons rfl rfl (sp_move rfl ?_)
    refine AW.cons rfl rfl (sp_move (v := .int _ _) rfl ?_)
    refine AW.cons rfl rfl (sp_sl2 (a := a) (len := n) (cap := c) (h' := k) rfl rfl sl_26_3_1 (by omega) ?_)
    refine AW.cons rfl rfl (sp_move rfl ?_)
    refine AW.cons rfl rfl (sp_move (v := .int _ _) rfl ?_)
    refine AW.cons rfl rfl (sp_slL (a := a) (len := n) (cap := c) (l' := k + 1) rfl rfl sl_26_3_1 (by omega) hnc ?_)
    refine AW.cons rfl rfl (sp_appSelf (n := n) (cap := c) (i := k.toNat) (j := (k + 1).toNat) (a := a) (xs := l.map iv) 0 rfl rfl sl_26_3_1 zs_3_1 rfl (oneB_iv l) (by omega) hnc ?_)
    refine AW.cons rfl rfl (sp_asg rfl ?_)
    refine AW.nil ?_
    intro _ S
    refine W.seq (W.region S ?_)
    refine AS.cons (sp_move rfl ?_)
    refine AS.cons (sp_move rfl ?_)
    refine AS.cons (sp_len rfl sl_26_3_1 ?_)
    refine AS.cons (sp_move (v := .int _ _) rfl ?_)
    refine AS.cons (sp_slLH (a := a) (len := k.toNat + (n - (k + 1).toNat)) (cap := c) (l' := ((k.toNat + (n - (k + 1).toNat) : Nat) : Int)) (h' := (n : Int)) rfl rfl rfl sl_26_3_1 (by omega) ?_)
    refine AS.cons (sp_clear (n := n) (cap := c) (l := k.toNat + (n - (k + 1).toNat)) (h' := n) (a := a) 0 rfl sl_26_3_1 zv_3 rfl rfl rfl (by omega) ?_)
    refine AS.nil ?_
    intro _ S
    refine W.seq (W.region S ?_)
    refine AS.cons (sp_move rfl ?_)
    refine AS.cons (sp_asg rfl ?_)
    refine AS.nil ?_
    intro _ S
    refine W.ret ?_
    refine ret1 rfl rfl S fun w' S' => ?_
    refine ⟨_, ⟨?_, rfl⟩, ?_⟩
    · show Value.slice a (k.toNat + (n - (k + 1).toNat)) c = _; rw [hlen]
    · have S2 := S'.weak (k := 0) (i := slc 3 1 (.slice a (n - 1) c) (n - 1) ((l.eraseIdx k.toNat).map iv)) (fun f hf => ?_)
      · have S3 := S2.only 0
        rw [upd_same] at S3
        exact S3
      · have h1 := slc_short (k := n - 1) (by omega) (by omega) hf
        have hml : (l.map iv).length = n := by rw [List.length_map, hl]
        have e1 : ((l.map iv).take k.toNat ++ (l.map iv).drop (k + 1).toNat).length = n - 1 := by rw [List.length_append, List.length_take, List.length_drop, hml]; omega
        rw [hlen] at h1
        rw [List.take_append_of_le_length (by rw [List.length_append, List.length_take, List.length_append, e1]; omega), List.take_append_of_le_length (by rw [List.length_take, List.length_append, e1]; omega), List.take_take, Nat.min_self, List.take_append_of_le_length (by omega), List.take_of_length_le (by omega)] at h1
        rw [List.eraseIdx_eq_take_drop_succ, List.map_append, List.map_take, List.map_drop, show k.toNat + 1 = (k + 1).toNat by omega]
        exact h1
/-- An order of draws that is remembered. -/
def OrR (b : Sb) (m : Nat) (s : Int) (u : Value) (i : HP) : Prop := (∃ a c, u = .slice a (ord b s).length c ∧ (ord b s).length ≤ c) ∧ i = CaR 3 (ordF b) m s u true
theorem OrR.ne (b : Sb) (m : Nat) (s : Int) : ∃ u i, OrR b m s u i := ⟨.slice none _ (ord b s).length, _, ⟨_, _, rfl, Nat.le_refl _⟩, rfl⟩
theorem ordF_len (b : Sb) (s : Int) : (ordF b s).length = (ord b s).length := by simp [ordF]
theorem shA_at {b : Sb} {k : Nat} (hk : k < 6) : (shA b)[((k : Int)).toNat * 1]? = some (iv (ofK b k)) := by
  unfold shA shI
  rw [List.getElem?_map, List.getElem?_map, show ((k : Int)).toNat * 1 = k by omega, List.getElem?_range hk]; rfl
set_option maxHeartbeats 8000000 in
theorem orderF (hb : Good b) (m : Nat) (s : Int) (hs : 0 ≤ s ∧ s ≤ 100000) (Bp : Nat → Prop) (w : World) (S : St Bp w w (upd eL 0 (CaP 3 (ordF b) m)) []) :
    Ct Tryd.prog 74 #[.agg (bkL b ha hc da dc m).toArray, iv s] w (fun u w' => ∃ i, OrR b m s u i ∧ St Bp w w' (upd eL 0 i) []) := by
  refine fn_intro (args := [.agg (bkL b ha hc da dc m).toArray, iv s]) Tryd.func74 rfl rfl (by kernel_rfl) ?_
  have h60 := hb.a60
  have h1 := hb.a1
  have hn6 := hb.n6
  have hrf := rowF_len hb
  have hof : ∀ k, 0 ≤ ofK b k := hb.of
  have hfar : ∀ j, ((rowU b j).length : Int) ≤ allN b := fun j => by
    rcases Nat.lt_or_ge j b.hs.length with h | h
    · rw [rowU_len hb]; exact hb.mono (Nat.le_of_lt h)
    · rw [rowU_far h, hrf]; exact Int.le_refl _
  refine W.seq (W.region S ?_)
  refine AS.cons (sp_boxa 2 rfl (fun b2 => ?_))
  refine AS.cons (sp_asg rfl ?_)
  refine AS.nil ?_
  intro _ S
  refine W.seq (W.seq (W.region S ?_))
  refine AS.cons (sp_fa rfl fo_81_2_15 ?_)
  refine AS.cons (sp_ld 2 rfl rfl sc_79 rfl ?_)
  refine AS.cons (sp_move (v := .int _ _) rfl ?_)
  refine AS.cons (sp_lkC 0 rfl rfl kI_79 rfl zv_26 (fun v17 is17 => ?_))
  refine AS.cons (sp_move rfl ?_)
  refine AS.cons (sp_ext rfl rfl ?_)
  refine AS.cons (sp_ext rfl rfl ?_)
  refine AS.cons (sp_asg rfl ?_)
  refine AS.cons (sp_asg (v := .bool _) rfl ?_)
  refine AS.nil ?_
  intro _ S
  refine W.seq (W.region S ?_)
  refine AS.cons (sp_move (v := .bool _) rfl ?_)
  refine AS.nil ?_
  intro _ S
  refine W.cond rfl (fun c20 => ?_) (fun c20 => ?_)
  · skip
    subst c20
    obtain ⟨a17, c17, hv17, hc17⟩ := S.caR_form (k := 0) rfl
    rw [ordF_len] at hv17 hc17
    refine W.seq (W.region S ?_)
    refine AS.cons (sp_move rfl ?_)
    refine AS.cons (sp_asg rfl ?_)
    refine AS.nil ?_
    intro _ S
    refine W.ret ?_
    first | exact ret1 rfl rfl S fun w' S' => ⟨_, ⟨⟨a17, c17, hv17, hc17⟩, rfl⟩, S'.only 0⟩ | exact ret1 rfl rfl S fun w' S' => ⟨_, ⟨⟨oa, oc, by rw [hol]; rfl, by rw [hol]; exact hoc⟩, rfl⟩, S'.only 0⟩
  · skip
    have S := S.weak (k := 0) (i := CaP 3 (ordF b) m) (fun f hf => CaR.weak hf)
    refine W.skip ?_
    refine W.seq (W.region S ?_)
    refine AS.cons (sp_asg rfl ?_)
    refine AS.cons (sp_asg rfl ?_)
    refine AS.nil ?_
    intro _ S
    have S := (S.drop 901).weak (k := 901) (i := slc 3 1 (.slice none 0 0) 0 []) (fun f hf => by rw [upd_same] at hf; exact slc_nil 3 1 f hf)
    have S := (S.drop 902).weak (k := 902) (i := slc 3 1 (.slice none 0 0) 0 []) (fun f hf => by rw [upd_same] at hf; exact slc_nil 3 1 f hf)
    refine W.seq (W.seq (W.region S ?_))
    refine AS.cons (sp_fa rfl fo_81_1_9 ?_)
    refine AS.cons (sp_lda 2 6 rfl rfl ag_78_6 rfl ?_)
    refine AS.cons (sp_move rfl ?_)
    refine AS.nil ?_
    intro _ S
    refine W.block ?_
    refine W.loopS S [7, 9, 10, 24, 25, 26, 27, 28, 29, 30, 31, 32, 33, 34, 35, 36] [33, 34, 901] (fun (z : Nat × Value) => [(24, iv z.1), (7, z.2)]) (fun z => [(901, slc 3 1 z.2 (rowU b z.1).length ((rowU b z.1).map iv))]) (fun z => z.1 ≤ 6 ∧ ∃ a c, z.2 = .slice a (rowU b z.1).length c) (fun z => 6 - z.1) (0, _) ⟨by omega, _, 0, rfl⟩ ⟨rfl, rfl, trivial⟩ ⟨rfl, trivial⟩ ?_
    rintro ⟨j, v⟩ σ M w1 ⟨hj, a, c, hva⟩ S
    replace hj : j ≤ 6 := hj
    replace hva : v = .slice a (rowU b j).length c := hva
    subst hva
    refine W.seq (W.region S ?_)
    refine AS.cons (sp_lss rfl rfl ?_)
    refine AS.nil ?_
    intro _ S
    refine W.seq (W.condd rfl (fun c25 => ?_) (fun c25 => ?_))
    · skip
      have hlt : j < 6 := by omega
      have hofj := hof j
      have hnx := hfar (j + 1)
      simp only [rowU, List.length_append, List.length_replicate] at hnx
      refine W.skip ?_
      refine W.seq (W.block ?_)
      refine W.seq (W.region S ?_)
      refine AS.cons (sp_move (v := .int _ _) rfl ?_)
      refine AS.cons (sp_ixs (l := shA b) rfl rfl arSix sc_3 (by omega) (shA_at hlt) ?_)
      refine AS.cons (sp_asg (v := .int _ _) rfl ?_)
      refine AS.cons (sp_asg (v := .int _ _) rfl ?_)
      refine AS.nil ?_
      intro _ S
      refine W.seq (W.region S ?_)
      refine AS.cons (sp_move (v := .int _ _) rfl ?_)
      refine AS.cons (sp_move rfl ?_)
      refine AS.nil ?_
      intro _ S
      refine W.block ?_
      refine W.loopS S [7, 29, 30, 31, 32, 33, 34, 35] [33, 34, 901] (fun (z : Nat × Value) => [(29, iv z.1), (7, z.2)]) (fun z => [(901, slc 3 1 z.2 (rowU b j ++ List.replicate z.1 (j : Int)).length ((rowU b j ++ List.replicate z.1 (j : Int)).map iv))]) (fun z => z.1 ≤ (ofK b j).toNat ∧ ∃ a c, z.2 = .slice a (rowU b j ++ List.replicate z.1 (j : Int)).length c) (fun z => (ofK b j).toNat - z.1) (0, .slice a (rowU b j).length c) ⟨Nat.zero_le _, a, c, by simp⟩ ⟨rfl, rfl, trivial⟩ ⟨by show slc 3 1 _ (rowU b j).length _ = _; simp, trivial⟩ ?_
      rintro ⟨n, v⟩ σ2 M2 w2 ⟨hn, a2, c2, hva2⟩ S
      replace hn : n ≤ (ofK b j).toNat := hn
      replace hva2 : v = .slice a2 (rowU b j ++ List.replicate n (j : Int)).length c2 := hva2
      subst hva2
      have hln : (rowU b j ++ List.replicate n (j : Int)).length ≤ 1000 := by simp only [List.length_append, List.length_replicate]; omega
      have hsn : rowU b j ++ List.replicate (n + 1) (j : Int) = (rowU b j ++ List.replicate n (j : Int)) ++ [(j : Int)] := by rw [List.replicate_succ', List.append_assoc]
      refine W.seq (W.region S ?_)
      refine AS.cons (sp_lss rfl rfl ?_)
      refine AS.nil ?_
      intro _ S
      refine W.seq (W.condd rfl (fun c30 => ?_) (fun c30 => ?_))
      · skip
        replace c30 : (n : Int) < ofK b j := c30
        have hlt2 : n < (ofK b j).toNat := by omega
        refine W.skip ?_
        refine W.seq (W.block ?_)
        refine W.region S ?_
        refine AS.cons (sp_move rfl ?_)
        refine AS.cons (sp_move (v := .int _ _) rfl ?_)
        refine AS.cons (sp_bs 33 [.tmp 32] _ sl_26_3_1 zs_3_1 rfl rfl rfl rfl rfl rfl (fun b33 => ?_))
        refine AS.cons (sp_app 901 [33] rfl rfl sl_26_3_1 zs_3_1 rfl (fun F w hF S => rd_pt (S.get ((hF 33 (by simp)).trans rfl)).1 rfl (by omega) (by omega)) rfl (by first | omega | (simp only [] at *; omega)) (fun a34 c34 => ?_))
        refine AS.cons (sp_asg rfl ?_)
        refine AS.nil ?_
        intro _ S
        refine W.region S ?_
        refine AS.cons (sp_add rfl rfl (by first | omega | (simp only [decide_eq_true_eq, decide_eq_false_iff_not] at *; omega)) ?_)
        refine AS.cons (sp_move (v := .int _ _) rfl ?_)
        refine AS.nil ?_
        intro _ S
        exact ⟨(n + 1, .slice a34 ((rowU b j ++ List.replicate n (j : Int)).length + 1) c34), _, ⟨by show n + 1 ≤ _; omega, a34, c34, by show _ = Value.slice a34 (rowU b j ++ List.replicate (n + 1) (j : Int)).length c34; rw [hsn, List.length_append (bs := [(j : Int)])]; rfl⟩, by show _ - (n + 1) < _ - n; omega, ⟨by simp [upd], rfl, trivial⟩, ⟨by show slc 3 1 _ _ _ = slc 3 1 _ (rowU b j ++ List.replicate (n + 1) (j : Int)).length _; rw [hsn, List.length_append (bs := [(j : Int)]), List.map_append (l₂ := [(j : Int)])]; rfl, trivial⟩, by repeat (first | exact Agr.refl _ _ | exact Agr.msk _ _ _ | refine Agr.upd ?_ _ rfl | refine Agr.upds ?_ rfl | refine Agr.mskIn ?_ rfl), by repeat (first | exact Agr.refl _ _ | exact Agr.msk _ _ _ | refine Agr.upd ?_ _ rfl | refine Agr.upds ?_ rfl | refine Agr.mskIn ?_ rfl), rfl, S⟩
      · skip
        replace c30 : ¬ (n : Int) < ofK b j := c30
        obtain rfl : n = (ofK b j).toNat := by omega
        refine W.exit ?_
        refine W.region S ?_
        refine AS.cons (sp_add rfl rfl (by first | omega | (simp only [decide_eq_true_eq, decide_eq_false_iff_not] at *; omega)) ?_)
        refine AS.cons (sp_move (v := .int _ _) rfl ?_)
        refine AS.nil ?_
        intro _ S
        exact ⟨(j + 1, .slice a2 (rowU b (j + 1)).length c2), _, ⟨hlt, a2, c2, rfl⟩, by show _ - (j + 1) < _ - j; omega, ⟨by simp [upd], rfl, trivial⟩, ⟨rfl, trivial⟩, by repeat (first | exact Agr.refl _ _ | exact Agr.msk _ _ _ | refine Agr.upd ?_ _ rfl | refine Agr.upds ?_ rfl | refine Agr.mskIn ?_ rfl), by repeat (first | exact Agr.refl _ _ | exact Agr.msk _ _ _ | refine Agr.upd ?_ _ rfl | refine Agr.upds ?_ rfl | refine Agr.mskIn ?_ rfl), rfl, S⟩
    · skip
      obtain rfl : j = 6 := by omega
      have hrow : rowU b 6 = rowF b := rowU_far hn6
      rw [hrow] at S ⊢
      refine W.exit ?_
      refine W.seq (W.region S ?_)
      refine AS.cons (sp_move (v := .int _ _) rfl ?_)
      refine AS.cons (sp_asg (v := .int _ _) rfl ?_)
      refine AS.nil ?_
      intro _ S
      refine W.seq (W.block ?_)
      refine W.loopS S [7, 8, 11, 12, 38, 39, 40, 41, 42, 43, 44, 45, 46, 47, 48, 49, 50, 51, 52, 53, 54, 55, 56, 57, 58, 59, 60] [54, 55, 901, 902] (fun (z : List Int × List Int × Nat × Nat × Int × Value × Value) => [(7, z.2.2.2.2.2.1), (11, iv z.2.2.2.2.1), (8, z.2.2.2.2.2.2)]) (fun z => [(901, slc 3 1 z.2.2.2.2.2.1 z.2.2.1 (z.1.map iv)), (902, slc 3 1 z.2.2.2.2.2.2 z.2.2.2.1 (z.2.1.map iv))]) (fun z => Run b s z.1 z.2.2.2.2.1 z.2.1 ∧ z.1.length = z.2.2.1 ∧ z.2.1.length = z.2.2.2.1 ∧ z.2.2.1 + z.2.2.2.1 ≤ 60 ∧ (0 ≤ z.2.2.2.2.1 ∧ z.2.2.2.2.1 ≤ 100000) ∧ (∃ a c, z.2.2.2.2.2.1 = .slice a z.2.2.1 c) ∧ ∃ a c, z.2.2.2.2.2.2 = .slice a z.2.2.2.1 c) (fun z => z.2.2.1) (rowF b, [], (rowF b).length, 0, s, _, _) ⟨Run.start b s, rfl, rfl, by show (rowF b).length + 0 ≤ 60; omega, hs, ⟨a, c, rfl⟩, _, 0, rfl⟩ ⟨rfl, rfl, rfl, trivial⟩ ⟨rfl, rfl, trivial⟩ ?_
      rintro ⟨row, out, rl, ol, x, rv, ov⟩ σ3 M3 w3 ⟨hrun, hrl2, hol, hsum, hx, ⟨ra, rc, hrv⟩, oa, oc, hov⟩ S
      replace hrun : Run b s row x out := hrun
      replace hrl2 : row.length = rl := hrl2
      replace hol : out.length = ol := hol
      replace hsum : rl + ol ≤ 60 := hsum
      replace hx : 0 ≤ x ∧ x ≤ 100000 := hx
      replace hrv : rv = .slice ra rl rc := hrv
      replace hov : ov = .slice oa ol oc := hov
      subst hrv hov
      refine W.seq (W.seq (W.region S ?_))
      refine AS.cons (sp_move rfl ?_)
      refine AS.cons (sp_len rfl sl_26_3_1 ?_)
      refine AS.cons (sp_gtr rfl rfl ?_)
      refine AS.nil ?_
      intro _ S
      refine W.condd rfl (fun c40 => ?_) (fun c40 => ?_)
      · skip
        replace c40 : (rl : Int) > 0 := c40
        have h0 : 0 < rl := by omega
        have hrb := ran_bd x
        have hkb : 0 ≤ (75 * x + 74) % 65537 % (rl : Int) ∧ (75 * x + 74) % 65537 % (rl : Int) < rl := ⟨Int.emod_nonneg _ (by omega), Int.emod_lt_of_pos _ (by omega)⟩
        have hpk : ((75 * x + 74) % 65537 % (rl : Int)).toNat = pk row x := by unfold pk ran; rw [hrl2]
        have hpl : pk row x < rl := by have := pk_lt (r := row) (x := x) (by omega); omega
        have hget : (row.map iv)[((75 * x + 74) % 65537 % (rl : Int)).toNat * 1]? = some (iv (row.getD (pk row x) 0)) := by
          rw [hpk, Nat.mul_one, List.getElem?_map, List.getD_eq_getElem?_getD, List.getElem?_eq_getElem (by omega)]; rfl
        refine W.skip ?_
        refine W.block ?_
        refine W.seq (W.region S ?_)
        refine AS.cons (sp_move (v := .int _ _) rfl ?_)
        refine AS.cons (sp_mul rfl rfl (mulB (by first | omega | (simp only [decide_eq_true_eq, decide_eq_false_iff_not] at *; omega)) (by first | omega | (simp only [] at *; omega))) ?_)
        refine AS.cons (sp_add rfl rfl (by first | omega | (simp only [] at *; omega)) ?_)
        refine AS.cons (sp_rem rfl rfl (by first | omega | (simp only [] at *; omega)) (by first | omega | (simp only [decide_eq_true_eq, decide_eq_false_iff_not] at *; omega)) ?_)
        refine AS.cons (sp_asg (v := .int _ _) rfl ?_)
        refine AS.nil ?_
        intro _ S
        refine W.seq (W.region S ?_)
        refine AS.cons (sp_move (v := .int _ _) rfl ?_)
        refine AS.cons (sp_move rfl ?_)
        refine AS.cons (sp_len rfl sl_26_3_1 ?_)
        refine AS.cons (sp_rem rfl rfl (by first | omega | (simp only [decide_eq_true_eq, decide_eq_false_iff_not] at *; omega)) (by first | omega | (simp only [decide_eq_true_eq, decide_eq_false_iff_not] at *; omega)) ?_)
        refine AS.cons (sp_asg (v := .int _ _) rfl ?_)
        refine AS.nil ?_
        intro _ S
        refine W.seq (W.region S ?_)
        refine AS.cons (sp_move rfl ?_)
        refine AS.cons (sp_move rfl ?_)
        refine AS.cons (sp_move (v := .int _ _) rfl ?_)
        refine AS.cons (sp_iaS 901 rfl rfl rfl sl_26_3_1 hkb ?_)
        refine AS.cons (sp_ldS 901 rfl rfl sc_3 hget (by omega) ?_)
        refine AS.cons (sp_bs 54 [.tmp 53] _ sl_26_3_1 zs_3_1 rfl rfl rfl rfl rfl rfl (fun b54 => ?_))
        refine AS.cons (sp_app 902 [54] rfl rfl sl_26_3_1 zs_3_1 rfl (fun F w hF S => rd_pt (S.get ((hF 54 (by simp)).trans rfl)).1 rfl (by omega) (by omega)) rfl (by first | omega | (simp only [] at *; omega)) (fun a55 c55 => ?_))
        refine AS.cons (sp_asg rfl ?_)
        refine AS.nil ?_
        intro _ S
        refine W.region S ?_
        refine AS.cons (sp_move rfl ?_)
        refine AS.cons (sp_move (v := .int _ _) rfl ?_)
        refine AS.cons (sp_move (v := .int _ _) rfl ?_)
        refine AS.cons (sp_add rfl rfl (by first | omega | (simp only [] at *; omega)) ?_)
        refine AS.cons (sp_callP 901 0 [] _ (vs := [.slice ra rl rc, iv ((75 * x + 74) % 65537 % (rl : Int)), iv ((75 * x + 74) % 65537 % (rl : Int) + 1)]) rfl rfl cf_93 (fun F w hF S Bp S' => deleteF ra rl rc row ((75 * x + 74) % 65537 % (rl : Int)) hkb hrl2 (by omega) Bp w S') ?_ (by simp))
        rintro v60 i60 ⟨rfl, rfl⟩
        refine AS.cons (sp_asg rfl ?_)
        refine AS.nil ?_
        intro _ S
        exact ⟨(row.eraseIdx (pk row x), out ++ [row.getD (pk row x) 0], rl - 1, ol + 1, ran x, .slice ra (rl - 1) rc, .slice a55 (ol + 1) c55), _, ⟨hrun.step (by omega), by show (row.eraseIdx _).length = rl - 1; rw [List.length_eraseIdx_of_lt (by omega)]; omega, by show (out ++ [_]).length = ol + 1; rw [List.length_append, hol]; rfl, by show rl - 1 + (ol + 1) ≤ 60; omega, ⟨hrb.1, by show ran x ≤ 100000; omega⟩, ⟨ra, rc, rfl⟩, a55, c55, rfl⟩, by show rl - 1 < rl; omega, ⟨rfl, rfl, rfl, trivial⟩, ⟨by show slc 3 1 _ _ ((row.eraseIdx ((75 * x + 74) % 65537 % (rl : Int)).toNat).map iv) = slc 3 1 _ _ _; rw [hpk], by show slc 3 1 _ _ _ = slc 3 1 _ _ ((out ++ [row.getD (pk row x) 0]).map iv); rw [List.map_append]; rfl, trivial⟩, by repeat (first | exact Agr.refl _ _ | exact Agr.msk _ _ _ | refine Agr.upd ?_ _ rfl | refine Agr.upds ?_ rfl | refine Agr.mskIn ?_ rfl), by repeat (first | exact Agr.refl _ _ | exact Agr.msk _ _ _ | refine Agr.upd ?_ _ rfl | refine Agr.upds ?_ rfl | refine Agr.mskIn ?_ rfl), rfl, S⟩
      · skip
        replace c40 : ¬ (rl : Int) > 0 := c40
        have hfin := hrun.done (by omega)
        have hoc : ol ≤ oc := St.slc_le S 902 rfl
        subst hfin
        have hol2 : 0 < ol := by rw [← hol, ord_len]; omega
        refine W.exit ?_
        refine W.seq (W.region S ?_)
        refine AS.cons (sp_fa rfl fo_81_2_15 ?_)
        refine AS.cons (sp_ld 2 rfl rfl sc_79 rfl ?_)
        refine AS.cons (sp_move (v := .int _ _) rfl ?_)
        refine AS.cons (sp_move rfl ?_)
        refine AS.cons (sp_muC (n := ol) (E0 := 3) 0 902 (by decide) rfl rfl rfl kI_79 (fun f hf => hf) rfl hol2 ?_)
        refine AS.nil ?_
        intro _ S
        refine W.seq (W.region S ?_)
        refine AS.cons (sp_move rfl ?_)
        refine AS.cons (sp_asg rfl ?_)
        refine AS.nil ?_
        intro _ S
        refine W.ret ?_
        first | exact ret1 rfl rfl S fun w' S' => ⟨_, ⟨⟨a17, c17, hv17, hc17⟩, rfl⟩, S'.only 0⟩ | exact ret1 rfl rfl S fun w' S' => ⟨_, ⟨⟨oa, oc, by rw [hol]; rfl, by rw [hol]; exact hoc⟩, rfl⟩, S'.only 0⟩
end
end Go.Proofs.YtajocmkgdjcmkaaDoor

/-
  The program: books in the calculation, and notes.
-/
namespace Go.Proofs.YtajocmkgdjcmkaaDoor
set_option maxRecDepth 100000
open Go.Hu Go.RowKit
section
variable (b : Sb) (ha : Option Addr) (hc : Nat) (da : Option Addr) (dc : Nat)
theorem allF (hb : Own b) (m : Nat) (w : World) : Ct Tryd.prog 83 #[.agg (bkL b ha hc da dc m).toArray] w (fun u w' => u = iv (allN b) ∧ Ext w w') := by
  refine fn_intro (args := [.agg (bkL b ha hc da dc m).toArray]) Tryd.func83 rfl rfl (by kernel_rfl) ?_
  have S := St.start no w
  refine W.seq (W.region S ?_)
  refine AS.cons (sp_boxa 1 rfl (fun b1 => ?_))
  refine AS.cons (sp_asg rfl ?_)
  refine AS.nil ?_
  intro _ S
  refine W.seq (W.region S ?_)
  refine AS.cons (sp_fa rfl fo_81_1_9 ?_)
  refine AS.cons (sp_slA rfl arSix ?_)
  refine AS.cons (sp_call [1] rfl rfl cf_69 (fun F w hF S => by have h := sumF (some ⟨b1, 9, none⟩) 6 (shI b) (by show 6 ≤ _; omega) (shI_bd hb) w (rd_off (S.get ((hF 1 (by simp)).trans rfl)).1 rfl (by show 6 ≤ _; omega) (Nat.le_refl 6)); rw [show (shI b).length = 6 from rfl, sum_sh b hb.n6] at h; exact h) ?_)
  refine AS.cons (sp_asg (v := .int _ _) rfl ?_)
  refine AS.nil ?_
  intro _ S
  refine W.ret ?_
  exact ret1 rfl rfl S fun w' S' => ⟨rfl, S'.mod⟩
def BkR (b : Sb) (ha : Option Addr) (hc : Nat) (da : Option Addr) (dc : Nat) (u : Value) (i : HP) : Prop := ∃ m, u = .agg (bkL b ha hc da dc m).toArray ∧ i = CaP 3 (ordF b) m
set_option maxHeartbeats 2000000 in
theorem openedF (hb : Own b) (w : World) (hK : Kinds w) (hH : Hos w ha hc b.hs) : Ct Tryd.prog 73 #[.agg (sbL b ha hc da dc).toArray] w (fun u w' => ∃ i, BkR b ha hc da dc u i ∧ St no w w' (upd eL 0 i) []) := by
  refine fn_intro (args := [.agg (sbL b ha hc da dc).toArray]) Tryd.func73 rfl rfl (by kernel_rfl) ?_
  have S := St.start no w
  refine W.seq (W.region S ?_)
  refine AS.cons (sp_boxa 1 rfl (fun b1 => ?_))
  refine AS.cons (sp_alloc 2 zv_81 rfl (fun b2 => ?_))
  refine AS.nil ?_
  intro _ S
  refine W.seq (W.draw S mixed (fun i => ([KD.q [1], KD.q [1], KD.e [] [], KD.a 6, KD.q [], KD.e [2] [2]] : List KD)[i]?) [] [0, 1, 2, 3, 4, 5] (by kernel_rfl) ?_)
  refine AW.cons rfl rfl (sp_ldw 1 rfl rfl ag_28_9 ?_)
  refine AW.cons rfl rfl (sp_ldw 1 rfl rfl ag_28_9 ?_)
  refine AW.cons rfl rfl (sp_call [] rfl rfl cf_67 (fun F w _ S => countedF b ha hc da dc hb w (hK.ext S.mod) (hH.ext S.mod)) ?_)
  refine AW.cons rfl rfl (sp_mm 6 (fun b6 => ?_))
  refine AW.cons rfl rfl (sp_build (bkL b ha hc da dc b6) (by kernel_rfl) ?_)
  refine AW.cons rfl rfl (sp_st 2 rfl rfl rfl rfl sz_81_16 rfl rfl ?_)
  refine AW.nil ?_
  intro _ S
  refine W.ret ?_
  refine retc (l := bkL b ha hc da dc b6) 2 ag_81_16 rfl rfl rfl rfl rfl S fun w' S' => ?_
  refine ⟨_, ⟨b6, rfl, rfl⟩, ?_⟩
  have S2 := S'.weak (k := 6) (i := CaP 3 (ordF b) b6) (fun f hf => CaP_new hf)
  have S3 := S2.only 6
  rw [upd_same] at S3
  exact S3
theorem unnotedF (d : Int) (w : World) : Ct Tryd.prog 99 #[iv d] w (fun u w' => u = .agg [iv d, iv (-1)].toArray ∧ Ext w w') := by
  refine fn_intro (args := [iv d]) Tryd.func99 rfl rfl (by kernel_rfl) ?_
  have S := St.start no w
  refine W.seq (W.region S ?_)
  refine AS.cons (sp_alloc 2 zv_102 rfl (fun b2 => ?_))
  refine AS.nil ?_
  intro _ S
  refine W.seq (W.region S ?_)
  refine AS.cons (sp_move (v := .int _ _) rfl ?_)
  refine AS.cons (sp_build [iv d, iv (-1)] (by kernel_rfl) ?_)
  refine AS.cons (sp_st 2 rfl rfl rfl rfl sz_102_2 rfl rfl ?_)
  refine AS.nil ?_
  intro _ S
  refine W.ret ?_
  exact retc 2 ag_102_2 rfl rfl rfl rfl rfl S fun w' S' => ⟨rfl, S'.mod⟩
theorem or_rd {b : Sb} {m : Nat} {s : Int} {a : Option Addr} {c : Nat} {B : Nat → Prop} {w0 w : World} {L : Nat → HP} {Ds : List Nat} (S : St B w0 w L Ds) {k : Nat} (h : L k = CaR 3 (ordF b) m s (.slice a (ord b s).length c) true) (hn : (ord b s).length ≤ 1000) : Rd w (.slice a (ord b s).length c) (ord b s).length 1 ((ord b s).map iv) := by
  have := S.caR_rd h (by rw [ordF_len]; omega)
  rw [ordF_len] at this
  exact this
theorem fit_t {d h y : Int} (g : (decide (d = d) && decide (h = -1)) = true) : true = (decide (h = -1) || decide (y = h)) := by
  have h1 : h = -1 := by simpa using g
  rw [decide_eq_true h1]; rfl
theorem fit_f {d h y : Int} (g : (decide (d = d) && decide (h = -1)) = false) : decide (y = h) = (decide (h = -1) || decide (y = h)) := by
  have h1 : ¬ h = -1 := by simpa using g
  rw [decide_eq_false h1, Bool.false_or]
theorem only_w {B : Nat → Prop} {w0 w : World} {L : Nat → HP} {b : Sb} {m : Nat} {s : Int} {v : Value} {is : Bool} (S : St B w0 w L []) (h : L 0 = CaR 3 (ordF b) m s v is := by rfl) : St B w0 w (upd eL 0 (CaP 3 (ordF b) m)) [] := by
  have S2 := (S.only 0).weak (k := 0) (i := CaP 3 (ordF b) m) (fun f hf => by rw [upd_same, h] at hf; exact CaR.weak hf)
  rwa [upd_upd] at S2
set_option maxHeartbeats 4000000 in
theorem fitF (hb : Good b) (m : Nat) (s : Int) (hs : 0 ≤ s ∧ s ≤ 100000) (d : Nat) (hd : (d : Int) < allN b) (h : Int) (Bp : Nat → Prop) (w : World) (S : St Bp w w (upd eL 0 (CaP 3 (ordF b) m)) []) :
    Ct Tryd.prog 97 #[.agg (bkL b ha hc da dc m).toArray, iv s, .agg [iv d, iv h].toArray] w (fun u w' => u = .bool (decide (h = -1) || decide ((ord b s).getD d 0 = h)) ∧ St Bp w w' (upd eL 0 (CaP 3 (ordF b) m)) []) := by
  refine fn_intro (args := [.agg (bkL b ha hc da dc m).toArray, iv s, .agg [iv d, iv h].toArray]) Tryd.func97 rfl rfl (by kernel_rfl) ?_
  have h60 := hb.a60
  have hol : ((ord b s).length : Int) = allN b := by rw [ord_len]; exact rowF_len hb
  obtain ⟨y, hy⟩ := get_some (l := ord b s) (j := d) (by omega)
  have hg : (ord b s).getD d 0 = y := by rw [List.getD_eq_getElem?_getD, hy]; rfl
  rw [hg]
  refine W.seq (W.region S ?_)
  refine AS.cons (sp_boxa 3 rfl (fun b3 => ?_))
  refine AS.cons (sp_boxa 5 rfl (fun b5 => ?_))
  refine AS.cons (sp_asg rfl ?_)
  refine AS.nil ?_
  intro _ S
  refine W.seq (W.draw S mixed (fun i => ([KD.q [5], KD.q [], KD.q [5], KD.e [] [], KD.q [], KD.q [], KD.q [3], KD.q [], KD.e [0] [0], KD.q [], KD.q [5], KD.q [0], KD.q [0], KD.q [], KD.q [5], KD.q [], KD.q [], KD.q []] : List KD)[i]?) [5, 11] [0, 1, 2, 3, 4, 5, 6, 7, 8, 9, 10, 11, 12, 13, 14, 15, 16, 17] (by kernel_rfl) ?_)
  refine AW.cons rfl rfl (sp_ldw 5 rfl rfl ag_102_2 ?_)
  refine AW.cons rfl rfl (sp_fa rfl fo_102_0_0 ?_)
  refine AW.cons rfl rfl (sp_ld 5 rfl rfl sc_3 rfl ?_)
  refine AW.cons rfl rfl (sp_call [] rfl rfl cf_99 (fun F w _ S => unnotedF _ w) ?_)
  refine AW.cons rfl rfl (sp_eqla rfl rfl gt_102 (eqP_pr kB_99 d h d (-1)) ?_)
  refine AW.cons rfl rfl (sp_move (v := .bool _) rfl ?_)
  refine AW.split 12 rfl (fun g12 => ?_) (fun g12 => ?_)
  · skip
    refine AW.cons rfl rfl (sp_skip rfl ?_)
    refine AW.cons rfl rfl (sp_skip rfl ?_)
    refine AW.cons rfl rfl (sp_skip rfl ?_)
    refine AW.cons rfl rfl (sp_skip rfl ?_)
    refine AW.cons rfl rfl (sp_skip rfl ?_)
    refine AW.cons rfl rfl (sp_skip rfl ?_)
    refine AW.cons rfl rfl (sp_skip rfl ?_)
    refine AW.cons rfl rfl (sp_skip rfl ?_)
    refine AW.cons rfl rfl (sp_skip rfl ?_)
    refine AW.cons rfl rfl (sp_skip rfl ?_)
    refine AW.cons rfl rfl (sp_pick_t rfl (v := .bool _) rfl ?_)
    refine AW.cons rfl rfl (sp_asg (v := .bool _) rfl ?_)
    refine AW.nil ?_
    intro _ S
    refine W.ret ?_
    first | exact ret1 rfl rfl S fun w' S' => ⟨congrArg Value.bool (fit_t g12), S'.only 0⟩ | exact ret1 rfl rfl S fun w' S' => ⟨congrArg Value.bool (fit_f (y := y) g12), only_w S'⟩
  · skip
    refine AW.cons rfl rfl (sp_ldw 3 rfl rfl ag_81_16 ?_)
    refine AW.cons rfl rfl (sp_move (v := .int _ _) rfl ?_)
    refine AW.cons rfl rfl (sp_callP 0 0 [] _ rfl rfl cf_74 (fun F w hF S Bp S' => orderF b ha hc da dc hb m s hs Bp w S') ?_ (fun _ => OrR.ne b m s))
    rintro v15 i15 ⟨⟨a15, c15, rfl, hac⟩, rfl⟩
    refine AW.cons rfl rfl (sp_fa rfl fo_102_0_0 ?_)
    refine AW.cons rfl rfl (sp_ld 5 rfl rfl sc_3 rfl ?_)
    refine AW.cons rfl rfl (sp_iaK (s := 1) [0] (fun F w hF S => or_rd S ((hF 0 (by simp)).trans rfl) (by omega)) rfl rfl sl_26_3_1 (by omega) ?_)
    refine AW.cons rfl rfl (sp_ldK (s := 1) (v := iv y) [0] (fun F w hF S => or_rd S ((hF 0 (by simp)).trans rfl) (by omega)) rfl sc_3 (by simp [hy]) (by omega) ?_)
    refine AW.cons rfl rfl (sp_fa rfl fo_102_1_1 ?_)
    refine AW.cons rfl rfl (sp_ld 5 rfl rfl sc_3 rfl ?_)
    refine AW.cons rfl rfl (sp_eql rfl rfl ?_)
    refine AW.cons rfl rfl (sp_pick_f rfl (v := .bool _) rfl ?_)
    refine AW.cons rfl rfl (sp_asg (v := .bool _) rfl ?_)
    refine AW.nil ?_
    intro _ S
    refine W.ret ?_
    first | exact ret1 rfl rfl S fun w' S' => ⟨congrArg Value.bool (fit_t g12), S'.only 0⟩ | exact ret1 rfl rfl S fun w' S' => ⟨congrArg Value.bool (fit_f (y := y) g12), only_w S'⟩
/-- The numbers, as they are yielded: the captured book and the notes left out, each in a cell. -/
def SdR (b : Sb) (ha : Option Addr) (hc : Nat) (da : Option Addr) (dc : Nat) (m : Nat) (bv : Value) (u : Value) (i j : HP) : Prop := ∃ bb tt, u = .func (.func 96) #[] #[.pointer (some ⟨bb, 0, none⟩), .pointer (some ⟨tt, 0, none⟩)] ∧ i = pt bb (.cells (bkL b ha hc da dc m).toArray 81 (0, 0)) ∧ j = pt tt (.cells [bv].toArray 26 (0, 0))
theorem seedsCF (m : Nat) (ba : Option Addr) (bn bc : Nat) (w : World) : Ct Tryd.prog 87 #[.agg (bkL b ha hc da dc m).toArray, .slice ba bn bc] w (fun u w' => ∃ i j, SdR b ha hc da dc m (.slice ba bn bc) u i j ∧ St no w w' (upd eL 0 (sep i j)) []) := by
  refine fn_intro (args := [.agg (bkL b ha hc da dc m).toArray, .slice ba bn bc]) Tryd.func87 rfl rfl (by kernel_rfl) ?_
  have S := St.start no w
  refine W.seq (W.region S ?_)
  refine AS.cons (sp_boxa 2 rfl (fun b2 => ?_))
  refine AS.cons (sp_boxs 3 rfl rfl (fun b3 => ?_))
  refine AS.cons (sp_asg rfl ?_)
  refine AS.nil ?_
  intro _ S
  refine W.seq (W.region S ?_)
  refine AS.cons (sp_mf ?_)
  refine AS.cons (sp_asg rfl ?_)
  refine AS.nil ?_
  intro _ S
  refine W.ret ?_
  exact ret1 rfl rfl S fun w' S' => ⟨_, _, ⟨b2, b3, rfl, rfl, rfl⟩, by have S2 := (S'.fold (k := 2) (k' := 3) (by decide)).only 2; rw [upd_same] at S2; exact S2⟩
end
end Go.Proofs.YtajocmkgdjcmkaaDoor

/-
  The numbers by which all notes are right, one after the other.
-/
namespace Go.Proofs.YtajocmkgdjcmkaaDoor
set_option maxRecDepth 100000
open Go.Hu Go.RowKit
section
variable (b : Sb) (ha : Option Addr) (hc : Nat) (da : Option Addr) (dc : Nat)
theorem fitU_down {b : Sb} {but : List Int} {s : Int} {j k : Nat} (hjk : j ≤ k) (h : fitU b but s j = false) : fitU b but s k = false := by
  unfold fitU at h ⊢
  rw [List.all_eq_false] at h ⊢
  obtain ⟨i, hi, hp⟩ := h
  exact ⟨i, List.mem_range.2 (by have := List.mem_range.1 hi; omega), hp⟩
theorem sdU_pre (b : Sb) (but : List Int) {n : Nat} : ∀ {N : Nat}, n ≤ N → ∃ r, sdU b but N = sdU b but n ++ r
  | 0, h => ⟨[], by rw [show n = 0 by omega]; simp⟩
  | N + 1, h => by
    rcases Nat.lt_or_ge N n with h' | h'
    · exact ⟨[], by rw [show n = N + 1 by omega]; simp⟩
    · obtain ⟨r, hr⟩ := sdU_pre b but h'
      rw [sdU_succ]; split
      · exact ⟨r ++ [b.s0 + (N : Int)], by rw [hr, List.append_assoc]⟩
      · exact ⟨r, hr⟩
theorem sdU_get {b : Sb} {but : List Int} {n : Nat} (hn : n < sdN b) (hf : fitB b but (b.s0 + n) = true) : (sdL b but)[(sdU b but n).length]? = some (b.s0 + (n : Int)) := by
  obtain ⟨r, hr⟩ := sdU_pre b but (show n + 1 ≤ sdN b from hn)
  rw [sdU_succ, if_pos hf] at hr
  unfold sdL
  rw [hr, List.append_assoc, List.getElem?_append_right (Nat.le_refl _), Nat.sub_self]; rfl
def encS (s : Int) : List Value := [iv s]
/-- What the memory holds, as the numbers are yielded. -/
def SdAt (b : Sb) (ha : Option Addr) (hc : Nat) (da : Option Addr) (dc : Nat) (m bb tt : Nat) (ba : Option Addr) (bc : Nat) (but : List Int) (W : World) : Prop :=
  W.heap[bb]? = some (.cells (bkL b ha hc da dc m).toArray 81 (0, 0)) ∧ W.heap[tt]? = some (.cells [.slice ba but.length bc].toArray 26 (0, 0)) ∧ Ints W da dc b.dr ∧ Ints W ba bc but
set_option maxHeartbeats 8000000 in
theorem seedIter (hb : Good b) (m bb tt : Nat) (ba : Option Addr) (bc : Nat) (but : List Int) (hbl : but.length ≤ 1000) :
    IterX Tryd.prog 96 [.pointer (some ⟨bb, 0, none⟩), .pointer (some ⟨tt, 0, none⟩)] encS (sdL b but) (CaP 3 (ordF b) m) (fun _ => False) (SdAt b ha hc da dc m bb tt ba bc but) := by
  intro l I X hL hLX hD hR W0 hI0
  refine fn_intro (args := [.func (.yield l) #[] #[], .pointer (some ⟨bb, 0, none⟩), .pointer (some ⟨tt, 0, none⟩)]) Tryd.func96 rfl rfl (by kernel_rfl) ?_
  obtain ⟨⟨q1, q2⟩, q3, q4⟩ := hb.se
  have hd8 := hb.d8
  have h60 := hb.a60
  have hda := hb.da
  have hN : (sdN b : Int) = b.s1 - b.s0 + 1 := by unfold sdN; omega
  refine W.scope ?_
  obtain ⟨hbb, _⟩ := hD _ _ hI0
  have S := St.start no W0
  have hcs : Cs W0 bb 0 (bkL b ha hc da dc m) := fun u v hv => by rw [cell_of_block hbb]; simpa using hv
  refine W.seq (W.region S ?_)
  refine AS.cons (sp_ldoa (vs := bkL b ha hc da dc m) rfl ag_81_16 hcs (fun h => h) ?_)
  refine AS.cons (sp_mf ?_)
  refine AS.cons (sp_asg rfl ?_)
  refine AS.nil ?_
  intro _ S
  refine W.seq (W.label ?_)
  refine W.seq (W.region S ?_)
  refine AS.cons (sp_fa rfl fo_81_0_0 ?_)
  refine AS.cons (sp_fa rfl fo_28_3_6 ?_)
  refine AS.cons (sp_fa rfl fo_25_1_1 ?_)
  refine AS.cons (sp_ldo (v := iv b.s1) rfl sc_3 ((cell_of_block hbb _).trans rfl) (fun h => h) ?_)
  refine AS.cons (sp_fa rfl fo_81_0_0 ?_)
  refine AS.cons (sp_fa rfl fo_28_3_6 ?_)
  refine AS.cons (sp_fa rfl fo_25_0_0 ?_)
  refine AS.cons (sp_ldo (v := iv b.s0) rfl sc_3 ((cell_of_block hbb _).trans rfl) (fun h => h) ?_)
  refine AS.cons (sp_sub rfl rfl (by first | omega | (simp only [decide_eq_true_eq, decide_eq_false_iff_not] at *; omega)) ?_)
  refine AS.cons (sp_add rfl rfl (by first | omega | (simp only [decide_eq_true_eq, decide_eq_false_iff_not] at *; omega)) ?_)
  refine AS.cons (sp_move rfl ?_)
  refine AS.nil ?_
  intro w1 S
  have hI1 : I 0 w1 := (hL 0).ext hI0 S.mod
  clear S hbb hcs
  refine W.block ?_
  refine W.loop (α := Nat) (fun n ρ Ds w => (n ≤ sdN b ∧ Ds = [] ∧ I (sdU b but n).length w) ∧ AllEq [(21, iv n)] ρ ∧ Agr [5, 6, 7, 8, 21, 22, 23, 24, 25, 26, 27, 28, 29, 30, 31, 32, 33, 34, 35, 36, 37, 38, 39, 40, 41, 42, 43, 44, 45, 46, 47, 48, 49, 50, 51, 52, 53, 54, 55, 56, 57] _ ρ) (fun n => sdN b - n) 0 ⟨⟨by omega, rfl, hI1⟩, ⟨rfl, trivial⟩, Agr.refl _ _⟩ ?_
  rintro n ρ' Ds w ⟨⟨hn, rfl, hI⟩, hu, hag⟩
  have hform := form hag hu
  rw [hform]
  obtain ⟨hbb, htt, _⟩ := hD _ _ hI
  have S := St.start no w
  refine W.seq (W.region S ?_)
  refine AS.cons (sp_lss rfl rfl ?_)
  refine AS.nil ?_
  intro _ S
  refine W.seq (W.condd rfl (fun c22 => ?_) (fun c22 => ?_))
  · skip
    replace c22 : (n : Int) < b.s1 - b.s0 + 1 := c22
    have hlt : n < sdN b := by omega
    refine W.skip ?_
    refine W.seq (W.block ?_)
    refine W.seq (W.region S ?_)
    refine AS.cons (sp_move (v := .int _ _) rfl ?_)
    refine AS.cons (sp_asg (v := .int _ _) rfl ?_)
    refine AS.nil ?_
    intro _ S
    refine W.seq (W.region S ?_)
    refine AS.cons (sp_fa rfl fo_81_0_0 ?_)
    refine AS.cons (sp_fa rfl fo_28_3_6 ?_)
    refine AS.cons (sp_fa rfl fo_25_0_0 ?_)
    refine AS.cons (sp_ldo (v := iv b.s0) rfl sc_3 ((cell_of_block hbb _).trans rfl) (fun h => h) ?_)
    refine AS.cons (sp_move (v := .int _ _) rfl ?_)
    refine AS.cons (sp_add rfl rfl (by first | omega | (simp only [decide_eq_true_eq, decide_eq_false_iff_not] at *; omega)) ?_)
    refine AS.cons (sp_asg (v := .int _ _) rfl ?_)
    refine AS.nil ?_
    intro _ S
    refine W.seq (W.seq (W.region S ?_))
    refine AS.cons (sp_fa rfl fo_81_0_0 ?_)
    refine AS.cons (sp_fa rfl fo_28_4_8 ?_)
    refine AS.cons (sp_ldo (v := .slice da b.dr.length dc) rfl sc_26 ((cell_of_block hbb _).trans rfl) (fun h => h) ?_)
    refine AS.cons (sp_len rfl sl_26_3_1 ?_)
    refine AS.cons (sp_move rfl ?_)
    refine AS.nil ?_
    intro w2 S
    have hI2 : I (sdU b but n).length w2 := (hL _).ext hI S.mod
    clear S hbb htt
    refine W.block ?_
    refine W.loop (α := Nat) (fun k ρ Ds w => (k ≤ b.dr.length ∧ fitU b but (b.s0 + n) k = true ∧ Ds = [] ∧ I (sdU b but n).length w) ∧ AllEq [(34, iv k)] ρ ∧ Agr [7, 8, 34, 35, 36, 37, 38, 39, 40, 41, 42, 43, 44, 45, 46, 47, 48, 49, 50, 51, 52] _ ρ) (fun k => b.dr.length - k) 0 ⟨⟨by omega, rfl, rfl, hI2⟩, ⟨rfl, trivial⟩, Agr.refl _ _⟩ ?_
    rintro k ρ2 Ds w3 ⟨⟨hk, hfk, rfl, hI3⟩, hu2, hag2⟩
    have hform2 := form hag2 hu2
    rw [hform2]
    obtain ⟨hbb, htt, hDr, hBt⟩ := hD _ _ hI3
    have S := St.start no w3
    refine W.seq (W.region S ?_)
    refine AS.cons (sp_lss rfl rfl ?_)
    refine AS.nil ?_
    intro _ S
    refine W.seq (W.condd rfl (fun c35 => ?_) (fun c35 => ?_))
    · skip
      replace c35 : (k : Int) < (b.dr.length : Int) := c35
      have hltk : k < b.dr.length := by omega
      obtain ⟨x, hx⟩ := get_some hltk
      have hxd : b.dr.getD k 0 = x := by rw [List.getD_eq_getElem?_getD, hx]; rfl
      refine W.skip ?_
      refine W.seq (W.block ?_)
      refine W.seq (W.region S ?_)
      refine AS.cons (sp_move (v := .int _ _) rfl ?_)
      refine AS.cons (sp_iaR hDr rfl rfl sl_26_3_1 (by first | omega | (simp only [decide_eq_true_eq, decide_eq_false_iff_not] at *; omega)) ?_)
      refine AS.cons (sp_ldR 0 hDr (fun _ h => h) rfl sc_3 (ints_at hx) (by first | omega | (simp only [decide_eq_true_eq, decide_eq_false_iff_not] at *; omega)) ?_)
      refine AS.cons (sp_asg (v := .int _ _) rfl ?_)
      refine AS.cons (sp_asg (v := .int _ _) rfl ?_)
      refine AS.nil ?_
      intro w4 S
      by_cases hkb : (k : Int) ∈ but
      · refine W.seq (W.region S ?_)
        refine AS.cons (sp_ldo (v := .slice ba but.length bc) rfl sc_26 ((cell_of_block htt _).trans rfl) (fun h => h) ?_)
        refine AS.cons (sp_move (v := .int _ _) rfl ?_)
        refine AS.cons (sp_call (v := .bool true) [] rfl rfl cf_98 (fun F w _ S => by have h := contains ba bc but (k : Int) (by omega) w (hBt.ext S.mod); rw [decide_eq_true hkb] at h; exact h) ?_)
        refine AS.cons (sp_not (b := true) rfl ?_)
        refine AS.cons (sp_move (v := .bool _) rfl ?_)
        refine AS.cons (sp_skip rfl ?_)
        refine AS.cons (sp_skip rfl ?_)
        refine AS.cons (sp_skip rfl ?_)
        refine AS.cons (sp_skip rfl ?_)
        refine AS.cons (sp_skip rfl ?_)
        refine AS.cons (sp_skip rfl ?_)
        refine AS.cons (sp_skip rfl ?_)
        refine AS.cons (sp_pick_f rfl (v := .bool _) rfl ?_)
        refine AS.nil ?_
        intro _ S
        refine W.cond (b := false) rfl (fun h => nomatch h) (fun _ => ?_)
        refine W.skip ?_
        refine W.region S ?_
        refine AS.cons (sp_add rfl rfl (by first | omega | (simp only [decide_eq_true_eq, decide_eq_false_iff_not] at *; omega)) ?_)
        refine AS.cons (sp_move (v := .int _ _) rfl ?_)
        refine AS.nil ?_
        intro w5 S
        exact ⟨k + 1, ⟨⟨hltk, by rw [fitU_succ, hfk, decide_eq_true hkb]; rfl, rfl, (hL _).ext hI3 S.mod⟩, ⟨by simp [upd], trivial⟩, by repeat (first | exact Agr.refl _ _ | exact Agr.msk _ _ _ | refine Agr.upd ?_ _ rfl | refine Agr.upds ?_ rfl | refine Agr.mskIn ?_ rfl)⟩, by omega⟩
      · refine W.seq (OW.region ?_)
        refine OW.det S rfl _ _ (fun nx h => sp_ldo (v := .slice ba but.length bc) rfl sc_26 ((cell_of_block htt _).trans rfl) (fun h => h) h) ?_
        intro _ S
        refine OW.det S rfl _ _ (fun nx h => sp_move (v := .int _ _) rfl h) ?_
        intro _ S
        refine OW.det S rfl _ _ (fun nx h => sp_call (v := .bool false) [] rfl rfl cf_98 (fun F w _ S => by have h := contains ba bc but (k : Int) (by omega) w (hBt.ext S.mod); rw [decide_eq_false hkb] at h; exact h) h) ?_
        intro _ S
        refine OW.det S rfl _ _ (fun nx h => sp_not (b := false) rfl h) ?_
        intro _ S
        refine OW.det S rfl _ _ (fun nx h => sp_move (v := .bool _) rfl h) ?_
        intro _ S
        refine OW.det S rfl _ _ (fun nx h => sp_move rfl h) ?_
        intro _ S
        refine OW.det S rfl _ _ (fun nx h => sp_move (v := .int _ _) rfl h) ?_
        intro _ S
        refine OW.det S rfl _ _ (fun nx h => sp_move (v := .int _ _) rfl h) ?_
        intro _ S
        refine OW.det S rfl _ _ (fun nx h => sp_move (v := .int _ _) rfl h) ?_
        intro _ S
        refine OW.det S rfl _ _ (fun nx h => sp_build [iv k, iv x] (by kernel_rfl) h) ?_
        intro w5 S
        have hI5 := (hL _).ext hI3 S.mod
        obtain ⟨Bp, _, S2, back⟩ := hL _ _ hI5
        refine OW.call (fs := [.agg (bkL b ha hc da dc m).toArray]) (cs := []) rfl rfl rfl cf_97 (fitF b ha hc da dc hb m (b.s0 + n) (by omega) k (by omega) x Bp w5 S2) ?_
        rintro v w6 ⟨rfl, S3⟩
        have hI6 := back _ S3
        have S := St.start no w6
        refine OW.det S rfl _ _ (fun nx h => sp_not rfl h) ?_
        intro _ S
        refine OW.det S rfl _ _ (fun nx h => sp_pick_t rfl (v := .bool _) rfl h) ?_
        intro w7 S
        have hI7 := (hL _).ext hI6 S.mod
        have hstep : fitU b but (b.s0 + n) (k + 1) = (decide (x = -1) || decide ((ord b (b.s0 + n)).getD k 0 = x)) := by
          rw [fitU_succ, hfk, hxd, decide_eq_false hkb]; rfl
        refine OW.nil ?_
        refine W.cond rfl (fun c51 => ?_) (fun c51 => ?_)
        · skip
          have hno : fitB b but (b.s0 + n) = false := by
            refine fitU_down (k := b.dr.length) (show k + 1 ≤ _ from hltk) ?_
            rw [hstep]; simpa using c51
          have hsd : sdU b but (n + 1) = sdU b but n := by rw [sdU_succ, if_neg (by rw [hno]; simp)]
          refine W.exit ?_
          have S := St.start no w7
          refine W.region S ?_
          refine AS.cons (sp_add rfl rfl (by first | omega | (simp only [decide_eq_true_eq, decide_eq_false_iff_not] at *; omega)) ?_)
          refine AS.cons (sp_move (v := .int _ _) rfl ?_)
          refine AS.nil ?_
          intro w8 S
          exact ⟨n + 1, ⟨⟨hlt, rfl, by rw [hsd]; exact (hL _).ext hI7 S.mod⟩, ⟨by simp [upd], trivial⟩, by repeat (first | exact Agr.refl _ _ | exact Agr.msk _ _ _ | refine Agr.upd ?_ _ rfl | refine Agr.upds ?_ rfl | refine Agr.mskIn ?_ rfl)⟩, by omega⟩
        · skip
          refine W.skip ?_
          refine W.region S ?_
          refine AS.cons (sp_add rfl rfl (by first | omega | (simp only [decide_eq_true_eq, decide_eq_false_iff_not] at *; omega)) ?_)
          refine AS.cons (sp_move (v := .int _ _) rfl ?_)
          refine AS.nil ?_
          intro w8 S
          exact ⟨k + 1, ⟨⟨hltk, by rw [hstep]; rw [Bool.not_eq_false'] at c51; exact c51, rfl, (hL _).ext hI6 S.mod⟩, ⟨by simp [upd], trivial⟩, by repeat (first | exact Agr.refl _ _ | exact Agr.msk _ _ _ | refine Agr.upd ?_ _ rfl | refine Agr.upds ?_ rfl | refine Agr.mskIn ?_ rfl)⟩, by omega⟩
    · skip
      replace c35 : ¬ (k : Int) < (b.dr.length : Int) := c35
      obtain rfl : k = b.dr.length := by omega
      have hfit : fitB b but (b.s0 + n) = true := hfk
      have hsd : (sdU b but (n + 1)).length = (sdU b but n).length + 1 := by rw [sdU_succ, if_pos hfit, List.length_append]; rfl
      have hI4 := (hL _).ext hI3 S.mod
      refine W.exit ?_
      refine W.seq (OW.region ?_)
      refine OW.det S rfl _ _ (fun nx h => sp_move rfl h) ?_
      intro _ S
      refine OW.det S rfl _ _ (fun nx h => sp_move (v := .int _ _) rfl h) ?_
      intro w5 S
      have hI5 := (hL _).ext hI3 S.mod
      refine OW.yield (args := encS (b.s0 + n)) rfl rfl rfl (hR _ _ _ (sdU_get hlt hfit) hI5) ?_
      rintro bo w6 hbo
      have S := St.start no w6
      refine OW.det S rfl _ _ (fun nx h => sp_not (b := bo) rfl h) ?_
      intro w7 S
      refine OW.nil ?_
      refine W.cond rfl (fun c56 => ?_) (fun c56 => ?_)
      · skip
        refine W.ret ?_
        rcases hbo with ⟨rfl, _⟩ | ⟨rfl, hX6⟩
        · cases c56
        · exact ret0 rfl S fun w' S' => .inr (hLX.ext hX6 S'.mod)
      · skip
        rcases hbo with ⟨rfl, hI6⟩ | ⟨rfl, _⟩
        · refine W.skip ?_
          refine W.region S ?_
          refine AS.cons (sp_add rfl rfl (by first | omega | (simp only [decide_eq_true_eq, decide_eq_false_iff_not] at *; omega)) ?_)
          refine AS.cons (sp_move (v := .int _ _) rfl ?_)
          refine AS.nil ?_
          intro w8 S
          exact ⟨n + 1, ⟨⟨hlt, rfl, by rw [hsd]; exact (hL _).ext hI6 S.mod⟩, ⟨by simp [upd], trivial⟩, by repeat (first | exact Agr.refl _ _ | exact Agr.msk _ _ _ | refine Agr.upd ?_ _ rfl | refine Agr.upds ?_ rfl | refine Agr.mskIn ?_ rfl)⟩, by omega⟩
        · cases c56
  · skip
    replace c22 : ¬ (n : Int) < b.s1 - b.s0 + 1 := c22
    obtain rfl : n = sdN b := by omega
    refine W.exit ?_
    exact retn0 rfl S fun w' S' => .inl ((hL _).ext hI S'.mod)
end
end Go.Proofs.YtajocmkgdjcmkaaDoor

/-
  The program: all numbers listed; what all are paid.
-/
namespace Go.Proofs.YtajocmkgdjcmkaaDoor
set_option maxRecDepth 100000
open Go.Hu Go.RowKit
section
variable (b : Sb) (ha : Option Addr) (hc : Nat) (da : Option Addr) (dc : Nat)
theorem ints_nil (w : World) (c : Nat) : Ints w none c [] := ⟨rfl, Nat.zero_le _, .inl ⟨rfl, _, _, rfl⟩⟩
theorem ints_mod {B : Nat → Prop} {w w' : World} {a : Option Addr} {c : Nat} {l : List Int} (h : Ints w a c l) (E : Mod B w w') (hB : 0 < l.length → ∀ z, a = some z → ¬ B z.block) : Ints w' a c l := by
  rcases Nat.eq_zero_or_pos l.length with h0 | h0
  · obtain rfl := List.length_eq_zero_iff.1 h0
    exact ⟨rfl, Nat.zero_le _, .inl ⟨rfl, _, _, rfl⟩⟩
  · exact Rd.mod h E (hB h0)
theorem ints_old {w : World} {a : Option Addr} {c : Nat} {l : List Int} (h : Ints w a c l) (hl : 0 < l.length) : ∀ z, a = some z → z.block < w.heap.size := fun z hz => by
  rcases h.2.2 with ⟨h0, _⟩ | ⟨bl, off, cap, he, hcc, hcs⟩
  · omega
  · injection he with h1 h2 h3
    rw [hz] at h1; injection h1 with h1; subst h1
    obtain ⟨x, hx⟩ := get_some (l := l) (j := 0) hl
    have := hcs 0 (iv x) (by simp [hx])
    unfold World.cell? at this
    cases e : w.heap[bl]? with
    | none => simp [e] at this
    | some o => exact lt_of_some e
/-- What was handed in is not lent. -/
theorem not_lent {w : World} {a : Option Addr} {c : Nat} {l : List Int} (h : Ints w a c l) {Bp : Nat → Prop} (hp : ∀ x, Bp x → w.heap.size ≤ x ∨ no x) : 0 < l.length → ∀ z, a = some z → ¬ Bp z.block := fun hl z hz hb => by
  have h1 := ints_old h hl z hz
  rcases hp _ hb with h2 | h2
  · omega
  · exact h2
/-- A list that grows, in a cell. -/
def OutC (b8 : Nat) (l : List Int) (x : Option Addr × Nat) : HP := sep (pt b8 (.cells [Value.slice x.1 l.length x.2].toArray 26 (0, 0))) (slc 3 1 (.slice x.1 l.length x.2) l.length (l.map iv))
/-- The memory of orders, beside a list. -/
def CsR (b : Sb) (m : Nat) (l : List Int) (u : Value) (i : HP) : Prop := ∃ j, LsR l u j ∧ i = sep (CaP 3 (ordF b) m) j
theorem CsR.ne (b : Sb) (m : Nat) (l : List Int) : ∃ u i, CsR b m l u i := by
  obtain ⟨u, j, h⟩ := LsR.ne l
  exact ⟨u, _, j, h, rfl⟩
set_option maxHeartbeats 4000000 in
theorem listedF (hb : Good b) (m : Nat) (Bp : Nat → Prop) (w : World) (hda : 0 < b.dr.length → ∀ z, da = some z → ¬ Bp z.block) (hD : Ints w da dc b.dr) (S : St Bp w w (upd eL 0 (CaP 3 (ordF b) m)) []) :
    Ct Tryd.prog 91 #[.agg (bkL b ha hc da dc m).toArray] w (fun u w' => ∃ i, CsR b m (sdL b []) u i ∧ St Bp w w' (upd eL 0 i) []) := by
  refine fn_intro (args := [.agg (bkL b ha hc da dc m).toArray]) Tryd.func91 rfl rfl (by kernel_rfl) ?_
  have hl51 := sdL_51 hb []
  refine W.seq (W.region S ?_)
  refine AS.cons (sp_boxa 1 rfl (fun b1 => ?_))
  refine AS.cons (sp_asg rfl ?_)
  refine AS.nil ?_
  intro _ S
  refine W.seq (W.region S ?_)
  refine AS.cons (sp_alloc 3 zv_26 rfl (fun b3 => ?_))
  refine AS.nil ?_
  intro _ S
  refine W.seq (W.seq (W.region S ?_))
  refine AS.cons (sp_ldw 1 rfl rfl ag_81_16 ?_)
  refine AS.cons (sp_call1s 6 601 [] _ (by decide) rfl rfl cf_87 (fun F w _ S => seedsCF b ha hc da dc m none 0 0 w) ?_ (by simp))
  rintro v6 i6 j6 ⟨bb, tt, rfl, rfl, rfl⟩
  refine AS.nil ?_
  intro _ S
  have S := (S.drop 901).weak (k := 901) (i := slc 3 1 (.slice none 0 0) 0 []) (fun f hf => by rw [upd_same] at hf; exact slc_nil 3 1 f hf)
  have S := (S.fold (k := 3) (k' := 901) (by decide)).weak (k := 3) (i := fun f => ∃ x, OutC b3 ((sdL b []).take 0) x f) (fun f hf => by rw [upd_same] at hf; exact ⟨(none, 0), hf⟩)
  refine W.block ?_
  refine W.rangeX 9001 9002 [3, 10, 11, 901] 0 (fun i => [(3, fun f => ∃ x, OutC b3 ((sdL b []).take i) x f)]) (fun (z : Empty) => nomatch z) (fun z => nomatch z) (seedIter b ha hc da dc hb m bb tt none 0 [] (by decide)) S rfl cf_96 (fun _ => rfl) ⟨rfl, trivial⟩ ⟨rfl, rfl, rfl⟩ (fun _ => rfl) (fun z => nomatch z) rfl (fun _ _ => rfl) (fun z => nomatch z) (fun _ hx => hx.elim) (fun i M w1 S => ⟨(S.get (k := 6) rfl).1, (S.get (k := 601) rfl).1, ints_mod hD S.mod hda, ints_nil w1 0⟩) ?_ ?_ ?_
  · rintro i s l M w1 his S
    have hti := take_at his
    have htl : ((sdL b []).take i).length ≤ 51 := Nat.le_trans (List.length_take_le' i _) hl51
    obtain ⟨⟨a, d⟩, S⟩ := S.exP (k := 3) (p := OutC b3 ((sdL b []).take i)) rfl
    have S := S.unfold (k := 3) (k' := 901) (i := pt b3 (.cells [Value.slice a ((sdL b []).take i).length d].toArray 26 (0, 0))) (j := slc 3 1 (.slice a ((sdL b []).take i).length d) ((sdL b []).take i).length (((sdL b []).take i).map iv)) (by decide) rfl
    refine W.region S ?_
    refine AS.cons (sp_asg (v := .int _ _) rfl ?_)
    refine AS.nil ?_
    intro _ S
    refine ⟨_, by repeat (first | exact Agr.refl _ _ | exact Agr.msk _ _ _ | refine Agr.upd ?_ _ rfl | refine Agr.upds ?_ rfl | refine Agr.mskIn ?_ rfl), rfl, S, fun r w3 S => ?_⟩
    refine W.block ?_
    refine W.region S ?_
    refine AS.cons (sp_ld 3 (v := .slice a ((sdL b []).take i).length d) rfl rfl sc_26 rfl ?_)
    refine AS.cons (sp_move (v := .int _ _) rfl ?_)
    refine AS.cons (sp_bs 10 [.tmp 9] _ sl_26_3_1 zs_3_1 rfl rfl rfl rfl rfl rfl (fun b10 => ?_))
    refine AS.cons (sp_app 901 [10] rfl rfl sl_26_3_1 zs_3_1 rfl (fun F w hF S => rd_pt (S.get ((hF 10 (by simp)).trans rfl)).1 rfl (by omega) (by omega)) rfl (by first | omega | (simp only [decide_eq_true_eq, decide_eq_false_iff_not] at *; omega)) (fun a11 c11 => ?_))
    refine AS.cons (sp_sts 3 (v := .slice a11 (((sdL b []).take i).length + 1) c11) sz_26_1 rfl rfl rfl rfl rfl (by simp) ?_)
    refine AS.nil ?_
    intro _ S
    have S := (S.fold (k := 3) (k' := 901) (by decide)).weak (k := 3) (i := fun f => ∃ x, OutC b3 ((sdL b []).take (i + 1)) x f) (fun f hf => by rw [upd_same] at hf; exact ⟨(a11, c11), by unfold OutC; rw [hti, List.length_append, List.map_append]; exact hf⟩)
    exact ⟨_, ⟨rfl, trivial⟩, by repeat (first | exact Agr.refl _ _ | exact Agr.msk _ _ _ | refine Agr.upd ?_ _ rfl | refine Agr.upds ?_ rfl | refine Agr.mskIn ?_ rfl), rfl, rfl, S⟩
  · intro dd M w2 S
    rw [List.take_length] at S
    obtain ⟨⟨a, d⟩, S⟩ := S.exP (k := 3) (p := OutC b3 (sdL b [])) rfl
    have S := S.unfold (k := 3) (k' := 901) (i := pt b3 (.cells [Value.slice a (sdL b []).length d].toArray 26 (0, 0))) (j := slc 3 1 (.slice a (sdL b []).length d) (sdL b []).length ((sdL b []).map iv)) (by decide) rfl
    have hcap : (sdL b []).length ≤ d := St.slc_le S 901 rfl
    refine W.seq (W.region S ?_)
    refine AS.cons (sp_ld 3 (v := .slice a (sdL b []).length d) rfl rfl sc_26 rfl ?_)
    refine AS.cons (sp_ld 3 (v := .slice a (sdL b []).length d) rfl rfl sc_26 rfl ?_)
    refine AS.cons (sp_len rfl sl_26_3_1 ?_)
    refine AS.cons (sp_ld 3 (v := .slice a (sdL b []).length d) rfl rfl sc_26 rfl ?_)
    refine AS.cons (sp_len rfl sl_26_3_1 ?_)
    refine AS.cons (sp_sl3 rfl rfl rfl sl_26_3_1 (by first | omega | (simp only [decide_eq_true_eq, decide_eq_false_iff_not] at *; omega)) ?_)
    refine AS.cons (sp_asg rfl ?_)
    refine AS.nil ?_
    intro _ S
    refine W.ret ?_
    exact ret1 rfl rfl S fun w' S' => ⟨_, ⟨_, ⟨⟨a, (sdL b []).length, rfl, Nat.le_refl _⟩, rfl⟩, rfl⟩, by
      have S2 := S'.weak (k := 901) (i := slc 3 1 (.slice a (sdL b []).length (sdL b []).length) (sdL b []).length ((sdL b []).map iv)) (fun f hf => slc_cap hf)
      have S3 := (S2.fold (k := 0) (k' := 901) (by decide)).only 0
      rw [upd_same] at S3
      exact S3⟩
  · exact fun z => nomatch z
end
end Go.Proofs.YtajocmkgdjcmkaaDoor

/-
  The program: what all are paid.
-/
namespace Go.Proofs.YtajocmkgdjcmkaaDoor
set_option maxRecDepth 100000
open Go.Hu Go.RowKit
section
variable (b : Sb) (ha : Option Addr) (hc : Nat) (da : Option Addr) (dc : Nat)
/-- What all are paid, as far as the first j are settled. -/
def qtU (b : Sb) (m : Int) (j : Nat) : List Int := (List.range b.hs.length).map fun k => if k < j then ofK b k * (m / allN b) else 0
theorem qtU_len (b : Sb) (m : Int) (j : Nat) : (qtU b m j).length = b.hs.length := by simp [qtU]
theorem qtU_zero (b : Sb) (m : Int) : qtU b m 0 = List.replicate b.hs.length 0 := by
  apply List.ext_getElem
  · simp [qtU]
  · intro i h1 h2; simp [qtU]
theorem qtU_all (b : Sb) (s m : Int) : qtU b m b.hs.length = pyU b s m 0 := by
  rw [pyU_zero]; unfold qtU
  exact List.map_congr_left fun k hk => if_pos (List.mem_range.1 hk)
theorem qtU_set {b : Sb} {m : Int} {j : Nat} : (qtU b m j).set j (ofK b j * (m / allN b)) = qtU b m (j + 1) := by
  refine List.ext_getElem? fun i => ?_
  rw [List.getElem?_set, qtU_len]
  unfold qtU
  by_cases e : j = i
  · subst e
    rw [if_pos rfl]
    by_cases h : j < b.hs.length
    · rw [if_pos h, List.getElem?_map, List.getElem?_range h]; simp
    · rw [if_neg h, List.getElem?_map, List.getElem?_eq_none (by simp; omega)]; rfl
  · rw [if_neg e, List.getElem?_map, List.getElem?_map]
    by_cases h : i < b.hs.length
    · rw [List.getElem?_range h]
      simp only [Option.map_some, Option.some.injEq]
      by_cases h1 : i < j
      · rw [if_pos h1, if_pos (by omega)]
      · rw [if_neg h1, if_neg (by omega)]
    · rw [List.getElem?_eq_none (by simp; omega)]; rfl
theorem bk_at {b : Sb} {ha : Option Addr} {hc : Nat} {da : Option Addr} {dc m k : Nat} (hk : k < 6) : (bkL b ha hc da dc m)[0 + 9 + ((k : Int)).toNat * 1]? = some (iv (ofK b k)) := by
  match k, hk with
  | 0, _ => rfl
  | 1, _ => rfl
  | 2, _ => rfl
  | 3, _ => rfl
  | 4, _ => rfl
  | 5, _ => rfl
set_option maxHeartbeats 8000000 in
theorem paysF (hb : Good b) (m : Nat) (s mo : Int) (hs : 0 ≤ s ∧ s ≤ 100000) (hm : 0 ≤ mo ∧ mo ≤ 100000) (Bp : Nat → Prop) (w : World) (S : St Bp w w (upd eL 0 (CaP 3 (ordF b) m)) []) :
    Ct Tryd.prog 76 #[.agg (bkL b ha hc da dc m).toArray, iv s, iv mo] w (fun u w' => ∃ i, CsR b m (payL b s mo) u i ∧ St Bp w w' (upd eL 0 i) []) := by
  refine fn_intro (args := [.agg (bkL b ha hc da dc m).toArray, iv s, iv mo]) Tryd.func76 rfl rfl (by kernel_rfl) ?_
  have hO := hb.own
  have hn6 := hb.n6
  have h1 := hb.a1
  have hn1 := hb.n1
  have h60 := hb.a60
  have hol : ((ord b s).length : Int) = allN b := by rw [ord_len]; exact rowF_len hb
  have hq : 0 ≤ mo / allN b ∧ mo / allN b ≤ 100000 := ⟨Int.ediv_nonneg hm.1 (by omega), Int.le_trans (Int.ediv_le_self _ hm.1) hm.2⟩
  have hr : 0 ≤ mo % allN b ∧ mo % allN b < allN b := ⟨Int.emod_nonneg _ (by omega), Int.emod_lt_of_pos _ (by omega)⟩
  refine W.seq (W.region S ?_)
  refine AS.cons (sp_boxa 3 rfl (fun b3 => ?_))
  refine AS.cons (sp_asg rfl ?_)
  refine AS.nil ?_
  intro _ S
  refine W.seq (W.region S ?_)
  refine AS.cons (sp_ldw 3 rfl rfl ag_81_16 ?_)
  refine AS.cons (sp_call [] rfl rfl cf_83 (fun F w _ S => allF b ha hc da dc hO m w) ?_)
  refine AS.cons (sp_asg (v := .int _ _) rfl ?_)
  refine AS.nil ?_
  intro _ S
  refine W.seq (W.region S ?_)
  refine AS.cons (sp_fa rfl fo_81_0_0 ?_)
  refine AS.cons (sp_fa rfl fo_28_1_3 ?_)
  refine AS.cons (sp_ld 3 rfl rfl sc_23 rfl ?_)
  refine AS.cons (sp_len rfl sl_23_75_3 ?_)
  refine AS.cons (sp_mk1 18 sl_26_3_1 zs_3_1 zv_3 rfl rfl rfl (by omega) (fun b18 => ?_))
  refine AS.cons (sp_asg rfl ?_)
  refine AS.nil ?_
  intro _ S
  have S := S.weak (k := 18) (i := slc 3 1 (.slice (some ⟨b18, 0, none⟩) b.hs.length b.hs.length) b.hs.length ((qtU b mo 0).map iv)) (fun f hf => by
    rw [qtU_zero]
    refine slc_of_pt hf (by simp) (Nat.le_refl _) (by simp) ?_
    rw [List.map_replicate, Nat.mul_one, List.take_of_length_le (by simp)])
  refine W.seq (W.seq (W.region S ?_))
  refine AS.cons (sp_move rfl ?_)
  refine AS.cons (sp_len rfl sl_26_3_1 ?_)
  refine AS.cons (sp_move rfl ?_)
  refine AS.nil ?_
  intro _ S
  refine W.block ?_
  refine W.loopS S [9, 21, 22, 23, 24, 25, 26, 27, 28, 29, 30, 31, 32, 33, 34, 35] [18] (fun (j : Nat) => [(21, iv j)]) (fun j => [(18, slc 3 1 (.slice (some ⟨b18, 0, none⟩) b.hs.length b.hs.length) b.hs.length ((qtU b mo j).map iv))]) (fun j => j ≤ b.hs.length) (fun j => b.hs.length - j) 0 (by omega) ⟨rfl, trivial⟩ ⟨rfl, trivial⟩ ?_
  rintro j σ M w1 hj S
  refine W.seq (W.region S ?_)
  refine AS.cons (sp_lss rfl rfl ?_)
  refine AS.nil ?_
  intro _ S
  refine W.seq (W.condd rfl (fun c22 => ?_) (fun c22 => ?_))
  · skip
    have hlt : j < b.hs.length := by omega
    have hof := hb.of j
    have hot := hb.tot hlt
    refine W.skip ?_
    refine W.seq (W.block ?_)
    refine W.seq (W.region S ?_)
    refine AS.cons (sp_move (v := .int _ _) rfl ?_)
    refine AS.cons (sp_asg (v := .int _ _) rfl ?_)
    refine AS.nil ?_
    intro _ S
    refine W.draw S mixed (fun i => ([KD.q [], KD.q [], KD.q [], KD.q [], KD.q [], KD.q [3], KD.q [], KD.q [], KD.q [], KD.q [], KD.q [18], KD.e [18] [18]] : List KD)[i]?) [] [0, 1, 2, 3, 4, 5, 6, 7, 8, 9, 10, 11] (by kernel_rfl) ?_
    refine AW.cons rfl rfl (sp_move rfl ?_)
    refine AW.cons rfl rfl (sp_move (v := .int _ _) rfl ?_)
    refine AW.cons rfl rfl (sp_move (v := .int _ _) rfl ?_)
    refine AW.cons rfl rfl (sp_fa rfl fo_81_1_9 ?_)
    refine AW.cons rfl rfl (sp_iaa rfl rfl arSix (by omega) ?_)
    refine AW.cons rfl rfl (sp_ld 3 rfl rfl sc_3 (bk_at (by omega)) ?_)
    refine AW.cons rfl rfl (sp_move (v := .int _ _) rfl ?_)
    refine AW.cons rfl rfl (sp_move (v := .int _ _) rfl ?_)
    refine AW.cons rfl rfl (sp_quo rfl rfl (by first | omega | (simp only [decide_eq_true_eq, decide_eq_false_iff_not] at *; omega)) (by first | omega | (simp only [decide_eq_true_eq, decide_eq_false_iff_not] at *; omega)) ?_)
    refine AW.cons rfl rfl (sp_mul rfl rfl (mulB (by first | omega | (simp only [decide_eq_true_eq, decide_eq_false_iff_not] at *; omega)) (by first | omega | (simp only [decide_eq_true_eq, decide_eq_false_iff_not] at *; omega))) ?_)
    refine AW.cons rfl rfl (sp_iaS 18 rfl rfl rfl sl_26_3_1 (by omega) ?_)
    refine AW.cons rfl rfl (sp_stS 18 rfl rfl rfl rfl rfl sz_3_1 (by omega) ?_)
    refine AW.nil ?_
    intro _ S
    refine W.region S ?_
    refine AS.cons (sp_add rfl rfl (by first | omega | (simp only [decide_eq_true_eq, decide_eq_false_iff_not] at *; omega)) ?_)
    refine AS.cons (sp_move (v := .int _ _) rfl ?_)
    refine AS.nil ?_
    intro _ S
    exact ⟨j + 1, _, by omega, by omega, ⟨by simp [upd], trivial⟩, ⟨by show slc 3 1 _ _ _ = slc 3 1 _ _ ((qtU b mo (j + 1)).map iv); rw [← qtU_set, List.map_set]; rfl, trivial⟩, by repeat (first | exact Agr.refl _ _ | exact Agr.msk _ _ _ | refine Agr.upd ?_ _ rfl | refine Agr.upds ?_ rfl | refine Agr.mskIn ?_ rfl), by repeat (first | exact Agr.refl _ _ | exact Agr.msk _ _ _ | refine Agr.upd ?_ _ rfl | refine Agr.upds ?_ rfl | refine Agr.mskIn ?_ rfl), rfl, S⟩
  · skip
    obtain rfl : j = b.hs.length := by omega
    rw [qtU_all b s mo] at S
    refine W.exit ?_
    refine W.seq (W.seq (W.draw S mixed (fun i => ([KD.q [3], KD.q [], KD.e [0] [0], KD.q [], KD.q [], KD.q [], KD.q [], KD.q [], KD.q []] : List KD)[i]?) [] [0, 1, 2, 3, 4, 5, 6, 7, 8] (by kernel_rfl) ?_))
    refine AW.cons rfl rfl (sp_ldw 3 rfl rfl ag_81_16 ?_)
    refine AW.cons rfl rfl (sp_move (v := .int _ _) rfl ?_)
    refine AW.cons rfl rfl (sp_callP 0 0 [] _ rfl rfl cf_74 (fun F w hF S Bp S' => orderF b ha hc da dc hb m s hs Bp w S') ?_ (fun _ => OrR.ne b m s))
    rintro v38 i38 ⟨⟨a38, c38, rfl, hac⟩, rfl⟩
    refine AW.cons rfl rfl (sp_move (v := .int _ _) rfl ?_)
    refine AW.cons rfl rfl (sp_move (v := .int _ _) rfl ?_)
    refine AW.cons rfl rfl (sp_rem rfl rfl (by first | omega | (simp only [decide_eq_true_eq, decide_eq_false_iff_not] at *; omega)) (by first | omega | (simp only [decide_eq_true_eq, decide_eq_false_iff_not] at *; omega)) ?_)
    refine AW.cons rfl rfl (sp_sl2 (a := a38) (len := (ord b s).length) (cap := c38) (h' := mo % allN b) rfl rfl sl_26_3_1 (by omega) ?_)
    refine AW.cons rfl rfl (sp_len rfl sl_26_3_1 ?_)
    refine AW.cons rfl rfl (sp_move rfl ?_)
    refine AW.nil ?_
    intro _ S
    refine W.block ?_
    refine W.loopS S [11, 44, 45, 46, 47, 48, 49, 50, 51, 52, 53, 54] [18] (fun (k : Nat) => [(44, iv k)]) (fun k => [(18, slc 3 1 (.slice (some ⟨b18, 0, none⟩) b.hs.length b.hs.length) b.hs.length ((pyU b s mo k).map iv))]) (fun k => k ≤ (mo % allN b).toNat) (fun k => (mo % allN b).toNat - k) 0 (by omega) ⟨rfl, trivial⟩ ⟨rfl, trivial⟩ ?_
    rintro k σ2 M2 w2 hk S
    refine W.seq (W.region S ?_)
    refine AS.cons (sp_lss rfl rfl ?_)
    refine AS.nil ?_
    intro _ S
    refine W.seq (W.condd rfl (fun c45 => ?_) (fun c45 => ?_))
    · skip
      have hlt : k < (mo % allN b).toNat := by omega
      obtain ⟨y, hy⟩ := get_some (l := ord b s) (j := k) (by omega)
      have hym := ord_mem (List.mem_of_getElem? hy)
      obtain ⟨yn, rfl⟩ : ∃ yn : Nat, y = yn := ⟨y.toNat, by omega⟩
      have hyn : yn < b.hs.length := by omega
      have hof := hb.of yn
      have hot := hb.tot hyn
      have hc0 := cntU_nonneg (ord b s) yn k
      have hc1 := cntU_le (ord b s) yn k
      have hmb := mul_bd (a := ofK b yn) (c := mo / allN b) (A := 60) (C := 100000) (by omega) hq
      have hpy : ((pyU b s mo k).map iv)[((yn : Int)).toNat * 1]? = some (iv (ofK b yn * (mo / allN b) + cntU (ord b s) yn k)) := by rw [Nat.mul_one, List.getElem?_map, Int.toNat_natCast, pyU_at hyn]; rfl
      have htk : (((ord b s).map iv).take ((mo % allN b).toNat * 1))[((k : Int)).toNat * 1]? = some (iv (yn : Int)) := by rw [List.getElem?_take, if_pos (by omega)]; simp [hy]
      refine W.skip ?_
      refine W.seq (W.block ?_)
      refine W.seq (W.region S ?_)
      refine AS.cons (sp_iaK (s := 1) [0] (fun F w hF S => Rd.take (or_rd S ((hF 0 (by simp)).trans rfl) (by omega)) (by omega)) rfl rfl sl_26_3_1 (by omega) ?_)
      refine AS.cons (sp_ldK (s := 1) [0] (fun F w hF S => Rd.take (or_rd S ((hF 0 (by simp)).trans rfl) (by omega)) (by omega)) rfl sc_3 htk (by omega) ?_)
      refine AS.cons (sp_asg (v := .int _ _) rfl ?_)
      refine AS.nil ?_
      intro _ S
      refine W.region S ?_
      refine AS.cons (sp_move rfl ?_)
      refine AS.cons (sp_move (v := .int _ _) rfl ?_)
      refine AS.cons (sp_iaS 18 rfl rfl rfl sl_26_3_1 (by omega) ?_)
      refine AS.cons (sp_ldS 18 rfl rfl sc_3 hpy (by omega) ?_)
      refine AS.cons (sp_add rfl rfl (by first | omega | (simp only [decide_eq_true_eq, decide_eq_false_iff_not] at *; omega)) ?_)
      refine AS.cons (sp_iaS 18 rfl rfl rfl sl_26_3_1 (by omega) ?_)
      refine AS.cons (sp_stS 18 rfl rfl rfl rfl rfl sz_3_1 (by omega) ?_)
      refine AS.nil ?_
      intro _ S
      refine W.region S ?_
      refine AS.cons (sp_add rfl rfl (by first | omega | (simp only [decide_eq_true_eq, decide_eq_false_iff_not] at *; omega)) ?_)
      refine AS.cons (sp_move (v := .int _ _) rfl ?_)
      refine AS.nil ?_
      intro _ S
      exact ⟨k + 1, _, by omega, by omega, ⟨by simp [upd], trivial⟩, ⟨by show slc 3 1 _ _ _ = slc 3 1 _ _ _; rw [← pyU_set hy rfl hyn, List.map_set]; rfl, trivial⟩, by repeat (first | exact Agr.refl _ _ | exact Agr.msk _ _ _ | refine Agr.upd ?_ _ rfl | refine Agr.upds ?_ rfl | refine Agr.mskIn ?_ rfl), by repeat (first | exact Agr.refl _ _ | exact Agr.msk _ _ _ | refine Agr.upd ?_ _ rfl | refine Agr.upds ?_ rfl | refine Agr.mskIn ?_ rfl), rfl, S⟩
    · skip
      obtain rfl : k = (mo % allN b).toNat := by omega
      refine W.exit ?_
      refine W.seq (W.region S ?_)
      refine AS.cons (sp_move rfl ?_)
      refine AS.cons (sp_asg rfl ?_)
      refine AS.nil ?_
      intro _ S
      refine W.ret ?_
      exact ret1 rfl rfl S fun w' S' => ⟨_, ⟨_, ⟨⟨some ⟨b18, 0, none⟩, b.hs.length, by rw [payL_len]; rfl, by rw [payL_len]; exact Nat.le_refl _⟩, rfl⟩, rfl⟩, by
        have S2 := S'.weak (k := 0) (i := CaP 3 (ordF b) m) (fun f hf => CaR.weak hf)
        have S3 := (S2.fold (k := 0) (k' := 18) (by decide)).only 0
        rw [upd_same] at S3
        rw [payL_len]
        exact S3⟩
end
end Go.Proofs.YtajocmkgdjcmkaaDoor

/-
  The program: what is asked; shares, orders, numbers, whether a book can be true.
-/
namespace Go.Proofs.YtajocmkgdjcmkaaDoor
set_option maxRecDepth 100000
open Go.Hu Go.RowKit
section
variable (b : Sb) (ha : Option Addr) (hc : Nat) (da : Option Addr) (dc : Nat)
/-- What is asked of a book that can be true: it, opened, and all numbers. -/
def AskR (b : Sb) (ha : Option Addr) (hc : Nat) (da : Option Addr) (dc : Nat) (u : Value) (i : HP) : Prop := ∃ m lv, u = .tuple #[.agg (bkL b ha hc da dc m).toArray, lv, iv 0] ∧ CsR b m (sdL b []) lv i
/-- .. of another one. -/
def AskN (e : Int) (u : Value) : Prop := ∃ cs : List Value, cs.length = 16 ∧ oneB cs = true ∧ u = .tuple #[.agg cs.toArray, .slice none 0 0, iv e]
set_option maxHeartbeats 8000000 in
theorem askedF (p : Bool) (w : World) (hK : Kinds w) (hH : Hos w ha hc b.hs) (hD : Ints w da dc b.dr) : Ct Tryd.prog 63 #[.agg (sbL b ha hc da dc).toArray, .bool p] w
    (fun u w' => ∃ i, ((askV b p = 0 ∧ AskR b ha hc da dc u i) ∨ (askV b p ≠ 0 ∧ AskN (askV b p) u)) ∧ St no w w' (upd eL 0 i) []) := by
  refine fn_intro (args := [.agg (sbL b ha hc da dc).toArray, .bool p]) Tryd.func63 rfl rfl (by kernel_rfl) ?_
  have S := St.start no w
  refine W.seq (W.region S ?_)
  refine AS.cons (sp_boxa 2 rfl (fun b2 => ?_))
  refine AS.cons (sp_alloc 4 zv_81 rfl (fun b4 => ?_))
  refine AS.cons (sp_asg rfl ?_)
  refine AS.cons (sp_asg rfl ?_)
  refine AS.nil ?_
  intro _ S
  refine W.seq (W.seq (W.region S ?_))
  refine AS.cons (sp_ldw 2 rfl rfl ag_28_9 ?_)
  refine AS.cons (sp_call [] rfl rfl cf_17 (fun F w _ S => checkP b ha hc da dc w (hK.ext S.mod) (hH.ext S.mod) (hD.ext S.mod)) ?_)
  refine AS.cons (sp_asg (v := .int _ _) rfl ?_)
  refine AS.nil ?_
  intro _ S
  refine W.seq (W.region S ?_)
  refine AS.cons (sp_move (v := .int _ _) rfl ?_)
  refine AS.cons (sp_neq rfl rfl ?_)
  refine AS.nil ?_
  intro _ S
  refine W.condd rfl (fun c13 => ?_) (fun c13 => ?_)
  · skip
    have hv : askV b p = chkV b := by unfold askV; rw [chk_isn c13, chk_no (chk_isn c13)]; rfl
    have hne : askV b p ≠ 0 := by rw [hv]; exact c13
    refine W.seq (W.region S ?_)
    refine AS.cons (sp_build [iv 0, iv 0, iv 0, .slice none 0 0, iv 0, iv 0, iv 0, iv 0, .slice none 0 0, iv 0, iv 0, iv 0, iv 0, iv 0, iv 0, .map none] (by kernel_rfl) ?_)
    refine AS.cons (sp_move (v := .int _ _) rfl ?_)
    refine AS.cons (sp_st 4 rfl rfl rfl rfl sz_81_16 rfl rfl ?_)
    refine AS.cons (sp_asg rfl ?_)
    refine AS.cons (sp_asg (v := .int _ _) rfl ?_)
    refine AS.nil ?_
    intro _ S
    refine W.ret ?_
    first | exact retc2 4 ag_81_16 rfl rfl rfl rfl rfl rfl rfl S fun w' S' => ⟨_, .inr ⟨hne, _, rfl, rfl, by rw [hv]; rfl⟩, S'.only 4⟩ | exact retc2 4 ag_81_16 rfl rfl rfl rfl rfl rfl rfl S fun w' S' => ⟨_, .inl ⟨hv, m, _, rfl, _, ⟨⟨a22, c22, rfl, h22⟩, rfl⟩, rfl⟩, by have S3 := (S'.fold (k := 20) (k' := 22) (by decide)).only 20; rw [upd_same] at S3; exact S3⟩
  · skip
    have hok := chk_is (Decidable.not_not.1 c13)
    have hb := okS_good.1 hok
    have hO := hb.own
    have hl51 := sdL_51 hb []
    refine W.skip ?_
    refine W.seq (W.seq (W.region S ?_))
    refine AS.cons (sp_move (v := .bool _) rfl ?_)
    refine AS.cons (sp_not rfl ?_)
    refine AS.nil ?_
    intro _ S
    refine W.cond rfl (fun c17 => ?_) (fun c17 => ?_)
    · skip
      have hp : p = false := by simpa using c17
      have hv : askV b p = 81 := by unfold askV; rw [if_pos hok, hp]; rfl
      have hne : askV b p ≠ 0 := by rw [hv]; decide
      refine W.seq (W.region S ?_)
      refine AS.cons (sp_build [iv 0, iv 0, iv 0, .slice none 0 0, iv 0, iv 0, iv 0, iv 0, .slice none 0 0, iv 0, iv 0, iv 0, iv 0, iv 0, iv 0, .map none] (by kernel_rfl) ?_)
      refine AS.cons (sp_st 4 rfl rfl rfl rfl sz_81_16 rfl rfl ?_)
      refine AS.cons (sp_asg rfl ?_)
      refine AS.cons (sp_asg rfl ?_)
      refine AS.nil ?_
      intro _ S
      refine W.ret ?_
      first | exact retc2 4 ag_81_16 rfl rfl rfl rfl rfl rfl rfl S fun w' S' => ⟨_, .inr ⟨hne, _, rfl, rfl, by rw [hv]; rfl⟩, S'.only 4⟩ | exact retc2 4 ag_81_16 rfl rfl rfl rfl rfl rfl rfl S fun w' S' => ⟨_, .inl ⟨hv, m, _, rfl, _, ⟨⟨a22, c22, rfl, h22⟩, rfl⟩, rfl⟩, by have S3 := (S'.fold (k := 20) (k' := 22) (by decide)).only 20; rw [upd_same] at S3; exact S3⟩
    · skip
      have hp : p = true := by simpa using c17
      refine W.skip ?_
      refine W.seq (W.region S ?_)
      refine AS.cons (sp_ldw 2 rfl rfl ag_28_9 ?_)
      refine AS.cons (sp_call1 20 [] _ rfl rfl cf_73 (fun F w _ S => openedF _ _ _ _ _ (by assumption) w (hK.ext S.mod) (hH.ext S.mod)) ?_ (by simp))
      rintro v20 i20 ⟨m, rfl, rfl⟩
      refine AS.cons (sp_alloc 8 zv_81 rfl (fun b8 => ?_))
      refine AS.cons (sp_st 8 rfl rfl rfl rfl sz_81_16 rfl rfl ?_)
      refine AS.nil ?_
      intro _ S
      refine W.seq (W.region S ?_)
      refine AS.cons (sp_ldw 8 rfl rfl ag_81_16 ?_)
      refine AS.cons (sp_callX 20 0 [] (CsR b m (sdL b [])) rfl rfl cf_91 (fun F w' hF S Bp S' p1 p2 => listedF b ha hc da dc hb m Bp w' (not_lent hD p1) (hD.ext S.mod) S') ?_ (by simp))
      rintro v22 i22 ⟨j22, ⟨⟨a22, c22, rfl, h22⟩, rfl⟩, rfl⟩
      refine AS.cons (sp_asg rfl ?_)
      refine AS.nil ?_
      intro _ S
      have S := S.unfold (k := 20) (k' := 22) (by decide) rfl
      refine W.seq (W.seq (W.region S ?_))
      refine AS.cons (sp_move rfl ?_)
      refine AS.cons (sp_len rfl sl_26_3_1 ?_)
      refine AS.cons (sp_eql rfl rfl ?_)
      refine AS.nil ?_
      intro _ S
      refine W.condd rfl (fun c25 => ?_) (fun c25 => ?_)
      · skip
        have hv : askV b p = 82 := by unfold askV; rw [if_pos hok, if_pos hp, if_pos (List.length_eq_zero_iff.1 (by omega))]
        have hne : askV b p ≠ 0 := by rw [hv]; decide
        refine W.seq (W.region S ?_)
        refine AS.cons (sp_ldw 8 rfl rfl ag_81_16 ?_)
        refine AS.cons (sp_st 4 rfl rfl rfl rfl sz_81_16 rfl rfl ?_)
        refine AS.cons (sp_asg rfl ?_)
        refine AS.cons (sp_asg rfl ?_)
        refine AS.nil ?_
        intro _ S
        refine W.ret ?_
        first | exact retc2 4 ag_81_16 rfl rfl rfl rfl rfl rfl rfl S fun w' S' => ⟨_, .inr ⟨hne, _, rfl, rfl, by rw [hv]; rfl⟩, S'.only 4⟩ | exact retc2 4 ag_81_16 rfl rfl rfl rfl rfl rfl rfl S fun w' S' => ⟨_, .inl ⟨hv, m, _, rfl, _, ⟨⟨a22, c22, rfl, h22⟩, rfl⟩, rfl⟩, by have S3 := (S'.fold (k := 20) (k' := 22) (by decide)).only 20; rw [upd_same] at S3; exact S3⟩
      · skip
        have hv : askV b p = 0 := by unfold askV; rw [if_pos hok, if_pos hp, if_neg (fun h => c25 (by rw [h]; rfl))]
        refine W.skip ?_
        refine W.seq (W.region S ?_)
        refine AS.cons (sp_ldw 8 rfl rfl ag_81_16 ?_)
        refine AS.cons (sp_move rfl ?_)
        refine AS.cons (sp_st 4 rfl rfl rfl rfl sz_81_16 rfl rfl ?_)
        refine AS.cons (sp_asg rfl ?_)
        refine AS.cons (sp_asg rfl ?_)
        refine AS.nil ?_
        intro _ S
        refine W.ret ?_
        first | exact retc2 4 ag_81_16 rfl rfl rfl rfl rfl rfl rfl S fun w' S' => ⟨_, .inr ⟨hne, _, rfl, rfl, by rw [hv]; rfl⟩, S'.only 4⟩ | exact retc2 4 ag_81_16 rfl rfl rfl rfl rfl rfl rfl S fun w' S' => ⟨_, .inl ⟨hv, m, _, rfl, _, ⟨⟨a22, c22, rfl, h22⟩, rfl⟩, rfl⟩, by have S3 := (S'.fold (k := 20) (k' := 22) (by decide)).only 20; rw [upd_same] at S3; exact S3⟩
end
end Go.Proofs.YtajocmkgdjcmkaaDoor

/-
  The program's answers: shares, orders, numbers, whether a book can be true.
-/
namespace Go.Proofs.YtajocmkgdjcmkaaDoor
set_option maxRecDepth 100000
open Go.Hu Go.RowKit
section
variable (b : Sb) (ha : Option Addr) (hc : Nat) (da : Option Addr) (dc : Nat)
theorem askG {b : Sb} {ha : Option Addr} {hc : Nat} {da : Option Addr} {dc : Nat} {p : Bool} (hz : askV b p = 0) (w : World) (hK : Kinds w) (hH : Hos w ha hc b.hs) (hD : Ints w da dc b.dr) : Ct Tryd.prog 63 #[.agg (sbL b ha hc da dc).toArray, .bool p] w (fun u w' => ∃ i, AskR b ha hc da dc u i ∧ St no w w' (upd eL 0 i) []) := by
  refine (askedF b ha hc da dc p w hK hH hD).mono fun u w' h => ?_
  obtain ⟨i, h1, h2⟩ := h
  rcases h1 with ⟨_, h1⟩ | ⟨h1, _⟩
  · exact ⟨i, h1, h2⟩
  · exact absurd hz h1
theorem askB {b : Sb} {ha : Option Addr} {hc : Nat} {da : Option Addr} {dc : Nat} {p : Bool} (hz : ¬ askV b p = 0) (w : World) (hK : Kinds w) (hH : Hos w ha hc b.hs) (hD : Ints w da dc b.dr) : Ct Tryd.prog 63 #[.agg (sbL b ha hc da dc).toArray, .bool p] w (fun u w' => ∃ i, AskN (askV b p) u ∧ St no w w' (upd eL 0 i) []) := by
  refine (askedF b ha hc da dc p w hK hH hD).mono fun u w' h => ?_
  obtain ⟨i, h1, h2⟩ := h
  rcases h1 with ⟨h1, _⟩ | ⟨_, h1⟩
  · exact absurd h1 hz
  · exact ⟨i, h1, h2⟩
theorem AskR.ne (b : Sb) (ha : Option Addr) (hc : Nat) (da : Option Addr) (dc : Nat) : ∃ u i, AskR b ha hc da dc u i := by
  obtain ⟨u, i, h⟩ := CsR.ne b 0 (sdL b [])
  exact ⟨_, i, 0, u, rfl, h⟩
theorem AskN.ne (e : Int) : ∃ (u : Value) (_i : HP), AskN e u := ⟨_, emp, List.replicate 16 (iv 0), by simp, by decide, rfl⟩
theorem ask_t (b : Sb) : askV b true = if okS b = true then (if sdL b [] = [] then 82 else 0) else 80 := by unfold askV; rfl
set_option maxHeartbeats 4000000 in
theorem rightP (w : World) (hK : Kinds w) (hH : Hos w ha hc b.hs) (hD : Ints w da dc b.dr) : Ct Tryd.prog 15 #[.agg (sbL b ha hc da dc).toArray] w (fun u w' => u = .tuple #[.bool (rgtV b), iv (chkV b)] ∧ Ext w w') := by
  refine fn_intro (args := [.agg (sbL b ha hc da dc).toArray]) Tryd.func15 rfl rfl (by kernel_rfl) ?_
  have S := St.start no w
  by_cases hz : askV b true = 0
  · obtain ⟨hb, _, hne⟩ := ask_is hz
    have hok := okS_good.2 hb
    have hv : rgtV b = true := by unfold rgtV; rw [if_pos hok, decide_eq_false hne]; rfl
    have he := chk_ok hok
    refine W.seq (W.region S ?_)
    refine AS.cons (sp_boxa 1 rfl (fun b1 => ?_))
    refine AS.cons (sp_asg rfl ?_)
    refine AS.cons (sp_asg rfl ?_)
    refine AS.nil ?_
    intro _ S
    refine W.seq (W.region S ?_)
    refine AS.cons (sp_ldw 1 rfl rfl ag_28_9 ?_)
    refine AS.cons (sp_call1 9 [] _ rfl rfl cf_63 (fun F w _ S => askG hz w (hK.ext S.mod) (hH.ext S.mod) (hD.ext S.mod)) ?_ (by simp))
    rintro v9 i9 ⟨m, lv, rfl, j9, ⟨⟨a9, c9, rfl, h9⟩, rfl⟩, rfl⟩
    refine AS.cons (sp_move rfl ?_)
    refine AS.cons (sp_ext rfl rfl ?_)
    refine AS.cons (sp_ext rfl rfl ?_)
    refine AS.cons (sp_ext rfl rfl ?_)
    refine AS.cons (sp_alloc 4 zv_81 rfl (fun b4 => ?_))
    refine AS.cons (sp_st 4 rfl rfl rfl rfl sz_81_16 rfl rfl ?_)
    refine AS.cons (sp_asg rfl ?_)
    refine AS.cons (sp_asg (v := .int _ _) rfl ?_)
    refine AS.nil ?_
    intro _ S
    refine W.seq (W.seq (W.region S ?_))
    refine AS.cons (sp_move (v := .int _ _) rfl ?_)
    refine AS.cons (sp_eql rfl rfl ?_)
    refine AS.nil ?_
    intro _ S
    refine W.condd rfl (fun c14 => ?_) (fun c14 => ?_)
    · exact absurd c14 (by decide)
    · skip
      refine W.skip ?_
      refine W.seq (W.region S ?_)
      refine AS.cons (sp_move (v := .int _ _) rfl ?_)
      refine AS.cons (sp_eql rfl rfl ?_)
      refine AS.cons (sp_move (v := .int _ _) rfl ?_)
      refine AS.cons (sp_asg (v := .bool _) rfl ?_)
      refine AS.cons (sp_asg (v := .int _ _) rfl ?_)
      refine AS.nil ?_
      intro _ S
      refine W.ret ?_
      exact ret2 rfl rfl rfl S fun w' S' => ⟨by rw [hv, he]; rfl, S'.mod⟩
  · obtain ⟨e, hee⟩ : ∃ e, askV b true = e := ⟨_, rfl⟩
    have hB := @askB b ha hc da dc true hz
    rw [hee] at hz hB
    rw [ask_t] at hee
    refine W.seq (W.region S ?_)
    refine AS.cons (sp_boxa 1 rfl (fun b1 => ?_))
    refine AS.cons (sp_asg rfl ?_)
    refine AS.cons (sp_asg rfl ?_)
    refine AS.nil ?_
    intro _ S
    refine W.seq (W.region S ?_)
    refine AS.cons (sp_ldw 1 rfl rfl ag_28_9 ?_)
    refine AS.cons (sp_call1 9 [] _ rfl rfl cf_63 (fun F w _ S => hB w (hK.ext S.mod) (hH.ext S.mod) (hD.ext S.mod)) ?_ (by simp))
    rintro v9 i9 ⟨cs, hcl, hc1, rfl⟩
    refine AS.cons (sp_move rfl ?_)
    refine AS.cons (sp_ext rfl rfl ?_)
    refine AS.cons (sp_ext rfl rfl ?_)
    refine AS.cons (sp_ext rfl rfl ?_)
    refine AS.cons (sp_alloc 4 zv_81 rfl (fun b4 => ?_))
    refine AS.cons (sp_stw 4 sz_81_16 rfl rfl rfl rfl hcl rfl hc1 ?_)
    refine AS.cons (sp_asg rfl ?_)
    refine AS.cons (sp_asg (v := .int _ _) rfl ?_)
    refine AS.nil ?_
    intro _ S
    refine W.seq (W.seq (W.region S ?_))
    refine AS.cons (sp_move (v := .int _ _) rfl ?_)
    refine AS.cons (sp_eql rfl rfl ?_)
    refine AS.nil ?_
    intro _ S
    refine W.condd rfl (fun c14 => ?_) (fun c14 => ?_)
    · skip
      have hr : rgtV b = false ∧ chkV b = 0 := by
        subst c14
        by_cases hok : okS b = true
        · rw [if_pos hok] at hee
          refine ⟨?_, chk_ok hok⟩
          unfold rgtV; rw [if_pos hok]
          by_cases hs : sdL b [] = []
          · rw [decide_eq_true hs]; rfl
          · rw [if_neg hs] at hee; cases hee
        · rw [if_neg hok] at hee; cases hee
      refine W.seq (W.region S ?_)
      refine AS.cons (sp_asg rfl ?_)
      refine AS.cons (sp_asg rfl ?_)
      refine AS.nil ?_
      intro _ S
      refine W.ret ?_
      first | exact ret2 rfl rfl rfl S fun w' S' => ⟨by rw [hr.1, hr.2]; rfl, S'.mod⟩ | exact ret2 rfl rfl rfl S fun w' S' => ⟨by rw [hr.1, hr.2, ← decide_eq_false hz]; rfl, S'.mod⟩
    · skip
      have hr : rgtV b = false ∧ chkV b = e := by
        by_cases hok : okS b = true
        · rw [if_pos hok] at hee
          by_cases hs : sdL b [] = []
          · rw [if_pos hs] at hee; exact absurd hee.symm c14
          · rw [if_neg hs] at hee; exact absurd hee.symm hz
        · rw [if_neg hok] at hee
          refine ⟨by unfold rgtV; rw [if_neg hok], by rw [← hee]; unfold chkV; rw [if_neg hok]⟩
      refine W.skip ?_
      refine W.seq (W.region S ?_)
      refine AS.cons (sp_move (v := .int _ _) rfl ?_)
      refine AS.cons (sp_eql rfl rfl ?_)
      refine AS.cons (sp_move (v := .int _ _) rfl ?_)
      refine AS.cons (sp_asg (v := .bool _) rfl ?_)
      refine AS.cons (sp_asg (v := .int _ _) rfl ?_)
      refine AS.nil ?_
      intro _ S
      refine W.ret ?_
      first | exact ret2 rfl rfl rfl S fun w' S' => ⟨by rw [hr.1, hr.2]; rfl, S'.mod⟩ | exact ret2 rfl rfl rfl S fun w' S' => ⟨by rw [hr.1, hr.2, ← decide_eq_false hz]; rfl, S'.mod⟩
set_option maxHeartbeats 4000000 in
theorem seedsP (w : World) (hK : Kinds w) (hH : Hos w ha hc b.hs) (hD : Ints w da dc b.dr) : Ct Tryd.prog 24 #[.agg (sbL b ha hc da dc).toArray] w (fun u w' => ∃ i, LsE (sdV b) (chkV b) u i ∧ St no w w' (upd eL 0 i) []) := by
  refine fn_intro (args := [.agg (sbL b ha hc da dc).toArray]) Tryd.func24 rfl rfl (by kernel_rfl) ?_
  have S := St.start no w
  by_cases hz : askV b true = 0
  · obtain ⟨hb, _, hne⟩ := ask_is hz
    have hok := okS_good.2 hb
    have hl : sdV b = sdL b [] := by unfold sdV; rw [if_pos hok]
    have he := chk_ok hok
    refine W.seq (W.region S ?_)
    refine AS.cons (sp_boxa 1 rfl (fun b1 => ?_))
    refine AS.cons (sp_asg rfl ?_)
    refine AS.cons (sp_asg rfl ?_)
    refine AS.nil ?_
    intro _ S
    refine W.seq (W.region S ?_)
    refine AS.cons (sp_ldw 1 rfl rfl ag_28_9 ?_)
    refine AS.cons (sp_call1 9 [] _ rfl rfl cf_63 (fun F w _ S => askG hz w (hK.ext S.mod) (hH.ext S.mod) (hD.ext S.mod)) ?_ (by simp))
    rintro v9 i9 ⟨m, lv, rfl, j9, ⟨⟨a9, c9, rfl, h9⟩, rfl⟩, rfl⟩
    refine AS.cons (sp_move rfl ?_)
    refine AS.cons (sp_ext rfl rfl ?_)
    refine AS.cons (sp_ext rfl rfl ?_)
    refine AS.cons (sp_ext rfl rfl ?_)
    refine AS.cons (sp_alloc 4 zv_81 rfl (fun b4 => ?_))
    refine AS.cons (sp_st 4 rfl rfl rfl rfl sz_81_16 rfl rfl ?_)
    refine AS.cons (sp_asg rfl ?_)
    refine AS.cons (sp_asg (v := .int _ _) rfl ?_)
    refine AS.nil ?_
    intro _ S
    have S := S.unfold (k := 9) (k' := 902) (by decide) rfl
    refine W.seq (W.seq (W.region S ?_))
    refine AS.cons (sp_move (v := .int _ _) rfl ?_)
    refine AS.cons (sp_eql rfl rfl ?_)
    refine AS.nil ?_
    intro _ S
    refine W.condd rfl (fun c14 => ?_) (fun c14 => ?_)
    · exact absurd c14 (by decide)
    · skip
      refine W.skip ?_
      refine W.seq (W.region S ?_)
      refine AS.cons (sp_move rfl ?_)
      refine AS.cons (sp_move (v := .int _ _) rfl ?_)
      refine AS.cons (sp_asg rfl ?_)
      refine AS.cons (sp_asg (v := .int _ _) rfl ?_)
      refine AS.nil ?_
      intro _ S
      refine W.ret ?_
      exact ret2 rfl rfl rfl S fun w' S' => ⟨_, ⟨a9, c9, by rw [hl]; exact h9, by rw [hl, he]; rfl, by rw [hl]; rfl⟩, S'.only 902⟩
  · obtain ⟨e, hee⟩ : ∃ e, askV b true = e := ⟨_, rfl⟩
    have hB := @askB b ha hc da dc true hz
    rw [hee] at hz hB
    rw [ask_t] at hee
    refine W.seq (W.region S ?_)
    refine AS.cons (sp_boxa 1 rfl (fun b1 => ?_))
    refine AS.cons (sp_asg rfl ?_)
    refine AS.cons (sp_asg rfl ?_)
    refine AS.nil ?_
    intro _ S
    refine W.seq (W.region S ?_)
    refine AS.cons (sp_ldw 1 rfl rfl ag_28_9 ?_)
    refine AS.cons (sp_call1 9 [] _ rfl rfl cf_63 (fun F w _ S => hB w (hK.ext S.mod) (hH.ext S.mod) (hD.ext S.mod)) ?_ (by simp))
    rintro v9 i9 ⟨cs, hcl, hc1, rfl⟩
    refine AS.cons (sp_move rfl ?_)
    refine AS.cons (sp_ext rfl rfl ?_)
    refine AS.cons (sp_ext rfl rfl ?_)
    refine AS.cons (sp_ext rfl rfl ?_)
    refine AS.cons (sp_alloc 4 zv_81 rfl (fun b4 => ?_))
    refine AS.cons (sp_stw 4 sz_81_16 rfl rfl rfl rfl hcl rfl hc1 ?_)
    refine AS.cons (sp_asg rfl ?_)
    refine AS.cons (sp_asg (v := .int _ _) rfl ?_)
    refine AS.nil ?_
    intro _ S
    refine W.seq (W.seq (W.region S ?_))
    refine AS.cons (sp_move (v := .int _ _) rfl ?_)
    refine AS.cons (sp_eql rfl rfl ?_)
    refine AS.nil ?_
    intro _ S
    refine W.condd rfl (fun c14 => ?_) (fun c14 => ?_)
    · skip
      have hr : sdV b = [] ∧ chkV b = 0 := by
        subst c14
        by_cases hok : okS b = true
        · rw [if_pos hok] at hee
          refine ⟨?_, chk_ok hok⟩
          unfold sdV; rw [if_pos hok]
          by_cases hs : sdL b [] = []
          · exact hs
          · rw [if_neg hs] at hee; cases hee
        · rw [if_neg hok] at hee; cases hee
      refine W.seq (W.region S ?_)
      refine AS.cons (sp_asg rfl ?_)
      refine AS.cons (sp_asg rfl ?_)
      refine AS.nil ?_
      intro _ S
      refine W.ret ?_
      exact ret2 rfl rfl rfl S fun w' S' => ⟨_, ⟨none, 0, by rw [hr.1]; exact Nat.le_refl 0, by rw [hr.1, hr.2]; rfl, by rw [hr.1]; rfl⟩, nilE S'⟩
    · skip
      have hr : sdV b = [] ∧ chkV b = e := by
        by_cases hok : okS b = true
        · rw [if_pos hok] at hee
          by_cases hs : sdL b [] = []
          · rw [if_pos hs] at hee; exact absurd hee.symm c14
          · rw [if_neg hs] at hee; exact absurd hee.symm hz
        · rw [if_neg hok] at hee
          refine ⟨by unfold sdV; rw [if_neg hok], by rw [← hee]; unfold chkV; rw [if_neg hok]⟩
      refine W.skip ?_
      refine W.seq (W.region S ?_)
      refine AS.cons (sp_move rfl ?_)
      refine AS.cons (sp_move (v := .int _ _) rfl ?_)
      refine AS.cons (sp_asg rfl ?_)
      refine AS.cons (sp_asg (v := .int _ _) rfl ?_)
      refine AS.nil ?_
      intro _ S
      refine W.ret ?_
      exact ret2 rfl rfl rfl S fun w' S' => ⟨_, ⟨none, 0, by rw [hr.1]; exact Nat.le_refl 0, by rw [hr.1, hr.2]; rfl, by rw [hr.1]; rfl⟩, nilE S'⟩
theorem rdL_take {l : List Value} {n : Nat} (h : n ≤ l.length) : rdL l 0 n = some (l.take n) := rdL_of (by rw [List.length_take]; omega) (fun j hj => by rw [Nat.zero_add, List.getElem?_take, if_pos hj])
theorem slc_zero_add {E n c : Nat} {a : Option Addr} {xs : List Value} : slc E 1 (.slice a (0 + n) c) (0 + n) ([] ++ xs) = slc E 1 (.slice a n c) n xs := by rw [Nat.zero_add, List.nil_append]
theorem shA_take {b : Sb} (h6 : b.hs.length ≤ 6) : (shA b).take b.hs.length = (shsL b).map iv := by
  unfold shA shI shsL
  rw [← List.map_take, ← List.map_take, List.take_range, Nat.min_eq_left h6]
set_option maxHeartbeats 4000000 in
theorem sharesP (w : World) (hK : Kinds w) (hH : Hos w ha hc b.hs) (hD : Ints w da dc b.dr) : Ct Tryd.prog 19 #[.agg (sbL b ha hc da dc).toArray] w (fun u w' => ∃ i, LsE (shsV b) (chkV b) u i ∧ St no w w' (upd eL 0 i) []) := by
  refine fn_intro (args := [.agg (sbL b ha hc da dc).toArray]) Tryd.func19 rfl rfl (by kernel_rfl) ?_
  have S := St.start no w
  refine W.seq (W.region S ?_)
  refine AS.cons (sp_boxa 1 rfl (fun b1 => ?_))
  refine AS.cons (sp_asg rfl ?_)
  refine AS.cons (sp_asg rfl ?_)
  refine AS.nil ?_
  intro _ S
  refine W.seq (W.seq (W.region S ?_))
  refine AS.cons (sp_ldw 1 rfl rfl ag_28_9 ?_)
  refine AS.cons (sp_call [] rfl rfl cf_17 (fun F w _ S => checkP b ha hc da dc w (hK.ext S.mod) (hH.ext S.mod) (hD.ext S.mod)) ?_)
  refine AS.cons (sp_asg (v := .int _ _) rfl ?_)
  refine AS.nil ?_
  intro _ S
  refine W.seq (W.region S ?_)
  refine AS.cons (sp_move (v := .int _ _) rfl ?_)
  refine AS.cons (sp_neq rfl rfl ?_)
  refine AS.nil ?_
  intro _ S
  refine W.condd rfl (fun c9 => ?_) (fun c9 => ?_)
  · skip
    have hl : shsV b = [] := by unfold shsV; rw [chk_isn c9]; rfl
    refine W.seq (W.region S ?_)
    refine AS.cons (sp_move (v := .int _ _) rfl ?_)
    refine AS.cons (sp_asg rfl ?_)
    refine AS.cons (sp_asg (v := .int _ _) rfl ?_)
    refine AS.nil ?_
    intro _ S
    refine W.ret ?_
    first | exact ret2 rfl rfl rfl S fun w' S' => ⟨_, ⟨none, 0, by rw [hl]; exact Nat.le_refl 0, by rw [hl]; rfl, by rw [hl]; rfl⟩, nilE S'⟩ | exact ret2 rfl rfl rfl S fun w' S' => ⟨_, ⟨a20, c20, by rw [hl, hsl]; have := St.slc_le S' 901 rfl; omega, by show Value.tuple #[.slice a20 (0 + b.hs.length) c20, iv 0] = _; rw [Nat.zero_add, hl, hsl, he], by rw [hl, hsl, ← shA_take hn6]; exact slc_zero_add⟩, S'.only 901⟩
  · skip
    have hok := chk_is (Decidable.not_not.1 c9)
    have hb := okS_good.1 hok
    have hO := hb.own
    have hn6 := hb.n6
    have hl : shsV b = shsL b := by unfold shsV; rw [if_pos hok]
    have he := chk_ok hok
    have hsl : (shsL b).length = b.hs.length := by simp [shsL]
    refine W.skip ?_
    refine W.seq (W.region S ?_)
    refine AS.cons (sp_ldw 1 rfl rfl ag_28_9 ?_)
    refine AS.cons (sp_call [] rfl rfl cf_67 (fun F w _ S => countedF b ha hc da dc hO w (hK.ext S.mod) (hH.ext S.mod)) ?_)
    refine AS.cons (sp_alloc 5 zv_78 rfl (fun b5 => ?_))
    refine AS.cons (sp_st 5 rfl rfl rfl rfl sz_78_6 rfl rfl ?_)
    refine AS.nil ?_
    intro _ S
    have S := (S.drop 901).weak (k := 901) (i := slc 3 1 (.slice none 0 0) 0 []) (fun f hf => by rw [upd_same] at hf; exact slc_nil 3 1 f hf)
    refine W.seq (W.region S ?_)
    refine AS.cons (sp_fa rfl fo_28_1_3 ?_)
    refine AS.cons (sp_ld 1 rfl rfl sc_23 rfl ?_)
    refine AS.cons (sp_len rfl sl_23_75_3 ?_)
    refine AS.cons (sp_fa rfl fo_28_1_3 ?_)
    refine AS.cons (sp_ld 1 rfl rfl sc_23 rfl ?_)
    refine AS.cons (sp_len rfl sl_23_75_3 ?_)
    refine AS.cons (sp_slA3 (h' := (b.hs.length : Int)) (m' := (b.hs.length : Int)) rfl rfl rfl arSix (by omega) ?_)
    refine AS.cons (sp_app (n := 0) (k := b.hs.length) (c := b.hs.length) (xs := []) (ys := (shA b).take b.hs.length) 901 [5] rfl rfl sl_26_3_1 zs_3_1 rfl (fun F w hF S => rd_off (l := shA b) (S.get ((hF 5 (by simp)).trans rfl)).1 (rdL_take (by show _ ≤ 6; omega)) (by omega) (Nat.le_refl _)) (by rw [shA_take hn6]; exact oneB_iv _) (by omega) (fun a20 c20 => ?_))
    refine AS.cons (sp_asg rfl ?_)
    refine AS.cons (sp_asg rfl ?_)
    refine AS.nil ?_
    intro _ S
    refine W.ret ?_
    first | exact ret2 rfl rfl rfl S fun w' S' => ⟨_, ⟨none, 0, by rw [hl]; exact Nat.le_refl 0, by rw [hl]; rfl, by rw [hl]; rfl⟩, nilE S'⟩ | exact ret2 rfl rfl rfl S fun w' S' => ⟨_, ⟨a20, c20, by rw [hl, hsl]; have := St.slc_le S' 901 rfl; omega, by show Value.tuple #[.slice a20 (0 + b.hs.length) c20, iv 0] = _; rw [Nat.zero_add, hl, hsl, he], by rw [hl, hsl, ← shA_take hn6]; exact slc_zero_add⟩, S'.only 901⟩
set_option maxHeartbeats 4000000 in
theorem orderP (s : Int) (w : World) (hK : Kinds w) (hH : Hos w ha hc b.hs) (hD : Ints w da dc b.dr) : Ct Tryd.prog 22 #[.agg (sbL b ha hc da dc).toArray, iv s] w (fun u w' => ∃ i, LsE (ordV b s) (ordE b s) u i ∧ St no w w' (upd eL 0 i) []) := by
  refine fn_intro (args := [.agg (sbL b ha hc da dc).toArray, iv s]) Tryd.func22 rfl rfl (by kernel_rfl) ?_
  have S := St.start no w
  refine W.seq (W.region S ?_)
  refine AS.cons (sp_boxa 2 rfl (fun b2 => ?_))
  refine AS.cons (sp_asg rfl ?_)
  refine AS.cons (sp_asg rfl ?_)
  refine AS.nil ?_
  intro _ S
  refine W.seq (W.seq (W.region S ?_))
  refine AS.cons (sp_ldw 2 rfl rfl ag_28_9 ?_)
  refine AS.cons (sp_call [] rfl rfl cf_17 (fun F w _ S => checkP b ha hc da dc w (hK.ext S.mod) (hH.ext S.mod) (hD.ext S.mod)) ?_)
  refine AS.cons (sp_asg (v := .int _ _) rfl ?_)
  refine AS.nil ?_
  intro _ S
  refine W.seq (W.region S ?_)
  refine AS.cons (sp_move (v := .int _ _) rfl ?_)
  refine AS.cons (sp_neq rfl rfl ?_)
  refine AS.nil ?_
  intro _ S
  refine W.condd rfl (fun c10 => ?_) (fun c10 => ?_)
  · skip
    have he : ordE b s = chkV b := by unfold ordE; rw [chk_isn c10, chk_no (chk_isn c10)]; rfl
    have hl : ordV b s = [] := by unfold ordV; rw [he, if_neg c10]
    refine W.seq (W.region S ?_)
    refine AS.cons (sp_move (v := .int _ _) rfl ?_)
    refine AS.cons (sp_asg rfl ?_)
    refine AS.cons (sp_asg (v := .int _ _) rfl ?_)
    refine AS.nil ?_
    intro _ S
    refine W.ret ?_
    first | exact ret2 rfl rfl rfl S fun w' S' => ⟨_, ⟨none, 0, by rw [hl]; exact Nat.le_refl 0, by rw [hl, he]; rfl, by rw [hl]; rfl⟩, nilE S'⟩ | exact ret2 rfl rfl rfl S fun w' S' => ⟨_, ⟨a18, c18, by rw [hl]; exact h18, by rw [hl, he]; rfl, by rw [hl]⟩, by have S2 := (S'.caR_slc (k := 16) (m := m) (T := 3) (F := ordF b) (s := s) (a := a18) (c := c18) (by rw [ordF_len]; rfl)).only 16; rw [upd_same, ordF_len] at S2; exact S2⟩
  · skip
    have hok := chk_is (Decidable.not_not.1 c10)
    have hb := okS_good.1 hok
    have hO := hb.own
    refine W.skip ?_
    refine W.seq (W.seq (W.region S ?_))
    refine AS.cons (sp_move (v := .int _ _) rfl ?_)
    refine AS.cons (sp_call [] rfl rfl cf_65 (fun F w _ S => onF _ _ _ w) ?_)
    refine AS.cons (sp_not rfl ?_)
    refine AS.nil ?_
    intro _ S
    refine W.cond rfl (fun c14 => ?_) (fun c14 => ?_)
    · skip
      have hs : ¬ (0 ≤ s ∧ s ≤ 9999) := fun h => by rw [decide_eq_true h] at c14; cases c14
      have he : ordE b s = 81 := by unfold ordE; rw [if_pos hok, if_neg hs]
      have hl : ordV b s = [] := by unfold ordV; rw [he]; rfl
      refine W.seq (W.region S ?_)
      refine AS.cons (sp_asg rfl ?_)
      refine AS.cons (sp_asg rfl ?_)
      refine AS.nil ?_
      intro _ S
      refine W.ret ?_
      first | exact ret2 rfl rfl rfl S fun w' S' => ⟨_, ⟨none, 0, by rw [hl]; exact Nat.le_refl 0, by rw [hl, he]; rfl, by rw [hl]; rfl⟩, nilE S'⟩ | exact ret2 rfl rfl rfl S fun w' S' => ⟨_, ⟨a18, c18, by rw [hl]; exact h18, by rw [hl, he]; rfl, by rw [hl]⟩, by have S2 := (S'.caR_slc (k := 16) (m := m) (T := 3) (F := ordF b) (s := s) (a := a18) (c := c18) (by rw [ordF_len]; rfl)).only 16; rw [upd_same, ordF_len] at S2; exact S2⟩
    · skip
      have hs : 0 ≤ s ∧ s ≤ 9999 := by simpa using c14
      have he : ordE b s = 0 := by unfold ordE; rw [if_pos hok, if_pos hs]
      have hl : ordV b s = ord b s := by unfold ordV; rw [he]; rfl
      refine W.skip ?_
      refine W.seq (W.region S ?_)
      refine AS.cons (sp_ldw 2 rfl rfl ag_28_9 ?_)
      refine AS.cons (sp_call1 16 [] _ rfl rfl cf_73 (fun F w _ S => openedF _ _ _ _ _ (by assumption) w (hK.ext S.mod) (hH.ext S.mod)) ?_ (by simp))
      rintro v16 i16 ⟨m, rfl, rfl⟩
      refine AS.cons (sp_move (v := .int _ _) rfl ?_)
      refine AS.cons (sp_callP 16 0 [] _ rfl rfl cf_74 (fun F w hF S Bp S' => orderF b ha hc da dc hb m s (by omega) Bp w S') ?_ (by simp))
      rintro v18 i18 ⟨⟨a18, c18, rfl, h18⟩, rfl⟩
      refine AS.cons (sp_asg rfl ?_)
      refine AS.cons (sp_asg rfl ?_)
      refine AS.nil ?_
      intro _ S
      refine W.ret ?_
      first | exact ret2 rfl rfl rfl S fun w' S' => ⟨_, ⟨none, 0, by rw [hl]; exact Nat.le_refl 0, by rw [hl, he]; rfl, by rw [hl]; rfl⟩, nilE S'⟩ | exact ret2 rfl rfl rfl S fun w' S' => ⟨_, ⟨a18, c18, by rw [hl]; exact h18, by rw [hl, he]; rfl, by rw [hl]⟩, by have S2 := (S'.caR_slc (k := 16) (m := m) (T := 3) (F := ordF b) (s := s) (a := a18) (c := c18) (by rw [ordF_len]; rfl)).only 16; rw [upd_same, ordF_len] at S2; exact S2⟩
end
end Go.Proofs.YtajocmkgdjcmkaaDoor

/-
  The program's answers: between what a holder is paid.
-/
namespace Go.Proofs.YtajocmkgdjcmkaaDoor
set_option maxRecDepth 100000
open Go.Hu Go.RowKit
section
variable (b : Sb) (ha : Option Addr) (hc : Nat) (da : Option Addr) (dc : Nat)
theorem cs_rd {B : Nat → Prop} {w0 w : World} {L : Nat → HP} {Ds : List Nat} (S : St B w0 w L Ds) {k : Nat} {p : HP} {v : Value} {n : Nat} {l : List Int} (h : L k = sep p (slc 3 1 v n (l.map iv))) (hn : n ≤ 9223372036854775807) : Rd w v n 1 (l.map iv) := by
  have S2 := S.unfold (k := k) (k' := k + 1) (by omega) h
  exact S2.slc_rd (k := k + 1) (upd_same _ _ _) hn
theorem payLo_nil {b : Sb} {k : Int} (h : ¬ payE b k = 0) : payLoV b k = 0 ∧ payHiV b k = 0 := ⟨by unfold payLoV; rw [if_neg h], by unfold payHiV; rw [if_neg h]⟩
set_option maxHeartbeats 8000000 in
theorem paysP (k : Int) (w : World) (hK : Kinds w) (hH : Hos w ha hc b.hs) (hD : Ints w da dc b.dr) : Ct Tryd.prog 27 #[.agg (sbL b ha hc da dc).toArray, iv k] w (fun u w' => u = .tuple #[.agg (spL (payLoV b k) (payHiV b k)).toArray, iv (payE b k)] ∧ Ext w w') := by
  refine fn_intro (args := [.agg (sbL b ha hc da dc).toArray, iv k]) Tryd.func27 rfl rfl (by kernel_rfl) ?_
  have S := St.start no w
  have hhn : b.hs.length ≤ 9223372036854775807 := hH.2.1
  by_cases he : payE b k = 0
  · obtain ⟨hb, hkb, hne⟩ := ask_is he
    have hlo : payLoV b k = payLo b k.toNat := by unfold payLoV; rw [if_pos he]
    have hhi : payHiV b k = payHi b k.toNat := by unfold payHiV; rw [if_pos he]
    have hkk := hkb
    unfold holdB at hkb
    rw [decide_eq_true_eq] at hkb
    obtain ⟨kn, rfl⟩ : ∃ kn : Nat, k = kn := ⟨k.toNat, by omega⟩
    have hkn : kn < b.hs.length := by omega
    rw [Int.toNat_natCast] at hlo hhi
    have hl51 := sdL_51 hb []
    obtain ⟨⟨m1, m2⟩, m3, m4⟩ := hb.mo
    have hN := mnN_is hb
    have hn6 := hb.n6
    have hcm : ∀ {s : Int} (x : Int) {v : Value}, v = iv (payK b s x kn) → ((payL b s x).map iv)[((kn : Int)).toNat * 1]? = some v := fun {s} x {v} hv => by rw [Nat.mul_one, List.getElem?_map, Int.toNat_natCast, payL_at hkn, hv]; rfl
    refine W.seq (W.region S ?_)
    refine AS.cons (sp_boxa 2 rfl (fun b2 => ?_))
    refine AS.cons (sp_alloc 4 zv_25 rfl (fun b4 => ?_))
    refine AS.cons (sp_asg rfl ?_)
    refine AS.nil ?_
    intro _ S
    refine W.seq (W.draw S mixed (fun i => ([KD.q [2], KD.q [], KD.q [], KD.q [2], KD.q [], KD.q [], KD.e [] [], KD.e [] [22], KD.q [], KD.q [], KD.q [], KD.q [], KD.a 6, KD.e [6] [6], KD.q [], KD.q []] : List KD)[i]?) [] [0, 1, 2, 3, 4, 5, 6, 7, 8, 9, 10, 11, 12, 13, 14, 15] (by kernel_rfl) ?_)
    refine AW.cons rfl rfl (sp_ldw 2 rfl rfl ag_28_9 ?_)
    refine AW.cons rfl rfl (sp_move (v := .int _ _) rfl ?_)
    refine AW.cons rfl rfl (sp_fa rfl fo_28_1_3 ?_)
    refine AW.cons rfl rfl (sp_ld 2 rfl rfl sc_23 rfl ?_)
    refine AW.cons rfl rfl (sp_len rfl sl_23_75_3 ?_)
    refine AW.cons rfl rfl (sp_sub rfl rfl (by first | omega | (simp only [decide_eq_true_eq, decide_eq_false_iff_not] at *; omega)) ?_)
    refine AW.cons rfl rfl (sp_call [] rfl rfl cf_65 (fun F w _ S => onF _ _ _ w) ?_)
    refine AW.cons rfl rfl (sp_call1 22 [] _ rfl rfl cf_63 (fun F w _ S => askG he w (hK.ext S.mod) (hH.ext S.mod) (hD.ext S.mod)) ?_ (fun _ => AskR.ne b ha hc da dc))
    rintro v22 i22 ⟨m, lv, rfl, j22, ⟨⟨a22, c22, rfl, h22⟩, rfl⟩, rfl⟩
    refine AW.cons rfl rfl (sp_move rfl ?_)
    refine AW.cons rfl rfl (sp_ext rfl rfl ?_)
    refine AW.cons rfl rfl (sp_ext rfl rfl ?_)
    refine AW.cons rfl rfl (sp_ext rfl rfl ?_)
    refine AW.cons rfl rfl (sp_alloc 6 zv_81 rfl (fun b6 => ?_))
    refine AW.cons rfl rfl (sp_st 6 rfl rfl rfl rfl sz_81_16 rfl rfl ?_)
    refine AW.cons rfl rfl (sp_asg rfl ?_)
    refine AW.cons rfl rfl (sp_asg (v := .int _ _) rfl ?_)
    refine AW.nil ?_
    intro _ S
    have S := S.unfold (k := 22) (k' := 902) (by decide) rfl
    refine W.seq (W.seq (W.region S ?_))
    refine AS.cons (sp_move (v := .int _ _) rfl ?_)
    refine AS.cons (sp_neq rfl rfl ?_)
    refine AS.nil ?_
    intro _ S
    refine W.condd rfl (fun c27 => ?_) (fun c27 => ?_)
    · exact absurd c27 (by decide)
    · skip
      refine W.skip ?_
      refine W.seq (W.region S ?_)
      refine AS.cons (sp_build [iv 9999, iv 0] (by kernel_rfl) ?_)
      refine AS.cons (sp_alloc 9 zv_25 rfl (fun b9 => ?_))
      refine AS.cons (sp_st 9 rfl rfl rfl rfl sz_25_2 rfl rfl ?_)
      refine AS.nil ?_
      intro _ S
      refine W.seq (W.seq (W.region S ?_))
      refine AS.cons (sp_move rfl ?_)
      refine AS.cons (sp_len rfl sl_26_3_1 ?_)
      refine AS.cons (sp_move rfl ?_)
      refine AS.nil ?_
      intro _ S
      refine W.block ?_
      refine W.loopS S [11, 12, 13, 33, 34, 35, 36, 37, 38, 39, 40, 41, 42, 43, 44, 45, 46, 47, 48, 49, 50, 51, 52, 53, 54, 55, 56, 57, 58, 59, 60, 61, 62, 63, 64, 65, 66, 67, 68, 69] [9, 22, 603] (fun (i : Nat) => [(33, iv i)]) (fun i => [(9, pt b9 (.cells [iv (fldS min (payF b kn) (mnN b) 9999 ((sdL b []).take i)), iv (fldS max (payF b kn) (mnN b) 0 ((sdL b []).take i))].toArray 25 (0, 0))), (22, CaP 3 (ordF b) m)]) (fun i => i ≤ (sdL b []).length) (fun i => (sdL b []).length - i) 0 (by omega) ⟨rfl, trivial⟩ ⟨rfl, rfl, trivial⟩ ?_
      rintro i σ M w1 hi S
      refine W.seq (W.region S ?_)
      refine AS.cons (sp_lss rfl rfl ?_)
      refine AS.nil ?_
      intro _ S
      refine W.seq (W.condd rfl (fun c34 => ?_) (fun c34 => ?_))
      · skip
        have hlt : i < (sdL b []).length := by omega
        obtain ⟨s, hs⟩ := get_some hlt
        have hsb2 := sd_bd hb (List.mem_of_getElem? hs)
        obtain ⟨lo, hlod⟩ : ∃ lo, lo = fldS min (payF b kn) (mnN b) 9999 ((sdL b []).take i) := ⟨_, rfl⟩
        obtain ⟨hi2, hhid⟩ : ∃ hi2, hi2 = fldS max (payF b kn) (mnN b) 0 ((sdL b []).take i) := ⟨_, rfl⟩
        rw [← hlod, ← hhid] at S
        refine W.skip ?_
        refine W.seq (W.block ?_)
        refine W.seq (W.region S ?_)
        refine AS.cons (sp_iaS 902 rfl rfl rfl sl_26_3_1 (by omega) ?_)
        refine AS.cons (sp_ldS 902 rfl rfl sc_3 (v := iv s) (by simp [hs]) (by omega) ?_)
        refine AS.cons (sp_asg (v := .int _ _) rfl ?_)
        refine AS.nil ?_
        intro _ S
        refine W.seq (W.region S ?_)
        refine AS.cons (sp_fa rfl fo_28_2_4 ?_)
        refine AS.cons (sp_fa rfl fo_25_1_1 ?_)
        refine AS.cons (sp_ld 2 rfl rfl sc_3 rfl ?_)
        refine AS.cons (sp_fa rfl fo_28_2_4 ?_)
        refine AS.cons (sp_fa rfl fo_25_0_0 ?_)
        refine AS.cons (sp_ld 2 rfl rfl sc_3 rfl ?_)
        refine AS.cons (sp_sub rfl rfl (by first | omega | (simp only [decide_eq_true_eq, decide_eq_false_iff_not] at *; omega)) ?_)
        refine AS.cons (sp_add rfl rfl (by first | omega | (simp only [decide_eq_true_eq, decide_eq_false_iff_not] at *; omega)) ?_)
        refine AS.cons (sp_move rfl ?_)
        refine AS.nil ?_
        intro _ S
        refine W.block ?_
        refine W.loopS S [12, 13, 45, 46, 47, 48, 49, 50, 51, 52, 53, 54, 55, 56, 57, 58, 59, 60, 61, 62, 63, 64, 65, 66, 67, 68] [9, 22, 603] (fun (j : Nat) => [(45, iv j)]) (fun j => [(9, pt b9 (.cells [iv (fldU min (payF b kn s) lo j), iv (fldU max (payF b kn s) hi2 j)].toArray 25 (0, 0))), (22, CaP 3 (ordF b) m)]) (fun j => j ≤ mnN b) (fun j => mnN b - j) 0 (by omega) ⟨rfl, trivial⟩ ⟨by rw [hlod, hhid]; rfl, rfl, trivial⟩ ?_
        rintro j σ2 M2 w2 hj S
        refine W.seq (W.region S ?_)
        refine AS.cons (sp_lss rfl rfl ?_)
        refine AS.nil ?_
        intro _ S
        refine W.seq (W.condd rfl (fun c46 => ?_) (fun c46 => ?_))
        · skip
          have hlt2 : j < mnN b := by omega
          refine W.skip ?_
          refine W.seq (W.block ?_)
          refine W.seq (W.region S ?_)
          refine AS.cons (sp_move (v := .int _ _) rfl ?_)
          refine AS.cons (sp_asg (v := .int _ _) rfl ?_)
          refine AS.nil ?_
          intro _ S
          refine W.seq (W.region S ?_)
          refine AS.cons (sp_ldw 6 rfl rfl ag_81_16 ?_)
          refine AS.cons (sp_move (v := .int _ _) rfl ?_)
          refine AS.cons (sp_fa rfl fo_28_2_4 ?_)
          refine AS.cons (sp_fa rfl fo_25_0_0 ?_)
          refine AS.cons (sp_ld 2 rfl rfl sc_3 rfl ?_)
          refine AS.cons (sp_move (v := .int _ _) rfl ?_)
          refine AS.cons (sp_add rfl rfl (by first | omega | (simp only [decide_eq_true_eq, decide_eq_false_iff_not] at *; omega)) ?_)
          refine AS.cons (sp_callP 22 0 [] (CsR b m (payL b s (b.m0 + (j : Int)))) rfl rfl cf_76 (fun F w hF S Bp S' => paysF b ha hc da dc hb m s (b.m0 + (j : Int)) (by omega) (by omega) Bp w S') ?_ (by simp))
          rintro v55 i55 ⟨j55, ⟨⟨a55, c55, rfl, h55⟩, rfl⟩, rfl⟩
          refine AS.cons (sp_move (v := .int _ _) rfl ?_)
          refine AS.cons (sp_iaK (s := 1) [22] (fun F w hF S => cs_rd S ((hF 22 (by simp)).trans rfl) (by rw [payL_len]; omega)) rfl rfl sl_26_3_1 (by rw [payL_len]; omega) ?_)
          refine AS.cons (sp_ldK (s := 1) (v := iv (payF b kn s j)) [22] (fun F w hF S => cs_rd S ((hF 22 (by simp)).trans rfl) (by rw [payL_len]; omega)) rfl sc_3 (hcm (b.m0 + (j : Int)) rfl) (by rw [payL_len]; omega) ?_)
          refine AS.cons (sp_asg (v := .int _ _) rfl ?_)
          refine AS.nil ?_
          intro _ S
          have S := S.unfold (k := 22) (k' := 603) (by decide) rfl
          refine W.region S ?_
          refine AS.cons (sp_fa rfl fo_25_0_0 ?_)
          refine AS.cons (sp_ld 9 rfl rfl sc_3 rfl ?_)
          refine AS.cons (sp_move (v := .int _ _) rfl ?_)
          refine AS.cons (sp_min rfl rfl ?_)
          refine AS.cons (sp_fa rfl fo_25_1_1 ?_)
          refine AS.cons (sp_ld 9 rfl rfl sc_3 rfl ?_)
          refine AS.cons (sp_move (v := .int _ _) rfl ?_)
          refine AS.cons (sp_max rfl rfl ?_)
          refine AS.cons (sp_build [iv (min (fldU min (payF b kn s) lo j) (payF b kn s j)), iv (max (fldU max (payF b kn s) hi2 j) (payF b kn s j))] (by kernel_rfl) ?_)
          refine AS.cons (sp_st 9 rfl rfl rfl rfl sz_25_2 rfl rfl ?_)
          refine AS.nil ?_
          intro _ S
          refine W.region S ?_
          refine AS.cons (sp_add rfl rfl (by first | omega | (simp only [decide_eq_true_eq, decide_eq_false_iff_not] at *; omega)) ?_)
          refine AS.cons (sp_move (v := .int _ _) rfl ?_)
          refine AS.nil ?_
          intro _ S
          exact ⟨j + 1, _, by omega, by omega, ⟨by simp [upd], trivial⟩, ⟨rfl, rfl, trivial⟩, by repeat (first | exact Agr.refl _ _ | exact Agr.msk _ _ _ | refine Agr.upd ?_ _ rfl | refine Agr.upds ?_ rfl | refine Agr.mskIn ?_ rfl), by repeat (first | exact Agr.refl _ _ | exact Agr.msk _ _ _ | refine Agr.upd ?_ _ rfl | refine Agr.upds ?_ rfl | refine Agr.mskIn ?_ rfl), rfl, S⟩
        · skip
          obtain rfl : j = mnN b := by omega
          refine W.exit ?_
          refine W.region S ?_
          refine AS.cons (sp_add rfl rfl (by first | omega | (simp only [decide_eq_true_eq, decide_eq_false_iff_not] at *; omega)) ?_)
          refine AS.cons (sp_move (v := .int _ _) rfl ?_)
          refine AS.nil ?_
          intro _ S
          exact ⟨i + 1, _, by omega, by omega, ⟨by simp [upd], trivial⟩, ⟨by rw [fldS_at hs, fldS_at hs, ← hlod, ← hhid]; rfl, rfl, trivial⟩, by repeat (first | exact Agr.refl _ _ | exact Agr.msk _ _ _ | refine Agr.upd ?_ _ rfl | refine Agr.upds ?_ rfl | refine Agr.mskIn ?_ rfl), by repeat (first | exact Agr.refl _ _ | exact Agr.msk _ _ _ | refine Agr.upd ?_ _ rfl | refine Agr.upds ?_ rfl | refine Agr.mskIn ?_ rfl), rfl, S⟩
      · skip
        obtain rfl : i = (sdL b []).length := by omega
        rw [List.take_length] at S
        refine W.exit ?_
        refine W.seq (W.region S ?_)
        refine AS.cons (sp_ldw 9 rfl rfl ag_25_2 ?_)
        refine AS.cons (sp_st 4 rfl rfl rfl rfl sz_25_2 rfl rfl ?_)
        refine AS.cons (sp_asg rfl ?_)
        refine AS.nil ?_
        intro _ S
        refine W.ret ?_
        exact retct 4 ag_25_2 rfl rfl rfl rfl rfl rfl S fun w' S' => ⟨by rw [hlo, hhi, he]; rfl, S'.mod⟩
  · have hB := @askB b ha hc da dc (holdB b k) he
    obtain ⟨hlo, hhi⟩ := payLo_nil he
    obtain ⟨e, hee⟩ : ∃ e, payE b k = e := ⟨_, rfl⟩
    have hee2 : askV b (holdB b k) = e := hee
    rw [hee2] at hB
    rw [hee] at he ⊢
    refine W.seq (W.region S ?_)
    refine AS.cons (sp_boxa 2 rfl (fun b2 => ?_))
    refine AS.cons (sp_alloc 4 zv_25 rfl (fun b4 => ?_))
    refine AS.cons (sp_asg rfl ?_)
    refine AS.nil ?_
    intro _ S
    refine W.seq (W.draw S mixed (fun i => ([KD.q [2], KD.q [], KD.q [], KD.q [2], KD.q [], KD.q [], KD.e [] [], KD.e [] [22], KD.q [], KD.q [], KD.q [], KD.q [], KD.a 6, KD.e [6] [6], KD.q [], KD.q []] : List KD)[i]?) [] [0, 1, 2, 3, 4, 5, 6, 7, 8, 9, 10, 11, 12, 13, 14, 15] (by kernel_rfl) ?_)
    refine AW.cons rfl rfl (sp_ldw 2 rfl rfl ag_28_9 ?_)
    refine AW.cons rfl rfl (sp_move (v := .int _ _) rfl ?_)
    refine AW.cons rfl rfl (sp_fa rfl fo_28_1_3 ?_)
    refine AW.cons rfl rfl (sp_ld 2 rfl rfl sc_23 rfl ?_)
    refine AW.cons rfl rfl (sp_len rfl sl_23_75_3 ?_)
    refine AW.cons rfl rfl (sp_sub rfl rfl (by first | omega | (simp only [decide_eq_true_eq, decide_eq_false_iff_not] at *; omega)) ?_)
    refine AW.cons rfl rfl (sp_call [] rfl rfl cf_65 (fun F w _ S => onF _ _ _ w) ?_)
    refine AW.cons rfl rfl (sp_call1 22 [] (fun u _ => AskN e u) rfl rfl cf_63 (fun F w _ S => hB w (hK.ext S.mod) (hH.ext S.mod) (hD.ext S.mod)) ?_ (fun _ => AskN.ne e))
    rintro v22 i22 ⟨cs, hcl, hc1, rfl⟩
    refine AW.cons rfl rfl (sp_move rfl ?_)
    refine AW.cons rfl rfl (sp_ext rfl rfl ?_)
    refine AW.cons rfl rfl (sp_ext rfl rfl ?_)
    refine AW.cons rfl rfl (sp_ext rfl rfl ?_)
    refine AW.cons rfl rfl (sp_alloc 6 zv_81 rfl (fun b6 => ?_))
    refine AW.cons rfl rfl (sp_stw 6 sz_81_16 rfl rfl rfl rfl hcl rfl hc1 ?_)
    refine AW.cons rfl rfl (sp_asg rfl ?_)
    refine AW.cons rfl rfl (sp_asg (v := .int _ _) rfl ?_)
    refine AW.nil ?_
    intro _ S
    refine W.seq (W.seq (W.region S ?_))
    refine AS.cons (sp_move (v := .int _ _) rfl ?_)
    refine AS.cons (sp_neq rfl rfl ?_)
    refine AS.nil ?_
    intro _ S
    refine W.condd rfl (fun c27 => ?_) (fun c27 => ?_)
    · skip
      refine W.seq (W.region S ?_)
      refine AS.cons (sp_build [iv 0, iv 0] (by kernel_rfl) ?_)
      refine AS.cons (sp_move (v := .int _ _) rfl ?_)
      refine AS.cons (sp_st 4 rfl rfl rfl rfl sz_25_2 rfl rfl ?_)
      refine AS.cons (sp_asg (v := .int _ _) rfl ?_)
      refine AS.nil ?_
      intro _ S
      refine W.ret ?_
      exact retct 4 ag_25_2 rfl rfl rfl rfl rfl rfl S fun w' S' => ⟨by rw [hlo, hhi]; rfl, S'.mod⟩
    · exact absurd he c27
end
end Go.Proofs.YtajocmkgdjcmkaaDoor
