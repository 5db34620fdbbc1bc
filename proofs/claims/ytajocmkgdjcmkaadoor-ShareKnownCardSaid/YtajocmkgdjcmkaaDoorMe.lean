/-
  Lemmas of this proof, several texts one behind the other; no condition beyond what each says.
-/
import Derived.Test.YtajocmkgdjcmkaaDoorMd
import Derived.Test.YtajocmkgdjcmkaaDoorMb
import Derived.Test.YtajocmkgdjcmkaaDoorMc
import Derived.Test.YtajocmkgdjcmkaaDoorRows
import Derived.ProofKit
import Derived.LaidMore
import Derived.Stop.Joined
import Derived.OpenShut
import Derived.Deep.Slices
/-
  The program's answers: whether all can be paid just so.
-/
namespace Go.Proofs.YtajocmkgdjcmkaaDoor
set_option maxRecDepth 100000
open Go.Hu Go.RowKit
section
variable (b : Sb) (ha : Option Addr) (hc : Nat) (da : Option Addr) (dc : Nat)
theorem belowF (n : Int) (w : World) : Ct Tryd.prog 79 #[iv n] w (fun v w' => v = .bool (decide (n < 0)) ∧ Ext w w') := by
  refine fn_intro (args := [iv n]) Tryd.func79 rfl rfl (by kernel_rfl) ?_
  have S := St.start no w
  refine W.seq (W.region S ?_)
  refine AS.cons (sp_asg rfl ?_)
  refine AS.nil ?_
  intro _ S
  refine W.seq (W.region S ?_)
  refine AS.cons (sp_move (v := .int _ _) rfl ?_)
  refine AS.cons (sp_lss rfl rfl ?_)
  refine AS.cons (sp_asg (v := .bool _) rfl ?_)
  refine AS.nil ?_
  intro _ S
  refine W.ret ?_
  exact ret1 rfl rfl S fun w' S' => ⟨rfl, S'.mod⟩
/-- The first number below 0. -/
def ngI (l : List Int) : Int := if l.all (fun x => decide (0 ≤ x)) = true then -1 else (l.findIdx (fun x => decide (x < 0)) : Int)
theorem ngI_at {l : List Int} {j : Nat} {x : Int} (hx : l[j]? = some x) (hn : x < 0) (h : ∀ i y, i < j → l[i]? = some y → 0 ≤ y) : ngI l = j := by
  have hj : j < l.length := (List.getElem?_eq_some_iff.1 hx).1
  unfold ngI
  rw [if_neg (fun ha => by have := List.all_eq_true.1 ha x (List.mem_of_getElem? hx); simp at this; omega)]
  congr 1
  rw [List.findIdx_eq hj]
  refine ⟨?_, fun i hi => ?_⟩
  · have : l[j] = x := by rw [List.getElem?_eq_getElem hj] at hx; exact Option.some.inj hx
    rw [this]; exact decide_eq_true hn
  · have hi' : i < l.length := by omega
    have := h i _ hi (List.getElem?_eq_getElem hi')
    simp only [decide_eq_false_iff_not]; omega
theorem ngI_none {l : List Int} (h : ∀ i y, i < l.length → l[i]? = some y → 0 ≤ y) : ngI l = -1 := by
  unfold ngI
  rw [if_pos]
  rw [List.all_eq_true]
  intro x hx
  obtain ⟨i, hi, rfl⟩ := List.mem_iff_getElem.1 hx
  exact decide_eq_true (h i _ hi (List.getElem?_eq_getElem hi))
theorem ngI_pos (l : List Int) : (!decide (0 ≤ ngI l)) = l.all fun x => decide (0 ≤ x) := by
  unfold ngI
  cases h : l.all fun x => decide (0 ≤ x)
  · rw [if_neg (by simp)]; simp
  · rw [if_pos rfl]; rfl
theorem indexFF (la : Option Addr) (lc : Nat) (l : List Int) (hn : l.length ≤ 9223372036854775807) (w : World) (hl : Ints w la lc l) : Ct Tryd.prog 94 #[.slice la l.length lc, .func (.func 79) #[] #[]] w (fun u w' => u = iv (ngI l) ∧ Ext w w') := by
  refine fn_intro (args := [.slice la l.length lc, .func (.func 79) #[] #[]]) Tryd.func94 rfl rfl (by kernel_rfl) ?_
  have S := St.start no w
  refine W.seq (W.region S ?_)
  refine AS.cons (sp_asg rfl ?_)
  refine AS.nil ?_
  intro _ S
  refine W.seq (W.seq (W.region S ?_))
  refine AS.cons (sp_move rfl ?_)
  refine AS.cons (sp_len rfl sl_26_3_1 ?_)
  refine AS.cons (sp_move rfl ?_)
  refine AS.nil ?_
  intro _ S
  refine W.block ?_
  refine W.loopS S [4, 5, 8, 9, 10, 11, 12, 13, 14, 15, 16, 17, 18] [] (fun (j : Nat) => [(8, iv j)]) (fun _ => []) (fun j => j ≤ l.length ∧ ∀ i y, i < j → l[i]? = some y → 0 ≤ y) (fun j => l.length - j) 0 ⟨by omega, fun i y hi => absurd hi (by omega)⟩ ⟨rfl, trivial⟩ trivial ?_
  rintro j σ M w ⟨hj, hnn⟩ S
  refine W.seq (W.region S ?_)
  refine AS.cons (sp_lss rfl rfl ?_)
  refine AS.nil ?_
  intro _ S
  refine W.seq (W.condd rfl (fun c9 => ?_) (fun c9 => ?_))
  · skip
    have hlt : j < l.length := by omega
    obtain ⟨x, hx⟩ := get_some hlt
    refine W.skip ?_
    refine W.seq (W.block ?_)
    refine W.seq (W.region S ?_)
    refine AS.cons (sp_move (v := .int _ _) rfl ?_)
    refine AS.cons (sp_asg (v := .int _ _) rfl ?_)
    refine AS.nil ?_
    intro _ S
    refine W.seq (W.region S ?_)
    refine AS.cons (sp_move rfl ?_)
    refine AS.cons (sp_move rfl ?_)
    refine AS.cons (sp_move (v := .int _ _) rfl ?_)
    refine AS.cons (sp_iaR hl rfl rfl sl_26_3_1 (by first | omega | (simp only [decide_eq_true_eq, decide_eq_false_iff_not] at *; omega)) ?_)
    refine AS.cons (sp_ldR 0 hl (fun _ h => h) rfl sc_3 (ints_at hx) (by first | omega | (simp only [decide_eq_true_eq, decide_eq_false_iff_not] at *; omega)) ?_)
    refine AS.cons (sp_call [] rfl rfl cf_79 (fun F w _ S => belowF x w) ?_)
    refine AS.nil ?_
    intro _ S
    refine W.cond rfl (fun c16 => ?_) (fun c16 => ?_)
    · skip
      have he := ngI_at hx (of_decide_eq_true c16) hnn
      refine W.seq (W.region S ?_)
      refine AS.cons (sp_move (v := .int _ _) rfl ?_)
      refine AS.cons (sp_asg (v := .int _ _) rfl ?_)
      refine AS.nil ?_
      intro _ S
      refine W.ret ?_
      exact ret1 rfl rfl S fun w' S' => ⟨by rw [he]; rfl, S'.mod⟩
    · skip
      have he := of_decide_eq_false c16
      refine W.skip ?_
      refine W.region S ?_
      refine AS.cons (sp_add rfl rfl (by first | omega | (simp only [decide_eq_true_eq, decide_eq_false_iff_not] at *; omega)) ?_)
      refine AS.cons (sp_move (v := .int _ _) rfl ?_)
      refine AS.nil ?_
      intro _ S
      exact ⟨j + 1, _, ⟨by omega, fun i y hi hy => by rcases Nat.lt_or_eq_of_le (Nat.le_of_lt_succ hi) with h | rfl; exact hnn i y h hy; rw [hx] at hy; cases hy; omega⟩, by omega, ⟨by simp [upd], trivial⟩, trivial, by repeat (first | exact Agr.refl _ _ | exact Agr.msk _ _ _ | refine Agr.upd ?_ _ rfl | refine Agr.upds ?_ rfl | refine Agr.mskIn ?_ rfl), by repeat (first | exact Agr.refl _ _ | exact Agr.msk _ _ _ | refine Agr.upd ?_ _ rfl | refine Agr.upds ?_ rfl | refine Agr.mskIn ?_ rfl), rfl, S⟩
  · skip
    obtain rfl : j = l.length := by omega
    have he := ngI_none hnn
    refine W.exit ?_
    refine W.seq (W.region S ?_)
    refine AS.cons (sp_asg rfl ?_)
    refine AS.nil ?_
    intro _ S
    refine W.ret ?_
    exact ret1 rfl rfl S fun w' S' => ⟨by rw [he]; rfl, S'.mod⟩
theorem containsFF (la : Option Addr) (lc : Nat) (l : List Int) (hn : l.length ≤ 9223372036854775807) (w : World) (hl : Ints w la lc l) : Ct Tryd.prog 80 #[.slice la l.length lc, .func (.func 79) #[] #[]] w (fun u w' => u = .bool (decide (0 ≤ ngI l)) ∧ Ext w w') := by
  refine fn_intro (args := [.slice la l.length lc, .func (.func 79) #[] #[]]) Tryd.func80 rfl rfl (by kernel_rfl) ?_
  have S := St.start no w
  refine W.seq (W.region S ?_)
  refine AS.cons (sp_asg rfl ?_)
  refine AS.nil ?_
  intro _ S
  refine W.seq (W.region S ?_)
  refine AS.cons (sp_move rfl ?_)
  refine AS.cons (sp_move rfl ?_)
  refine AS.cons (sp_call [] rfl rfl cf_94 (fun F w _ S => indexFF la lc l hn w (hl.ext S.mod)) ?_)
  refine AS.cons (sp_geq rfl rfl ?_)
  refine AS.cons (sp_asg (v := .bool _) rfl ?_)
  refine AS.nil ?_
  intro _ S
  refine W.ret ?_
  exact ret1 rfl rfl S fun w' S' => ⟨rfl, S'.mod⟩
theorem equalSF (la : Option Addr) (lc : Nat) (l : List Int) (ma : Option Addr) (mc : Nat) (m : List Int) (w : World) (hl : Ints w la lc l) (hm : Ints w ma mc m) : Ct Tryd.prog 81 #[.slice la l.length lc, .slice ma m.length mc] w (fun u w' => u = .bool (decide (l = m)) ∧ Ext w w') := by
  refine fn_intro (args := [.slice la l.length lc, .slice ma m.length mc]) Tryd.func81 rfl rfl (by kernel_rfl) ?_
  have S := St.start no w
  have hln : l.length ≤ 9223372036854775807 := hl.2.1
  refine W.seq (W.region S ?_)
  refine AS.cons (sp_asg rfl ?_)
  refine AS.nil ?_
  intro _ S
  refine W.seq (W.seq (W.region S ?_))
  refine AS.cons (sp_move rfl ?_)
  refine AS.cons (sp_len rfl sl_26_3_1 ?_)
  refine AS.cons (sp_move rfl ?_)
  refine AS.cons (sp_len rfl sl_26_3_1 ?_)
  refine AS.cons (sp_neq rfl rfl ?_)
  refine AS.nil ?_
  intro _ S
  refine W.condd rfl (fun c10 => ?_) (fun c10 => ?_)
  · skip
    have hv : decide (l = m) = false := decide_eq_false fun h => c10 (by rw [h])
    refine W.seq (W.region S ?_)
    refine AS.cons (sp_asg rfl ?_)
    refine AS.nil ?_
    intro _ S
    refine W.ret ?_
    exact ret1 rfl rfl S fun w' S' => ⟨by rw [hv]; rfl, S'.mod⟩
  · skip
    have hlm : l.length = m.length := by omega
    refine W.skip ?_
    refine W.seq (W.seq (W.region S ?_))
    refine AS.cons (sp_move rfl ?_)
    refine AS.cons (sp_len rfl sl_26_3_1 ?_)
    refine AS.cons (sp_move rfl ?_)
    refine AS.nil ?_
    intro _ S
    refine W.block ?_
    refine W.loopS S [4, 5, 13, 14, 15, 16, 17, 18, 19, 20, 21, 22, 23, 24, 25] [] (fun (j : Nat) => [(13, iv j)]) (fun _ => []) (fun j => j ≤ l.length ∧ ∀ i, i < j → l[i]? = m[i]?) (fun j => l.length - j) 0 ⟨by omega, fun i hi => absurd hi (by omega)⟩ ⟨rfl, trivial⟩ trivial ?_
    rintro j σ M w1 ⟨hj, hag⟩ S
    refine W.seq (W.region S ?_)
    refine AS.cons (sp_lss rfl rfl ?_)
    refine AS.nil ?_
    intro _ S
    refine W.seq (W.condd rfl (fun c14 => ?_) (fun c14 => ?_))
    · skip
      have hlt : j < l.length := by omega
      obtain ⟨x, hx⟩ := get_some hlt
      obtain ⟨y, hy⟩ := get_some (l := m) (j := j) (by omega)
      refine W.skip ?_
      refine W.seq (W.block ?_)
      refine W.seq (W.region S ?_)
      refine AS.cons (sp_move (v := .int _ _) rfl ?_)
      refine AS.cons (sp_asg (v := .int _ _) rfl ?_)
      refine AS.nil ?_
      intro _ S
      refine W.seq (W.draw S mixed (fun i => ([KD.q [], KD.q [], KD.q [], KD.q [], KD.q [], KD.q [], KD.q [], KD.q [], KD.q []] : List KD)[i]?) [] [0, 1, 2, 3, 4, 5, 6, 7, 8] (by kernel_rfl) ?_)
      refine AW.cons rfl rfl (sp_move rfl ?_)
      refine AW.cons rfl rfl (sp_move (v := .int _ _) rfl ?_)
      refine AW.cons rfl rfl (sp_iaR hl rfl rfl sl_26_3_1 (by omega) ?_)
      refine AW.cons rfl rfl (sp_ldR 0 hl (fun _ h => h) rfl sc_3 (ints_at hx) (by omega) ?_)
      refine AW.cons rfl rfl (sp_move rfl ?_)
      refine AW.cons rfl rfl (sp_move (v := .int _ _) rfl ?_)
      refine AW.cons rfl rfl (sp_iaR hm rfl rfl sl_26_3_1 (by omega) ?_)
      refine AW.cons rfl rfl (sp_ldR 0 hm (fun _ h => h) rfl sc_3 (ints_at hy) (by omega) ?_)
      refine AW.cons rfl rfl (sp_neq rfl rfl ?_)
      refine AW.nil ?_
      intro _ S
      refine W.condd rfl (fun c24 => ?_) (fun c24 => ?_)
      · skip
        have hv : decide (l = m) = false := decide_eq_false fun h => c24 (by rw [h] at hx; rw [hx] at hy; exact Option.some.inj hy)
        refine W.seq (W.region S ?_)
        refine AS.cons (sp_asg rfl ?_)
        refine AS.nil ?_
        intro _ S
        refine W.ret ?_
        exact ret1 rfl rfl S fun w' S' => ⟨by rw [hv]; rfl, S'.mod⟩
      · skip
        have hxy : x = y := Decidable.not_not.1 c24
        refine W.skip ?_
        refine W.region S ?_
        refine AS.cons (sp_add rfl rfl (by first | omega | (simp only [decide_eq_true_eq, decide_eq_false_iff_not] at *; omega)) ?_)
        refine AS.cons (sp_move (v := .int _ _) rfl ?_)
        refine AS.nil ?_
        intro _ S
        exact ⟨j + 1, _, ⟨by omega, snoc_lt hag (by rw [hx, hy, hxy])⟩, by omega, ⟨by simp [upd], trivial⟩, trivial, by repeat (first | exact Agr.refl _ _ | exact Agr.msk _ _ _ | refine Agr.upd ?_ _ rfl | refine Agr.upds ?_ rfl | refine Agr.mskIn ?_ rfl), by repeat (first | exact Agr.refl _ _ | exact Agr.msk _ _ _ | refine Agr.upd ?_ _ rfl | refine Agr.upds ?_ rfl | refine Agr.mskIn ?_ rfl), rfl, S⟩
    · skip
      obtain rfl : j = l.length := by omega
      have hv : decide (l = m) = true := decide_eq_true (List.ext_getElem? fun i => by
        rcases Nat.lt_or_ge i l.length with h | h
        · exact hag i h
        · rw [List.getElem?_eq_none h, List.getElem?_eq_none (by omega)])
      refine W.exit ?_
      refine W.seq (W.region S ?_)
      refine AS.cons (sp_asg rfl ?_)
      refine AS.nil ?_
      intro _ S
      refine W.ret ?_
      exact ret1 rfl rfl S fun w' S' => ⟨by rw [hv]; rfl, S'.mod⟩
theorem pl_t {b : Sb} {l : List Int} (h : decide ((l.length : Int) = (b.hs.length : Int)) = true) : (!decide (0 ≤ ngI l)) = plB b l := by
  unfold plB; rw [ngI_pos, show decide (l.length = b.hs.length) = true from decide_eq_true (by have := of_decide_eq_true h; omega)]; rfl
theorem pl_f {b : Sb} {l : List Int} (h : decide ((l.length : Int) = (b.hs.length : Int)) = false) : false = plB b l := by
  unfold plB; rw [show decide (l.length = b.hs.length) = false from decide_eq_false (fun e => by have := of_decide_eq_false h; omega)]; rfl
set_option maxHeartbeats 8000000 in
theorem canP (pa : Option Addr) (pc : Nat) (l : List Int) (w : World) (hK : Kinds w) (hH : Hos w ha hc b.hs) (hD : Ints w da dc b.dr) (hL : Ints w pa pc l) : Ct Tryd.prog 29 #[.agg (sbL b ha hc da dc).toArray, .slice pa l.length pc] w (fun u w' => u = .tuple #[.bool (canV b l), iv (canE b l)] ∧ Ext w w') := by
  refine fn_intro (args := [.agg (sbL b ha hc da dc).toArray, .slice pa l.length pc]) Tryd.func29 rfl rfl (by kernel_rfl) ?_
  have S := St.start no w
  have hln : l.length ≤ 9223372036854775807 := hL.2.1
  by_cases he : canE b l = 0
  · have hv : canV b l = canB b l := by unfold canV; rw [if_pos he]
    have hask : askV b (plB b l) = 0 := he
    obtain ⟨hb, hpl, hne⟩ := ask_is hask
    have hl51 := sdL_51 hb []
    obtain ⟨⟨m1, m2⟩, m3, m4⟩ := hb.mo
    have hN := mnN_is hb
    have hn6 := hb.n6
    refine W.seq (W.region S ?_)
    refine AS.cons (sp_boxa 2 rfl (fun b2 => ?_))
    refine AS.cons (sp_asg rfl ?_)
    refine AS.cons (sp_asg rfl ?_)
    refine AS.nil ?_
    intro _ S
    refine W.seq (W.region S ?_)
    refine AS.cons (sp_asg rfl ?_)
    refine AS.nil ?_
    intro _ S
    refine W.seq (W.draw S mixed (fun i => ([KD.q [2], KD.q [], KD.q [], KD.q [], KD.q [2], KD.q [], KD.q [], KD.q [], KD.q [], KD.q [], KD.e [] [], KD.q [], KD.q [], KD.e [] [27], KD.q [], KD.q [], KD.q [], KD.q [], KD.a 7, KD.e [7] [7], KD.q [], KD.q []] : List KD)[i]?) [] [0, 1, 2, 3, 4, 5, 6, 7, 8, 9, 10, 11, 12, 13, 14, 15, 16, 17, 18, 19, 20, 21] (by kernel_rfl) ?_)
    refine AW.cons rfl rfl (sp_ldw 2 rfl rfl ag_28_9 ?_)
    refine AW.cons rfl rfl (sp_move rfl ?_)
    refine AW.cons rfl rfl (sp_len rfl sl_26_3_1 ?_)
    refine AW.cons rfl rfl (sp_fa rfl fo_28_1_3 ?_)
    refine AW.cons rfl rfl (sp_ld 2 rfl rfl sc_23 rfl ?_)
    refine AW.cons rfl rfl (sp_len rfl sl_23_75_3 ?_)
    refine AW.cons rfl rfl (sp_eql rfl rfl ?_)
    refine AW.cons rfl rfl (sp_move (v := .bool _) rfl ?_)
    refine AW.split 21 rfl (fun g21 => ?_) (fun g21 => ?_)
    · skip
      refine AW.cons rfl rfl (sp_move rfl ?_)
      refine AW.cons rfl rfl (sp_move rfl ?_)
      refine AW.cons rfl rfl (sp_call [] rfl rfl cf_80 (fun F w _ S => containsFF pa pc l hln w (hL.ext S.mod)) ?_)
      refine AW.cons rfl rfl (sp_not rfl ?_)
      refine AW.cons rfl rfl (sp_pick_t rfl (v := .bool _) rfl ?_)
      refine AW.cons rfl rfl (sp_call1 27 [] (AskR b ha hc da dc) (vs := [.agg (sbL b ha hc da dc).toArray, .bool (plB b l)]) rfl (congrArg (fun z => [Value.agg (sbL b ha hc da dc).toArray, Value.bool z]) (by first | exact pl_t g21 | exact pl_f g21)) cf_63 (fun F w _ S => askG hask w (hK.ext S.mod) (hH.ext S.mod) (hD.ext S.mod)) ?_ (fun _ => AskR.ne b ha hc da dc))
      rintro v27 i27 ⟨m, lv, rfl, j27, ⟨⟨a27, c27, rfl, h27⟩, rfl⟩, rfl⟩
      refine AW.cons rfl rfl (sp_move rfl ?_)
      refine AW.cons rfl rfl (sp_ext rfl rfl ?_)
      refine AW.cons rfl rfl (sp_ext rfl rfl ?_)
      refine AW.cons rfl rfl (sp_ext rfl rfl ?_)
      refine AW.cons rfl rfl (sp_alloc 7 zv_81 rfl (fun b7 => ?_))
      refine AW.cons rfl rfl (sp_st 7 rfl rfl rfl rfl sz_81_16 rfl rfl ?_)
      refine AW.cons rfl rfl (sp_asg rfl ?_)
      refine AW.cons rfl rfl (sp_asg (v := .int _ _) rfl ?_)
      refine AW.nil ?_
      intro _ S
      have S := S.unfold (k := 27) (k' := 902) (by decide) rfl
      refine W.seq (W.seq (W.region S ?_))
      refine AS.cons (sp_move (v := .int _ _) rfl ?_)
      refine AS.cons (sp_neq rfl rfl ?_)
      refine AS.nil ?_
      intro _ S
      refine W.condd rfl (fun c32 => ?_) (fun c32 => ?_)
      · exact absurd c32 (by decide)
      · skip
        refine W.skip ?_
        refine W.seq (W.seq (W.region S ?_))
        refine AS.cons (sp_move rfl ?_)
        refine AS.cons (sp_len rfl sl_26_3_1 ?_)
        refine AS.cons (sp_move rfl ?_)
        refine AS.nil ?_
        intro _ S
        refine W.block ?_
        refine W.loopS S [4, 5, 11, 12, 36, 37, 38, 39, 40, 41, 42, 43, 44, 45, 46, 47, 48, 49, 50, 51, 52, 53, 54, 55, 56, 57, 58, 59, 60, 61, 62] [27, 603] (fun (i : Nat) => [(36, iv i)]) (fun i => [(27, CaP 3 (ordF b) m)]) (fun i => i ≤ (sdL b []).length ∧ ∀ s ∈ (sdL b []).take i, ∀ j, j < mnN b → payL b s (b.m0 + j) ≠ l) (fun i => (sdL b []).length - i) 0 ⟨by omega, fun s hs => by simp at hs⟩ ⟨rfl, trivial⟩ ⟨rfl, trivial⟩ ?_
        rintro i σ M w1 ⟨hi, hno⟩ S
        refine W.seq (W.region S ?_)
        refine AS.cons (sp_lss rfl rfl ?_)
        refine AS.nil ?_
        intro _ S
        refine W.seq (W.condd rfl (fun c37 => ?_) (fun c37 => ?_))
        · skip
          have hlt : i < (sdL b []).length := by omega
          obtain ⟨s, hs⟩ := get_some hlt
          have hsm := List.mem_of_getElem? hs
          have hsb2 := sd_bd hb hsm
          refine W.skip ?_
          refine W.seq (W.block ?_)
          refine W.seq (W.region S ?_)
          refine AS.cons (sp_iaS 902 rfl rfl rfl sl_26_3_1 (by omega) ?_)
          refine AS.cons (sp_ldS 902 rfl rfl sc_3 (v := iv s) (by simp [hs]) (by omega) ?_)
          refine AS.cons (sp_asg (v := .int _ _) rfl ?_)
          refine AS.nil ?_
          intro _ S
          refine W.seq (W.region S ?_)
          refine AS.cons (sp_fa rfl fo_28_2_4 ?_)
          refine AS.cons (sp_fa rfl fo_25_1_1 ?_)
          refine AS.cons (sp_ld 2 rfl rfl sc_3 rfl ?_)
          refine AS.cons (sp_fa rfl fo_28_2_4 ?_)
          refine AS.cons (sp_fa rfl fo_25_0_0 ?_)
          refine AS.cons (sp_ld 2 rfl rfl sc_3 rfl ?_)
          refine AS.cons (sp_sub rfl rfl (by first | omega | (simp only [decide_eq_true_eq, decide_eq_false_iff_not] at *; omega)) ?_)
          refine AS.cons (sp_add rfl rfl (by first | omega | (simp only [decide_eq_true_eq, decide_eq_false_iff_not] at *; omega)) ?_)
          refine AS.cons (sp_move rfl ?_)
          refine AS.nil ?_
          intro _ S
          refine W.block ?_
          refine W.loopS S [4, 5, 12, 48, 49, 50, 51, 52, 53, 54, 55, 56, 57, 58, 59, 60, 61] [27, 603] (fun (j : Nat) => [(48, iv j)]) (fun j => [(27, CaP 3 (ordF b) m)]) (fun j => j ≤ mnN b ∧ ∀ t, t < j → payL b s (b.m0 + t) ≠ l) (fun j => mnN b - j) 0 ⟨by omega, fun t ht => absurd ht (by omega)⟩ ⟨rfl, trivial⟩ ⟨rfl, trivial⟩ ?_
          rintro j σ2 M2 w2 ⟨hj, hno2⟩ S
          refine W.seq (W.region S ?_)
          refine AS.cons (sp_lss rfl rfl ?_)
          refine AS.nil ?_
          intro _ S
          refine W.seq (W.condd rfl (fun c49 => ?_) (fun c49 => ?_))
          · skip
            have hlt2 : j < mnN b := by omega
            refine W.skip ?_
            refine W.seq (W.block ?_)
            refine W.seq (W.region S ?_)
            refine AS.cons (sp_move (v := .int _ _) rfl ?_)
            refine AS.cons (sp_asg (v := .int _ _) rfl ?_)
            refine AS.nil ?_
            intro _ S
            refine W.seq (W.region S ?_)
            refine AS.cons (sp_ldw 7 rfl rfl ag_81_16 ?_)
            refine AS.cons (sp_move (v := .int _ _) rfl ?_)
            refine AS.cons (sp_fa rfl fo_28_2_4 ?_)
            refine AS.cons (sp_fa rfl fo_25_0_0 ?_)
            refine AS.cons (sp_ld 2 rfl rfl sc_3 rfl ?_)
            refine AS.cons (sp_move (v := .int _ _) rfl ?_)
            refine AS.cons (sp_add rfl rfl (by first | omega | (simp only [decide_eq_true_eq, decide_eq_false_iff_not] at *; omega)) ?_)
            refine AS.cons (sp_callP 27 0 [] (CsR b m (payL b s (b.m0 + (j : Int)))) rfl rfl cf_76 (fun F w hF S Bp S' => paysF b ha hc da dc hb m s (b.m0 + (j : Int)) (by omega) (by omega) Bp w S') ?_ (by simp))
            rintro v58 i58 ⟨j58, ⟨⟨a58, c58, rfl, h58⟩, rfl⟩, rfl⟩
            refine AS.cons (sp_move rfl ?_)
            refine AS.cons (sp_call [27] rfl rfl cf_81 (fun F w hF S => equalSF a58 c58 _ pa pc l w (cs_rd S ((hF 27 (by simp)).trans rfl) (by rw [payL_len]; omega)) (hL.ext S.mod)) ?_)
            refine AS.nil ?_
            intro _ S
            have S := S.unfold (k := 27) (k' := 603) (by decide) rfl
            refine W.cond rfl (fun c60 => ?_) (fun c60 => ?_)
            · skip
              have hcan := canB_yes hsm hlt2 (of_decide_eq_true c60)
              refine W.seq (W.region S ?_)
              refine AS.cons (sp_asg rfl ?_)
              refine AS.cons (sp_asg rfl ?_)
              refine AS.nil ?_
              intro _ S
              refine W.ret ?_
              exact ret2 rfl rfl rfl S fun w' S' => ⟨by rw [hv, hcan, he]; rfl, S'.mod⟩
            · skip
              have hne2 := of_decide_eq_false c60
              refine W.skip ?_
              refine W.region S ?_
              refine AS.cons (sp_add rfl rfl (by first | omega | (simp only [decide_eq_true_eq, decide_eq_false_iff_not] at *; omega)) ?_)
              refine AS.cons (sp_move (v := .int _ _) rfl ?_)
              refine AS.nil ?_
              intro _ S
              exact ⟨j + 1, _, ⟨by omega, snoc_lt hno2 hne2⟩, by omega, ⟨by simp [upd], trivial⟩, ⟨rfl, trivial⟩, by repeat (first | exact Agr.refl _ _ | exact Agr.msk _ _ _ | refine Agr.upd ?_ _ rfl | refine Agr.upds ?_ rfl | refine Agr.mskIn ?_ rfl), by repeat (first | exact Agr.refl _ _ | exact Agr.msk _ _ _ | refine Agr.upd ?_ _ rfl | refine Agr.upds ?_ rfl | refine Agr.mskIn ?_ rfl), rfl, S⟩
          · skip
            obtain rfl : j = mnN b := by omega
            refine W.exit ?_
            refine W.region S ?_
            refine AS.cons (sp_add rfl rfl (by first | omega | (simp only [decide_eq_true_eq, decide_eq_false_iff_not] at *; omega)) ?_)
            refine AS.cons (sp_move (v := .int _ _) rfl ?_)
            refine AS.nil ?_
            intro _ S
            exact ⟨i + 1, _, ⟨by omega, take_mem hs hno hno2⟩, by omega, ⟨by simp [upd], trivial⟩, ⟨rfl, trivial⟩, by repeat (first | exact Agr.refl _ _ | exact Agr.msk _ _ _ | refine Agr.upd ?_ _ rfl | refine Agr.upds ?_ rfl | refine Agr.mskIn ?_ rfl), by repeat (first | exact Agr.refl _ _ | exact Agr.msk _ _ _ | refine Agr.upd ?_ _ rfl | refine Agr.upds ?_ rfl | refine Agr.mskIn ?_ rfl), rfl, S⟩
        · skip
          obtain rfl : i = (sdL b []).length := by omega
          rw [List.take_length] at hno
          have hcan := canB_no hno
          refine W.exit ?_
          refine W.seq (W.region S ?_)
          refine AS.cons (sp_asg rfl ?_)
          refine AS.cons (sp_asg rfl ?_)
          refine AS.nil ?_
          intro _ S
          refine W.ret ?_
          exact ret2 rfl rfl rfl S fun w' S' => ⟨by rw [hv, hcan, he]; rfl, S'.mod⟩
    · skip
      refine AW.cons rfl rfl (sp_skip rfl ?_)
      refine AW.cons rfl rfl (sp_skip rfl ?_)
      refine AW.cons rfl rfl (sp_skip rfl ?_)
      refine AW.cons rfl rfl (sp_skip rfl ?_)
      refine AW.cons rfl rfl (sp_pick_f rfl (v := .bool _) rfl ?_)
      refine AW.cons rfl rfl (sp_call1 27 [] (AskR b ha hc da dc) (vs := [.agg (sbL b ha hc da dc).toArray, .bool (plB b l)]) rfl (congrArg (fun z => [Value.agg (sbL b ha hc da dc).toArray, Value.bool z]) (by first | exact pl_t g21 | exact pl_f g21)) cf_63 (fun F w _ S => askG hask w (hK.ext S.mod) (hH.ext S.mod) (hD.ext S.mod)) ?_ (fun _ => AskR.ne b ha hc da dc))
      rintro v27 i27 ⟨m, lv, rfl, j27, ⟨⟨a27, c27, rfl, h27⟩, rfl⟩, rfl⟩
      refine AW.cons rfl rfl (sp_move rfl ?_)
      refine AW.cons rfl rfl (sp_ext rfl rfl ?_)
      refine AW.cons rfl rfl (sp_ext rfl rfl ?_)
      refine AW.cons rfl rfl (sp_ext rfl rfl ?_)
      refine AW.cons rfl rfl (sp_alloc 7 zv_81 rfl (fun b7 => ?_))
      refine AW.cons rfl rfl (sp_st 7 rfl rfl rfl rfl sz_81_16 rfl rfl ?_)
      refine AW.cons rfl rfl (sp_asg rfl ?_)
      refine AW.cons rfl rfl (sp_asg (v := .int _ _) rfl ?_)
      refine AW.nil ?_
      intro _ S
      have S := S.unfold (k := 27) (k' := 902) (by decide) rfl
      refine W.seq (W.seq (W.region S ?_))
      refine AS.cons (sp_move (v := .int _ _) rfl ?_)
      refine AS.cons (sp_neq rfl rfl ?_)
      refine AS.nil ?_
      intro _ S
      refine W.condd rfl (fun c32 => ?_) (fun c32 => ?_)
      · exact absurd c32 (by decide)
      · skip
        refine W.skip ?_
        refine W.seq (W.seq (W.region S ?_))
        refine AS.cons (sp_move rfl ?_)
        refine AS.cons (sp_len rfl sl_26_3_1 ?_)
        refine AS.cons (sp_move rfl ?_)
        refine AS.nil ?_
        intro _ S
        refine W.block ?_
        refine W.loopS S [4, 5, 11, 12, 36, 37, 38, 39, 40, 41, 42, 43, 44, 45, 46, 47, 48, 49, 50, 51, 52, 53, 54, 55, 56, 57, 58, 59, 60, 61, 62] [27, 603] (fun (i : Nat) => [(36, iv i)]) (fun i => [(27, CaP 3 (ordF b) m)]) (fun i => i ≤ (sdL b []).length ∧ ∀ s ∈ (sdL b []).take i, ∀ j, j < mnN b → payL b s (b.m0 + j) ≠ l) (fun i => (sdL b []).length - i) 0 ⟨by omega, fun s hs => by simp at hs⟩ ⟨rfl, trivial⟩ ⟨rfl, trivial⟩ ?_
        rintro i σ M w1 ⟨hi, hno⟩ S
        refine W.seq (W.region S ?_)
        refine AS.cons (sp_lss rfl rfl ?_)
        refine AS.nil ?_
        intro _ S
        refine W.seq (W.condd rfl (fun c37 => ?_) (fun c37 => ?_))
        · skip
          have hlt : i < (sdL b []).length := by omega
          obtain ⟨s, hs⟩ := get_some hlt
          have hsm := List.mem_of_getElem? hs
          have hsb2 := sd_bd hb hsm
          refine W.skip ?_
          refine W.seq (W.block ?_)
          refine W.seq (W.region S ?_)
          refine AS.cons (sp_iaS 902 rfl rfl rfl sl_26_3_1 (by omega) ?_)
          refine AS.cons (sp_ldS 902 rfl rfl sc_3 (v := iv s) (by simp [hs]) (by omega) ?_)
          refine AS.cons (sp_asg (v := .int _ _) rfl ?_)
          refine AS.nil ?_
          intro _ S
          refine W.seq (W.region S ?_)
          refine AS.cons (sp_fa rfl fo_28_2_4 ?_)
          refine AS.cons (sp_fa rfl fo_25_1_1 ?_)
          refine AS.cons (sp_ld 2 rfl rfl sc_3 rfl ?_)
          refine AS.cons (sp_fa rfl fo_28_2_4 ?_)
          refine AS.cons (sp_fa rfl fo_25_0_0 ?_)
          refine AS.cons (sp_ld 2 rfl rfl sc_3 rfl ?_)
          refine AS.cons (sp_sub rfl rfl (by first | omega | (simp only [decide_eq_true_eq, decide_eq_false_iff_not] at *; omega)) ?_)
          refine AS.cons (sp_add rfl rfl (by first | omega | (simp only [decide_eq_true_eq, decide_eq_false_iff_not] at *; omega)) ?_)
          refine AS.cons (sp_move rfl ?_)
          refine AS.nil ?_
          intro _ S
          refine W.block ?_
          refine W.loopS S [4, 5, 12, 48, 49, 50, 51, 52, 53, 54, 55, 56, 57, 58, 59, 60, 61] [27, 603] (fun (j : Nat) => [(48, iv j)]) (fun j => [(27, CaP 3 (ordF b) m)]) (fun j => j ≤ mnN b ∧ ∀ t, t < j → payL b s (b.m0 + t) ≠ l) (fun j => mnN b - j) 0 ⟨by omega, fun t ht => absurd ht (by omega)⟩ ⟨rfl, trivial⟩ ⟨rfl, trivial⟩ ?_
          rintro j σ2 M2 w2 ⟨hj, hno2⟩ S
          refine W.seq (W.region S ?_)
          refine AS.cons (sp_lss rfl rfl ?_)
          refine AS.nil ?_
          intro _ S
          refine W.seq (W.condd rfl (fun c49 => ?_) (fun c49 => ?_))
          · skip
            have hlt2 : j < mnN b := by omega
            refine W.skip ?_
            refine W.seq (W.block ?_)
            refine W.seq (W.region S ?_)
            refine AS.cons (sp_move (v := .int _ _) rfl ?_)
            refine AS.cons (sp_asg (v := .int _ _) rfl ?_)
            refine AS.nil ?_
            intro _ S
            refine W.seq (W.region S ?_)
            refine AS.cons (sp_ldw 7 rfl rfl ag_81_16 ?_)
            refine AS.cons (sp_move (v := .int _ _) rfl ?_)
            refine AS.cons (sp_fa rfl fo_28_2_4 ?_)
            refine AS.cons (sp_fa rfl fo_25_0_0 ?_)
            refine AS.cons (sp_ld 2 rfl rfl sc_3 rfl ?_)
            refine AS.cons (sp_move (v := .int _ _) rfl ?_)
            refine AS.cons (sp_add rfl rfl (by first | omega | (simp only [decide_eq_true_eq, decide_eq_false_iff_not] at *; omega)) ?_)
            refine AS.cons (sp_callP 27 0 [] (CsR b m (payL b s (b.m0 + (j : Int)))) rfl rfl cf_76 (fun F w hF S Bp S' => paysF b ha hc da dc hb m s (b.m0 + (j : Int)) (by omega) (by omega) Bp w S') ?_ (by simp))
            rintro v58 i58 ⟨j58, ⟨⟨a58, c58, rfl, h58⟩, rfl⟩, rfl⟩
            refine AS.cons (sp_move rfl ?_)
            refine AS.cons (sp_call [27] rfl rfl cf_81 (fun F w hF S => equalSF a58 c58 _ pa pc l w (cs_rd S ((hF 27 (by simp)).trans rfl) (by rw [payL_len]; omega)) (hL.ext S.mod)) ?_)
            refine AS.nil ?_
            intro _ S
            have S := S.unfold (k := 27) (k' := 603) (by decide) rfl
            refine W.cond rfl (fun c60 => ?_) (fun c60 => ?_)
            · skip
              have hcan := canB_yes hsm hlt2 (of_decide_eq_true c60)
              refine W.seq (W.region S ?_)
              refine AS.cons (sp_asg rfl ?_)
              refine AS.cons (sp_asg rfl ?_)
              refine AS.nil ?_
              intro _ S
              refine W.ret ?_
              exact ret2 rfl rfl rfl S fun w' S' => ⟨by rw [hv, hcan, he]; rfl, S'.mod⟩
            · skip
              have hne2 := of_decide_eq_false c60
              refine W.skip ?_
              refine W.region S ?_
              refine AS.cons (sp_add rfl rfl (by first | omega | (simp only [decide_eq_true_eq, decide_eq_false_iff_not] at *; omega)) ?_)
              refine AS.cons (sp_move (v := .int _ _) rfl ?_)
              refine AS.nil ?_
              intro _ S
              exact ⟨j + 1, _, ⟨by omega, snoc_lt hno2 hne2⟩, by omega, ⟨by simp [upd], trivial⟩, ⟨rfl, trivial⟩, by repeat (first | exact Agr.refl _ _ | exact Agr.msk _ _ _ | refine Agr.upd ?_ _ rfl | refine Agr.upds ?_ rfl | refine Agr.mskIn ?_ rfl), by repeat (first | exact Agr.refl _ _ | exact Agr.msk _ _ _ | refine Agr.upd ?_ _ rfl | refine Agr.upds ?_ rfl | refine Agr.mskIn ?_ rfl), rfl, S⟩
          · skip
            obtain rfl : j = mnN b := by omega
            refine W.exit ?_
            refine W.region S ?_
            refine AS.cons (sp_add rfl rfl (by first | omega | (simp only [decide_eq_true_eq, decide_eq_false_iff_not] at *; omega)) ?_)
            refine AS.cons (sp_move (v := .int _ _) rfl ?_)
            refine AS.nil ?_
            intro _ S
            exact ⟨i + 1, _, ⟨by omega, take_mem hs hno hno2⟩, by omega, ⟨by simp [upd], trivial⟩, ⟨rfl, trivial⟩, by repeat (first | exact Agr.refl _ _ | exact Agr.msk _ _ _ | refine Agr.upd ?_ _ rfl | refine Agr.upds ?_ rfl | refine Agr.mskIn ?_ rfl), by repeat (first | exact Agr.refl _ _ | exact Agr.msk _ _ _ | refine Agr.upd ?_ _ rfl | refine Agr.upds ?_ rfl | refine Agr.mskIn ?_ rfl), rfl, S⟩
        · skip
          obtain rfl : i = (sdL b []).length := by omega
          rw [List.take_length] at hno
          have hcan := canB_no hno
          refine W.exit ?_
          refine W.seq (W.region S ?_)
          refine AS.cons (sp_asg rfl ?_)
          refine AS.cons (sp_asg rfl ?_)
          refine AS.nil ?_
          intro _ S
          refine W.ret ?_
          exact ret2 rfl rfl rfl S fun w' S' => ⟨by rw [hv, hcan, he]; rfl, S'.mod⟩
  · have hv : canV b l = false := by unfold canV; rw [if_neg he]
    have hB := @askB b ha hc da dc (plB b l) he
    obtain ⟨e, hee⟩ : ∃ e, canE b l = e := ⟨_, rfl⟩
    have hee2 : askV b (plB b l) = e := hee
    rw [hee2] at hB
    rw [hee] at he ⊢
    refine W.seq (W.region S ?_)
    refine AS.cons (sp_boxa 2 rfl (fun b2 => ?_))
    refine AS.cons (sp_asg rfl ?_)
    refine AS.cons (sp_asg rfl ?_)
    refine AS.nil ?_
    intro _ S
    refine W.seq (W.region S ?_)
    refine AS.cons (sp_asg rfl ?_)
    refine AS.nil ?_
    intro _ S
    refine W.seq (W.draw S mixed (fun i => ([KD.q [2], KD.q [], KD.q [], KD.q [], KD.q [2], KD.q [], KD.q [], KD.q [], KD.q [], KD.q [], KD.e [] [], KD.q [], KD.q [], KD.e [] [27], KD.q [], KD.q [], KD.q [], KD.q [], KD.a 7, KD.e [7] [7], KD.q [], KD.q []] : List KD)[i]?) [] [0, 1, 2, 3, 4, 5, 6, 7, 8, 9, 10, 11, 12, 13, 14, 15, 16, 17, 18, 19, 20, 21] (by kernel_rfl) ?_)
    refine AW.cons rfl rfl (sp_ldw 2 rfl rfl ag_28_9 ?_)
    refine AW.cons rfl rfl (sp_move rfl ?_)
    refine AW.cons rfl rfl (sp_len rfl sl_26_3_1 ?_)
    refine AW.cons rfl rfl (sp_fa rfl fo_28_1_3 ?_)
    refine AW.cons rfl rfl (sp_ld 2 rfl rfl sc_23 rfl ?_)
    refine AW.cons rfl rfl (sp_len rfl sl_23_75_3 ?_)
    refine AW.cons rfl rfl (sp_eql rfl rfl ?_)
    refine AW.cons rfl rfl (sp_move (v := .bool _) rfl ?_)
    refine AW.split 21 rfl (fun g21 => ?_) (fun g21 => ?_)
    · skip
      refine AW.cons rfl rfl (sp_move rfl ?_)
      refine AW.cons rfl rfl (sp_move rfl ?_)
      refine AW.cons rfl rfl (sp_call [] rfl rfl cf_80 (fun F w _ S => containsFF pa pc l hln w (hL.ext S.mod)) ?_)
      refine AW.cons rfl rfl (sp_not rfl ?_)
      refine AW.cons rfl rfl (sp_pick_t rfl (v := .bool _) rfl ?_)
      refine AW.cons rfl rfl (sp_call1 27 [] (fun u _ => AskN e u) (vs := [.agg (sbL b ha hc da dc).toArray, .bool (plB b l)]) rfl (congrArg (fun z => [Value.agg (sbL b ha hc da dc).toArray, Value.bool z]) (by first | exact pl_t g21 | exact pl_f g21)) cf_63 (fun F w _ S => hB w (hK.ext S.mod) (hH.ext S.mod) (hD.ext S.mod)) ?_ (fun _ => AskN.ne e))
      rintro v27 i27 ⟨cs, hcl, hc1, rfl⟩
      refine AW.cons rfl rfl (sp_move rfl ?_)
      refine AW.cons rfl rfl (sp_ext rfl rfl ?_)
      refine AW.cons rfl rfl (sp_ext rfl rfl ?_)
      refine AW.cons rfl rfl (sp_ext rfl rfl ?_)
      refine AW.cons rfl rfl (sp_alloc 7 zv_81 rfl (fun b7 => ?_))
      refine AW.cons rfl rfl (sp_stw 7 sz_81_16 rfl rfl rfl rfl hcl rfl hc1 ?_)
      refine AW.cons rfl rfl (sp_asg rfl ?_)
      refine AW.cons rfl rfl (sp_asg (v := .int _ _) rfl ?_)
      refine AW.nil ?_
      intro _ S
      refine W.seq (W.seq (W.region S ?_))
      refine AS.cons (sp_move (v := .int _ _) rfl ?_)
      refine AS.cons (sp_neq rfl rfl ?_)
      refine AS.nil ?_
      intro _ S
      refine W.condd rfl (fun c32 => ?_) (fun c32 => ?_)
      · skip
        refine W.seq (W.region S ?_)
        refine AS.cons (sp_move (v := .int _ _) rfl ?_)
        refine AS.cons (sp_asg rfl ?_)
        refine AS.cons (sp_asg (v := .int _ _) rfl ?_)
        refine AS.nil ?_
        intro _ S
        refine W.ret ?_
        exact ret2 rfl rfl rfl S fun w' S' => ⟨by rw [hv]; rfl, S'.mod⟩
      · exact absurd he c32
    · skip
      refine AW.cons rfl rfl (sp_skip rfl ?_)
      refine AW.cons rfl rfl (sp_skip rfl ?_)
      refine AW.cons rfl rfl (sp_skip rfl ?_)
      refine AW.cons rfl rfl (sp_skip rfl ?_)
      refine AW.cons rfl rfl (sp_pick_f rfl (v := .bool _) rfl ?_)
      refine AW.cons rfl rfl (sp_call1 27 [] (fun u _ => AskN e u) (vs := [.agg (sbL b ha hc da dc).toArray, .bool (plB b l)]) rfl (congrArg (fun z => [Value.agg (sbL b ha hc da dc).toArray, Value.bool z]) (by first | exact pl_t g21 | exact pl_f g21)) cf_63 (fun F w _ S => hB w (hK.ext S.mod) (hH.ext S.mod) (hD.ext S.mod)) ?_ (fun _ => AskN.ne e))
      rintro v27 i27 ⟨cs, hcl, hc1, rfl⟩
      refine AW.cons rfl rfl (sp_move rfl ?_)
      refine AW.cons rfl rfl (sp_ext rfl rfl ?_)
      refine AW.cons rfl rfl (sp_ext rfl rfl ?_)
      refine AW.cons rfl rfl (sp_ext rfl rfl ?_)
      refine AW.cons rfl rfl (sp_alloc 7 zv_81 rfl (fun b7 => ?_))
      refine AW.cons rfl rfl (sp_stw 7 sz_81_16 rfl rfl rfl rfl hcl rfl hc1 ?_)
      refine AW.cons rfl rfl (sp_asg rfl ?_)
      refine AW.cons rfl rfl (sp_asg (v := .int _ _) rfl ?_)
      refine AW.nil ?_
      intro _ S
      refine W.seq (W.seq (W.region S ?_))
      refine AS.cons (sp_move (v := .int _ _) rfl ?_)
      refine AS.cons (sp_neq rfl rfl ?_)
      refine AS.nil ?_
      intro _ S
      refine W.condd rfl (fun c32 => ?_) (fun c32 => ?_)
      · skip
        refine W.seq (W.region S ?_)
        refine AS.cons (sp_move (v := .int _ _) rfl ?_)
        refine AS.cons (sp_asg rfl ?_)
        refine AS.cons (sp_asg (v := .int _ _) rfl ?_)
        refine AS.nil ?_
        intro _ S
        refine W.ret ?_
        exact ret2 rfl rfl rfl S fun w' S' => ⟨by rw [hv]; rfl, S'.mod⟩
      · exact absurd he c32
end
end Go.Proofs.YtajocmkgdjcmkaaDoor

/-
  The program's answers: the draw to ask for.
-/
namespace Go.Proofs.YtajocmkgdjcmkaaDoor
set_option maxRecDepth 100000
open Go.Hu Go.RowKit
section
variable (b : Sb) (ha : Option Addr) (hc : Nat) (da : Option Addr) (dc : Nat)
theorem lessF (n t : Int) (w : World) : Ct Tryd.prog 95 #[iv n, iv t] w (fun v w' => v = .bool (decide (n < t)) ∧ Ext w w') := by
  refine fn_intro (args := [iv n, iv t]) Tryd.func95 rfl rfl (by kernel_rfl) ?_
  have S := St.start no w
  refine W.seq (W.region S ?_)
  refine AS.cons (sp_asg rfl ?_)
  refine AS.nil ?_
  intro _ S
  refine W.seq (W.region S ?_)
  refine AS.cons (sp_move (v := .int _ _) rfl ?_)
  refine AS.cons (sp_move (v := .int _ _) rfl ?_)
  refine AS.cons (sp_lss rfl rfl ?_)
  refine AS.cons (sp_asg (v := .bool _) rfl ?_)
  refine AS.nil ?_
  intro _ S
  refine W.ret ?_
  exact ret1 rfl rfl S fun w' S' => ⟨rfl, S'.mod⟩
theorem fewerCF (w : World) : Ct Tryd.prog 84 #[] w (fun v w' => v = .agg [Value.func (.func 95) #[] #[]].toArray ∧ Ext w w') := by
  refine fn_intro (args := []) Tryd.func84 rfl rfl (by kernel_rfl) ?_
  have S := St.start no w
  refine W.seq (W.region S ?_)
  refine AS.cons (sp_alloc 0 zv_105 rfl (fun b0 => ?_))
  refine AS.nil ?_
  intro _ S
  refine W.seq (W.region S ?_)
  refine AS.cons (sp_build [Value.func (.func 95) #[] #[]] (by kernel_rfl) ?_)
  refine AS.cons (sp_st 0 rfl rfl rfl rfl sz_105_1 rfl rfl ?_)
  refine AS.nil ?_
  intro _ S
  refine W.ret ?_
  exact retc 0 ag_105_1 rfl rfl rfl rfl rfl S fun w' S' => ⟨rfl, S'.mod⟩
theorem wst_step {b : Sb} {l : List Int} {d i : Nat} {s : Int} {yn : Nat} (hs : l[i]? = some s) (hy : (ord b s)[d]? = some (yn : Int)) (hyn : yn < b.hs.length) : wstN b (l.take (i + 1)) d = max (wstN b (l.take i) d) (lftN b (l.take i) d yn + 1) := by
  have hl : ∀ k : Nat, lftN b (l.take (i + 1)) d k = lftN b (l.take i) d k + (if (yn : Int) = (k : Int) then 1 else 0) := fun k => lftN_succ hs hy
  have key : ∀ x, wstN b (l.take (i + 1)) d ≤ x ↔ max (wstN b (l.take i) d) (lftN b (l.take i) d yn + 1) ≤ x := fun x => by
    rw [Int.max_le]
    unfold wstN
    rw [fldU_max, fldU_max]
    constructor
    · rintro ⟨h0, h1⟩
      refine ⟨⟨h0, fun k hk => ?_⟩, ?_⟩
      · have := h1 k hk; rw [hl k] at this; split at this <;> omega
      · have := h1 yn hyn; rw [hl yn, if_pos rfl] at this; exact this
    · rintro ⟨⟨h0, h1⟩, h2⟩
      refine ⟨h0, fun k hk => ?_⟩
      have := h1 k hk
      rw [hl k]
      split
      · next e => have : yn = k := by omega
                  subst this; exact h2
      · omega
  exact Int.le_antisymm ((key _).2 (Int.le_refl _)) ((key _).1 (Int.le_refl _))
/-- Best and least, behind d draws. -/
def bsV (f : Nat → Int) (d : Nat) : Int := if d = 0 then -1 else (amU f d : Int)
def lsV (f : Nat → Int) (d : Nat) : Int := if d = 0 then 0 else f (amU f d)
theorem bs_next {f : Nat → Int} {d : Nat} (h : bsV f d < 0 ∨ f d < lsV f d) : bsV f (d + 1) = d ∧ lsV f (d + 1) = f d := by
  have : amU f (d + 1) = d := by
    rcases Nat.eq_zero_or_pos d with rfl | hp
    · simp [amU]
    · unfold bsV lsV at h
      rw [if_neg (by omega), if_neg (by omega)] at h
      rw [amU, if_pos (by omega)]
  unfold bsV lsV
  rw [if_neg (by omega), if_neg (by omega), this]; exact ⟨rfl, rfl⟩
theorem bs_same {f : Nat → Int} {d : Nat} (h1 : ¬ bsV f d < 0) (h2 : ¬ f d < lsV f d) : bsV f (d + 1) = bsV f d ∧ lsV f (d + 1) = lsV f d := by
  have hd : d ≠ 0 := fun e => h1 (by unfold bsV; rw [if_pos e]; decide)
  unfold lsV at h2
  rw [if_neg hd] at h2
  have : amU f (d + 1) = amU f d := by rw [amU, if_neg h2]
  simp only [bsV, lsV, if_neg (show ¬ d + 1 = 0 by omega), if_neg hd, this, and_self]
/-- Counts: nothing yet from a draw on. -/
def MnD (b27 : Nat) (d : Nat) : HP := fun f => ∃ q : Int → Int → Int, (∀ x y, (d : Int) ≤ x → q x y = 0) ∧ MnP b27 q f
/-- .. and of a draw those of the first numbers. -/
def MnI (b : Sb) (l : List Int) (b27 : Nat) (d i : Nat) : HP := fun f => ∃ q : Int → Int → Int, ((∀ x y, (d : Int) < x → q x y = 0) ∧ ∀ y, q d y = lftN b (l.take i) d y) ∧ MnP b27 q f
theorem St.exQ {B : Nat → Prop} {w0 w : World} {L : Nat → HP} {Ds : List Nat} (S : St B w0 w L Ds) (k : Nat) {α : Type} {c : α → Prop} {p : α → HP} (h : L k = fun f => ∃ x, c x ∧ p x f) : ∃ x, c x ∧ St B w0 w (upd L k (p x)) Ds := by
  obtain ⟨f, h1, _, h3⟩ := S.chg k
  rw [h] at h1
  obtain ⟨x, hc, hp⟩ := h1
  exact ⟨x, hc, h3 _ hp⟩
set_option maxHeartbeats 16000000 in
theorem askP (w : World) (hK : Kinds w) (hH : Hos w ha hc b.hs) (hD : Ints w da dc b.dr) : Ct Tryd.prog 31 #[.agg (sbL b ha hc da dc).toArray] w (fun u w' => u = .tuple #[iv (asV b), iv (asE b)] ∧ Ext w w') := by
  refine fn_intro (args := [.agg (sbL b ha hc da dc).toArray]) Tryd.func31 rfl rfl (by kernel_rfl) ?_
  have S := St.start no w
  by_cases hz : askV b true = 0
  · obtain ⟨hb, _, hne⟩ := ask_is hz
    have hO := hb.own
    have hl51 := sdL_51 hb []
    have h1 := hb.a1
    have h60 := hb.a60
    have hol : ∀ s, ((ord b s).length : Int) = allN b := fun s => by rw [ord_len]; exact rowF_len hb
    obtain ⟨f, hf⟩ : ∃ f, f = wstN b (sdL b []) := ⟨_, rfl⟩
    refine W.seq (W.region S ?_)
    refine AS.cons (sp_boxa 1 rfl (fun b1 => ?_))
    refine AS.cons (sp_asg rfl ?_)
    refine AS.cons (sp_asg rfl ?_)
    refine AS.nil ?_
    intro _ S
    refine W.seq (W.region S ?_)
    refine AS.cons (sp_ldw 1 rfl rfl ag_28_9 ?_)
    refine AS.cons (sp_call1 17 [] _ rfl rfl cf_63 (fun F w _ S => askG hz w (hK.ext S.mod) (hH.ext S.mod) (hD.ext S.mod)) ?_ (by simp))
    rintro v17 i17 ⟨m, lv, rfl, j17, ⟨⟨a17, c17, rfl, h17⟩, rfl⟩, rfl⟩
    refine AS.cons (sp_move rfl ?_)
    refine AS.cons (sp_ext rfl rfl ?_)
    refine AS.cons (sp_ext rfl rfl ?_)
    refine AS.cons (sp_ext rfl rfl ?_)
    refine AS.cons (sp_alloc 4 zv_81 rfl (fun b4 => ?_))
    refine AS.cons (sp_st 4 rfl rfl rfl rfl sz_81_16 rfl rfl ?_)
    refine AS.cons (sp_asg rfl ?_)
    refine AS.cons (sp_asg (v := .int _ _) rfl ?_)
    refine AS.nil ?_
    intro _ S
    have S := S.unfold (k := 17) (k' := 902) (by decide) rfl
    refine W.seq (W.seq (W.region S ?_))
    refine AS.cons (sp_move (v := .int _ _) rfl ?_)
    refine AS.cons (sp_neq rfl rfl ?_)
    refine AS.nil ?_
    intro _ S
    refine W.condd rfl (fun c22 => ?_) (fun c22 => ?_)
    · exact absurd c22 (by decide)
    · skip
      refine W.skip ?_
      refine W.seq (W.seq (W.region S ?_))
      refine AS.cons (sp_move rfl ?_)
      refine AS.cons (sp_len rfl sl_26_3_1 ?_)
      refine AS.cons (sp_eql rfl rfl ?_)
      refine AS.nil ?_
      intro _ S
      refine W.condd rfl (fun c26 => ?_) (fun c26 => ?_)
      · skip
        have he : asE b = 4 := by unfold asE; rw [if_pos hz, if_pos (by omega)]
        have hv : asV b = 0 := by unfold asV; rw [he]; rfl
        refine W.seq (W.region S ?_)
        refine AS.cons (sp_asg rfl ?_)
        refine AS.cons (sp_asg rfl ?_)
        refine AS.nil ?_
        intro _ S
        refine W.ret ?_
        first | exact ret2 rfl rfl rfl S fun w' S' => ⟨by rw [hv, he]; rfl, S'.mod⟩ | exact ret2 rfl rfl rfl S fun w' S' => ⟨by rw [hv, he]; show Value.tuple #[iv (bsV f (allN b).toNat), iv 0] = _; unfold bsV; rw [if_neg (by omega)], S'.mod⟩
      · skip
        have he : asE b = 0 := by unfold asE; rw [if_pos hz, if_neg (by omega)]
        have hv : asV b = (amU (wstN b (sdL b [])) (allN b).toNat : Int) := by unfold asV; rw [if_pos he]
        rw [← hf] at hv
        refine W.skip ?_
        refine W.seq (W.region S ?_)
        refine AS.cons (sp_mm 27 (fun b27 => ?_))
        refine AS.cons (sp_asg rfl ?_)
        refine AS.nil ?_
        intro _ S
        have S := S.weak (k := 27) (i := MnD b27 0) (fun f hf => ⟨fun _ _ => 0, fun _ _ _ => rfl, MnP_new hf⟩)
        refine W.seq (W.region S ?_)
        refine AS.cons (sp_asg rfl ?_)
        refine AS.cons (sp_asg rfl ?_)
        refine AS.nil ?_
        intro _ S
        refine W.seq (W.seq (W.region S ?_))
        refine AS.cons (sp_ldw 4 rfl rfl ag_81_16 ?_)
        refine AS.cons (sp_call [] rfl rfl cf_83 (fun F w _ S => allF b ha hc da dc hO m w) ?_)
        refine AS.cons (sp_move rfl ?_)
        refine AS.nil ?_
        intro _ S
        refine W.block ?_
        refine W.loopS S [8, 9, 10, 11, 13, 14, 30, 31, 32, 33, 34, 35, 36, 37, 38, 39, 40, 41, 42, 43, 44, 45, 46, 47, 48, 49, 50, 51, 52, 53, 54, 55, 56, 57, 58, 59, 60, 61, 62, 63, 64, 65, 66, 67, 68, 69, 70] [14, 17, 27] (fun (d : Nat) => [(30, iv d), (8, iv (bsV f d)), (9, iv (lsV f d))]) (fun d => [(17, CaP 3 (ordF b) m), (27, MnD b27 d)]) (fun d => d ≤ (allN b).toNat) (fun d => (allN b).toNat - d) 0 (by omega) ⟨rfl, rfl, rfl, trivial⟩ ⟨rfl, rfl, trivial⟩ ?_
        rintro d σ M w1 hd S
        refine W.seq (W.region S ?_)
        refine AS.cons (sp_lss rfl rfl ?_)
        refine AS.nil ?_
        intro _ S
        refine W.seq (W.condd rfl (fun c31 => ?_) (fun c31 => ?_))
        · skip
          have hlt : d < (allN b).toNat := by omega
          have S := S.weak (k := 27) (i := MnI b (sdL b []) b27 d 0) (fun g hg => by
            obtain ⟨q, hq, hp⟩ := hg
            exact ⟨q, ⟨fun x y hx => hq x y (by omega), fun y => by rw [hq d y (Int.le_refl _)]; simp [lftN]⟩, hp⟩)
          have hw0 : (0 : Int) = wstN b ((sdL b []).take 0) d := by
            refine Int.le_antisymm (fldU_max.1 (Int.le_refl _)).1 (fldU_max.2 ⟨Int.le_refl 0, fun k _ => ?_⟩)
            simp [lftN]
          refine W.skip ?_
          refine W.seq (W.block ?_)
          refine W.seq (W.region S ?_)
          refine AS.cons (sp_move (v := .int _ _) rfl ?_)
          refine AS.cons (sp_asg (v := .int _ _) rfl ?_)
          refine AS.nil ?_
          intro _ S
          refine W.seq (W.region S ?_)
          refine AS.cons (sp_asg rfl ?_)
          refine AS.nil ?_
          intro _ S
          refine W.seq (W.seq (W.region S ?_))
          refine AS.cons (sp_move rfl ?_)
          refine AS.cons (sp_len rfl sl_26_3_1 ?_)
          refine AS.cons (sp_move rfl ?_)
          refine AS.nil ?_
          intro _ S
          refine W.block ?_
          refine W.loopS S [11, 13, 14, 35, 36, 37, 38, 39, 40, 41, 42, 43, 44, 45, 46, 47, 48, 49, 50, 51, 52, 53, 54, 55, 56, 57, 58] [14, 17, 27] (fun (i : Nat) => [(35, iv i), (11, iv (wstN b ((sdL b []).take i) d))]) (fun i => [(17, CaP 3 (ordF b) m), (27, MnI b (sdL b []) b27 d i)]) (fun i => i ≤ (sdL b []).length) (fun i => (sdL b []).length - i) 0 (by omega) ⟨rfl, by show iv 0 = iv _; rw [← hw0], trivial⟩ ⟨rfl, rfl, trivial⟩ ?_
          rintro i σ2 M2 w2 hi S
          refine W.seq (W.region S ?_)
          refine AS.cons (sp_lss rfl rfl ?_)
          refine AS.nil ?_
          intro _ S
          refine W.seq (W.condd rfl (fun c36 => ?_) (fun c36 => ?_))
          · skip
            have hlt2 : i < (sdL b []).length := by omega
            obtain ⟨s, hs⟩ := get_some hlt2
            have hsb := sd_bd hb (List.mem_of_getElem? hs)
            have hols := hol s
            obtain ⟨y, hy⟩ := get_some (l := ord b s) (j := d) (by omega)
            have hym := ord_mem (List.mem_of_getElem? hy)
            obtain ⟨yn, rfl⟩ : ∃ yn : Nat, y = yn := ⟨y.toNat, by omega⟩
            have hws := wst_step hs hy (by omega)
            have hlb := lftN_le b ((sdL b []).take i) d (yn : Int)
            have hlt3 := List.length_take_le i (sdL b [])
            obtain ⟨q, ⟨hq1, hq2⟩, S⟩ := St.exQ S 27 (c := fun q : Int → Int → Int => (∀ x y, (d : Int) < x → q x y = 0) ∧ ∀ y, q d y = lftN b ((sdL b []).take i) d y) (p := MnP b27) rfl
            have hqy := hq2 (yn : Int)
            refine W.skip ?_
            refine W.seq (W.block ?_)
            refine W.seq (W.region S ?_)
            refine AS.cons (sp_iaS 902 rfl rfl rfl sl_26_3_1 (by omega) ?_)
            refine AS.cons (sp_ldS 902 rfl rfl sc_3 (v := iv s) (by simp [hs]) (by omega) ?_)
            refine AS.cons (sp_asg (v := .int _ _) rfl ?_)
            refine AS.nil ?_
            intro _ S
            refine W.seq (W.region S ?_)
            refine AS.cons (sp_move (v := .int _ _) rfl ?_)
            refine AS.cons (sp_ldw 4 rfl rfl ag_81_16 ?_)
            refine AS.cons (sp_move (v := .int _ _) rfl ?_)
            refine AS.cons (sp_callP 17 0 [] (OrR b m s) rfl rfl cf_74 (fun F w hF S Bp S' => orderF b ha hc da dc hb m s (by omega) Bp w S') ?_ (by simp))
            rintro v42 i42 ⟨⟨a42, c42, rfl, hac⟩, rfl⟩
            refine AS.cons (sp_move (v := .int _ _) rfl ?_)
            refine AS.cons (sp_iaK (s := 1) [17] (fun F w hF S => or_rd S ((hF 17 (by simp)).trans rfl) (by omega)) rfl rfl sl_26_3_1 (by omega) ?_)
            refine AS.cons (sp_ldK (s := 1) (v := iv (yn : Int)) [17] (fun F w hF S => or_rd S ((hF 17 (by simp)).trans rfl) (by omega)) rfl sc_3 (by simp [hy]) (by omega) ?_)
            refine AS.cons (sp_build [iv d, iv (yn : Int)] (by kernel_rfl) ?_)
            refine AS.cons (sp_alloc 14 zv_102 rfl (fun b14 => ?_))
            refine AS.cons (sp_st 14 rfl rfl rfl rfl sz_102_2 rfl rfl ?_)
            refine AS.nil ?_
            intro _ S
            have S := S.weak (k := 17) (i := CaP 3 (ordF b) m) (fun f hf => CaR.weak hf)
            refine W.seq (W.incr (kk := 14) (km := 27) (u := (d : Int)) (v := (yn : Int)) (q := q) S mixed (by kernel_rfl) rfl rfl rfl rfl rfl rfl rfl rfl (by kernel_rfl) (by decide) (by decide) rfl rfl rfl rfl (by decide) kB_99 ag_102_2 zv_3 (by rw [hqy]; omega) ?_)
            intro σ16 _ S
            refine W.region S ?_
            refine AS.cons (sp_move (v := .int _ _) rfl ?_)
            refine AS.cons (sp_move rfl ?_)
            refine AS.cons (sp_ldw 14 rfl rfl ag_102_2 ?_)
            refine AS.cons (sp_lkN 27 rfl rfl kB_99 rfl zv_3 ?_)
            refine AS.cons (sp_max rfl rfl ?_)
            refine AS.cons (sp_asg (v := .int _ _) rfl ?_)
            refine AS.nil ?_
            intro _ S
            have hmx : max (wstN b ((sdL b []).take i) d) (if (d : Int) = d ∧ (yn : Int) = yn then q d yn + 1 else q d yn) = wstN b ((sdL b []).take (i + 1)) d := by rw [if_pos ⟨rfl, rfl⟩, hqy, hws]
            have S := S.weak (k := 27) (i := MnI b (sdL b []) b27 d (i + 1)) (fun g hg => ⟨_, ⟨fun x y hx => by rw [if_neg (fun h => by omega)]; exact hq1 x y hx, fun y => by
              rw [lftN_succ hs hy, ← hq2 y]
              by_cases e : y = (yn : Int)
              · subst e; rw [if_pos ⟨rfl, rfl⟩, if_pos rfl]
              · rw [if_neg (fun h => e h.2), if_neg (fun h => e h.symm), Int.add_zero]⟩, hg⟩)
            refine W.region S ?_
            refine AS.cons (sp_add rfl rfl (by first | omega | (simp only [decide_eq_true_eq, decide_eq_false_iff_not] at *; omega)) ?_)
            refine AS.cons (sp_move (v := .int _ _) rfl ?_)
            refine AS.nil ?_
            intro _ S
            exact ⟨i + 1, _, by omega, by omega, ⟨by simp [upd], by show iv _ = iv _; exact congrArg iv hmx, trivial⟩, ⟨rfl, rfl, trivial⟩, by repeat (first | exact Agr.refl _ _ | exact Agr.msk _ _ _ | refine Agr.upd ?_ _ rfl | refine Agr.upds ?_ rfl | refine Agr.mskIn ?_ rfl), by repeat (first | exact Agr.refl _ _ | exact Agr.msk _ _ _ | refine Agr.upd ?_ _ rfl | refine Agr.upds ?_ rfl | refine Agr.mskIn ?_ rfl), rfl, S⟩
          · skip
            obtain rfl : i = (sdL b []).length := by omega
            rw [List.take_length, ← hf]
            have S := S.weak (k := 27) (i := MnD b27 (d + 1)) (fun g hg => by
              obtain ⟨q, ⟨hq, _⟩, hp⟩ := hg
              exact ⟨q, fun x y hx => hq x y (by omega), hp⟩)
            refine W.exit ?_
            refine W.seq (W.region S ?_)
            refine AS.cons (sp_move (v := .int _ _) rfl ?_)
            refine AS.cons (sp_lss rfl rfl ?_)
            refine AS.cons (sp_move (v := .bool _) rfl ?_)
            refine AS.split 61 rfl (fun g61 => ?_) (fun g61 => ?_)
            · skip
              refine AS.cons (sp_skip rfl ?_)
              refine AS.cons (sp_skip rfl ?_)
              refine AS.cons (sp_skip rfl ?_)
              refine AS.cons (sp_skip rfl ?_)
              refine AS.cons (sp_skip rfl ?_)
              refine AS.cons (sp_pick_t rfl (v := .bool _) rfl ?_)
              refine AS.nil ?_
              intro _ S
              refine W.cond (b := true) rfl (fun _ => ?_) (fun h => nomatch h)
              refine W.region S ?_
              refine AS.cons (sp_move (v := .int _ _) rfl ?_)
              refine AS.cons (sp_move (v := .int _ _) rfl ?_)
              refine AS.cons (sp_asg (v := .int _ _) rfl ?_)
              refine AS.cons (sp_asg (v := .int _ _) rfl ?_)
              refine AS.nil ?_
              intro _ S
              refine W.region S ?_
              refine AS.cons (sp_add rfl rfl (by first | omega | (simp only [decide_eq_true_eq, decide_eq_false_iff_not] at *; omega)) ?_)
              refine AS.cons (sp_move (v := .int _ _) rfl ?_)
              refine AS.nil ?_
              intro _ S
              first | (have h := bs_next (f := f) (d := d) (.inl (of_decide_eq_true g61)); exact ⟨d + 1, _, by omega, by omega, ⟨by simp [upd], by show iv _ = iv _; rw [h.1], by show iv _ = iv _; rw [h.2], trivial⟩, ⟨rfl, rfl, trivial⟩, by repeat (first | exact Agr.refl _ _ | exact Agr.msk _ _ _ | refine Agr.upd ?_ _ rfl | refine Agr.upds ?_ rfl | refine Agr.mskIn ?_ rfl), by repeat (first | exact Agr.refl _ _ | exact Agr.msk _ _ _ | refine Agr.upd ?_ _ rfl | refine Agr.upds ?_ rfl | refine Agr.mskIn ?_ rfl), rfl, S⟩) | (have h := bs_next (f := f) (d := d) (.inr (of_decide_eq_true c67)); exact ⟨d + 1, _, by omega, by omega, ⟨by simp [upd], by show iv _ = iv _; rw [h.1], by show iv _ = iv _; rw [h.2], trivial⟩, ⟨rfl, rfl, trivial⟩, by repeat (first | exact Agr.refl _ _ | exact Agr.msk _ _ _ | refine Agr.upd ?_ _ rfl | refine Agr.upds ?_ rfl | refine Agr.mskIn ?_ rfl), by repeat (first | exact Agr.refl _ _ | exact Agr.msk _ _ _ | refine Agr.upd ?_ _ rfl | refine Agr.upds ?_ rfl | refine Agr.mskIn ?_ rfl), rfl, S⟩) | (have h := bs_same (f := f) (d := d) (of_decide_eq_false g61) (of_decide_eq_false c67); exact ⟨d + 1, _, by omega, by omega, ⟨by simp [upd], by show iv _ = iv _; rw [h.1], by show iv _ = iv _; rw [h.2], trivial⟩, ⟨rfl, rfl, trivial⟩, by repeat (first | exact Agr.refl _ _ | exact Agr.msk _ _ _ | refine Agr.upd ?_ _ rfl | refine Agr.upds ?_ rfl | refine Agr.mskIn ?_ rfl), by repeat (first | exact Agr.refl _ _ | exact Agr.msk _ _ _ | refine Agr.upd ?_ _ rfl | refine Agr.upds ?_ rfl | refine Agr.mskIn ?_ rfl), rfl, S⟩)
            · skip
              refine AS.cons (sp_call [] rfl rfl cf_84 (fun F w _ S => fewerCF w) ?_)
              refine AS.cons (sp_fld (l := [Value.func (.func 95) #[] #[]]) (v := Value.func (.func 95) #[] #[]) rfl (fun _ => by kernel_rfl) ?_)
              refine AS.cons (sp_move (v := .int _ _) rfl ?_)
              refine AS.cons (sp_move (v := .int _ _) rfl ?_)
              refine AS.cons (sp_call [] rfl rfl cf_95 (fun F w _ S => lessF _ _ w) ?_)
              refine AS.cons (sp_pick_f rfl (v := .bool _) rfl ?_)
              refine AS.nil ?_
              intro _ S
              refine W.cond rfl (fun c67 => ?_) (fun c67 => ?_)
              · skip
                refine W.region S ?_
                refine AS.cons (sp_move (v := .int _ _) rfl ?_)
                refine AS.cons (sp_move (v := .int _ _) rfl ?_)
                refine AS.cons (sp_asg (v := .int _ _) rfl ?_)
                refine AS.cons (sp_asg (v := .int _ _) rfl ?_)
                refine AS.nil ?_
                intro _ S
                refine W.region S ?_
                refine AS.cons (sp_add rfl rfl (by first | omega | (simp only [decide_eq_true_eq, decide_eq_false_iff_not] at *; omega)) ?_)
                refine AS.cons (sp_move (v := .int _ _) rfl ?_)
                refine AS.nil ?_
                intro _ S
                first | (have h := bs_next (f := f) (d := d) (.inl (of_decide_eq_true g61)); exact ⟨d + 1, _, by omega, by omega, ⟨by simp [upd], by show iv _ = iv _; rw [h.1], by show iv _ = iv _; rw [h.2], trivial⟩, ⟨rfl, rfl, trivial⟩, by repeat (first | exact Agr.refl _ _ | exact Agr.msk _ _ _ | refine Agr.upd ?_ _ rfl | refine Agr.upds ?_ rfl | refine Agr.mskIn ?_ rfl), by repeat (first | exact Agr.refl _ _ | exact Agr.msk _ _ _ | refine Agr.upd ?_ _ rfl | refine Agr.upds ?_ rfl | refine Agr.mskIn ?_ rfl), rfl, S⟩) | (have h := bs_next (f := f) (d := d) (.inr (of_decide_eq_true c67)); exact ⟨d + 1, _, by omega, by omega, ⟨by simp [upd], by show iv _ = iv _; rw [h.1], by show iv _ = iv _; rw [h.2], trivial⟩, ⟨rfl, rfl, trivial⟩, by repeat (first | exact Agr.refl _ _ | exact Agr.msk _ _ _ | refine Agr.upd ?_ _ rfl | refine Agr.upds ?_ rfl | refine Agr.mskIn ?_ rfl), by repeat (first | exact Agr.refl _ _ | exact Agr.msk _ _ _ | refine Agr.upd ?_ _ rfl | refine Agr.upds ?_ rfl | refine Agr.mskIn ?_ rfl), rfl, S⟩) | (have h := bs_same (f := f) (d := d) (of_decide_eq_false g61) (of_decide_eq_false c67); exact ⟨d + 1, _, by omega, by omega, ⟨by simp [upd], by show iv _ = iv _; rw [h.1], by show iv _ = iv _; rw [h.2], trivial⟩, ⟨rfl, rfl, trivial⟩, by repeat (first | exact Agr.refl _ _ | exact Agr.msk _ _ _ | refine Agr.upd ?_ _ rfl | refine Agr.upds ?_ rfl | refine Agr.mskIn ?_ rfl), by repeat (first | exact Agr.refl _ _ | exact Agr.msk _ _ _ | refine Agr.upd ?_ _ rfl | refine Agr.upds ?_ rfl | refine Agr.mskIn ?_ rfl), rfl, S⟩)
              · skip
                refine W.skip ?_
                refine W.region S ?_
                refine AS.cons (sp_add rfl rfl (by first | omega | (simp only [decide_eq_true_eq, decide_eq_false_iff_not] at *; omega)) ?_)
                refine AS.cons (sp_move (v := .int _ _) rfl ?_)
                refine AS.nil ?_
                intro _ S
                first | (have h := bs_next (f := f) (d := d) (.inl (of_decide_eq_true g61)); exact ⟨d + 1, _, by omega, by omega, ⟨by simp [upd], by show iv _ = iv _; rw [h.1], by show iv _ = iv _; rw [h.2], trivial⟩, ⟨rfl, rfl, trivial⟩, by repeat (first | exact Agr.refl _ _ | exact Agr.msk _ _ _ | refine Agr.upd ?_ _ rfl | refine Agr.upds ?_ rfl | refine Agr.mskIn ?_ rfl), by repeat (first | exact Agr.refl _ _ | exact Agr.msk _ _ _ | refine Agr.upd ?_ _ rfl | refine Agr.upds ?_ rfl | refine Agr.mskIn ?_ rfl), rfl, S⟩) | (have h := bs_next (f := f) (d := d) (.inr (of_decide_eq_true c67)); exact ⟨d + 1, _, by omega, by omega, ⟨by simp [upd], by show iv _ = iv _; rw [h.1], by show iv _ = iv _; rw [h.2], trivial⟩, ⟨rfl, rfl, trivial⟩, by repeat (first | exact Agr.refl _ _ | exact Agr.msk _ _ _ | refine Agr.upd ?_ _ rfl | refine Agr.upds ?_ rfl | refine Agr.mskIn ?_ rfl), by repeat (first | exact Agr.refl _ _ | exact Agr.msk _ _ _ | refine Agr.upd ?_ _ rfl | refine Agr.upds ?_ rfl | refine Agr.mskIn ?_ rfl), rfl, S⟩) | (have h := bs_same (f := f) (d := d) (of_decide_eq_false g61) (of_decide_eq_false c67); exact ⟨d + 1, _, by omega, by omega, ⟨by simp [upd], by show iv _ = iv _; rw [h.1], by show iv _ = iv _; rw [h.2], trivial⟩, ⟨rfl, rfl, trivial⟩, by repeat (first | exact Agr.refl _ _ | exact Agr.msk _ _ _ | refine Agr.upd ?_ _ rfl | refine Agr.upds ?_ rfl | refine Agr.mskIn ?_ rfl), by repeat (first | exact Agr.refl _ _ | exact Agr.msk _ _ _ | refine Agr.upd ?_ _ rfl | refine Agr.upds ?_ rfl | refine Agr.mskIn ?_ rfl), rfl, S⟩)
        · skip
          obtain rfl : d = (allN b).toNat := by omega
          refine W.exit ?_
          refine W.seq (W.region S ?_)
          refine AS.cons (sp_move (v := .int _ _) rfl ?_)
          refine AS.cons (sp_asg (v := .int _ _) rfl ?_)
          refine AS.cons (sp_asg rfl ?_)
          refine AS.nil ?_
          intro _ S
          refine W.ret ?_
          first | exact ret2 rfl rfl rfl S fun w' S' => ⟨by rw [hv, he]; rfl, S'.mod⟩ | exact ret2 rfl rfl rfl S fun w' S' => ⟨by rw [hv, he]; show Value.tuple #[iv (bsV f (allN b).toNat), iv 0] = _; unfold bsV; rw [if_neg (by omega)], S'.mod⟩
  · obtain ⟨e, hee⟩ : ∃ e, askV b true = e := ⟨_, rfl⟩
    have hB := @askB b ha hc da dc true hz
    have he : asE b = askV b true := by unfold asE; rw [if_neg hz]
    have hv : asV b = 0 := by unfold asV; rw [he, if_neg hz]
    rw [hv, he]
    rw [hee] at hz hB ⊢
    refine W.seq (W.region S ?_)
    refine AS.cons (sp_boxa 1 rfl (fun b1 => ?_))
    refine AS.cons (sp_asg rfl ?_)
    refine AS.cons (sp_asg rfl ?_)
    refine AS.nil ?_
    intro _ S
    refine W.seq (W.region S ?_)
    refine AS.cons (sp_ldw 1 rfl rfl ag_28_9 ?_)
    refine AS.cons (sp_call1 17 [] _ rfl rfl cf_63 (fun F w _ S => hB w (hK.ext S.mod) (hH.ext S.mod) (hD.ext S.mod)) ?_ (by simp))
    rintro v17 i17 ⟨cs, hcl, hc1, rfl⟩
    refine AS.cons (sp_move rfl ?_)
    refine AS.cons (sp_ext rfl rfl ?_)
    refine AS.cons (sp_ext rfl rfl ?_)
    refine AS.cons (sp_ext rfl rfl ?_)
    refine AS.cons (sp_alloc 4 zv_81 rfl (fun b4 => ?_))
    refine AS.cons (sp_stw 4 sz_81_16 rfl rfl rfl rfl hcl rfl hc1 ?_)
    refine AS.cons (sp_asg rfl ?_)
    refine AS.cons (sp_asg (v := .int _ _) rfl ?_)
    refine AS.nil ?_
    intro _ S
    refine W.seq (W.seq (W.region S ?_))
    refine AS.cons (sp_move (v := .int _ _) rfl ?_)
    refine AS.cons (sp_neq rfl rfl ?_)
    refine AS.nil ?_
    intro _ S
    refine W.condd rfl (fun c22 => ?_) (fun c22 => ?_)
    · skip
      refine W.seq (W.region S ?_)
      refine AS.cons (sp_move (v := .int _ _) rfl ?_)
      refine AS.cons (sp_asg rfl ?_)
      refine AS.cons (sp_asg (v := .int _ _) rfl ?_)
      refine AS.nil ?_
      intro _ S
      refine W.ret ?_
      exact ret2 rfl rfl rfl S fun w' S' => ⟨rfl, S'.mod⟩
    · exact absurd hz c22
end
end Go.Proofs.YtajocmkgdjcmkaaDoor

/-
  The program's search for the notes that must be false.
-/
namespace Go.Proofs.YtajocmkgdjcmkaaDoor
set_option maxRecDepth 100000
open Go.Hu Go.RowKit
section
variable (b : Sb) (ha : Option Addr) (hc : Nat) (da : Option Addr) (dc : Nat)
abbrev oP (bl : Nat) : Value := .pointer (some ⟨bl, 0, none⟩)
/-- What the search hands back. -/
def ChR (b : Sb) (m : Nat) (o : Option (List Int)) (u : Value) (i : HP) : Prop := ∃ lv j, u = .tuple #[lv, .bool o.isSome] ∧ i = sep (CaP 3 (ordF b) m) j ∧ ∀ l, o = some l → LsR l lv j
theorem ChR.ne (b : Sb) (m : Nat) (o : Option (List Int)) : ∃ u i, ChR b m o u i := by
  cases o with
  | none => exact ⟨_, _, .slice none 0 0, emp, rfl, rfl, fun l h => by cases h⟩
  | some l =>
    obtain ⟨u, i, h⟩ := LsR.ne l
    exact ⟨_, _, u, i, rfl, rfl, fun l' h' => by cases h'; exact h⟩
/-- What the search has captured. -/
structure ChAt (Bp : Nat → Prop) (w : World) (m bb xb cb : Nat) : Prop where
  hb : w.heap[bb]? = some (.cells (bkL b ha hc da dc m).toArray 81 (0, 0))
  hx : w.heap[xb]? = some (.cells (sbL b ha hc da dc).toArray 28 (0, 0))
  hc : w.heap[cb]? = some (.cells [Value.func (.func 86) #[] #[oP bb, oP xb, oP cb]].toArray 107 (0, 0))
  nb : ¬ Bp bb
  nx : ¬ Bp xb
  nc : ¬ Bp cb
theorem lst_nn {s : List Int} (h : ∀ x ∈ s, 0 ≤ x) : 0 ≤ lst s := by
  unfold lst
  cases e : s.getLast? with
  | none => simp
  | some x => have := h x (List.mem_of_getLast? e); simp only; omega
theorem lst_at {s : List Int} {x : Int} (h : s[s.length - 1]? = some x) : lst s = x + 1 := by
  unfold lst; rw [List.getLast?_eq_getElem?, h]
theorem rd_cap {w : World} {a : Option Addr} {c n s : Nat} {xs : List Value} (h : Rd w (.slice a n c) n s xs) : Rd w (.slice a n n) n s xs := by
  refine ⟨h.1, h.2.1, ?_⟩
  rcases h.2.2 with ⟨rfl, _⟩ | ⟨b, off, cap, he, hc, hcs⟩
  · exact .inl ⟨rfl, a, 0, rfl⟩
  · injection he with h1 h2 h3
    subst h1
    exact .inr ⟨b, off, n, rfl, Nat.le_refl _, hcs⟩
set_option maxHeartbeats 8000000 in
theorem chooseF (hb : Good b) (m bb xb cb : Nat) : ∀ (r : Nat) (s : List Int) (sa : Option Addr) (sc : Nat) (Bp : Nat → Prop) (w : World), ChAt b ha hc da dc Bp w m bb xb cb → (0 < b.dr.length → ∀ z, da = some z → ¬ Bp z.block) → Ints w da dc b.dr → (∀ x ∈ s, 0 ≤ x ∧ x < b.dr.length) → s.all (ntB b) = true → s.length + r ≤ 60 → s.length ≤ sc →
    St Bp w w (upd eL 0 (sep (CaP 3 (ordF b) m) (slc 3 1 (.slice sa s.length sc) s.length (s.map iv)))) [] →
    Ct Tryd.prog 86 #[.slice sa s.length sc, iv ((s.length + r : Nat) : Int), oP bb, oP xb, oP cb] w (fun u w' => ∃ i, ChR b m (chL b.dr.length (wqP b) r s) u i ∧ St Bp w w' (upd eL 0 i) []) := by
  intro r
  induction r with
  | zero =>
    intro s sa sc Bp w hA hda hD hsb hnt hsr hscc S
    refine fn_intro (args := [.slice sa s.length sc, iv ((s.length + 0 : Nat) : Int), oP bb, oP xb, oP cb]) Tryd.func86 rfl rfl (by kernel_rfl) ?_
    have hcs : Cs w bb 0 (bkL b ha hc da dc m) := fun u v hv => by rw [cell_of_block hA.hb]; simpa using hv
    have S := S.unfold (k := 0) (k' := 900) (by decide) rfl
    obtain ⟨p, hp⟩ : ∃ p, wrP b s = p := ⟨_, rfl⟩
    have hres : chL b.dr.length (wqP b) 0 s = if p = true then some s else none := by simp only [chL, wqP, hnt, hp, Bool.and_true]
    rw [hres]
    refine W.seq (W.region S ?_)
    refine AS.cons (sp_boxs 5 rfl rfl (fun b5 => ?_))
    refine AS.cons (sp_alloc 7 zv_26 rfl (fun b7 => ?_))
    refine AS.cons (sp_alloc 8 zv_4 rfl (fun b8 => ?_))
    refine AS.nil ?_
    intro _ S
    refine W.seq (W.region S ?_)
    refine AS.cons (sp_ld 5 rfl rfl sc_26 rfl ?_)
    refine AS.cons (sp_len rfl sl_26_3_1 ?_)
    refine AS.cons (sp_asg (v := .int _ _) rfl ?_)
    refine AS.nil ?_
    intro _ S
    refine W.seq (W.seq (W.region S ?_))
    refine AS.cons (sp_move (v := .int _ _) rfl ?_)
    refine AS.cons (sp_move (v := .int _ _) rfl ?_)
    refine AS.cons (sp_eql rfl rfl ?_)
    refine AS.nil ?_
    intro _ S
    refine W.condd rfl (fun c18 => ?_) (fun c18 => ?_)
    · skip
      refine W.seq (W.seq (W.region S ?_))
      refine AS.cons (sp_ldoa (vs := bkL b ha hc da dc m) rfl ag_81_16 hcs hA.nb ?_)
      refine AS.cons (sp_ld 5 rfl rfl sc_26 rfl ?_)
      refine AS.cons (sp_call1s 21 601 [] _ (by decide) rfl rfl cf_87 (fun F w _ S => seedsCF b ha hc da dc m sa s.length sc w) ?_ (by simp))
      rintro v21 i21 j21 ⟨bb2, tt2, rfl, rfl, rfl⟩
      refine AS.nil ?_
      intro _ S
      refine W.block ?_
      refine W.rangeX 9001 9002 [7, 8] 0 (fun i => [(7, if i = 0 then pt b7 (.cells [Value.slice none 0 0].toArray 26 (0, 0)) else fun _ => False), (8, pt b8 (.cells [Value.bool false].toArray 4 (0, 0)))]) (fun (_ : PLift (p = true)) => [(7, pt b7 (.cells [Value.slice sa s.length sc].toArray 26 (0, 0))), (8, pt b8 (.cells [Value.bool true].toArray 4 (0, 0)))]) (fun _ => Code.ret) (seedIter b ha hc da dc hb m bb2 tt2 sa sc s (by omega)) S rfl cf_96 (fun _ => rfl) ⟨rfl, rfl, trivial⟩ ⟨rfl, rfl, rfl⟩ (fun _ => rfl) (fun _ => rfl) rfl (fun _ _ => rfl) (fun _ _ => rfl) (fun _ hx => hx.elim) (fun i M w1 S => ⟨(S.get (k := 21) rfl).1, (S.get (k := 601) rfl).1, ints_mod hD S.mod hda, S.slc_rd (k := 900) rfl (by omega)⟩) ?_ ?_ ?_
      · rintro i x l M w1 hix S
        obtain ⟨rfl⟩ | h0 : i = 0 ∨ i ≠ 0 := by omega
        case inr => obtain ⟨f, hf, _⟩ := S.chg 7; exact (show False from by rw [show upds [(7, if i = 0 then pt b7 (.cells [Value.slice none 0 0].toArray 26 (0, 0)) else fun _ => False), (8, pt b8 (.cells [Value.bool false].toArray 4 (0, 0)))] _ 7 = (if i = 0 then pt b7 (.cells [Value.slice none 0 0].toArray 26 (0, 0)) else fun _ => False) from rfl, if_neg h0] at hf; exact hf).elim
        have hpt : p = true := by
          rw [← hp]; unfold wrP
          rw [Bool.not_eq_true', decide_eq_false_iff_not]
          intro h; rw [h] at hix; cases hix
        have S := S.weak (k := 7) (i := pt b7 (.cells [Value.slice none 0 0].toArray 26 (0, 0))) (fun f hf => hf)
        refine W.skip ?_
        refine ⟨_, by repeat (first | exact Agr.refl _ _ | exact Agr.msk _ _ _ | refine Agr.upd ?_ _ rfl | refine Agr.upds ?_ rfl | refine Agr.mskIn ?_ rfl), rfl, S, fun r w3 S => ?_⟩
        refine W.block ?_
        refine W.seq (W.region S ?_)
        refine AS.cons (sp_ld 5 rfl rfl sc_26 rfl ?_)
        refine AS.cons (sp_st 7 rfl rfl rfl rfl sz_26_1 rfl rfl ?_)
        refine AS.cons (sp_st 8 rfl rfl rfl rfl sz_4_1 rfl rfl ?_)
        refine AS.nil ?_
        intro _ S
        refine W.ret ?_
        exact ⟨⟨hpt⟩, _, rfl, ⟨rfl, rfl, trivial⟩, by repeat (first | exact Agr.refl _ _ | exact Agr.msk _ _ _ | refine Agr.upd ?_ _ rfl | refine Agr.upds ?_ rfl | refine Agr.mskIn ?_ rfl), rfl, rfl, S⟩
      · intro dd M w2 S
        have hl0 : (sdL b s).length = 0 := by
          rcases Nat.eq_zero_or_pos (sdL b s).length with h | h
          · exact h
          · exfalso
            obtain ⟨f, hf, _⟩ := S.chg 7
            rw [show upds [(7, if (sdL b s).length = 0 then pt b7 (.cells [Value.slice none 0 0].toArray 26 (0, 0)) else fun _ => False), (8, pt b8 (.cells [Value.bool false].toArray 4 (0, 0)))] _ 7 = (if (sdL b s).length = 0 then pt b7 (.cells [Value.slice none 0 0].toArray 26 (0, 0)) else fun _ => False) from rfl, if_neg (by omega)] at hf
            exact hf
        have hpf : p = false := by
          rw [← hp]; unfold wrP
          rw [List.length_eq_zero_iff.1 hl0]; rfl
        have S := S.weak (k := 7) (i := pt b7 (.cells [Value.slice none 0 0].toArray 26 (0, 0))) (fun f hf => by
          rw [show upds [(7, if (sdL b s).length = 0 then pt b7 (.cells [Value.slice none 0 0].toArray 26 (0, 0)) else fun _ => False), (8, pt b8 (.cells [Value.bool false].toArray 4 (0, 0)))] _ 7 = (if (sdL b s).length = 0 then pt b7 (.cells [Value.slice none 0 0].toArray 26 (0, 0)) else fun _ => False) from rfl, if_pos hl0] at hf
          exact hf)
        refine W.seq (W.region S ?_)
        refine AS.cons (sp_st 7 rfl rfl rfl rfl sz_26_1 rfl rfl ?_)
        refine AS.cons (sp_st 8 rfl rfl rfl rfl sz_4_1 rfl rfl ?_)
        refine AS.nil ?_
        intro _ S
        refine W.ret ?_
        exact retss (v := Value.slice none 0 0) (v' := Value.bool false) 7 8 sc_26 sc_4 rfl rfl rfl rfl rfl rfl rfl S fun w' S' => ⟨_, ⟨_, _, by rw [hpf]; rfl, rfl, fun l h => by rw [hpf] at h; cases h⟩, by
          have S3 := (S'.fold (k := 0) (k' := 900) (by decide)).only 0
          rw [upd_same] at S3
          exact S3⟩
      · intro z d M w2 S
        have hpt := z.down
        refine ⟨rfl, W.ret ?_⟩
        exact retss (v := Value.slice sa s.length sc) (v' := Value.bool true) 7 8 sc_26 sc_4 rfl rfl rfl rfl rfl rfl rfl S fun w' S' => ⟨_, ⟨_, _, by rw [hpt]; rfl, rfl, fun l h => by rw [hpt] at h; cases h; exact ⟨⟨sa, sc, rfl, hscc⟩, rfl⟩⟩, by
          have S3 := (S'.fold (k := 0) (k' := 900) (by decide)).only 0
          rw [upd_same] at S3
          exact S3⟩
    · exact absurd (show ((s.length : Nat) : Int) = ((s.length + 0 : Nat) : Int) from rfl) c18
  | succ r ih =>
    intro s sa sc Bp w hA hda hD hsb hnt hsr hscc S
    refine fn_intro (args := [.slice sa s.length sc, iv ((s.length + (r + 1) : Nat) : Int), oP bb, oP xb, oP cb]) Tryd.func86 rfl rfl (by kernel_rfl) ?_
    have S := S.unfold (k := 0) (k' := 900) (by decide) rfl
    have hd8 := hb.d8
    obtain ⟨N, hN⟩ : ∃ N, b.dr.length = N := ⟨_, rfl⟩
    have h0 : 0 ≤ lst s := lst_nn fun x hx => (hsb x hx).1
    have hlN : lst s ≤ N := by
      unfold lst
      cases e : s.getLast? with
      | none => simp
      | some x => have := hsb x (List.mem_of_getLast? e); simp only; omega
    obtain ⟨n0, hn0⟩ : ∃ n0 : Nat, lst s = n0 := ⟨(lst s).toNat, by omega⟩
    obtain ⟨fs, hfs⟩ : ∃ fs : Nat → Option (List Int), fs = fun (k : Nat) => if lst s ≤ (k : Int) then chL b.dr.length (wqP b) r (s ++ [(k : Int)]) else none := ⟨_, rfl⟩
    have hres : chL b.dr.length (wqP b) (r + 1) s = fsU fs N := by rw [hfs, ← hN]; rfl
    have hdN : b.dr.length ≤ 8 := hd8
    have hdx : w.cell? ⟨xb, 0 + 8, none⟩ = some (.slice da b.dr.length dc) := (cell_of_block hA.hx _).trans rfl
    refine W.seq (W.region S ?_)
    refine AS.cons (sp_boxs 5 rfl rfl (fun b5 => ?_))
    refine AS.cons (sp_alloc 7 zv_26 rfl (fun b7 => ?_))
    refine AS.cons (sp_alloc 8 zv_4 rfl (fun b8 => ?_))
    refine AS.nil ?_
    intro _ S
    refine W.seq (W.region S ?_)
    refine AS.cons (sp_ld 5 rfl rfl sc_26 rfl ?_)
    refine AS.cons (sp_len rfl sl_26_3_1 ?_)
    refine AS.cons (sp_asg (v := .int _ _) rfl ?_)
    refine AS.nil ?_
    intro _ S
    refine W.seq (W.seq (W.region S ?_))
    refine AS.cons (sp_move (v := .int _ _) rfl ?_)
    refine AS.cons (sp_move (v := .int _ _) rfl ?_)
    refine AS.cons (sp_eql rfl rfl ?_)
    refine AS.nil ?_
    intro _ S
    refine W.condd rfl (fun c18 => ?_) (fun c18 => ?_)
    · exfalso; omega
    · skip
      refine W.skip ?_
      refine W.seq (W.region S ?_)
      refine AS.cons (sp_asg rfl ?_)
      refine AS.nil ?_
      intro _ S
      refine W.seq (W.seq (W.region S ?_))
      refine AS.cons (sp_move (v := .int _ _) rfl ?_)
      refine AS.cons (sp_gtr rfl rfl ?_)
      refine AS.nil ?_
      intro _ S
      refine W.condd rfl (fun c25 => ?_) (fun c25 => ?_)
      · skip
        have hsp : 0 < s.length := by omega
        obtain ⟨x, hx⟩ := get_some (l := s) (j := s.length - 1) (by omega)
        have hxl := lst_at hx
        have hxb := hsb x (List.mem_of_getElem? hx)
        refine W.region S ?_
        refine AS.cons (sp_ld 5 rfl rfl sc_26 rfl ?_)
        refine AS.cons (sp_move (v := .int _ _) rfl ?_)
        refine AS.cons (sp_sub rfl rfl (by first | omega | (simp only [decide_eq_true_eq, decide_eq_false_iff_not] at *; omega)) ?_)
        refine AS.cons (sp_iaS 900 rfl rfl rfl sl_26_3_1 (by omega) ?_)
        refine AS.cons (sp_ldS 900 (v := iv x) rfl rfl sc_3 (by rw [show ((s.length : Int) - 1).toNat * 1 = s.length - 1 by omega, List.getElem?_map, hx]; rfl) (by omega) ?_)
        refine AS.cons (sp_add rfl rfl (by first | omega | (simp only [decide_eq_true_eq, decide_eq_false_iff_not] at *; omega)) ?_)
        refine AS.cons (sp_asg (v := .int _ _) rfl ?_)
        refine AS.nil ?_
        intro _ S
        have hfrom : ∃ v, v = lst s := ⟨_, rfl⟩
        refine W.seq (W.seq (W.region S ?_))
        refine AS.cons (sp_move (v := .int _ _) rfl ?_)
        refine AS.cons (sp_asg (v := .int _ _) rfl ?_)
        refine AS.nil ?_
        intro _ S
        refine W.block ?_
        refine W.loopS S [11, 12, 13, 33, 34, 35, 36, 37, 38, 39, 40, 41, 42, 43, 44, 45, 46, 47, 48, 49, 50, 51, 52, 53, 54, 55, 56, 57, 58, 59, 60] [0, 7, 8, 53, 54] (fun (n : Nat) => [(11, iv n)]) (fun _ => [(0, CaP 3 (ordF b) m), (7, pt b7 (.cells [Value.slice none 0 0].toArray 26 (0, 0))), (8, pt b8 (.cells [Value.bool false].toArray 4 (0, 0)))]) (fun n => (n0 ≤ n ∧ n ≤ N) ∧ ∀ i, i < n → fs i = none) (fun n => N - n) n0 ⟨⟨Nat.le_refl _, by omega⟩, fun i hi => by rw [hfs]; exact if_neg (by omega)⟩ ⟨by first | (show iv (x + 1) = iv _; rw [← hn0, hxl]; done) | (show iv 0 = iv _; rw [← hn0]; unfold lst; rw [List.length_eq_zero_iff.1 (show s.length = 0 by omega)]; rfl), trivial⟩ ⟨rfl, rfl, rfl, trivial⟩ ?_
        rintro n σ M w1 ⟨⟨hn1, hn2⟩, hno⟩ S
        refine W.seq (W.seq (W.region S ?_))
        refine AS.cons (sp_move (v := .int _ _) rfl ?_)
        refine AS.cons (sp_fa rfl fo_28_4_8 ?_)
        refine AS.cons (sp_ldo (v := .slice da b.dr.length dc) rfl sc_26 hdx hA.nx ?_)
        refine AS.cons (sp_len rfl sl_26_3_1 ?_)
        refine AS.cons (sp_lss rfl rfl ?_)
        refine AS.nil ?_
        intro _ S
        refine W.condd rfl (fun c37 => ?_) (fun c37 => ?_)
        · skip
          have hlt : n < b.dr.length := by omega
          obtain ⟨y, hy⟩ := get_some hlt
          have hyd : b.dr.getD n 0 = y := by rw [List.getD_eq_getElem?_getD, hy]; rfl
          have hfn : fs n = chL b.dr.length (wqP b) r (s ++ [(n : Int)]) := by rw [hfs]; exact if_pos (by omega)
          refine W.skip ?_
          refine W.seq (W.block ?_)
          refine W.seq (W.seq (W.region S ?_))
          refine AS.cons (sp_fa rfl fo_28_4_8 ?_)
          refine AS.cons (sp_ldo (v := .slice da b.dr.length dc) rfl sc_26 hdx hA.nx ?_)
          refine AS.cons (sp_move (v := .int _ _) rfl ?_)
          refine AS.cons (sp_iaK (s := 1) (xs := b.dr.map iv) [] (fun F w _ S => ints_mod hD S.mod hda) rfl rfl sl_26_3_1 (by omega) ?_)
          refine AS.cons (sp_ldK (s := 1) (xs := b.dr.map iv) (v := iv y) [] (fun F w _ S => ints_mod hD S.mod hda) rfl sc_3 (by simp [hy]) (by omega) ?_)
          refine AS.cons (sp_eql rfl rfl ?_)
          refine AS.nil ?_
          intro _ S
          refine W.condd rfl (fun c45 => ?_) (fun c45 => ?_)
          · skip
            have hskip : fs n = none := by rw [hfn]; exact wq_skip (by rw [hyd]; exact c45)
            refine W.exit ?_
            refine W.region S ?_
            refine AS.cons (sp_move (v := .int _ _) rfl ?_)
            refine AS.cons (sp_add rfl rfl (by first | omega | (simp only [decide_eq_true_eq, decide_eq_false_iff_not] at *; omega)) ?_)
            refine AS.cons (sp_asg (v := .int _ _) rfl ?_)
            refine AS.nil ?_
            intro _ S
            first | exact ⟨n + 1, _, ⟨⟨by omega, by omega⟩, snoc_lt hno hskip⟩, by omega, ⟨by simp [upd], trivial⟩, ⟨rfl, rfl, rfl, trivial⟩, by repeat (first | exact Agr.refl _ _ | exact Agr.msk _ _ _ | refine Agr.upd ?_ _ rfl | refine Agr.upds ?_ rfl | refine Agr.mskIn ?_ rfl), by repeat (first | exact Agr.refl _ _ | exact Agr.msk _ _ _ | refine Agr.upd ?_ _ rfl | refine Agr.upds ?_ rfl | refine Agr.mskIn ?_ rfl), rfl, S⟩ | exact ⟨n + 1, _, ⟨⟨by omega, by omega⟩, snoc_lt hno hnn⟩, by omega, ⟨by simp [upd], trivial⟩, ⟨rfl, rfl, rfl, trivial⟩, by repeat (first | exact Agr.refl _ _ | exact Agr.msk _ _ _ | refine Agr.upd ?_ _ rfl | refine Agr.upds ?_ rfl | refine Agr.mskIn ?_ rfl), by repeat (first | exact Agr.refl _ _ | exact Agr.msk _ _ _ | refine Agr.upd ?_ _ rfl | refine Agr.upds ?_ rfl | refine Agr.mskIn ?_ rfl), rfl, S⟩
          · skip
            have hs1 : (s ++ [(n : Int)]).length = s.length + 1 := by simp
            have hsb1 : ∀ x ∈ s ++ [(n : Int)], 0 ≤ x ∧ x < b.dr.length := mem_snoc hsb ⟨by omega, by omega⟩
            have hnt1 : (s ++ [(n : Int)]).all (ntB b) = true := by
              rw [List.all_append, hnt]
              simp only [List.all_cons, List.all_nil, Bool.and_true, Bool.true_and]
              unfold ntB; rw [Int.toNat_natCast, hyd, decide_eq_false c45]; rfl
            have hml : (s ++ [(n : Int)]).map iv = s.map iv ++ [iv (n : Int)] := by rw [List.map_append]; rfl
            obtain ⟨o, ho⟩ : ∃ o, chL b.dr.length (wqP b) r (s ++ [(n : Int)]) = o := ⟨_, rfl⟩
            rw [ho] at hfn
            refine W.skip ?_
            refine W.seq (W.draw S mixed (fun i => ([KD.q [], KD.q [5], KD.q [], KD.q [], KD.q [], KD.q [], KD.a 53, KD.e [900, 53] [54], KD.q [], KD.e [0, 54] [0, 54], KD.q [], KD.q [], KD.q [], KD.q [], KD.q []] : List KD)[i]?) [7] [0, 1, 2, 3, 4, 5, 8, 6, 7, 9, 10, 11, 12, 13, 14] (by kernel_rfl) ?_)
            refine AW.cons rfl rfl (sp_ldo (v := .func (.func 86) #[] #[oP bb, oP xb, oP cb]) rfl sc_107 ((cell_of_block hA.hc _).trans rfl) hA.nc ?_)
            refine AW.cons rfl rfl (sp_ld 5 rfl rfl sc_26 rfl ?_)
            refine AW.cons rfl rfl (sp_move (v := .int _ _) rfl ?_)
            refine AW.cons rfl rfl (sp_move (v := .int _ _) rfl ?_)
            refine AW.cons rfl rfl (sp_sl3 (a := sa) (len := s.length) (cap := sc) (h' := (s.length : Int)) (m' := (s.length : Int)) rfl rfl rfl sl_26_3_1 (by omega) ?_)
            refine AW.cons rfl rfl (sp_move (v := .int _ _) rfl ?_)
            refine AW.cons rfl rfl (sp_move (v := .int _ _) rfl ?_)
            refine AW.cons rfl rfl (sp_bs 53 [.tmp 52] _ sl_26_3_1 zs_3_1 rfl rfl rfl rfl rfl rfl (fun b53 => ?_))
            refine AW.cons rfl rfl (sp_appN (n := s.length) (a := sa) (xs := s.map iv) 54 [900, 53] rfl rfl sl_26_3_1 zs_3_1 (fun F w hF S => rd_cap (S.slc_rd (k := 900) ((hF 900 (by simp)).trans rfl) (by omega))) (fun F w hF S => rd_pt (S.get ((hF 53 (by simp)).trans rfl)).1 rfl (by omega) (by omega)) (by omega) (by omega) (fun a54 c54 => ?_))
            refine AW.cons rfl rfl (sp_callXX (vs := [.slice a54 (s ++ [(n : Int)]).length c54, iv (((s ++ [(n : Int)]).length + r : Nat) : Int), oP bb, oP xb, oP cb]) (fs := []) (cs := [oP bb, oP xb, oP cb]) 0 54 0 [] (by decide) (ChR b m o) rfl (by rw [hs1, show s.length + 1 + r = s.length + (r + 1) by omega]; rfl) cf_86 (fun F w' hF S Bq S' p1 p2 => by
              have hold : ∀ bl o, w.heap[bl]? = some o → ¬ Bp bl → ¬ Bq bl := fun bl o h1 h2 h3 => by
                rcases p1 _ h3 with h4 | h4
                · have := lt_of_some h1; omega
                · exact h2 h4
              have h := ih (s ++ [(n : Int)]) a54 c54 Bq w' ⟨S.obj hA.hb hA.nb, S.obj hA.hx hA.nx, S.obj hA.hc hA.nc, hold _ _ hA.hb hA.nb, hold _ _ hA.hx hA.nx, hold _ _ hA.hc hA.nc⟩ (fun hl z hz hq => by
                rcases p1 _ hq with h4 | h4
                · have := ints_old hD hl z hz; omega
                · exact hda hl z hz h4) (ints_mod hD S.mod hda) hsb1 hnt1 (by rw [hs1]; omega) (by
                  have h2 := S.slc_form (k := 54) (E := 3) (size := 1) (v := .slice a54 (s.length + 1) c54) (n := s.length + 1) (xs := s.map iv ++ [iv (n : Int)]) ((hF 54 (by simp)).trans rfl)
                  obtain ⟨_, a', c', he, hle, _⟩ := h2
                  injection he with _ _ h3
                  rw [hs1]; omega) (by rw [hs1, hml]; exact S')
              rw [ho] at h
              exact h) ?_ (fun _ => ChR.ne b m o))
            rintro v56 i56 ⟨lv, j56, rfl, rfl, hlv⟩
            refine AW.cons rfl rfl (sp_move rfl ?_)
            refine AW.cons rfl rfl (sp_ext rfl rfl ?_)
            refine AW.cons rfl rfl (sp_ext rfl rfl ?_)
            refine AW.cons rfl rfl (sp_asg rfl ?_)
            refine AW.cons rfl rfl (sp_asg (v := .bool _) rfl ?_)
            refine AW.nil ?_
            intro _ S
            refine W.seq (W.region S ?_)
            refine AS.cons (sp_move (v := .bool _) rfl ?_)
            refine AS.nil ?_
            intro _ S
            refine W.cond rfl (fun c59 => ?_) (fun c59 => ?_)
            · skip
              obtain ⟨l, hl⟩ := Option.isSome_iff_exists.1 c59
              have hfin : chL b.dr.length (wqP b) (r + 1) s = some l := by rw [hres]; exact fsU_at hno (by rw [hfn, hl]) (by omega)
              have hls := hlv l hl
              obtain ⟨⟨al, cl, rfl, hcl⟩, rfl⟩ := hls
              refine W.seq (W.region S ?_)
              refine AS.cons (sp_move rfl ?_)
              refine AS.cons (sp_stw (l := [Value.slice none 0 0]) (v := Value.slice al l.length cl) 7 sz_26_1 rfl rfl rfl rfl rfl rfl rfl ?_)
              refine AS.cons (sp_stw (l := [Value.bool false]) (v := Value.bool true) 8 sz_4_1 rfl rfl rfl rfl rfl rfl rfl ?_)
              refine AS.nil ?_
              intro _ S
              refine W.ret ?_
              first | exact retss (v := Value.slice al l.length cl) (v' := Value.bool true) 7 8 sc_26 sc_4 rfl rfl rfl rfl rfl rfl rfl S fun w' S' => ⟨_, ⟨_, _, by rw [hfin]; rfl, rfl, fun l' h => by rw [hfin] at h; cases h; exact ⟨⟨al, cl, rfl, hcl⟩, rfl⟩⟩, S'.only 0⟩ | exact retss (v := Value.slice none 0 0) (v' := Value.bool false) 7 8 sc_26 sc_4 rfl rfl rfl rfl rfl rfl rfl S fun w' S' => ⟨_, ⟨_, _, by rw [hfin]; rfl, rfl, fun l' h => by rw [hfin] at h; cases h⟩, by have S3 := (S'.fold (k := 0) (k' := 900) (by decide)).only 0; rw [upd_same] at S3; exact S3⟩
            · skip
              have hnn : fs n = none := by
                rw [hfn]
                cases o with
                | none => rfl
                | some l => cases c59
              have S := S.unfold (k := 0) (k' := 54) (by decide) rfl
              refine W.skip ?_
              refine W.region S ?_
              refine AS.cons (sp_move (v := .int _ _) rfl ?_)
              refine AS.cons (sp_add rfl rfl (by first | omega | (simp only [decide_eq_true_eq, decide_eq_false_iff_not] at *; omega)) ?_)
              refine AS.cons (sp_asg (v := .int _ _) rfl ?_)
              refine AS.nil ?_
              intro _ S
              first | exact ⟨n + 1, _, ⟨⟨by omega, by omega⟩, snoc_lt hno hskip⟩, by omega, ⟨by simp [upd], trivial⟩, ⟨rfl, rfl, rfl, trivial⟩, by repeat (first | exact Agr.refl _ _ | exact Agr.msk _ _ _ | refine Agr.upd ?_ _ rfl | refine Agr.upds ?_ rfl | refine Agr.mskIn ?_ rfl), by repeat (first | exact Agr.refl _ _ | exact Agr.msk _ _ _ | refine Agr.upd ?_ _ rfl | refine Agr.upds ?_ rfl | refine Agr.mskIn ?_ rfl), rfl, S⟩ | exact ⟨n + 1, _, ⟨⟨by omega, by omega⟩, snoc_lt hno hnn⟩, by omega, ⟨by simp [upd], trivial⟩, ⟨rfl, rfl, rfl, trivial⟩, by repeat (first | exact Agr.refl _ _ | exact Agr.msk _ _ _ | refine Agr.upd ?_ _ rfl | refine Agr.upds ?_ rfl | refine Agr.mskIn ?_ rfl), by repeat (first | exact Agr.refl _ _ | exact Agr.msk _ _ _ | refine Agr.upd ?_ _ rfl | refine Agr.upds ?_ rfl | refine Agr.mskIn ?_ rfl), rfl, S⟩
        · skip
          obtain rfl : n = N := by omega
          have hfin : chL b.dr.length (wqP b) (r + 1) s = none := by rw [hres]; exact fsU_none.2 hno
          refine W.exit ?_
          refine W.seq (W.region S ?_)
          refine AS.cons (sp_st 7 rfl rfl rfl rfl sz_26_1 rfl rfl ?_)
          refine AS.cons (sp_st 8 rfl rfl rfl rfl sz_4_1 rfl rfl ?_)
          refine AS.nil ?_
          intro _ S
          refine W.ret ?_
          first | exact retss (v := Value.slice al l.length cl) (v' := Value.bool true) 7 8 sc_26 sc_4 rfl rfl rfl rfl rfl rfl rfl S fun w' S' => ⟨_, ⟨_, _, by rw [hfin]; rfl, rfl, fun l' h => by rw [hfin] at h; cases h; exact ⟨⟨al, cl, rfl, hcl⟩, rfl⟩⟩, S'.only 0⟩ | exact retss (v := Value.slice none 0 0) (v' := Value.bool false) 7 8 sc_26 sc_4 rfl rfl rfl rfl rfl rfl rfl S fun w' S' => ⟨_, ⟨_, _, by rw [hfin]; rfl, rfl, fun l' h => by rw [hfin] at h; cases h⟩, by have S3 := (S'.fold (k := 0) (k' := 900) (by decide)).only 0; rw [upd_same] at S3; exact S3⟩
      · skip
        refine W.skip ?_
        have hfrom : ∃ v, v = lst s := ⟨_, rfl⟩
        refine W.seq (W.seq (W.region S ?_))
        refine AS.cons (sp_move (v := .int _ _) rfl ?_)
        refine AS.cons (sp_asg (v := .int _ _) rfl ?_)
        refine AS.nil ?_
        intro _ S
        refine W.block ?_
        refine W.loopS S [11, 12, 13, 33, 34, 35, 36, 37, 38, 39, 40, 41, 42, 43, 44, 45, 46, 47, 48, 49, 50, 51, 52, 53, 54, 55, 56, 57, 58, 59, 60] [0, 7, 8, 53, 54] (fun (n : Nat) => [(11, iv n)]) (fun _ => [(0, CaP 3 (ordF b) m), (7, pt b7 (.cells [Value.slice none 0 0].toArray 26 (0, 0))), (8, pt b8 (.cells [Value.bool false].toArray 4 (0, 0)))]) (fun n => (n0 ≤ n ∧ n ≤ N) ∧ ∀ i, i < n → fs i = none) (fun n => N - n) n0 ⟨⟨Nat.le_refl _, by omega⟩, fun i hi => by rw [hfs]; exact if_neg (by omega)⟩ ⟨by first | (show iv (x + 1) = iv _; rw [← hn0, hxl]; done) | (show iv 0 = iv _; rw [← hn0]; unfold lst; rw [List.length_eq_zero_iff.1 (show s.length = 0 by omega)]; rfl), trivial⟩ ⟨rfl, rfl, rfl, trivial⟩ ?_
        rintro n σ M w1 ⟨⟨hn1, hn2⟩, hno⟩ S
        refine W.seq (W.seq (W.region S ?_))
        refine AS.cons (sp_move (v := .int _ _) rfl ?_)
        refine AS.cons (sp_fa rfl fo_28_4_8 ?_)
        refine AS.cons (sp_ldo (v := .slice da b.dr.length dc) rfl sc_26 hdx hA.nx ?_)
        refine AS.cons (sp_len rfl sl_26_3_1 ?_)
        refine AS.cons (sp_lss rfl rfl ?_)
        refine AS.nil ?_
        intro _ S
        refine W.condd rfl (fun c37 => ?_) (fun c37 => ?_)
        · skip
          have hlt : n < b.dr.length := by omega
          obtain ⟨y, hy⟩ := get_some hlt
          have hyd : b.dr.getD n 0 = y := by rw [List.getD_eq_getElem?_getD, hy]; rfl
          have hfn : fs n = chL b.dr.length (wqP b) r (s ++ [(n : Int)]) := by rw [hfs]; exact if_pos (by omega)
          refine W.skip ?_
          refine W.seq (W.block ?_)
          refine W.seq (W.seq (W.region S ?_))
          refine AS.cons (sp_fa rfl fo_28_4_8 ?_)
          refine AS.cons (sp_ldo (v := .slice da b.dr.length dc) rfl sc_26 hdx hA.nx ?_)
          refine AS.cons (sp_move (v := .int _ _) rfl ?_)
          refine AS.cons (sp_iaK (s := 1) (xs := b.dr.map iv) [] (fun F w _ S => ints_mod hD S.mod hda) rfl rfl sl_26_3_1 (by omega) ?_)
          refine AS.cons (sp_ldK (s := 1) (xs := b.dr.map iv) (v := iv y) [] (fun F w _ S => ints_mod hD S.mod hda) rfl sc_3 (by simp [hy]) (by omega) ?_)
          refine AS.cons (sp_eql rfl rfl ?_)
          refine AS.nil ?_
          intro _ S
          refine W.condd rfl (fun c45 => ?_) (fun c45 => ?_)
          · skip
            have hskip : fs n = none := by rw [hfn]; exact wq_skip (by rw [hyd]; exact c45)
            refine W.exit ?_
            refine W.region S ?_
            refine AS.cons (sp_move (v := .int _ _) rfl ?_)
            refine AS.cons (sp_add rfl rfl (by first | omega | (simp only [decide_eq_true_eq, decide_eq_false_iff_not] at *; omega)) ?_)
            refine AS.cons (sp_asg (v := .int _ _) rfl ?_)
            refine AS.nil ?_
            intro _ S
            first | exact ⟨n + 1, _, ⟨⟨by omega, by omega⟩, snoc_lt hno hskip⟩, by omega, ⟨by simp [upd], trivial⟩, ⟨rfl, rfl, rfl, trivial⟩, by repeat (first | exact Agr.refl _ _ | exact Agr.msk _ _ _ | refine Agr.upd ?_ _ rfl | refine Agr.upds ?_ rfl | refine Agr.mskIn ?_ rfl), by repeat (first | exact Agr.refl _ _ | exact Agr.msk _ _ _ | refine Agr.upd ?_ _ rfl | refine Agr.upds ?_ rfl | refine Agr.mskIn ?_ rfl), rfl, S⟩ | exact ⟨n + 1, _, ⟨⟨by omega, by omega⟩, snoc_lt hno hnn⟩, by omega, ⟨by simp [upd], trivial⟩, ⟨rfl, rfl, rfl, trivial⟩, by repeat (first | exact Agr.refl _ _ | exact Agr.msk _ _ _ | refine Agr.upd ?_ _ rfl | refine Agr.upds ?_ rfl | refine Agr.mskIn ?_ rfl), by repeat (first | exact Agr.refl _ _ | exact Agr.msk _ _ _ | refine Agr.upd ?_ _ rfl | refine Agr.upds ?_ rfl | refine Agr.mskIn ?_ rfl), rfl, S⟩
          · skip
            have hs1 : (s ++ [(n : Int)]).length = s.length + 1 := by simp
            have hsb1 : ∀ x ∈ s ++ [(n : Int)], 0 ≤ x ∧ x < b.dr.length := mem_snoc hsb ⟨by omega, by omega⟩
            have hnt1 : (s ++ [(n : Int)]).all (ntB b) = true := by
              rw [List.all_append, hnt]
              simp only [List.all_cons, List.all_nil, Bool.and_true, Bool.true_and]
              unfold ntB; rw [Int.toNat_natCast, hyd, decide_eq_false c45]; rfl
            have hml : (s ++ [(n : Int)]).map iv = s.map iv ++ [iv (n : Int)] := by rw [List.map_append]; rfl
            obtain ⟨o, ho⟩ : ∃ o, chL b.dr.length (wqP b) r (s ++ [(n : Int)]) = o := ⟨_, rfl⟩
            rw [ho] at hfn
            refine W.skip ?_
            refine W.seq (W.draw S mixed (fun i => ([KD.q [], KD.q [5], KD.q [], KD.q [], KD.q [], KD.q [], KD.a 53, KD.e [900, 53] [54], KD.q [], KD.e [0, 54] [0, 54], KD.q [], KD.q [], KD.q [], KD.q [], KD.q []] : List KD)[i]?) [7] [0, 1, 2, 3, 4, 5, 8, 6, 7, 9, 10, 11, 12, 13, 14] (by kernel_rfl) ?_)
            refine AW.cons rfl rfl (sp_ldo (v := .func (.func 86) #[] #[oP bb, oP xb, oP cb]) rfl sc_107 ((cell_of_block hA.hc _).trans rfl) hA.nc ?_)
            refine AW.cons rfl rfl (sp_ld 5 rfl rfl sc_26 rfl ?_)
            refine AW.cons rfl rfl (sp_move (v := .int _ _) rfl ?_)
            refine AW.cons rfl rfl (sp_move (v := .int _ _) rfl ?_)
            refine AW.cons rfl rfl (sp_sl3 (a := sa) (len := s.length) (cap := sc) (h' := (s.length : Int)) (m' := (s.length : Int)) rfl rfl rfl sl_26_3_1 (by omega) ?_)
            refine AW.cons rfl rfl (sp_move (v := .int _ _) rfl ?_)
            refine AW.cons rfl rfl (sp_move (v := .int _ _) rfl ?_)
            refine AW.cons rfl rfl (sp_bs 53 [.tmp 52] _ sl_26_3_1 zs_3_1 rfl rfl rfl rfl rfl rfl (fun b53 => ?_))
            refine AW.cons rfl rfl (sp_appN (n := s.length) (a := sa) (xs := s.map iv) 54 [900, 53] rfl rfl sl_26_3_1 zs_3_1 (fun F w hF S => rd_cap (S.slc_rd (k := 900) ((hF 900 (by simp)).trans rfl) (by omega))) (fun F w hF S => rd_pt (S.get ((hF 53 (by simp)).trans rfl)).1 rfl (by omega) (by omega)) (by omega) (by omega) (fun a54 c54 => ?_))
            refine AW.cons rfl rfl (sp_callXX (vs := [.slice a54 (s ++ [(n : Int)]).length c54, iv (((s ++ [(n : Int)]).length + r : Nat) : Int), oP bb, oP xb, oP cb]) (fs := []) (cs := [oP bb, oP xb, oP cb]) 0 54 0 [] (by decide) (ChR b m o) rfl (by rw [hs1, show s.length + 1 + r = s.length + (r + 1) by omega]; rfl) cf_86 (fun F w' hF S Bq S' p1 p2 => by
              have hold : ∀ bl o, w.heap[bl]? = some o → ¬ Bp bl → ¬ Bq bl := fun bl o h1 h2 h3 => by
                rcases p1 _ h3 with h4 | h4
                · have := lt_of_some h1; omega
                · exact h2 h4
              have h := ih (s ++ [(n : Int)]) a54 c54 Bq w' ⟨S.obj hA.hb hA.nb, S.obj hA.hx hA.nx, S.obj hA.hc hA.nc, hold _ _ hA.hb hA.nb, hold _ _ hA.hx hA.nx, hold _ _ hA.hc hA.nc⟩ (fun hl z hz hq => by
                rcases p1 _ hq with h4 | h4
                · have := ints_old hD hl z hz; omega
                · exact hda hl z hz h4) (ints_mod hD S.mod hda) hsb1 hnt1 (by rw [hs1]; omega) (by
                  have h2 := S.slc_form (k := 54) (E := 3) (size := 1) (v := .slice a54 (s.length + 1) c54) (n := s.length + 1) (xs := s.map iv ++ [iv (n : Int)]) ((hF 54 (by simp)).trans rfl)
                  obtain ⟨_, a', c', he, hle, _⟩ := h2
                  injection he with _ _ h3
                  rw [hs1]; omega) (by rw [hs1, hml]; exact S')
              rw [ho] at h
              exact h) ?_ (fun _ => ChR.ne b m o))
            rintro v56 i56 ⟨lv, j56, rfl, rfl, hlv⟩
            refine AW.cons rfl rfl (sp_move rfl ?_)
            refine AW.cons rfl rfl (sp_ext rfl rfl ?_)
            refine AW.cons rfl rfl (sp_ext rfl rfl ?_)
            refine AW.cons rfl rfl (sp_asg rfl ?_)
            refine AW.cons rfl rfl (sp_asg (v := .bool _) rfl ?_)
            refine AW.nil ?_
            intro _ S
            refine W.seq (W.region S ?_)
            refine AS.cons (sp_move (v := .bool _) rfl ?_)
            refine AS.nil ?_
            intro _ S
            refine W.cond rfl (fun c59 => ?_) (fun c59 => ?_)
            · skip
              obtain ⟨l, hl⟩ := Option.isSome_iff_exists.1 c59
              have hfin : chL b.dr.length (wqP b) (r + 1) s = some l := by rw [hres]; exact fsU_at hno (by rw [hfn, hl]) (by omega)
              have hls := hlv l hl
              obtain ⟨⟨al, cl, rfl, hcl⟩, rfl⟩ := hls
              refine W.seq (W.region S ?_)
              refine AS.cons (sp_move rfl ?_)
              refine AS.cons (sp_stw (l := [Value.slice none 0 0]) (v := Value.slice al l.length cl) 7 sz_26_1 rfl rfl rfl rfl rfl rfl rfl ?_)
              refine AS.cons (sp_stw (l := [Value.bool false]) (v := Value.bool true) 8 sz_4_1 rfl rfl rfl rfl rfl rfl rfl ?_)
              refine AS.nil ?_
              intro _ S
              refine W.ret ?_
              first | exact retss (v := Value.slice al l.length cl) (v' := Value.bool true) 7 8 sc_26 sc_4 rfl rfl rfl rfl rfl rfl rfl S fun w' S' => ⟨_, ⟨_, _, by rw [hfin]; rfl, rfl, fun l' h => by rw [hfin] at h; cases h; exact ⟨⟨al, cl, rfl, hcl⟩, rfl⟩⟩, S'.only 0⟩ | exact retss (v := Value.slice none 0 0) (v' := Value.bool false) 7 8 sc_26 sc_4 rfl rfl rfl rfl rfl rfl rfl S fun w' S' => ⟨_, ⟨_, _, by rw [hfin]; rfl, rfl, fun l' h => by rw [hfin] at h; cases h⟩, by have S3 := (S'.fold (k := 0) (k' := 900) (by decide)).only 0; rw [upd_same] at S3; exact S3⟩
            · skip
              have hnn : fs n = none := by
                rw [hfn]
                cases o with
                | none => rfl
                | some l => cases c59
              have S := S.unfold (k := 0) (k' := 54) (by decide) rfl
              refine W.skip ?_
              refine W.region S ?_
              refine AS.cons (sp_move (v := .int _ _) rfl ?_)
              refine AS.cons (sp_add rfl rfl (by first | omega | (simp only [decide_eq_true_eq, decide_eq_false_iff_not] at *; omega)) ?_)
              refine AS.cons (sp_asg (v := .int _ _) rfl ?_)
              refine AS.nil ?_
              intro _ S
              first | exact ⟨n + 1, _, ⟨⟨by omega, by omega⟩, snoc_lt hno hskip⟩, by omega, ⟨by simp [upd], trivial⟩, ⟨rfl, rfl, rfl, trivial⟩, by repeat (first | exact Agr.refl _ _ | exact Agr.msk _ _ _ | refine Agr.upd ?_ _ rfl | refine Agr.upds ?_ rfl | refine Agr.mskIn ?_ rfl), by repeat (first | exact Agr.refl _ _ | exact Agr.msk _ _ _ | refine Agr.upd ?_ _ rfl | refine Agr.upds ?_ rfl | refine Agr.mskIn ?_ rfl), rfl, S⟩ | exact ⟨n + 1, _, ⟨⟨by omega, by omega⟩, snoc_lt hno hnn⟩, by omega, ⟨by simp [upd], trivial⟩, ⟨rfl, rfl, rfl, trivial⟩, by repeat (first | exact Agr.refl _ _ | exact Agr.msk _ _ _ | refine Agr.upd ?_ _ rfl | refine Agr.upds ?_ rfl | refine Agr.mskIn ?_ rfl), by repeat (first | exact Agr.refl _ _ | exact Agr.msk _ _ _ | refine Agr.upd ?_ _ rfl | refine Agr.upds ?_ rfl | refine Agr.mskIn ?_ rfl), rfl, S⟩
        · skip
          obtain rfl : n = N := by omega
          have hfin : chL b.dr.length (wqP b) (r + 1) s = none := by rw [hres]; exact fsU_none.2 hno
          refine W.exit ?_
          refine W.seq (W.region S ?_)
          refine AS.cons (sp_st 7 rfl rfl rfl rfl sz_26_1 rfl rfl ?_)
          refine AS.cons (sp_st 8 rfl rfl rfl rfl sz_4_1 rfl rfl ?_)
          refine AS.nil ?_
          intro _ S
          refine W.ret ?_
          first | exact retss (v := Value.slice al l.length cl) (v' := Value.bool true) 7 8 sc_26 sc_4 rfl rfl rfl rfl rfl rfl rfl S fun w' S' => ⟨_, ⟨_, _, by rw [hfin]; rfl, rfl, fun l' h => by rw [hfin] at h; cases h; exact ⟨⟨al, cl, rfl, hcl⟩, rfl⟩⟩, S'.only 0⟩ | exact retss (v := Value.slice none 0 0) (v' := Value.bool false) 7 8 sc_26 sc_4 rfl rfl rfl rfl rfl rfl rfl S fun w' S' => ⟨_, ⟨_, _, by rw [hfin]; rfl, rfl, fun l' h => by rw [hfin] at h; cases h⟩, by have S3 := (S'.fold (k := 0) (k' := 900) (by decide)).only 0; rw [upd_same] at S3; exact S3⟩
end
end Go.Proofs.YtajocmkgdjcmkaaDoor

/-
  The program's answers: the notes that must be false.
-/
namespace Go.Proofs.YtajocmkgdjcmkaaDoor
set_option maxRecDepth 100000
open Go.Hu Go.RowKit
section
variable (b : Sb) (ha : Option Addr) (hc : Nat) (da : Option Addr) (dc : Nat)
set_option maxHeartbeats 8000000 in
theorem wrongP (w : World) (hK : Kinds w) (hH : Hos w ha hc b.hs) (hD : Ints w da dc b.dr) : Ct Tryd.prog 33 #[.agg (sbL b ha hc da dc).toArray] w (fun u w' => ∃ i, LsE (wrV b) (chkV b) u i ∧ St no w w' (upd eL 0 i) []) := by
  refine fn_intro (args := [.agg (sbL b ha hc da dc).toArray]) Tryd.func33 rfl rfl (by kernel_rfl) ?_
  have S := St.start no w
  have hdn : b.dr.length ≤ 9223372036854775807 := hD.2.1
  refine W.seq (W.region S ?_)
  refine AS.cons (sp_boxa 1 rfl (fun b1 => ?_))
  refine AS.cons (sp_asg rfl ?_)
  refine AS.cons (sp_asg rfl ?_)
  refine AS.nil ?_
  intro _ S
  refine W.seq (W.seq (W.region S ?_))
  refine AS.cons (sp_ldw 1 rfl rfl ag_28_9 ?_)
  refine AS.cons (sp_call [] rfl rfl cf_17 (fun F w _ S => checkP b ha hc da dc w (hK.ext S.mod) (hH.ext S.mod) (hD.ext S.mod)) ?_)
  refine AS.cons (sp_asg (v := .int _ _) rfl ?_)
  refine AS.nil ?_
  intro _ S
  refine W.seq (W.region S ?_)
  refine AS.cons (sp_move (v := .int _ _) rfl ?_)
  refine AS.cons (sp_neq rfl rfl ?_)
  refine AS.nil ?_
  intro _ S
  refine W.condd rfl (fun c13 => ?_) (fun c13 => ?_)
  · skip
    have hl : wrV b = [] := by unfold wrV; rw [chk_isn c13]; rfl
    refine W.seq (W.region S ?_)
    refine AS.cons (sp_move (v := .int _ _) rfl ?_)
    refine AS.cons (sp_asg rfl ?_)
    refine AS.cons (sp_asg (v := .int _ _) rfl ?_)
    refine AS.nil ?_
    intro _ S
    refine W.ret ?_
    first | exact ret2 rfl rfl rfl S fun w' S' => ⟨_, ⟨none, 0, by rw [hl]; exact Nat.le_refl 0, by rw [hl]; rfl, by rw [hl]; rfl⟩, nilE S'⟩ | exact ret2 rfl rfl rfl S fun w' S' => ⟨_, ⟨al, (wrV b).length, Nat.le_refl _, by rw [he]; rfl, rfl⟩, by
      have S2 := (S'.weak (k := 905) (i := slc 3 1 (.slice al (wrV b).length (wrV b).length) (wrV b).length ((wrV b).map iv)) (fun f hf => slc_cap hf)).only 905
      rw [upd_same] at S2
      exact S2⟩
  · skip
    have hok := chk_is (Decidable.not_not.1 c13)
    have hb := okS_good.1 hok
    have hO := hb.own
    have he := chk_ok hok
    have hd8 := hb.d8
    have hwq := wq_is hb
    obtain ⟨fs, hfs⟩ : ∃ fs : Nat → Option (List Int), fs = fun (k : Nat) => chL b.dr.length (wqP b) k [] := ⟨_, rfl⟩
    have hres : fsU fs (b.dr.length + 1) = some (wrV b) := by rw [hfs, ← hwq]; rfl
    refine W.skip ?_
    refine W.seq (W.region S ?_)
    refine AS.cons (sp_ldw 1 rfl rfl ag_28_9 ?_)
    refine AS.cons (sp_call1 16 [] _ rfl rfl cf_73 (fun F w _ S => openedF _ _ _ _ _ (by assumption) w (hK.ext S.mod) (hH.ext S.mod)) ?_ (by simp))
    rintro v16 i16 ⟨m, rfl, rfl⟩
    refine AS.cons (sp_alloc 5 zv_81 rfl (fun b5 => ?_))
    refine AS.cons (sp_st 5 rfl rfl rfl rfl sz_81_16 rfl rfl ?_)
    refine AS.nil ?_
    intro _ S
    refine W.seq (W.region S ?_)
    refine AS.cons (sp_alloc 6 zv_107 rfl (fun b6 => ?_))
    refine AS.nil ?_
    intro _ S
    refine W.seq (W.region S ?_)
    refine AS.cons (sp_mf ?_)
    refine AS.cons (sp_st 6 rfl rfl rfl rfl sz_107_1 rfl rfl ?_)
    refine AS.nil ?_
    intro _ S
    refine W.seq (W.seq (W.region S ?_))
    refine AS.cons (sp_fa rfl fo_28_4_8 ?_)
    refine AS.cons (sp_ld 1 rfl rfl sc_26 rfl ?_)
    refine AS.cons (sp_len rfl sl_26_3_1 ?_)
    refine AS.cons (sp_add rfl rfl (by first | omega | (simp only [decide_eq_true_eq, decide_eq_false_iff_not] at *; omega)) ?_)
    refine AS.cons (sp_move rfl ?_)
    refine AS.nil ?_
    intro _ S
    refine W.block ?_
    refine W.loopS S [2, 3, 7, 8, 9, 22, 23, 24, 25, 26, 27, 28, 29, 30, 31, 32, 33, 34, 35, 36, 37, 38] [16, 905] (fun (n : Nat) => [(22, iv n)]) (fun n => [(16, CaP 3 (ordF b) m)]) (fun n => n ≤ b.dr.length + 1 ∧ ∀ i, i < n → fs i = none) (fun n => b.dr.length + 1 - n) 0 ⟨by omega, fun i hi => absurd hi (by omega)⟩ ⟨rfl, trivial⟩ ⟨rfl, trivial⟩ ?_
    rintro n σ M w1 ⟨hn, hno⟩ S
    refine W.seq (W.region S ?_)
    refine AS.cons (sp_lss rfl rfl ?_)
    refine AS.nil ?_
    intro _ S
    refine W.seq (W.condd rfl (fun c23 => ?_) (fun c23 => ?_))
    · skip
      have hlt : n < b.dr.length + 1 := by omega
      obtain ⟨o, ho⟩ : ∃ o, chL b.dr.length (wqP b) n [] = o := ⟨_, rfl⟩
      have hfn : fs n = o := by rw [hfs]; exact ho
      have S := (S.drop 905).weak (k := 905) (i := slc 3 1 (.slice none 0 0) 0 []) (fun f hf => by rw [upd_same] at hf; exact slc_nil 3 1 f hf)
      refine W.skip ?_
      refine W.seq (W.block ?_)
      refine W.seq (W.region S ?_)
      refine AS.cons (sp_move (v := .int _ _) rfl ?_)
      refine AS.cons (sp_asg (v := .int _ _) rfl ?_)
      refine AS.nil ?_
      intro _ S
      refine W.seq (W.region S ?_)
      refine AS.cons (sp_ld 6 rfl rfl sc_107 rfl ?_)
      refine AS.cons (sp_move (v := .int _ _) rfl ?_)
      refine AS.cons (sp_callXX (vs := [.slice none 0 0, iv n, oP b5, oP b1, oP b6]) (fs := []) (cs := [oP b5, oP b1, oP b6]) 16 905 0 [5, 1, 6] (by decide) (ChR b m o) rfl rfl cf_86 (fun F w' hF S Bq S' p1 p2 => by
        have h := chooseF b ha hc da dc hb m b5 b1 b6 n [] none 0 Bq w' ⟨(S.get ((hF 5 (by simp)).trans rfl)).1, (S.get ((hF 1 (by simp)).trans rfl)).1, (S.get ((hF 6 (by simp)).trans rfl)).1, p2 5 b5 _ (by decide) (by decide) ((hF 5 (by simp)).trans rfl), p2 1 b1 _ (by decide) (by decide) ((hF 1 (by simp)).trans rfl), p2 6 b6 _ (by decide) (by decide) ((hF 6 (by simp)).trans rfl)⟩ (not_lent hD p1) (hD.ext S.mod) (fun x hx => by cases hx) rfl (by show 0 + n ≤ 60; omega) (Nat.le_refl 0) S'
        rw [ho, show (([] : List Int).length + n : Nat) = n from Nat.zero_add n] at h
        exact h) ?_ (by simp))
      rintro v28 i28 ⟨lv, j28, rfl, rfl, hlv⟩
      refine AS.cons (sp_move rfl ?_)
      refine AS.cons (sp_ext rfl rfl ?_)
      refine AS.cons (sp_ext rfl rfl ?_)
      refine AS.cons (sp_asg rfl ?_)
      refine AS.cons (sp_asg (v := .bool _) rfl ?_)
      refine AS.nil ?_
      intro _ S
      refine W.seq (W.region S ?_)
      refine AS.cons (sp_move (v := .bool _) rfl ?_)
      refine AS.nil ?_
      intro _ S
      refine W.cond rfl (fun c31 => ?_) (fun c31 => ?_)
      · skip
        obtain ⟨l, hl⟩ := Option.isSome_iff_exists.1 c31
        have hfin : wrV b = l := by
          have h1 := fsU_at hno (by rw [hfn, hl]) hlt
          rw [hres] at h1; exact Option.some.inj h1
        obtain ⟨⟨al, cl, rfl, hcl⟩, rfl⟩ := hlv l hl
        subst hfin
        have S := S.unfold (k := 16) (k' := 905) (by decide) rfl
        refine W.seq (W.region S ?_)
        refine AS.cons (sp_move rfl ?_)
        refine AS.cons (sp_move rfl ?_)
        refine AS.cons (sp_len rfl sl_26_3_1 ?_)
        refine AS.cons (sp_move rfl ?_)
        refine AS.cons (sp_len rfl sl_26_3_1 ?_)
        refine AS.cons (sp_sl3 (a := al) (len := (wrV b).length) (cap := cl) (h' := ((wrV b).length : Int)) (m' := ((wrV b).length : Int)) rfl rfl rfl sl_26_3_1 (by omega) ?_)
        refine AS.cons (sp_asg rfl ?_)
        refine AS.cons (sp_asg rfl ?_)
        refine AS.nil ?_
        intro _ S
        refine W.ret ?_
        first | exact ret2 rfl rfl rfl S fun w' S' => ⟨_, ⟨none, 0, by rw [hl]; exact Nat.le_refl 0, by rw [hl]; rfl, by rw [hl]; rfl⟩, nilE S'⟩ | exact ret2 rfl rfl rfl S fun w' S' => ⟨_, ⟨al, (wrV b).length, Nat.le_refl _, by rw [he]; rfl, rfl⟩, by
          have S2 := (S'.weak (k := 905) (i := slc 3 1 (.slice al (wrV b).length (wrV b).length) (wrV b).length ((wrV b).map iv)) (fun f hf => slc_cap hf)).only 905
          rw [upd_same] at S2
          exact S2⟩
      · skip
        have hnn : fs n = none := by
          rw [hfn]
          cases o with
          | none => rfl
          | some l => cases c31
        have S := S.unfold (k := 16) (k' := 905) (by decide) rfl
        refine W.skip ?_
        refine W.region S ?_
        refine AS.cons (sp_add rfl rfl (by first | omega | (simp only [decide_eq_true_eq, decide_eq_false_iff_not] at *; omega)) ?_)
        refine AS.cons (sp_move (v := .int _ _) rfl ?_)
        refine AS.nil ?_
        intro _ S
        exact ⟨n + 1, _, ⟨by omega, snoc_lt hno hnn⟩, by omega, ⟨by simp [upd], trivial⟩, ⟨rfl, trivial⟩, by repeat (first | exact Agr.refl _ _ | exact Agr.msk _ _ _ | refine Agr.upd ?_ _ rfl | refine Agr.upds ?_ rfl | refine Agr.mskIn ?_ rfl), by repeat (first | exact Agr.refl _ _ | exact Agr.msk _ _ _ | refine Agr.upd ?_ _ rfl | refine Agr.upds ?_ rfl | refine Agr.mskIn ?_ rfl), rfl, S⟩
    · exact absurd (hres.symm.trans (show fsU fs (b.dr.length + 1) = none by rw [show b.dr.length + 1 = n by omega]; exact fsU_none.2 hno)) (by intro h; cases h)
end
end Go.Proofs.YtajocmkgdjcmkaaDoor

/-
  The chapter's books and examples.
-/
namespace Go.Proofs.YtajocmkgdjcmkaaDoor
set_option maxRecDepth 100000
open Go.Hu Go.RowKit
section
abbrev hosB : List Ho := [⟨1, 0, 1⟩, ⟨0, 1, 1⟩, ⟨0, 0, 1⟩]
abbrev bookB (l : List Int) : Sb := ⟨2, 1, 1, hosB, 100, 101, 7, 9, l⟩
abbrev ownB : Sb := bookB [2]
abbrev otherB : Sb := bookB [-1, 1]
abbrev tornB : Sb := bookB [0, 1]
abbrev hosL : List Value := [iv 1, iv 0, iv 1, iv 0, iv 1, iv 1, iv 0, iv 0, iv 1]
def BoR (l : List Int) (la : Option Addr) (lc : Nat) (u : Value) (i : HP) : Prop := ∃ x, u = .agg (sbL (bookB l) (some ⟨x, 0, none⟩) 3 la lc).toArray ∧ i = pt x (.cells hosL.toArray 75 (0, 0))
theorem bookF (l : List Int) (la : Option Addr) (lc : Nat) (w : World) : Ct Tryd.prog 60 #[.slice la l.length lc] w (fun u w' => ∃ i, BoR l la lc u i ∧ St no w w' (upd eL 0 i) []) := by
  refine fn_intro (args := [.slice la l.length lc]) Tryd.func60 rfl rfl (by kernel_rfl) ?_
  have S := St.start no w
  refine W.seq (W.region S ?_)
  refine AS.cons (sp_alloc 2 zv_28 rfl (fun b2 => ?_))
  refine AS.nil ?_
  intro _ S
  refine W.seq (W.region S ?_)
  refine AS.cons (sp_build [iv 2, iv 1, iv 1] (by kernel_rfl) ?_)
  refine AS.cons (sp_build [iv 1, iv 0, iv 1] (by kernel_rfl) ?_)
  refine AS.cons (sp_build [iv 0, iv 1, iv 1] (by kernel_rfl) ?_)
  refine AS.cons (sp_build [iv 0, iv 0, iv 1] (by kernel_rfl) ?_)
  refine AS.cons (sp_bs 7 [.tmp 4, .tmp 5, .tmp 6] _ sl_23_75_3 zs_75_3 rfl rfl rfl rfl rfl rfl (fun b7 => ?_))
  refine AS.cons (sp_call [] rfl rfl cf_51 (fun F w _ S => toF _ _ w) ?_)
  refine AS.cons (sp_call [] rfl rfl cf_51 (fun F w _ S => toF _ _ w) ?_)
  refine AS.cons (sp_move rfl ?_)
  refine AS.cons (sp_build (sbL (bookB l) (some ⟨b7, 0, none⟩) 3 la lc) (by kernel_rfl) ?_)
  refine AS.cons (sp_st 2 rfl rfl rfl rfl sz_28_9 rfl rfl ?_)
  refine AS.nil ?_
  intro _ S
  refine W.ret ?_
  refine retc (l := sbL (bookB l) (some ⟨b7, 0, none⟩) 3 la lc) 2 ag_28_9 rfl rfl rfl rfl rfl S fun w' S' => ?_
  exact ⟨_, ⟨b7, rfl, rfl⟩, S'.only 7⟩
/-- A book in new memory. -/
def NwR (b : Sb) (u : Value) (i j : HP) : Prop := ∃ x y, u = .agg (sbL b (some ⟨x, 0, none⟩) 3 (some ⟨y, 0, none⟩) b.dr.length).toArray ∧ i = pt x (.cells hosL.toArray 75 (0, 0)) ∧ j = pt y (.cells (b.dr.map iv).toArray 3 (0, 0))
theorem NwR.ne (b : Sb) : ∃ u i j, NwR b u i j := ⟨_, _, _, 0, 0, rfl, rfl, rfl⟩
theorem ownF (w : World) : Ct Tryd.prog 59 #[] w (fun u w' => ∃ i j, NwR ownB u i j ∧ St no w w' (upd eL 0 (sep i j)) []) := by
  refine fn_intro (args := []) Tryd.func59 rfl rfl (by kernel_rfl) ?_
  have S := St.start no w
  refine W.seq (W.region S ?_)
  refine AS.cons (sp_alloc 0 zv_28 rfl (fun b0 => ?_))
  refine AS.nil ?_
  intro _ S
  refine W.seq (W.region S ?_)
  refine AS.cons (sp_bs 1 [.const (.int .i64 2)] _ sl_26_3_1 zs_3_1 rfl rfl rfl rfl rfl rfl (fun b1 => ?_))
  refine AS.cons (sp_call1 2 [] _ rfl rfl cf_60 (fun F w _ S => bookF [2] (some ⟨b1, 0, none⟩) 1 w) ?_ (by simp))
  rintro v2 i2 ⟨x, rfl, rfl⟩
  refine AS.cons (sp_st 0 rfl rfl rfl rfl sz_28_9 rfl rfl ?_)
  refine AS.nil ?_
  intro _ S
  refine W.ret ?_
  refine retc (l := sbL ownB (some ⟨x, 0, none⟩) 3 (some ⟨b1, 0, none⟩) 1) 0 ag_28_9 rfl rfl rfl rfl rfl S fun w' S' => ?_
  exact ⟨_, _, ⟨x, b1, rfl, rfl, rfl⟩, by have S2 := (S'.fold (k := 2) (k' := 1) (by decide)).only 2; rw [upd_same] at S2; exact S2⟩
theorem otherF (w : World) : Ct Tryd.prog 62 #[] w (fun u w' => ∃ i j, NwR otherB u i j ∧ St no w w' (upd eL 0 (sep i j)) []) := by
  refine fn_intro (args := []) Tryd.func62 rfl rfl (by kernel_rfl) ?_
  have S := St.start no w
  refine W.seq (W.region S ?_)
  refine AS.cons (sp_alloc 0 zv_28 rfl (fun b0 => ?_))
  refine AS.nil ?_
  intro _ S
  refine W.seq (W.region S ?_)
  refine AS.cons (sp_bs 1 [.const (.int .i64 (-1)), .const (.int .i64 1)] _ sl_26_3_1 zs_3_1 rfl rfl rfl rfl rfl rfl (fun b1 => ?_))
  refine AS.cons (sp_call1 2 [] _ rfl rfl cf_60 (fun F w _ S => bookF [-1, 1] (some ⟨b1, 0, none⟩) 2 w) ?_ (by simp))
  rintro v2 i2 ⟨x, rfl, rfl⟩
  refine AS.cons (sp_st 0 rfl rfl rfl rfl sz_28_9 rfl rfl ?_)
  refine AS.nil ?_
  intro _ S
  refine W.ret ?_
  refine retc (l := sbL otherB (some ⟨x, 0, none⟩) 3 (some ⟨b1, 0, none⟩) 2) 0 ag_28_9 rfl rfl rfl rfl rfl S fun w' S' => ?_
  exact ⟨_, _, ⟨x, b1, rfl, rfl, rfl⟩, by have S2 := (S'.fold (k := 2) (k' := 1) (by decide)).only 2; rw [upd_same] at S2; exact S2⟩
theorem tornF (w : World) : Ct Tryd.prog 61 #[] w (fun u w' => ∃ i j, NwR tornB u i j ∧ St no w w' (upd eL 0 (sep i j)) []) := by
  refine fn_intro (args := []) Tryd.func61 rfl rfl (by kernel_rfl) ?_
  have S := St.start no w
  refine W.seq (W.region S ?_)
  refine AS.cons (sp_alloc 0 zv_28 rfl (fun b0 => ?_))
  refine AS.nil ?_
  intro _ S
  refine W.seq (W.region S ?_)
  refine AS.cons (sp_bs 1 [.const (.int .i64 0), .const (.int .i64 1)] _ sl_26_3_1 zs_3_1 rfl rfl rfl rfl rfl rfl (fun b1 => ?_))
  refine AS.cons (sp_call1 2 [] _ rfl rfl cf_60 (fun F w _ S => bookF [0, 1] (some ⟨b1, 0, none⟩) 2 w) ?_ (by simp))
  rintro v2 i2 ⟨x, rfl, rfl⟩
  refine AS.cons (sp_st 0 rfl rfl rfl rfl sz_28_9 rfl rfl ?_)
  refine AS.nil ?_
  intro _ S
  refine W.ret ?_
  refine retc (l := sbL tornB (some ⟨x, 0, none⟩) 3 (some ⟨b1, 0, none⟩) 2) 0 ag_28_9 rfl rfl rfl rfl rfl S fun w' S' => ?_
  exact ⟨_, _, ⟨x, b1, rfl, rfl, rfl⟩, by have S2 := (S'.fold (k := 2) (k' := 1) (by decide)).only 2; rw [upd_same] at S2; exact S2⟩
theorem cv_shs : shsV ownB = [3, 2, 1] := by kernel_rfl
theorem cv_chk : chkV ownB = 0 := by kernel_rfl
theorem cv_ord : ordV ownB 7 = [2, 1, 0, 0, 1, 0] := by kernel_rfl
theorem cv_ordE : ordE ownB 7 = 0 := by kernel_rfl
theorem cv_sd : sdV ownB = [7, 9] := by kernel_rfl
theorem cv_plo : payLoV ownB 0 = 49 := by kernel_rfl
theorem cv_phi : payHiV ownB 0 = 50 := by kernel_rfl
theorem cv_pE : payE ownB 0 = 0 := by kernel_rfl
theorem cv_can : canV ownB [49, 34, 17] = true := by kernel_rfl
theorem cv_canE : canE ownB [49, 34, 17] = 0 := by kernel_rfl
theorem cv_as : asV ownB = 3 := by kernel_rfl
theorem cv_asE : asE ownB = 0 := by kernel_rfl
theorem cv_rgt : rgtV ownB = true := by kernel_rfl
theorem cv_wr : wrV tornB = [0] := by kernel_rfl
theorem cv_chkT : chkV tornB = 0 := by kernel_rfl
end
end Go.Proofs.YtajocmkgdjcmkaaDoor

/-
  The chapter's examples.
-/
namespace Go.Proofs.YtajocmkgdjcmkaaDoor
set_option maxRecDepth 100000
open Go.Hu Go.RowKit
section
theorem pr_25 : prB Tryd.prog 25 3 = true := by kernel_rfl
theorem gt_25 : Tryd.prog.eqGuardType Tryd.prog.depth 25 = false := by kernel_rfl
theorem hos_pt {w : World} {x : Nat} (h : w.heap[x]? = some (.cells hosL.toArray 75 (0, 0))) : Hos w (some ⟨x, 0, none⟩) 3 hosB := rd_pt h rfl (by decide) (by decide)
theorem dr_pt {w : World} {y : Nat} {l : List Int} (hn : l.length ≤ 1000) (h : w.heap[y]? = some (.cells (l.map iv).toArray 3 (0, 0))) : Ints w (some ⟨y, 0, none⟩) l.length l := ints_pt h (by omega) (Nat.le_refl _)
theorem getO {B : Nat → Prop} {w0 w : World} {L : Nat → HP} {Ds : List Nat} (S : St B w0 w L Ds) {F : HP} {k b : Nat} {o : Obj} (h1 : L k = F) (h : F = pt b o) : w.heap[b]? = some o := (S.get (h1.trans h)).1
set_option maxHeartbeats 16000000 in
theorem drawn (w : World) (hK : Kinds w) : Ct Tryd.prog 26 #[] w (fun u w' => u = .bool true ∧ Ext w w') := by
  refine fn_intro (args := []) Tryd.func26 rfl rfl (by kernel_rfl) ?_
  have S := St.start no w
  refine W.seq (W.region S ?_)
  refine AS.cons (sp_asg rfl ?_)
  refine AS.nil ?_
  intro _ S
  refine W.seq (W.region S ?_)
  refine AS.cons (sp_call1s 15 515 [] _ (by decide) rfl rfl cf_59 (fun F w _ S => ownF w) ?_ (by simp))
  rintro v15 i15 j15 ⟨x15, y15, rfl, rfl, rfl⟩
  refine AS.cons (sp_call1 16 [15, 515] _ rfl rfl cf_19 (fun F w hF S => by have h := sharesP ownB (some ⟨x15, 0, none⟩) 3 (some ⟨y15, 0, none⟩) 1 w (hK.ext S.mod) (hos_pt (getO S (hF 15 (by simp)) rfl)) (dr_pt (by decide) (getO S (hF 515 (by simp)) rfl)); rw [cv_shs, cv_chk] at h; exact h) ?_ (by simp))
  rintro v16 i16 ⟨a16, c16, h16, rfl, rfl⟩
  refine AS.cons (sp_move rfl ?_)
  refine AS.cons (sp_ext rfl rfl ?_)
  refine AS.cons (sp_ext rfl rfl ?_)
  refine AS.cons (sp_asg rfl ?_)
  refine AS.cons (sp_asg (v := .int _ _) rfl ?_)
  refine AS.nil ?_
  intro _ S
  refine W.seq (W.region S ?_)
  refine AS.cons (sp_call1s 20 520 [] _ (by decide) rfl rfl cf_59 (fun F w _ S => ownF w) ?_ (by simp))
  rintro v20 i20 j20 ⟨x20, y20, rfl, rfl, rfl⟩
  refine AS.cons (sp_call1 21 [20, 520] _ rfl rfl cf_22 (fun F w hF S => by have h := orderP ownB (some ⟨x20, 0, none⟩) 3 (some ⟨y20, 0, none⟩) 1 7 w (hK.ext S.mod) (hos_pt (getO S (hF 20 (by simp)) rfl)) (dr_pt (by decide) (getO S (hF 520 (by simp)) rfl)); rw [cv_ord, cv_ordE] at h; exact h) ?_ (by simp))
  rintro v21 i21 ⟨a21, c21, h21, rfl, rfl⟩
  refine AS.cons (sp_move rfl ?_)
  refine AS.cons (sp_ext rfl rfl ?_)
  refine AS.cons (sp_ext rfl rfl ?_)
  refine AS.cons (sp_asg rfl ?_)
  refine AS.cons (sp_asg (v := .int _ _) rfl ?_)
  refine AS.nil ?_
  intro _ S
  refine W.seq (W.region S ?_)
  refine AS.cons (sp_call1s 25 525 [] _ (by decide) rfl rfl cf_59 (fun F w _ S => ownF w) ?_ (by simp))
  rintro v25 i25 j25 ⟨x25, y25, rfl, rfl, rfl⟩
  refine AS.cons (sp_call1 26 [25, 525] _ rfl rfl cf_24 (fun F w hF S => by have h := seedsP ownB (some ⟨x25, 0, none⟩) 3 (some ⟨y25, 0, none⟩) 1 w (hK.ext S.mod) (hos_pt (getO S (hF 25 (by simp)) rfl)) (dr_pt (by decide) (getO S (hF 525 (by simp)) rfl)); rw [cv_sd, cv_chk] at h; exact h) ?_ (by simp))
  rintro v26 i26 ⟨a26, c26, h26, rfl, rfl⟩
  refine AS.cons (sp_move rfl ?_)
  refine AS.cons (sp_ext rfl rfl ?_)
  refine AS.cons (sp_ext rfl rfl ?_)
  refine AS.cons (sp_asg rfl ?_)
  refine AS.cons (sp_asg (v := .int _ _) rfl ?_)
  refine AS.nil ?_
  intro _ S
  refine W.seq (W.region S ?_)
  refine AS.cons (sp_call1s 30 530 [] _ (by decide) rfl rfl cf_59 (fun F w _ S => ownF w) ?_ (by simp))
  rintro v30 i30 j30 ⟨x30, y30, rfl, rfl, rfl⟩
  refine AS.cons (sp_call [30, 530] rfl rfl cf_27 (fun F w hF S => by have h := paysP ownB (some ⟨x30, 0, none⟩) 3 (some ⟨y30, 0, none⟩) 1 0 w (hK.ext S.mod) (hos_pt (getO S (hF 30 (by simp)) rfl)) (dr_pt (by decide) (getO S (hF 530 (by simp)) rfl)); rw [cv_plo, cv_phi, cv_pE] at h; exact h) ?_)
  refine AS.cons (sp_move rfl ?_)
  refine AS.cons (sp_ext rfl rfl ?_)
  refine AS.cons (sp_ext rfl rfl ?_)
  refine AS.cons (sp_alloc 7 zv_25 rfl (fun b7 => ?_))
  refine AS.cons (sp_st 7 rfl rfl rfl rfl sz_25_2 rfl rfl ?_)
  refine AS.cons (sp_asg (v := .int _ _) rfl ?_)
  refine AS.nil ?_
  intro _ S
  refine W.seq (W.region S ?_)
  refine AS.cons (sp_call1s 35 535 [] _ (by decide) rfl rfl cf_59 (fun F w _ S => ownF w) ?_ (by simp))
  rintro v35 i35 j35 ⟨x35, y35, rfl, rfl, rfl⟩
  refine AS.cons (sp_bs 36 [.const (.int .i64 49), .const (.int .i64 34), .const (.int .i64 17)] _ sl_26_3_1 zs_3_1 rfl rfl rfl rfl rfl rfl (fun b36 => ?_))
  refine AS.cons (sp_call [35, 535, 36] rfl rfl cf_29 (fun F w hF S => by have h := canP ownB (some ⟨x35, 0, none⟩) 3 (some ⟨y35, 0, none⟩) 1 (some ⟨b36, 0, none⟩) 3 [49, 34, 17] w (hK.ext S.mod) (hos_pt (getO S (hF 35 (by simp)) rfl)) (dr_pt (by decide) (getO S (hF 535 (by simp)) rfl)) (dr_pt (by decide) (getO S (hF 36 (by simp)) rfl)); rw [cv_can, cv_canE] at h; exact h) ?_)
  refine AS.cons (sp_move rfl ?_)
  refine AS.cons (sp_ext rfl rfl ?_)
  refine AS.cons (sp_ext rfl rfl ?_)
  refine AS.cons (sp_asg (v := .bool _) rfl ?_)
  refine AS.cons (sp_asg (v := .int _ _) rfl ?_)
  refine AS.nil ?_
  intro _ S
  refine W.seq (W.seq (W.draw S mixed (fun i => ([KD.q [], KD.q [], KD.q [], KD.q [], KD.q [], KD.q [], KD.q [], KD.q [], KD.q [], KD.q [], KD.q [], KD.q [], KD.q [], KD.q [], KD.q [], KD.q [], KD.q [], KD.q [], KD.q [], KD.q [], KD.a 60, KD.e [16, 60] [], KD.q [], KD.q [], KD.q [], KD.q [], KD.a 66, KD.e [21, 66] [], KD.q [], KD.q [], KD.q [], KD.q [], KD.a 72, KD.e [26, 72] [], KD.q [], KD.q [], KD.q [], KD.q [7], KD.e [] [], KD.q [], KD.q [], KD.q [], KD.q [], KD.q [], KD.q []] : List KD)[i]?) [21, 24, 27, 30, 33, 36] [0, 1, 2, 3, 4, 5, 6, 7, 8, 9, 10, 11, 12, 13, 14, 15, 16, 17, 18, 19, 20, 21, 22, 23, 24, 25, 26, 27, 28, 29, 30, 31, 32, 33, 34, 35, 36, 38, 37, 39, 40, 41, 42, 43, 44] (by kernel_rfl) ?_))
  refine AW.cons rfl rfl (sp_move (v := .int _ _) rfl ?_)
  refine AW.cons rfl rfl (sp_neq rfl rfl ?_)
  refine AW.cons rfl rfl (sp_move (v := .bool _) rfl ?_)
  refine AW.split 42 rfl (fun g42 => ?_) (fun g42 => ?_)
  · exact absurd g42 (by decide)
  · skip
    refine AW.cons rfl rfl (sp_move (v := .int _ _) rfl ?_)
    refine AW.cons rfl rfl (sp_neq rfl rfl ?_)
    refine AW.cons rfl rfl (sp_pick_f rfl (v := .bool _) rfl ?_)
    refine AW.cons rfl rfl (sp_move (v := .bool _) rfl ?_)
    refine AW.split 46 rfl (fun g46 => ?_) (fun g46 => ?_)
    · exact absurd g46 (by decide)
    · skip
      refine AW.cons rfl rfl (sp_move (v := .int _ _) rfl ?_)
      refine AW.cons rfl rfl (sp_neq rfl rfl ?_)
      refine AW.cons rfl rfl (sp_pick_f rfl (v := .bool _) rfl ?_)
      refine AW.cons rfl rfl (sp_move (v := .bool _) rfl ?_)
      refine AW.split 50 rfl (fun g50 => ?_) (fun g50 => ?_)
      · exact absurd g50 (by decide)
      · skip
        refine AW.cons rfl rfl (sp_move (v := .int _ _) rfl ?_)
        refine AW.cons rfl rfl (sp_neq rfl rfl ?_)
        refine AW.cons rfl rfl (sp_pick_f rfl (v := .bool _) rfl ?_)
        refine AW.cons rfl rfl (sp_move (v := .bool _) rfl ?_)
        refine AW.split 54 rfl (fun g54 => ?_) (fun g54 => ?_)
        · exact absurd g54 (by decide)
        · skip
          refine AW.cons rfl rfl (sp_move (v := .int _ _) rfl ?_)
          refine AW.cons rfl rfl (sp_neq rfl rfl ?_)
          refine AW.cons rfl rfl (sp_pick_f rfl (v := .bool _) rfl ?_)
          refine AW.cons rfl rfl (sp_move (v := .bool _) rfl ?_)
          refine AW.split 58 rfl (fun g58 => ?_) (fun g58 => ?_)
          · exact absurd g58 (by decide)
          · skip
            refine AW.cons rfl rfl (sp_move rfl ?_)
            refine AW.cons rfl rfl (sp_bs 60 [.const (.int .i64 3), .const (.int .i64 2), .const (.int .i64 1)] _ sl_26_3_1 zs_3_1 rfl rfl rfl rfl rfl rfl (fun b60 => ?_))
            refine AW.cons rfl rfl (sp_call [16, 60] rfl rfl cf_21 (fun F w hF S => same a16 c16 [3, 2, 1] _ 3 [3, 2, 1] w (S.slc_rd (k := 16) ((hF 16 (by simp)).trans rfl) (by decide)) (dr_pt (by decide) (getO S (hF 60 (by simp)) rfl))) ?_)
            refine AW.cons rfl rfl (sp_not rfl ?_)
            refine AW.cons rfl rfl (sp_pick_f rfl (v := .bool _) rfl ?_)
            refine AW.cons rfl rfl (sp_move (v := .bool _) rfl ?_)
            refine AW.split 64 rfl (fun g64 => ?_) (fun g64 => ?_)
            · exact absurd g64 (by decide)
            · skip
              refine AW.cons rfl rfl (sp_move rfl ?_)
              refine AW.cons rfl rfl (sp_bs 66 [.const (.int .i64 2), .const (.int .i64 1), .const (.int .i64 0), .const (.int .i64 0), .const (.int .i64 1), .const (.int .i64 0)] _ sl_26_3_1 zs_3_1 rfl rfl rfl rfl rfl rfl (fun b66 => ?_))
              refine AW.cons rfl rfl (sp_call [21, 66] rfl rfl cf_21 (fun F w hF S => same a21 c21 [2, 1, 0, 0, 1, 0] _ 6 [2, 1, 0, 0, 1, 0] w (S.slc_rd (k := 21) ((hF 21 (by simp)).trans rfl) (by decide)) (dr_pt (by decide) (getO S (hF 66 (by simp)) rfl))) ?_)
              refine AW.cons rfl rfl (sp_not rfl ?_)
              refine AW.cons rfl rfl (sp_pick_f rfl (v := .bool _) rfl ?_)
              refine AW.cons rfl rfl (sp_move (v := .bool _) rfl ?_)
              refine AW.split 70 rfl (fun g70 => ?_) (fun g70 => ?_)
              · exact absurd g70 (by decide)
              · skip
                refine AW.cons rfl rfl (sp_move rfl ?_)
                refine AW.cons rfl rfl (sp_bs 72 [.const (.int .i64 7), .const (.int .i64 9)] _ sl_26_3_1 zs_3_1 rfl rfl rfl rfl rfl rfl (fun b72 => ?_))
                refine AW.cons rfl rfl (sp_call [26, 72] rfl rfl cf_21 (fun F w hF S => same a26 c26 [7, 9] _ 2 [7, 9] w (S.slc_rd (k := 26) ((hF 26 (by simp)).trans rfl) (by decide)) (dr_pt (by decide) (getO S (hF 72 (by simp)) rfl))) ?_)
                refine AW.cons rfl rfl (sp_not rfl ?_)
                refine AW.cons rfl rfl (sp_pick_f rfl (v := .bool _) rfl ?_)
                refine AW.cons rfl rfl (sp_move (v := .bool _) rfl ?_)
                refine AW.split 76 rfl (fun g76 => ?_) (fun g76 => ?_)
                · exact absurd g76 (by decide)
                · skip
                  refine AW.cons rfl rfl (sp_call [] rfl rfl cf_51 (fun F w _ S => toF _ _ w) ?_)
                  refine AW.cons rfl rfl (sp_ldw 7 rfl rfl ag_25_2 ?_)
                  refine AW.cons rfl rfl (sp_neqa rfl rfl gt_25 (eqP_p2 pr_25 49 50 49 50) ?_)
                  refine AW.cons rfl rfl (sp_pick_f rfl (v := .bool _) rfl ?_)
                  refine AW.cons rfl rfl (sp_move (v := .bool _) rfl ?_)
                  refine AW.split 81 rfl (fun g81 => ?_) (fun g81 => ?_)
                  · exact absurd g81 (by decide)
                  · skip
                    refine AW.cons rfl rfl (sp_move (v := .bool _) rfl ?_)
                    refine AW.cons rfl rfl (sp_not rfl ?_)
                    refine AW.cons rfl rfl (sp_pick_f rfl (v := .bool _) rfl ?_)
                    refine AW.nil ?_
                    intro _ S
                    refine W.cond rfl (fun c84 => ?_) (fun c84 => ?_)
                    · exact absurd c84 (by decide)
                    · skip
                      refine W.skip ?_
                      refine W.seq (W.region S ?_)
                      refine AS.cons (sp_call1s 86 586 [] _ (by decide) rfl rfl cf_59 (fun F w _ S => ownF w) ?_ (by simp))
                      rintro v86 i86 j86 ⟨x86, y86, rfl, rfl, rfl⟩
                      refine AS.cons (sp_call [86, 586] rfl rfl cf_31 (fun F w hF S => by have h := askP ownB (some ⟨x86, 0, none⟩) 3 (some ⟨y86, 0, none⟩) 1 w (hK.ext S.mod) (hos_pt (getO S (hF 86 (by simp)) rfl)) (dr_pt (by decide) (getO S (hF 586 (by simp)) rfl)); rw [cv_as, cv_asE] at h; exact h) ?_)
                      refine AS.cons (sp_move rfl ?_)
                      refine AS.cons (sp_ext rfl rfl ?_)
                      refine AS.cons (sp_ext rfl rfl ?_)
                      refine AS.cons (sp_asg (v := .int _ _) rfl ?_)
                      refine AS.cons (sp_asg (v := .int _ _) rfl ?_)
                      refine AS.nil ?_
                      intro _ S
                      refine W.seq (W.region S ?_)
                      refine AS.cons (sp_call1s 91 591 [] _ (by decide) rfl rfl cf_61 (fun F w _ S => tornF w) ?_ (by simp))
                      rintro v91 i91 j91 ⟨x91, y91, rfl, rfl, rfl⟩
                      refine AS.cons (sp_call1 92 [91, 591] _ rfl rfl cf_33 (fun F w hF S => by have h := wrongP tornB (some ⟨x91, 0, none⟩) 3 (some ⟨y91, 0, none⟩) 2 w (hK.ext S.mod) (hos_pt (getO S (hF 91 (by simp)) rfl)) (dr_pt (by decide) (getO S (hF 591 (by simp)) rfl)); rw [cv_wr, cv_chkT] at h; exact h) ?_ (by simp))
                      rintro v92 i92 ⟨a92, c92, h92, rfl, rfl⟩
                      refine AS.cons (sp_move rfl ?_)
                      refine AS.cons (sp_ext rfl rfl ?_)
                      refine AS.cons (sp_ext rfl rfl ?_)
                      refine AS.cons (sp_asg rfl ?_)
                      refine AS.cons (sp_asg (v := .int _ _) rfl ?_)
                      refine AS.nil ?_
                      intro _ S
                      refine W.seq (W.region S ?_)
                      refine AS.cons (sp_call1s 96 596 [] _ (by decide) rfl rfl cf_59 (fun F w _ S => ownF w) ?_ (by simp))
                      rintro v96 i96 j96 ⟨x96, y96, rfl, rfl, rfl⟩
                      refine AS.cons (sp_call [96, 596] rfl rfl cf_15 (fun F w hF S => by have h := rightP ownB (some ⟨x96, 0, none⟩) 3 (some ⟨y96, 0, none⟩) 1 w (hK.ext S.mod) (hos_pt (getO S (hF 96 (by simp)) rfl)) (dr_pt (by decide) (getO S (hF 596 (by simp)) rfl)); rw [cv_rgt, cv_chk] at h; exact h) ?_)
                      refine AS.cons (sp_move rfl ?_)
                      refine AS.cons (sp_ext rfl rfl ?_)
                      refine AS.cons (sp_ext rfl rfl ?_)
                      refine AS.cons (sp_asg (v := .bool _) rfl ?_)
                      refine AS.cons (sp_asg (v := .int _ _) rfl ?_)
                      refine AS.nil ?_
                      intro _ S
                      refine W.seq (W.region S ?_)
                      refine AS.cons (sp_move (v := .int _ _) rfl ?_)
                      refine AS.cons (sp_eql rfl rfl ?_)
                      refine AS.cons (sp_move (v := .bool _) rfl ?_)
                      refine AS.split 102 rfl (fun g102 => ?_) (fun g102 => ?_)
                      · skip
                        refine AS.cons (sp_move (v := .int _ _) rfl ?_)
                        refine AS.cons (sp_eql rfl rfl ?_)
                        refine AS.cons (sp_pick_t rfl (v := .bool _) rfl ?_)
                        refine AS.cons (sp_move (v := .bool _) rfl ?_)
                        refine AS.split 106 rfl (fun g106 => ?_) (fun g106 => ?_)
                        · skip
                          refine AS.cons (sp_move (v := .int _ _) rfl ?_)
                          refine AS.cons (sp_eql rfl rfl ?_)
                          refine AS.cons (sp_pick_t rfl (v := .bool _) rfl ?_)
                          refine AS.cons (sp_move (v := .bool _) rfl ?_)
                          refine AS.split 110 rfl (fun g110 => ?_) (fun g110 => ?_)
                          · skip
                            refine AS.cons (sp_move (v := .int _ _) rfl ?_)
                            refine AS.cons (sp_eql rfl rfl ?_)
                            refine AS.cons (sp_pick_t rfl (v := .bool _) rfl ?_)
                            refine AS.cons (sp_move (v := .bool _) rfl ?_)
                            refine AS.split 114 rfl (fun g114 => ?_) (fun g114 => ?_)
                            · skip
                              refine AS.cons (sp_move rfl ?_)
                              refine AS.cons (sp_bs 116 [.const (.int .i64 0)] _ sl_26_3_1 zs_3_1 rfl rfl rfl rfl rfl rfl (fun b116 => ?_))
                              refine AS.cons (sp_call [92, 116] rfl rfl cf_21 (fun F w hF S => same a92 c92 [0] _ 1 [0] w (S.slc_rd (k := 92) ((hF 92 (by simp)).trans rfl) (by decide)) (dr_pt (by decide) (getO S (hF 116 (by simp)) rfl))) ?_)
                              refine AS.cons (sp_pick_t rfl (v := .bool _) rfl ?_)
                              refine AS.cons (sp_move (v := .bool _) rfl ?_)
                              refine AS.split 119 rfl (fun g119 => ?_) (fun g119 => ?_)
                              · skip
                                refine AS.cons (sp_move (v := .bool _) rfl ?_)
                                refine AS.cons (sp_pick_t rfl (v := .bool _) rfl ?_)
                                refine AS.cons (sp_asg (v := .bool _) rfl ?_)
                                refine AS.nil ?_
                                intro _ S
                                refine W.ret ?_
                                exact ret1 rfl rfl S fun w' S' => ⟨rfl, S'.mod⟩
                              · exact absurd g119 (by decide)
                            · exact absurd g114 (by decide)
                          · exact absurd g110 (by decide)
                        · exact absurd g106 (by decide)
                      · exact absurd g102 (by decide)
end
end Go.Proofs.YtajocmkgdjcmkaaDoor

/-
  The first three laws, walked.
-/
namespace Go.Proofs.YtajocmkgdjcmkaaDoor
set_option maxRecDepth 100000
open Go.Hu Go.RowKit
section
variable (b : Sb) (ha : Option Addr) (hc : Nat) (da : Option Addr) (dc : Nat)
theorem bool_4 : Tryd.prog.underlying 4 = some .bool := by kernel_rfl
theorem no_neq {α : Type} [DecidableEq α] {x : α} (h : decide (¬ x = x) = true) : False := by simp at h
theorem no_eq {α : Type} [DecidableEq α] {x : α} (h : decide (x = x) = false) : False := by simp at h
theorem no_same {α : Type} [DecidableEq α] {x : α} (h : (!decide (x = x)) = true) : False := by simp at h
theorem no_beq {x : Bool} (h : (x == x) = false) : False := by simp at h
theorem no_bne {x : Bool} (h : (x != x) = true) : False := by simp at h
theorem shsV_len : (shsV b).length ≤ 1000 := by
  unfold shsV; split
  · next hok => have := (okS_good.1 hok).n6; simp [shsL]; omega
  · simp
theorem ordV_len (s : Int) : (ordV b s).length ≤ 1000 := by
  by_cases h : ordE b s = 0
  · have hok : okS b = true := by
      cases e : okS b with
      | true => rfl
      | false => unfold ordE at h; rw [e] at h; simp at h
    have hb := okS_good.1 hok
    have h1 := rowF_len hb
    have h2 := hb.a60
    unfold ordV; rw [if_pos h, ord_len]; omega
  · unfold ordV; rw [if_neg h]; simp
theorem sdV_len : (sdV b).length ≤ 1000 := by
  unfold sdV; split
  · next hok => have := sdL_51 (okS_good.1 hok) []; omega
  · simp
theorem wrV_len : (wrV b).length ≤ 1000 := by
  by_cases hok : okS b = true
  · have hb := okS_good.1 hok
    have h1 : Best b.dr.length (wrP b) (wrV b) := by rw [wrV_is hb]; exact wrO_some (wrO_is hb)
    have := Up.len (Int.le_refl 0) (by omega) h1.up
    have := hb.d8
    omega
  · unfold wrV; rw [if_neg hok]; simp
set_option maxHeartbeats 8000000 in
theorem ordersL (s : Int) (w : World) (hK : Kinds w) (hH : Hos w ha hc b.hs) (hD : Ints w da dc b.dr) : Ct Tryd.prog 3 #[.agg (sbL b ha hc da dc).toArray, iv s] w (fun u w' => u = .bool true ∧ Ext w w') := by
  refine fn_intro (args := [.agg (sbL b ha hc da dc).toArray, iv s]) Tryd.func3 rfl rfl (by kernel_rfl) ?_
  have S := St.start no w
  have hl1 := shsV_len b
  have hl2 := ordV_len b s
  have hl3 := sdV_len b
  refine W.seq (W.region S ?_)
  refine AS.cons (sp_boxa 2 rfl (fun b2 => ?_))
  refine AS.cons (sp_asg rfl ?_)
  refine AS.nil ?_
  intro _ S
  refine W.seq (W.region S ?_)
  refine AS.cons (sp_ldw 2 rfl rfl ag_28_9 ?_)
  refine AS.cons (sp_call [] rfl rfl cf_15 (fun F w _ S => rightP b ha hc da dc w (hK.ext S.mod) (hH.ext S.mod) (hD.ext S.mod)) ?_)
  refine AS.cons (sp_move rfl ?_)
  refine AS.cons (sp_ext rfl rfl ?_)
  refine AS.cons (sp_ext rfl rfl ?_)
  refine AS.cons (sp_asg (v := .bool _) rfl ?_)
  refine AS.cons (sp_asg (v := .int _ _) rfl ?_)
  refine AS.nil ?_
  intro _ S
  refine W.seq (W.region S ?_)
  refine AS.cons (sp_ldw 2 rfl rfl ag_28_9 ?_)
  refine AS.cons (sp_call [] rfl rfl cf_16 (fun F w _ S => rightR b ha hc da dc w (hH.ext S.mod) (hD.ext S.mod)) ?_)
  refine AS.cons (sp_move rfl ?_)
  refine AS.cons (sp_ext rfl rfl ?_)
  refine AS.cons (sp_ext rfl rfl ?_)
  refine AS.cons (sp_asg (v := .bool _) rfl ?_)
  refine AS.cons (sp_asg (v := .int _ _) rfl ?_)
  refine AS.nil ?_
  intro _ S
  refine W.seq (W.seq (W.draw S mixed (fun i => ([KD.q [], KD.q [], KD.q [], KD.q [], KD.q [], KD.q [], KD.q [], KD.q [], KD.q [], KD.q [2], KD.e [] [], KD.q [2], KD.e [] [], KD.q [], KD.q []] : List KD)[i]?) [] [0, 1, 2, 3, 4, 5, 6, 7, 8, 9, 10, 11, 12, 13, 14] (by kernel_rfl) ?_))
  refine AW.cons rfl rfl (sp_move (v := .bool _) rfl ?_)
  refine AW.cons rfl rfl (sp_move (v := .bool _) rfl ?_)
  refine AW.cons rfl rfl (sp_neqb rfl rfl bool_4 ?_)
  refine AW.cons rfl rfl (sp_move (v := .bool _) rfl ?_)
  refine AW.split 24 rfl (fun g24 => ?_) (fun g24 => ?_)
  · exact (no_bne g24).elim
  · skip
    refine AW.cons rfl rfl (sp_move (v := .int _ _) rfl ?_)
    refine AW.cons rfl rfl (sp_move (v := .int _ _) rfl ?_)
    refine AW.cons rfl rfl (sp_neq rfl rfl ?_)
    refine AW.cons rfl rfl (sp_pick_f rfl (v := .bool _) rfl ?_)
    refine AW.cons rfl rfl (sp_move (v := .bool _) rfl ?_)
    refine AW.split 29 rfl (fun g29 => ?_) (fun g29 => ?_)
    · exact (no_neq g29).elim
    · skip
      refine AW.cons rfl rfl (sp_ldw 2 rfl rfl ag_28_9 ?_)
      refine AW.cons rfl rfl (sp_call [] rfl rfl cf_17 (fun F w _ S => checkP b ha hc da dc w (hK.ext S.mod) (hH.ext S.mod) (hD.ext S.mod)) ?_)
      refine AW.cons rfl rfl (sp_ldw 2 rfl rfl ag_28_9 ?_)
      refine AW.cons rfl rfl (sp_call [] rfl rfl cf_18 (fun F w _ S => checkR _ _ _ _ _ w (hH.ext S.mod) (hD.ext S.mod)) ?_)
      refine AW.cons rfl rfl (sp_neq rfl rfl ?_)
      refine AW.cons rfl rfl (sp_pick_f rfl (v := .bool _) rfl ?_)
      refine AW.nil ?_
      intro _ S
      refine W.cond rfl (fun c35 => ?_) (fun c35 => ?_)
      · exact (no_neq c35).elim
      · skip
        refine W.skip ?_
        refine W.seq (W.region S ?_)
        refine AS.cons (sp_ldw 2 rfl rfl ag_28_9 ?_)
        refine AS.cons (sp_call1 38 [] _ rfl rfl cf_19 (fun F w _ S => sharesP b ha hc da dc w (hK.ext S.mod) (hH.ext S.mod) (hD.ext S.mod)) ?_ (by simp))
        rintro v38 i38 ⟨a38, c38, h38, rfl, rfl⟩
        refine AS.cons (sp_move rfl ?_)
        refine AS.cons (sp_ext rfl rfl ?_)
        refine AS.cons (sp_ext rfl rfl ?_)
        refine AS.cons (sp_asg rfl ?_)
        refine AS.cons (sp_asg (v := .int _ _) rfl ?_)
        refine AS.nil ?_
        intro _ S
        refine W.seq (W.region S ?_)
        refine AS.cons (sp_ldw 2 rfl rfl ag_28_9 ?_)
        refine AS.cons (sp_call1 43 [] _ rfl rfl cf_20 (fun F w _ S => sharesR b ha hc da dc w (hH.ext S.mod) (hD.ext S.mod)) ?_ (by simp))
        rintro v43 i43 ⟨a43, c43, h43, rfl, rfl⟩
        refine AS.cons (sp_move rfl ?_)
        refine AS.cons (sp_ext rfl rfl ?_)
        refine AS.cons (sp_ext rfl rfl ?_)
        refine AS.cons (sp_asg rfl ?_)
        refine AS.cons (sp_asg (v := .int _ _) rfl ?_)
        refine AS.nil ?_
        intro _ S
        refine W.seq (W.seq (W.region S ?_))
        refine AS.cons (sp_move rfl ?_)
        refine AS.cons (sp_move rfl ?_)
        refine AS.cons (sp_call [38, 43] rfl rfl cf_21 (fun F w hF S => same a38 c38 _ a43 c43 _ w (S.slc_rd (k := 38) ((hF 38 (by simp)).trans rfl) (by omega)) (S.slc_rd (k := 43) ((hF 43 (by simp)).trans rfl) (by omega))) ?_)
        refine AS.cons (sp_not rfl ?_)
        refine AS.cons (sp_move (v := .bool _) rfl ?_)
        refine AS.split 50 rfl (fun g50 => ?_) (fun g50 => ?_)
        · exact (no_same g50).elim
        · skip
          refine AS.cons (sp_move (v := .int _ _) rfl ?_)
          refine AS.cons (sp_move (v := .int _ _) rfl ?_)
          refine AS.cons (sp_neq rfl rfl ?_)
          refine AS.cons (sp_pick_f rfl (v := .bool _) rfl ?_)
          refine AS.nil ?_
          intro _ S
          refine W.cond rfl (fun c54 => ?_) (fun c54 => ?_)
          · exact (no_neq c54).elim
          · skip
            refine W.skip ?_
            refine W.seq (W.region S ?_)
            refine AS.cons (sp_ldw 2 rfl rfl ag_28_9 ?_)
            refine AS.cons (sp_move (v := .int _ _) rfl ?_)
            refine AS.cons (sp_call1 58 [] _ rfl rfl cf_22 (fun F w _ S => orderP b ha hc da dc s w (hK.ext S.mod) (hH.ext S.mod) (hD.ext S.mod)) ?_ (by simp))
            rintro v58 i58 ⟨a58, c58, h58, rfl, rfl⟩
            refine AS.cons (sp_move rfl ?_)
            refine AS.cons (sp_ext rfl rfl ?_)
            refine AS.cons (sp_ext rfl rfl ?_)
            refine AS.cons (sp_asg rfl ?_)
            refine AS.cons (sp_asg (v := .int _ _) rfl ?_)
            refine AS.nil ?_
            intro _ S
            refine W.seq (W.region S ?_)
            refine AS.cons (sp_ldw 2 rfl rfl ag_28_9 ?_)
            refine AS.cons (sp_move (v := .int _ _) rfl ?_)
            refine AS.cons (sp_call1 64 [] _ rfl rfl cf_23 (fun F w _ S => orderR b ha hc da dc s w (hH.ext S.mod) (hD.ext S.mod)) ?_ (by simp))
            rintro v64 i64 ⟨a64, c64, h64, rfl, rfl⟩
            refine AS.cons (sp_move rfl ?_)
            refine AS.cons (sp_ext rfl rfl ?_)
            refine AS.cons (sp_ext rfl rfl ?_)
            refine AS.cons (sp_asg rfl ?_)
            refine AS.cons (sp_asg (v := .int _ _) rfl ?_)
            refine AS.nil ?_
            intro _ S
            refine W.seq (W.seq (W.region S ?_))
            refine AS.cons (sp_move rfl ?_)
            refine AS.cons (sp_move rfl ?_)
            refine AS.cons (sp_call [58, 64] rfl rfl cf_21 (fun F w hF S => same a58 c58 _ a64 c64 _ w (S.slc_rd (k := 58) ((hF 58 (by simp)).trans rfl) (by omega)) (S.slc_rd (k := 64) ((hF 64 (by simp)).trans rfl) (by omega))) ?_)
            refine AS.cons (sp_not rfl ?_)
            refine AS.cons (sp_move (v := .bool _) rfl ?_)
            refine AS.split 71 rfl (fun g71 => ?_) (fun g71 => ?_)
            · exact (no_same g71).elim
            · skip
              refine AS.cons (sp_move (v := .int _ _) rfl ?_)
              refine AS.cons (sp_move (v := .int _ _) rfl ?_)
              refine AS.cons (sp_neq rfl rfl ?_)
              refine AS.cons (sp_pick_f rfl (v := .bool _) rfl ?_)
              refine AS.nil ?_
              intro _ S
              refine W.cond rfl (fun c75 => ?_) (fun c75 => ?_)
              · exact (no_neq c75).elim
              · skip
                refine W.skip ?_
                refine W.seq (W.region S ?_)
                refine AS.cons (sp_ldw 2 rfl rfl ag_28_9 ?_)
                refine AS.cons (sp_call1 78 [] _ rfl rfl cf_24 (fun F w _ S => seedsP b ha hc da dc w (hK.ext S.mod) (hH.ext S.mod) (hD.ext S.mod)) ?_ (by simp))
                rintro v78 i78 ⟨a78, c78, h78, rfl, rfl⟩
                refine AS.cons (sp_move rfl ?_)
                refine AS.cons (sp_ext rfl rfl ?_)
                refine AS.cons (sp_ext rfl rfl ?_)
                refine AS.cons (sp_asg rfl ?_)
                refine AS.cons (sp_asg (v := .int _ _) rfl ?_)
                refine AS.nil ?_
                intro _ S
                refine W.seq (W.region S ?_)
                refine AS.cons (sp_ldw 2 rfl rfl ag_28_9 ?_)
                refine AS.cons (sp_call1 83 [] _ rfl rfl cf_25 (fun F w _ S => seedsR b ha hc da dc w (hH.ext S.mod) (hD.ext S.mod)) ?_ (by simp))
                rintro v83 i83 ⟨a83, c83, h83, rfl, rfl⟩
                refine AS.cons (sp_move rfl ?_)
                refine AS.cons (sp_ext rfl rfl ?_)
                refine AS.cons (sp_ext rfl rfl ?_)
                refine AS.cons (sp_asg rfl ?_)
                refine AS.cons (sp_asg (v := .int _ _) rfl ?_)
                refine AS.nil ?_
                intro _ S
                refine W.seq (W.region S ?_)
                refine AS.cons (sp_move rfl ?_)
                refine AS.cons (sp_move rfl ?_)
                refine AS.cons (sp_call [78, 83] rfl rfl cf_21 (fun F w hF S => same a78 c78 _ a83 c83 _ w (S.slc_rd (k := 78) ((hF 78 (by simp)).trans rfl) (by omega)) (S.slc_rd (k := 83) ((hF 83 (by simp)).trans rfl) (by omega))) ?_)
                refine AS.cons (sp_move (v := .bool _) rfl ?_)
                refine AS.split 89 rfl (fun g89 => ?_) (fun g89 => ?_)
                · skip
                  refine AS.cons (sp_move (v := .int _ _) rfl ?_)
                  refine AS.cons (sp_move (v := .int _ _) rfl ?_)
                  refine AS.cons (sp_eql rfl rfl ?_)
                  refine AS.cons (sp_pick_t rfl (v := .bool _) rfl ?_)
                  refine AS.cons (sp_move (v := .bool _) rfl ?_)
                  refine AS.split 94 rfl (fun g94 => ?_) (fun g94 => ?_)
                  · skip
                    refine AS.cons (sp_call [] rfl rfl cf_26 (fun F w _ S => drawn w (hK.ext S.mod)) ?_)
                    refine AS.cons (sp_pick_t rfl (v := .bool _) rfl ?_)
                    refine AS.cons (sp_asg (v := .bool _) rfl ?_)
                    refine AS.nil ?_
                    intro _ S
                    refine W.ret ?_
                    exact ret1 rfl rfl S fun w' S' => ⟨rfl, S'.mod⟩
                  · exact (no_eq g94).elim
                · exact (no_eq g89).elim
set_option maxHeartbeats 8000000 in
theorem paysL (k : Int) (pa : Option Addr) (pc : Nat) (l : List Int) (w : World) (hK : Kinds w) (hH : Hos w ha hc b.hs) (hD : Ints w da dc b.dr) (hL : Ints w pa pc l) : Ct Tryd.prog 4 #[.agg (sbL b ha hc da dc).toArray, iv k, .slice pa l.length pc] w (fun u w' => u = .bool true ∧ Ext w w') := by
  refine fn_intro (args := [.agg (sbL b ha hc da dc).toArray, iv k, .slice pa l.length pc]) Tryd.func4 rfl rfl (by kernel_rfl) ?_
  have S := St.start no w
  refine W.seq (W.region S ?_)
  refine AS.cons (sp_boxa 3 rfl (fun b3 => ?_))
  refine AS.cons (sp_asg rfl ?_)
  refine AS.nil ?_
  intro _ S
  refine W.seq (W.region S ?_)
  refine AS.cons (sp_ldw 3 rfl rfl ag_28_9 ?_)
  refine AS.cons (sp_move (v := .int _ _) rfl ?_)
  refine AS.cons (sp_call [] rfl rfl cf_27 (fun F w _ S => paysP b ha hc da dc k w (hK.ext S.mod) (hH.ext S.mod) (hD.ext S.mod)) ?_)
  refine AS.cons (sp_move rfl ?_)
  refine AS.cons (sp_ext rfl rfl ?_)
  refine AS.cons (sp_ext rfl rfl ?_)
  refine AS.cons (sp_alloc 7 zv_25 rfl (fun b7 => ?_))
  refine AS.cons (sp_st 7 rfl rfl rfl rfl sz_25_2 rfl rfl ?_)
  refine AS.cons (sp_asg (v := .int _ _) rfl ?_)
  refine AS.nil ?_
  intro _ S
  refine W.seq (W.region S ?_)
  refine AS.cons (sp_ldw 3 rfl rfl ag_28_9 ?_)
  refine AS.cons (sp_move (v := .int _ _) rfl ?_)
  refine AS.cons (sp_call [] rfl rfl cf_28 (fun F w _ S => paysR b ha hc da dc k w (hH.ext S.mod) (hD.ext S.mod)) ?_)
  refine AS.cons (sp_move rfl ?_)
  refine AS.cons (sp_ext rfl rfl ?_)
  refine AS.cons (sp_ext rfl rfl ?_)
  refine AS.cons (sp_alloc 9 zv_25 rfl (fun b9 => ?_))
  refine AS.cons (sp_st 9 rfl rfl rfl rfl sz_25_2 rfl rfl ?_)
  refine AS.cons (sp_asg (v := .int _ _) rfl ?_)
  refine AS.nil ?_
  intro _ S
  refine W.seq (W.seq (W.region S ?_))
  refine AS.cons (sp_ldw 7 rfl rfl ag_25_2 ?_)
  refine AS.cons (sp_ldw 9 rfl rfl ag_25_2 ?_)
  refine AS.cons (sp_neqa rfl rfl gt_25 (eqP_p2 pr_25 _ _ _ _) ?_)
  refine AS.cons (sp_move (v := .bool _) rfl ?_)
  refine AS.split 28 rfl (fun g28 => ?_) (fun g28 => ?_)
  · exact absurd g28 (by simp)
  · skip
    refine AS.cons (sp_move (v := .int _ _) rfl ?_)
    refine AS.cons (sp_move (v := .int _ _) rfl ?_)
    refine AS.cons (sp_neq rfl rfl ?_)
    refine AS.cons (sp_pick_f rfl (v := .bool _) rfl ?_)
    refine AS.nil ?_
    intro _ S
    refine W.cond rfl (fun c32 => ?_) (fun c32 => ?_)
    · exact (no_neq c32).elim
    · skip
      refine W.skip ?_
      refine W.seq (W.region S ?_)
      refine AS.cons (sp_ldw 3 rfl rfl ag_28_9 ?_)
      refine AS.cons (sp_move rfl ?_)
      refine AS.cons (sp_call [] rfl rfl cf_29 (fun F w _ S => canP b ha hc da dc pa pc l w (hK.ext S.mod) (hH.ext S.mod) (hD.ext S.mod) (hL.ext S.mod)) ?_)
      refine AS.cons (sp_move rfl ?_)
      refine AS.cons (sp_ext rfl rfl ?_)
      refine AS.cons (sp_ext rfl rfl ?_)
      refine AS.cons (sp_asg (v := .bool _) rfl ?_)
      refine AS.cons (sp_asg (v := .int _ _) rfl ?_)
      refine AS.nil ?_
      intro _ S
      refine W.seq (W.region S ?_)
      refine AS.cons (sp_ldw 3 rfl rfl ag_28_9 ?_)
      refine AS.cons (sp_move rfl ?_)
      refine AS.cons (sp_call [] rfl rfl cf_30 (fun F w _ S => canR b ha hc da dc pa pc l w (hH.ext S.mod) (hD.ext S.mod) (hL.ext S.mod)) ?_)
      refine AS.cons (sp_move rfl ?_)
      refine AS.cons (sp_ext rfl rfl ?_)
      refine AS.cons (sp_ext rfl rfl ?_)
      refine AS.cons (sp_asg (v := .bool _) rfl ?_)
      refine AS.cons (sp_asg (v := .int _ _) rfl ?_)
      refine AS.nil ?_
      intro _ S
      refine W.seq (W.region S ?_)
      refine AS.cons (sp_move (v := .bool _) rfl ?_)
      refine AS.cons (sp_move (v := .bool _) rfl ?_)
      refine AS.cons (sp_eqlb rfl rfl bool_4 ?_)
      refine AS.cons (sp_move (v := .bool _) rfl ?_)
      refine AS.split 48 rfl (fun g48 => ?_) (fun g48 => ?_)
      · skip
        refine AS.cons (sp_move (v := .int _ _) rfl ?_)
        refine AS.cons (sp_move (v := .int _ _) rfl ?_)
        refine AS.cons (sp_eql rfl rfl ?_)
        refine AS.cons (sp_pick_t rfl (v := .bool _) rfl ?_)
        refine AS.cons (sp_move (v := .bool _) rfl ?_)
        refine AS.split 53 rfl (fun g53 => ?_) (fun g53 => ?_)
        · skip
          refine AS.cons (sp_call [] rfl rfl cf_26 (fun F w _ S => drawn w (hK.ext S.mod)) ?_)
          refine AS.cons (sp_pick_t rfl (v := .bool _) rfl ?_)
          refine AS.cons (sp_asg (v := .bool _) rfl ?_)
          refine AS.nil ?_
          intro _ S
          refine W.ret ?_
          exact ret1 rfl rfl S fun w' S' => ⟨rfl, S'.mod⟩
        · exact (no_eq g53).elim
      · exact (no_beq g48).elim
set_option maxHeartbeats 8000000 in
theorem asksL (w : World) (hK : Kinds w) (hH : Hos w ha hc b.hs) (hD : Ints w da dc b.dr) : Ct Tryd.prog 5 #[.agg (sbL b ha hc da dc).toArray] w (fun u w' => u = .bool true ∧ Ext w w') := by
  refine fn_intro (args := [.agg (sbL b ha hc da dc).toArray]) Tryd.func5 rfl rfl (by kernel_rfl) ?_
  have S := St.start no w
  have hl1 := wrV_len b
  refine W.seq (W.region S ?_)
  refine AS.cons (sp_boxa 1 rfl (fun b1 => ?_))
  refine AS.cons (sp_asg rfl ?_)
  refine AS.nil ?_
  intro _ S
  refine W.seq (W.region S ?_)
  refine AS.cons (sp_ldw 1 rfl rfl ag_28_9 ?_)
  refine AS.cons (sp_call [] rfl rfl cf_31 (fun F w _ S => askP b ha hc da dc w (hK.ext S.mod) (hH.ext S.mod) (hD.ext S.mod)) ?_)
  refine AS.cons (sp_move rfl ?_)
  refine AS.cons (sp_ext rfl rfl ?_)
  refine AS.cons (sp_ext rfl rfl ?_)
  refine AS.cons (sp_asg (v := .int _ _) rfl ?_)
  refine AS.cons (sp_asg (v := .int _ _) rfl ?_)
  refine AS.nil ?_
  intro _ S
  refine W.seq (W.region S ?_)
  refine AS.cons (sp_ldw 1 rfl rfl ag_28_9 ?_)
  refine AS.cons (sp_call [] rfl rfl cf_32 (fun F w _ S => askR b ha hc da dc w (hH.ext S.mod) (hD.ext S.mod)) ?_)
  refine AS.cons (sp_move rfl ?_)
  refine AS.cons (sp_ext rfl rfl ?_)
  refine AS.cons (sp_ext rfl rfl ?_)
  refine AS.cons (sp_asg (v := .int _ _) rfl ?_)
  refine AS.cons (sp_asg (v := .int _ _) rfl ?_)
  refine AS.nil ?_
  intro _ S
  refine W.seq (W.seq (W.region S ?_))
  refine AS.cons (sp_move (v := .int _ _) rfl ?_)
  refine AS.cons (sp_move (v := .int _ _) rfl ?_)
  refine AS.cons (sp_neq rfl rfl ?_)
  refine AS.cons (sp_move (v := .bool _) rfl ?_)
  refine AS.split 22 rfl (fun g22 => ?_) (fun g22 => ?_)
  · exact (no_neq g22).elim
  · skip
    refine AS.cons (sp_move (v := .int _ _) rfl ?_)
    refine AS.cons (sp_move (v := .int _ _) rfl ?_)
    refine AS.cons (sp_neq rfl rfl ?_)
    refine AS.cons (sp_pick_f rfl (v := .bool _) rfl ?_)
    refine AS.nil ?_
    intro _ S
    refine W.cond rfl (fun c26 => ?_) (fun c26 => ?_)
    · exact (no_neq c26).elim
    · skip
      refine W.skip ?_
      refine W.seq (W.region S ?_)
      refine AS.cons (sp_ldw 1 rfl rfl ag_28_9 ?_)
      refine AS.cons (sp_call1 29 [] _ rfl rfl cf_33 (fun F w _ S => wrongP b ha hc da dc w (hK.ext S.mod) (hH.ext S.mod) (hD.ext S.mod)) ?_ (by simp))
      rintro v29 i29 ⟨a29, c29, h29, rfl, rfl⟩
      refine AS.cons (sp_move rfl ?_)
      refine AS.cons (sp_ext rfl rfl ?_)
      refine AS.cons (sp_ext rfl rfl ?_)
      refine AS.cons (sp_asg rfl ?_)
      refine AS.cons (sp_asg (v := .int _ _) rfl ?_)
      refine AS.nil ?_
      intro _ S
      refine W.seq (W.region S ?_)
      refine AS.cons (sp_ldw 1 rfl rfl ag_28_9 ?_)
      refine AS.cons (sp_call1 34 [] _ rfl rfl cf_34 (fun F w _ S => wrongR b ha hc da dc w (hH.ext S.mod) (hD.ext S.mod)) ?_ (by simp))
      rintro v34 i34 ⟨a34, c34, h34, rfl, rfl⟩
      refine AS.cons (sp_move rfl ?_)
      refine AS.cons (sp_ext rfl rfl ?_)
      refine AS.cons (sp_ext rfl rfl ?_)
      refine AS.cons (sp_asg rfl ?_)
      refine AS.cons (sp_asg (v := .int _ _) rfl ?_)
      refine AS.nil ?_
      intro _ S
      refine W.seq (W.region S ?_)
      refine AS.cons (sp_move rfl ?_)
      refine AS.cons (sp_move rfl ?_)
      refine AS.cons (sp_call [29, 34] rfl rfl cf_21 (fun F w hF S => same a29 c29 _ a34 c34 _ w (S.slc_rd (k := 29) ((hF 29 (by simp)).trans rfl) (by omega)) (S.slc_rd (k := 34) ((hF 34 (by simp)).trans rfl) (by omega))) ?_)
      refine AS.cons (sp_move (v := .bool _) rfl ?_)
      refine AS.split 40 rfl (fun g40 => ?_) (fun g40 => ?_)
      · skip
        refine AS.cons (sp_move (v := .int _ _) rfl ?_)
        refine AS.cons (sp_move (v := .int _ _) rfl ?_)
        refine AS.cons (sp_eql rfl rfl ?_)
        refine AS.cons (sp_pick_t rfl (v := .bool _) rfl ?_)
        refine AS.cons (sp_move (v := .bool _) rfl ?_)
        refine AS.split 45 rfl (fun g45 => ?_) (fun g45 => ?_)
        · skip
          refine AS.cons (sp_call [] rfl rfl cf_26 (fun F w _ S => drawn w (hK.ext S.mod)) ?_)
          refine AS.cons (sp_pick_t rfl (v := .bool _) rfl ?_)
          refine AS.cons (sp_asg (v := .bool _) rfl ?_)
          refine AS.nil ?_
          intro _ S
          refine W.ret ?_
          exact ret1 rfl rfl S fun w' S' => ⟨rfl, S'.mod⟩
        · exact (no_eq g45).elim
      · exact (no_eq g40).elim
end
end Go.Proofs.YtajocmkgdjcmkaaDoor

/-
  What a law is handed, opened: books, numbers; what the row says of the table of kinds.
-/
namespace Go.Proofs.YtajocmkgdjcmkaaDoor
set_option maxRecDepth 100000
open Go.Hu Go.ChangeShapes Go.WideShapes Go.ChangeAt Go.RowKit
theorem own : ownKnob Tryd.prog.godebug = none := by kernel_rfl
theorem laidOut : laidOutB Tryd.prog = true := by kernel_rfl
theorem gKinds : Tryd.prog.globalNamed "huer/share.kinds" = some 0 := by kernel_rfl
theorem tKinds : (Tryd.prog.globals[0]?).map (·.type) = some 87 := by kernel_rfl
abbrev lawLaid : List (String × DataW Unit) := [("huer/share.kinds", Rows.laid_huer_share_kinds)]
/-- The door's own heap meets the condition. -/
theorem door_met (os : Os) (args : Array Value) : laidMetH Tryd.prog lawLaid ((World.doorLaid Tryd.prog 600 os).forCall (fun _ _ => 0) ⟨#[], args, []⟩).memory :=
  laidMetH_of_parts3 (fuel := 8) (laidMet_of_run' 8 (by kernel_rfl) (by kernel_rfl)) (by kernel_rfl) (by kernel_rfl)
theorem var_heap {W : World} {n : String} {g : Nat} {cs : Array Value} (hg : Tryd.prog.globalNamed n = some g) (h : W.var? Tryd.prog n = some cs) : ∃ E fr, W.heap[g]? = some (.cells cs E fr) := by
  simp only [World.var?, hg, Option.bind_some] at h
  split at h
  · next c E fr he => injection h with h; subst h; exact ⟨E, fr, he⟩
  · cases h
theorem kinds_of {W : World} (h : laidMetH Tryd.prog lawLaid W) : Kinds W := by
  obtain ⟨g, t, cs, fuel, p, hg, ht, hv, hd⟩ := h.funcs (List.mem_singleton.2 rfl)
  obtain rfl := Option.some.inj (gKinds.symm.trans hg)
  obtain rfl := Option.some.inj (tKinds.symm.trans ht)
  have hd' : DataW.trod (funcToken Tryd.prog) Tryd.prog W 0 (fun _ => true) true fuel 87 cs.toList = some (.agg [.held [40, 104, 117, 101, 114, 47, 115, 104, 97, 114, 101, 46, 111, 119, 110, 115, 41, 46, 98, 111, 97, 116, 115], .held [40, 104, 117, 101, 114, 47, 115, 104, 97, 114, 101, 46, 111, 119, 110, 115, 41, 46, 110, 101, 116, 115], .held [40, 104, 117, 101, 114, 47, 115, 104, 97, 114, 101, 46, 111, 119, 110, 115, 41, 46, 109, 101, 110]], p) := hd
  obtain ⟨xs, m, rfl, hx, hlen, hxl, hel⟩ := DataW.trod_array Tryd.underlying87 hd'
  have c1 : Tryd.prog.cellsOf 86 = 1 := by kernel_rfl
  have c2 : Tryd.prog.cellsOf 87 = 3 := by kernel_rfl
  rw [c2] at hlen
  obtain ⟨l⟩ := cs
  match l, hlen, xs, hxl, hx, hel with
  | [v0, v1, v2], _, [x0, x1, x2], _, hx, hel =>
    have h0 := hel 0 (by decide)
    have h1 := hel 1 (by decide)
    have h2 := hel 2 (by decide)
    rw [c1] at h0 h1 h2
    simp only [List.map_cons, List.map_nil, Prod.mk.injEq, DataW.agg.injEq, List.cons.injEq] at hx
    obtain ⟨⟨e0, e1, e2, _⟩, _⟩ := hx
    have h0' : DataW.trod (funcToken Tryd.prog) Tryd.prog W 0 (fun _ => true) true m 86 [v0] = some (.held (40 :: [104, 117, 101, 114, 47, 115, 104, 97, 114, 101, 46, 111, 119, 110, 115, 41, 46, 98, 111, 97, 116, 115]), x0.2) := by rw [e0]; simpa using h0
    have h1' : DataW.trod (funcToken Tryd.prog) Tryd.prog W 0 (fun _ => true) true m 86 [v1] = some (.held (40 :: [104, 117, 101, 114, 47, 115, 104, 97, 114, 101, 46, 111, 119, 110, 115, 41, 46, 110, 101, 116, 115]), x1.2) := by rw [e1]; simpa using h1
    have h2' : DataW.trod (funcToken Tryd.prog) Tryd.prog W 0 (fun _ => true) true m 86 [v2] = some (.held (40 :: [104, 117, 101, 114, 47, 115, 104, 97, 114, 101, 46, 111, 119, 110, 115, 41, 46, 109, 101, 110]), x2.2) := by rw [e2]; simpa using h2
    obtain rfl := func_of_trod (f0 := 116) Tryd.underlying86 (by kernel_rfl) h0'
    obtain rfl := func_of_trod (f0 := 118) Tryd.underlying86 (by kernel_rfl) h1'
    obtain rfl := func_of_trod (f0 := 119) Tryd.underlying86 (by kernel_rfl) h2'
    obtain ⟨E, fr, hh⟩ := var_heap gKinds hv
    exact ⟨E, fr, hh⟩

section
variable {H : Type} {enc : TypeId × Value → H} {W : World} {sp : Nat → Bool} {held : Bool} {n : Nat} {cs : List Value} {y : DataW H × List MemPlace}
theorem list9 {α : Type} {l : List α} (h : l.length = 9) : ∃ a b c d e f g i j, l = [a, b, c, d, e, f, g, i, j] := by
  match l, h with
  | [a, b, c, d, e, f, g, i, j], _ => exact ⟨a, b, c, d, e, f, g, i, j, rfl⟩
theorem trod3 {v : Value} (h : DataW.trod enc Tryd.prog W 0 sp held n 3 [v] = some y) : ∃ k, v = iv k := by
  obtain ⟨k, e, _⟩ := DataW.trod_int Tryd.underlying3 h
  injection e with e _
  exact ⟨k, e⟩
theorem c3 : Tryd.prog.cellsOf 3 = 1 := by kernel_rfl
theorem c26 : Tryd.prog.cellsOf 26 = 1 := by kernel_rfl
theorem c23 : Tryd.prog.cellsOf 23 = 1 := by kernel_rfl
theorem c22 : Tryd.prog.cellsOf 22 = 3 := by kernel_rfl
theorem c25 : Tryd.prog.cellsOf 25 = 2 := by kernel_rfl
theorem c58 : Tryd.prog.cellsOf 58 = 2 := by kernel_rfl
theorem c67 : Tryd.prog.cellsOf 67 = 4 := by kernel_rfl
theorem c75 : Tryd.prog.cellsOf 75 = 3 := by kernel_rfl
theorem c28 : Tryd.prog.cellsOf 28 = 9 := by kernel_rfl
theorem hos_len (l : List Ho) : (l.flatMap hoL).length = l.length * 3 := by
  induction l with
  | nil => rfl
  | cons x l ih => simp only [List.flatMap_cons, List.length_append, ih, List.length_cons]; show 3 + _ = _; omega
theorem trod75 (h : DataW.trod enc Tryd.prog W 0 sp held n 75 cs = some y) : ∃ c : Ho, cs = hoL c := by
  obtain ⟨xs, m, _, _, hc, hl, hf⟩ := DataW.trod_struct Tryd.underlying75 h
  rw [c75] at hc
  match cs, hc with
  | [v0, v1, v2], _ =>
    obtain ⟨y0, hy0⟩ := get_some (l := xs) (j := 0) (by rw [hl]; decide)
    have h0 : DataW.trod enc Tryd.prog W 0 sp held m 3 (([v0, v1, v2].drop 0).take (Tryd.prog.cellsOf 3)) = xs[0]? := hf 0 _ rfl
    rw [hy0, c3] at h0
    obtain ⟨y1, hy1⟩ := get_some (l := xs) (j := 1) (by rw [hl]; decide)
    have h1 : DataW.trod enc Tryd.prog W 0 sp held m 3 (([v0, v1, v2].drop 1).take (Tryd.prog.cellsOf 3)) = xs[1]? := hf 1 _ rfl
    rw [hy1, c3] at h1
    obtain ⟨y2, hy2⟩ := get_some (l := xs) (j := 2) (by rw [hl]; decide)
    have h2 : DataW.trod enc Tryd.prog W 0 sp held m 3 (([v0, v1, v2].drop 2).take (Tryd.prog.cellsOf 3)) = xs[2]? := hf 2 _ rfl
    rw [hy2, c3] at h2
    obtain ⟨a0, rfl⟩ := trod3 (v := v0) h0
    obtain ⟨a1, rfl⟩ := trod3 (v := v1) h1
    obtain ⟨a2, rfl⟩ := trod3 (v := v2) h2
    exact ⟨⟨a0, a1, a2⟩, rfl⟩
theorem trod26 {v : Value} (h : DataW.trod enc Tryd.prog W 0 sp held n 26 [v] = some y) : ∃ a c l, v = .slice a (List.length l) c ∧ Ints W a c l := by
  rcases open_ints Tryd.underlying26 Tryd.underlying3 c3 h with ⟨hcs, _⟩ | ⟨x, len, cap, zs, hcs, _, hl, hm, hz, _, hcell, _⟩
  · injection hcs with e _
    subst e
    exact ⟨none, 0, [], rfl, rfl, by decide, .inl ⟨rfl, none, 0, rfl⟩⟩
  · injection hcs with e _
    subst e
    have hzl : len ≤ zs.length := by rw [hz]; split <;> omega
    have htl : (zs.take len).length = len := by rw [List.length_take]; omega
    have hmx : len ≤ 9223372036854775807 := Nat.le_trans hl (Nat.le_trans hm (by decide))
    refine ⟨some x, cap, zs.take len, by rw [htl], ?_⟩
    unfold Ints
    rw [htl]
    refine ⟨by rw [List.length_map, htl, Nat.mul_one], hmx, ?_⟩
    by_cases h0 : len = 0
    · exact .inl ⟨h0, some x, cap, by rw [h0]⟩
    · obtain ⟨b, off, spot⟩ := x
      have hc0 := hcell 0 (by omega)
      have hspot : spot = none := by simpa [Addr.add] using World.cell?_spot hc0
      subst hspot
      refine .inr ⟨b, off, cap, rfl, hl, fun j u hu => ?_⟩
      rw [List.getElem?_map] at hu
      cases hj : (zs.take len)[j]? with
      | none => rw [hj] at hu; cases hu
      | some z =>
        rw [hj] at hu
        cases hu
        have hjl : j < len := by have := (List.getElem?_eq_some_iff.1 hj).1; omega
        have hzj : zs[j]? = some z := by rw [List.getElem?_take] at hj; simpa [hjl] using hj
        have := hcell j (by omega)
        rw [Go.Hu.add_plain] at this
        rw [this, List.getD_eq_getElem?_getD, hzj]; rfl
theorem trod23 {v : Value} (h : DataW.trod enc Tryd.prog W 0 sp held n 23 [v] = some y) : ∃ a c l, v = .slice a (List.length l) c ∧ Hos W a c l := by
  rcases Deep.open_slice Tryd.underlying23 h with ⟨hcs, _⟩ | ⟨x, len, cap, m, n', D, Pl, hcs, _, hl, hm, hmm, _, hx⟩
  · injection hcs with e _
    subst e
    exact ⟨none, 0, [], rfl, rfl, by decide, .inl ⟨rfl, none, 0, rfl⟩⟩
  · injection hcs with e _
    subst e
    have hml : len ≤ m := by rw [hmm]; split <;> omega
    rw [c75] at hx
    obtain ⟨f, hf⟩ := Deep.choose_lt (α := Int × Int × Int) (n := len) (p := fun i c => W.cells? 0 (x.add (i * 3)) 3 = some (hoL ⟨c.1, c.2.1, c.2.2⟩)) (fun i hi => by
      obtain ⟨cs', h1, h2⟩ := hx i (by omega)
      obtain ⟨c, rfl⟩ := trod75 h2
      exact ⟨(c.bo, c.ne, c.me), h1⟩)
    obtain ⟨g, hg⟩ : ∃ g : Nat → Ho, g = fun i => ⟨(f i).1, (f i).2.1, (f i).2.2⟩ := ⟨_, rfl⟩
    have hcell : ∀ i, i < len → ∀ j u, (hoL (g i))[j]? = some u → W.cell? (x.add (i * 3 + j)) = some u := fun i hi j u hu => by
      have h1 := hf i hi
      obtain ⟨_, hlen, hat⟩ := World.cells?_some h1
      have hj : j < 3 := (List.getElem?_eq_some_iff.1 hu).1
      have h2 := hat j hj
      rw [Deep.add_add] at h2
      rw [h2, ← hu, hg]
    have hll : ((List.range len).map g).length = len := by simp
    have hmx : len ≤ 9223372036854775807 := Nat.le_trans hl (Nat.le_trans hm (by decide))
    refine ⟨some x, cap, (List.range len).map g, by rw [hll], ?_⟩
    unfold Hos
    rw [hll]
    refine ⟨by rw [hos_len, hll], hmx, ?_⟩
    by_cases h0 : len = 0
    · exact .inl ⟨h0, some x, cap, by rw [h0]⟩
    · obtain ⟨b, off, spot⟩ := x
      have hc0 := hcell 0 (by omega) 0 _ rfl
      have hspot : spot = none := by simpa [Addr.add] using World.cell?_spot hc0
      subst hspot
      refine .inr ⟨b, off, cap, rfl, hl, fun j u hu => ?_⟩
      have hjl : j < len * 3 := by have := (List.getElem?_eq_some_iff.1 hu).1; rw [hos_len, hll] at this; exact this
      have hq : j / 3 < len := Nat.div_lt_of_lt_mul (by omega)
      have hr := Nat.mod_lt j (show 0 < 3 by decide)
      have hj : j = (j / 3) * 3 + j % 3 := by omega
      have hrow := rdL_flat (f := hoL) (s := 3) (fun _ => rfl) (l := (List.range len).map g) (i := j / 3) (x := g (j / 3)) (by rw [List.getElem?_map, List.getElem?_range hq]; rfl)
      have hu' : (hoL (g (j / 3)))[j % 3]? = some u := by
        have h1 := (rdL_spec hrow).2 (j % 3) hr
        rw [← hj, hu] at h1
        exact h1.symm
      have := hcell (j / 3) hq (j % 3) u hu'
      rw [← hj, Go.Hu.add_plain] at this
      exact this
theorem trod22 {v0 v1 v2 : Value} (h : DataW.trod enc Tryd.prog W 0 sp held n 22 [v0, v1, v2] = some y) : ∃ a0 a1 a2, v0 = iv a0 ∧ v1 = iv a1 ∧ v2 = iv a2 := by
  obtain ⟨xs, m, rfl, _, _, hl, hf⟩ := DataW.trod_array Tryd.underlying22 h
  have h0 := hf 0 (by decide)
  obtain ⟨y0, hy0⟩ := get_some (l := xs) (j := 0) (by rw [hl]; decide)
  rw [hy0] at h0
  simp only [c3] at h0
  obtain ⟨a0, rfl⟩ := trod3 (v := v0) h0
  have h1 := hf 1 (by decide)
  obtain ⟨y1, hy1⟩ := get_some (l := xs) (j := 1) (by rw [hl]; decide)
  rw [hy1] at h1
  simp only [c3] at h1
  obtain ⟨a1, rfl⟩ := trod3 (v := v1) h1
  have h2 := hf 2 (by decide)
  obtain ⟨y2, hy2⟩ := get_some (l := xs) (j := 2) (by rw [hl]; decide)
  rw [hy2] at h2
  simp only [c3] at h2
  obtain ⟨a2, rfl⟩ := trod3 (v := v2) h2
  exact ⟨a0, a1, a2, rfl, rfl, rfl⟩
theorem trod58 {v0 v1 : Value} (h : DataW.trod enc Tryd.prog W 0 sp held n 58 [v0, v1] = some y) : ∃ a0 a1, v0 = iv a0 ∧ v1 = iv a1 := by
  obtain ⟨xs, m, rfl, _, _, hl, hf⟩ := DataW.trod_array Tryd.underlying58 h
  have h0 := hf 0 (by decide)
  obtain ⟨y0, hy0⟩ := get_some (l := xs) (j := 0) (by rw [hl]; decide)
  rw [hy0] at h0
  simp only [c3] at h0
  obtain ⟨a0, rfl⟩ := trod3 (v := v0) h0
  have h1 := hf 1 (by decide)
  obtain ⟨y1, hy1⟩ := get_some (l := xs) (j := 1) (by rw [hl]; decide)
  rw [hy1] at h1
  simp only [c3] at h1
  obtain ⟨a1, rfl⟩ := trod3 (v := v1) h1
  exact ⟨a0, a1, rfl, rfl⟩
theorem trod67 {v0 v1 v2 v3 : Value} (h : DataW.trod enc Tryd.prog W 0 sp held n 67 [v0, v1, v2, v3] = some y) : ∃ a0 a1 a2 a3, v0 = iv a0 ∧ v1 = iv a1 ∧ v2 = iv a2 ∧ v3 = iv a3 := by
  obtain ⟨xs, m, rfl, _, _, hl, hf⟩ := DataW.trod_array Tryd.underlying67 h
  have h0 := hf 0 (by decide)
  obtain ⟨y0, hy0⟩ := get_some (l := xs) (j := 0) (by rw [hl]; decide)
  rw [hy0] at h0
  simp only [c3] at h0
  obtain ⟨a0, rfl⟩ := trod3 (v := v0) h0
  have h1 := hf 1 (by decide)
  obtain ⟨y1, hy1⟩ := get_some (l := xs) (j := 1) (by rw [hl]; decide)
  rw [hy1] at h1
  simp only [c3] at h1
  obtain ⟨a1, rfl⟩ := trod3 (v := v1) h1
  have h2 := hf 2 (by decide)
  obtain ⟨y2, hy2⟩ := get_some (l := xs) (j := 2) (by rw [hl]; decide)
  rw [hy2] at h2
  simp only [c3] at h2
  obtain ⟨a2, rfl⟩ := trod3 (v := v2) h2
  have h3 := hf 3 (by decide)
  obtain ⟨y3, hy3⟩ := get_some (l := xs) (j := 3) (by rw [hl]; decide)
  rw [hy3] at h3
  simp only [c3] at h3
  obtain ⟨a3, rfl⟩ := trod3 (v := v3) h3
  exact ⟨a0, a1, a2, a3, rfl, rfl, rfl, rfl⟩
theorem trod25 {u v : Value} (h : DataW.trod enc Tryd.prog W 0 sp held n 25 [u, v] = some y) : ∃ a o, u = iv a ∧ v = iv o := by
  obtain ⟨xs, m, _, _, _, hl, hf⟩ := DataW.trod_struct Tryd.underlying25 h
  have h0 : DataW.trod enc Tryd.prog W 0 sp held m 3 (([u, v].drop 0).take (Tryd.prog.cellsOf 3)) = xs[0]? := hf 0 _ rfl
  have h1 : DataW.trod enc Tryd.prog W 0 sp held m 3 (([u, v].drop 1).take (Tryd.prog.cellsOf 3)) = xs[1]? := hf 1 _ rfl
  obtain ⟨y0, hy0⟩ := get_some (l := xs) (j := 0) (by rw [hl]; decide)
  obtain ⟨y1, hy1⟩ := get_some (l := xs) (j := 1) (by rw [hl]; decide)
  rw [hy0, c3] at h0
  rw [hy1, c3] at h1
  obtain ⟨a, rfl⟩ := trod3 (v := u) h0
  obtain ⟨o, rfl⟩ := trod3 (v := v) h1
  exact ⟨a, o, rfl, rfl⟩
theorem trod28 (h : DataW.trod enc Tryd.prog W 0 sp held n 28 cs = some y) : ∃ b ha hc da dc, cs = sbL b ha hc da dc ∧ Hos W ha hc b.hs ∧ Ints W da dc b.dr := by
  obtain ⟨xs, m, _, _, hc, hl, hf⟩ := DataW.trod_struct Tryd.underlying28 h
  rw [c28] at hc
  obtain ⟨v0, v1, v2, v3, v4, v5, v6, v7, v8, rfl⟩ := list9 hc
  have gs : ∀ j, j < 5 → ∃ z, xs[j]? = some z := fun j hj => get_some (by rw [hl]; exact hj)
  obtain ⟨y0, hy0⟩ := gs 0 (by decide)
  have h0 : DataW.trod enc Tryd.prog W 0 sp held m 22 (([v0, v1, v2, v3, v4, v5, v6, v7, v8].drop 0).take (Tryd.prog.cellsOf 22)) = xs[0]? := hf 0 _ rfl
  rw [hy0, c22] at h0
  obtain ⟨y1, hy1⟩ := gs 1 (by decide)
  have h1 : DataW.trod enc Tryd.prog W 0 sp held m 23 (([v0, v1, v2, v3, v4, v5, v6, v7, v8].drop 3).take (Tryd.prog.cellsOf 23)) = xs[1]? := hf 1 _ rfl
  rw [hy1, c23] at h1
  obtain ⟨y2, hy2⟩ := gs 2 (by decide)
  have h2 : DataW.trod enc Tryd.prog W 0 sp held m 25 (([v0, v1, v2, v3, v4, v5, v6, v7, v8].drop 4).take (Tryd.prog.cellsOf 25)) = xs[2]? := hf 2 _ rfl
  rw [hy2, c25] at h2
  obtain ⟨y3, hy3⟩ := gs 3 (by decide)
  have h3 : DataW.trod enc Tryd.prog W 0 sp held m 25 (([v0, v1, v2, v3, v4, v5, v6, v7, v8].drop 6).take (Tryd.prog.cellsOf 25)) = xs[3]? := hf 3 _ rfl
  rw [hy3, c25] at h3
  obtain ⟨y4, hy4⟩ := gs 4 (by decide)
  have h4 : DataW.trod enc Tryd.prog W 0 sp held m 26 (([v0, v1, v2, v3, v4, v5, v6, v7, v8].drop 8).take (Tryd.prog.cellsOf 26)) = xs[4]? := hf 4 _ rfl
  rw [hy4, c26] at h4
  obtain ⟨a0, a1, a2, rfl, rfl, rfl⟩ := trod22 (v0 := v0) (v1 := v1) (v2 := v2) h0
  obtain ⟨ha, hcc, l, rfl, hl2⟩ := trod23 (v := v3) h1
  obtain ⟨a3, a4, rfl, rfl⟩ := trod25 (u := v4) (v := v5) h2
  obtain ⟨a5, a6, rfl, rfl⟩ := trod25 (u := v6) (v := v7) h3
  obtain ⟨da, dc, l', rfl, hl6⟩ := trod26 (v := v8) h4
  exact ⟨⟨a0, a1, a2, l, a3, a4, a5, a6, l'⟩, ha, hcc, da, dc, rfl, hl2, hl6⟩
variable {r : Reach} {b0 : Nat} {v : Value} {d : DataW H} {p : List MemPlace}
theorem open28 (hv : Value.okWide Tryd.prog W r b0 28 v) (h : DataW.Trod enc Tryd.prog W 0 sp held 28 v d p) : ∃ b ha hc da dc, v = .agg (sbL b ha hc da dc).toArray ∧ Hos W ha hc b.hs ∧ Ints W da dc b.dr := by
  obtain ⟨⟨l⟩, rfl, hsz⟩ := okWide_struct Tryd.underlying28 hv
  obtain ⟨fuel, hf⟩ := h
  obtain ⟨b, ha, hc, da, dc, e, h1, h2⟩ := trod28 (cs := l) hf
  exact ⟨b, ha, hc, da, dc, by rw [e], h1, h2⟩
theorem okWide_array {t e k : Nat} (ht : Tryd.prog.underlying t = some (.array k e)) (hv : Value.okWide Tryd.prog W r b0 t v) : ∃ cs, v = .agg cs ∧ cs.size = Tryd.prog.cellsOf t := by
  unfold Value.okWide at hv
  rw [ht] at hv
  obtain ⟨cs, h1, h2, _⟩ := hv
  exact ⟨cs, h1, h2⟩
theorem open22 (hv : Value.okWide Tryd.prog W r b0 22 v) (h : DataW.Trod enc Tryd.prog W 0 sp held 22 v d p) : ∃ n0 n1 n2, v = .agg [iv n0, iv n1, iv n2].toArray := by
  obtain ⟨⟨l⟩, rfl, hsz⟩ := okWide_array Tryd.underlying22 hv
  obtain ⟨fuel, hf⟩ := h
  rw [c22] at hsz
  match l, hsz with
  | [u0, u1, u2], _ =>
    obtain ⟨a0, a1, a2, rfl, rfl, rfl⟩ := trod22 (v0 := u0) (v1 := u1) (v2 := u2) hf
    exact ⟨a0, a1, a2, rfl⟩
theorem open58 (hv : Value.okWide Tryd.prog W r b0 58 v) (h : DataW.Trod enc Tryd.prog W 0 sp held 58 v d p) : ∃ n0 n1, v = .agg [iv n0, iv n1].toArray := by
  obtain ⟨⟨l⟩, rfl, hsz⟩ := okWide_array Tryd.underlying58 hv
  obtain ⟨fuel, hf⟩ := h
  rw [c58] at hsz
  match l, hsz with
  | [u0, u1], _ =>
    obtain ⟨a0, a1, rfl, rfl⟩ := trod58 (v0 := u0) (v1 := u1) hf
    exact ⟨a0, a1, rfl⟩
theorem open67 (hv : Value.okWide Tryd.prog W r b0 67 v) (h : DataW.Trod enc Tryd.prog W 0 sp held 67 v d p) : ∃ n0 n1 n2 n3, v = .agg [iv n0, iv n1, iv n2, iv n3].toArray := by
  obtain ⟨⟨l⟩, rfl, hsz⟩ := okWide_array Tryd.underlying67 hv
  obtain ⟨fuel, hf⟩ := h
  rw [c67] at hsz
  match l, hsz with
  | [u0, u1, u2, u3], _ =>
    obtain ⟨a0, a1, a2, a3, rfl, rfl, rfl, rfl⟩ := trod67 (v0 := u0) (v1 := u1) (v2 := u2) (v3 := u3) hf
    exact ⟨a0, a1, a2, a3, rfl⟩
theorem open26 (hv : Value.okWide Tryd.prog W r b0 26 v) (h : DataW.Trod enc Tryd.prog W 0 sp held 26 v d p) : ∃ a c l, v = .slice a (List.length l) c ∧ Ints W a c l := by
  obtain ⟨a0, len0, cap0, rfl⟩ := okWide_slice Tryd.underlying26 hv
  obtain ⟨fuel, hf⟩ := h
  exact trod26 (v := .slice a0 len0 cap0) hf
theorem open3 (hv : Value.okWide Tryd.prog W r b0 3 v) (h : DataW.Trod enc Tryd.prog W 0 sp held 3 v d p) : ∃ k, v = iv k := by
  obtain ⟨a, rfl, _⟩ := open_int Tryd.underlying3 hv h
  exact ⟨a, rfl⟩
end
end Go.Proofs.YtajocmkgdjcmkaaDoor
