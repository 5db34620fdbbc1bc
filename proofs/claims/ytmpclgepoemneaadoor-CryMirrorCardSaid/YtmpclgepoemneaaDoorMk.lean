/-
  Lemmas of this proof, several texts one behind the other; no condition beyond what each says.
-/
import Derived.Test.YtmpclgepoemneaaDoorMj
namespace Go.Proofs.YtmpclgepoemneaaDoor
open Go.Hu
theorem sz_3_1 : szB Tryd.prog 3 1 = true := by kernel_rfl
end Go.Proofs.YtmpclgepoemneaaDoor
/-
  The law of both cries, walked.
-/
namespace Go.Proofs.YtmpclgepoemneaaDoor
set_option maxRecDepth 100000
open Go.Hu Go.RowKit
section
variable (b : Bk) (la : Option Addr) (lc : Nat) (ca : Option Addr) (cc : Nat)
theorem seenG (hb : Num b) (c : Cry) (hc : CryOk { c with k := 0 }) (s : Int) (hs : 0 ≤ s ∧ s ≤ 1000) (w : World) : Ct Tryd.prog 46 #[.agg (bkL b la lc ca cc).toArray, .agg (cyL c).toArray, iv s] w (fun v w' => v = .bool (decide (Btw b c (s % b.wide) (s / b.wide))) ∧ Ext w w') := by
  refine fn_intro (args := [.agg (bkL b la lc ca cc).toArray, .agg (cyL c).toArray, iv s]) Tryd.func46 rfl rfl (by kernel_rfl) ?_
  have S := St.start no w
  have hhd := hdB hb c.h
  have hb0 := hb
  obtain ⟨hw, _⟩ := hb
  have hdv := divB hs.1 (show 0 < b.wide by omega)
  obtain ⟨hh, _, _, hf, ht, _⟩ := hc
  replace hh : 0 ≤ c.h ∧ c.h ≤ 1 := hh
  replace hf : PtOk c.fa c.fo := hf
  replace ht : PtOk c.ta c.tO := ht
  have h01 : c.h = 0 ∨ c.h = 1 := by omega
  have m1 := mulS (a := s % b.wide - hd b c.h) (b := c.tO) (by omega) (by omega)
  have m2 := mulS (a := s / b.wide + 1) (b := c.ta) (by omega) (by omega)
  refine W.seq (W.region S ?_)
  refine AS.cons (sp_boxa 3 rfl (fun b3 => ?_))
  refine AS.cons (sp_boxa 4 rfl (fun b4 => ?_))
  refine AS.cons (sp_asg rfl ?_)
  refine AS.nil ?_
  intro _ S
  refine W.seq (W.draw S mixed (fun i => ([KD.q [], KD.q [], KD.q [3], KD.q [], KD.q [], KD.q [4], KD.q [], KD.q [], KD.q [3], KD.q [], KD.q [], KD.q [], KD.q [3], KD.q [], KD.q [], KD.q [], KD.q []] : List KD)[i]?) [] [0, 1, 2, 3, 4, 5, 6, 7, 8, 9, 10, 11, 12, 13, 14, 15, 16] (by kernel_rfl) ?_)
  refine AW.cons rfl rfl (sp_move (v := .int _ _) rfl ?_)
  refine AW.cons rfl rfl (sp_fa rfl fo_26_0_0 ?_)
  refine AW.cons rfl rfl (sp_ld 3 rfl rfl sc_3 rfl ?_)
  refine AW.cons rfl rfl (sp_rem rfl rfl (by first | omega | (simp only [decide_eq_true_eq, decide_eq_false_iff_not] at *; omega)) (by first | omega | (simp only [decide_eq_true_eq, decide_eq_false_iff_not] at *; omega)) ?_)
  refine AW.cons rfl rfl (sp_fa rfl fo_46_0_0 ?_)
  refine AW.cons rfl rfl (sp_ld 4 rfl rfl sc_3 rfl ?_)
  refine AW.cons rfl rfl (sp_fa rfl fo_26_3_3 ?_)
  refine AW.cons rfl rfl (sp_iaa rfl rfl ar_23_2_3_1 (by first | omega | (simp only [decide_eq_true_eq, decide_eq_false_iff_not] at *; omega)) ?_)
  refine AW.cons rfl rfl (sp_ld 3 (v := iv (hd b c.h)) rfl rfl sc_3 (by rcases h01 with h | h <;> simp [h, hd]) ?_)
  refine AW.cons rfl rfl (sp_sub rfl rfl (by first | omega | (simp only [decide_eq_true_eq, decide_eq_false_iff_not] at *; omega)) ?_)
  refine AW.cons rfl rfl (sp_move (v := .int _ _) rfl ?_)
  refine AW.cons rfl rfl (sp_fa rfl fo_26_0_0 ?_)
  refine AW.cons rfl rfl (sp_ld 3 rfl rfl sc_3 rfl ?_)
  refine AW.cons rfl rfl (sp_quo rfl rfl (by first | omega | (simp only [decide_eq_true_eq, decide_eq_false_iff_not] at *; omega)) (by first | omega | (simp only [decide_eq_true_eq, decide_eq_false_iff_not] at *; omega)) ?_)
  refine AW.cons rfl rfl (sp_add rfl rfl (by first | omega | (simp only [decide_eq_true_eq, decide_eq_false_iff_not] at *; omega)) ?_)
  refine AW.cons rfl rfl (sp_asg (v := .int _ _) rfl ?_)
  refine AW.cons rfl rfl (sp_asg (v := .int _ _) rfl ?_)
  refine AW.nil ?_
  intro _ S
  refine W.seq (W.regionc S [6, 24, 25, 26, 27, 28, 29, 30, 31, 32, 33, 34, 35, 36, 37, 38, 39, 40, 41, 42, 43, 44] 6 (Btw b c (s % b.wide) (s / b.wide)) ?_ ?_)
  · skip
    refine AS.cons (sp_ldw 3 rfl rfl ag_26_7 ?_)
    refine AS.cons (sp_fa rfl fo_46_0_0 ?_)
    refine AS.cons (sp_ld 4 rfl rfl sc_3 rfl ?_)
    refine AS.cons (sp_move (v := .int _ _) rfl ?_)
    refine AS.cons (sp_fa rfl fo_46_3_3 ?_)
    refine AS.cons (sp_lda 4 2 rfl rfl ag_44_2 rfl ?_)
    refine AS.cons (sp_call [] rfl rfl cf_95 (fun F w _ S => behind _ _ _ _ _ (by assumption) _ _ _ _ (by omega) (by omega) (by assumption) w) ?_)
    refine AS.cons (sp_move (v := .bool _) rfl ?_)
    refine AS.split 31 rfl (fun g31 => ?_) (fun g31 => ?_)
    · skip
      refine AS.cons (sp_move (v := .int _ _) rfl ?_)
      refine AS.cons (sp_fa rfl fo_46_4_5 ?_)
      refine AS.cons (sp_fa rfl fo_44_1_1 ?_)
      refine AS.cons (sp_ld 4 rfl rfl sc_3 rfl ?_)
      refine AS.cons (sp_mul rfl rfl (mulB (by first | omega | (simp only [decide_eq_true_eq, decide_eq_false_iff_not] at *; omega)) (by first | omega | (simp only [decide_eq_true_eq, decide_eq_false_iff_not] at *; omega))) ?_)
      refine AS.cons (sp_move (v := .int _ _) rfl ?_)
      refine AS.cons (sp_fa rfl fo_46_4_5 ?_)
      refine AS.cons (sp_fa rfl fo_44_0_0 ?_)
      refine AS.cons (sp_ld 4 rfl rfl sc_3 rfl ?_)
      refine AS.cons (sp_mul rfl rfl (mulB (by first | omega | (simp only [decide_eq_true_eq, decide_eq_false_iff_not] at *; omega)) (by first | omega | (simp only [decide_eq_true_eq, decide_eq_false_iff_not] at *; omega))) ?_)
      refine AS.cons (sp_sub rfl rfl (by first | omega | (simp only [decide_eq_true_eq, decide_eq_false_iff_not] at *; omega)) ?_)
      refine AS.cons (sp_geq rfl rfl ?_)
      refine AS.cons (sp_pick_t rfl (v := .bool _) rfl ?_)
      refine AS.cons (sp_asg (v := .bool _) rfl ?_)
      refine AS.nil ⟨⟨_, rfl, ?_⟩, ?_, rfl⟩
      · (try simp only [decide_eq_true_eq] at *); first | omega | (simp_all; done) | (simp_all; omega)
      · repeat (first | exact Agr.refl _ _ | exact Agr.msk _ _ _ | refine Agr.upd ?_ _ rfl | refine Agr.upds ?_ rfl | refine Agr.mskIn ?_ rfl)
    · skip
      refine AS.cons (sp_skip rfl ?_)
      refine AS.cons (sp_skip rfl ?_)
      refine AS.cons (sp_skip rfl ?_)
      refine AS.cons (sp_skip rfl ?_)
      refine AS.cons (sp_skip rfl ?_)
      refine AS.cons (sp_skip rfl ?_)
      refine AS.cons (sp_skip rfl ?_)
      refine AS.cons (sp_skip rfl ?_)
      refine AS.cons (sp_skip rfl ?_)
      refine AS.cons (sp_skip rfl ?_)
      refine AS.cons (sp_skip rfl ?_)
      refine AS.cons (sp_skip rfl ?_)
      refine AS.cons (sp_pick_f rfl (v := .bool _) rfl ?_)
      refine AS.cons (sp_asg (v := .bool _) rfl ?_)
      refine AS.nil ⟨⟨_, rfl, ?_⟩, ?_, rfl⟩
      · (try simp only [decide_eq_false_iff_not] at *); first | omega | (simp_all; done) | (simp_all; omega)
      · repeat (first | exact Agr.refl _ _ | exact Agr.msk _ _ _ | refine Agr.upd ?_ _ rfl | refine Agr.upds ?_ rfl | refine Agr.mskIn ?_ rfl)
  intro σ2 _ S
  refine W.ret ?_
  exact ret1 rfl rfl S fun w' S' => ⟨rfl, S'.mod⟩
/-- Is one of the first j such a square? -/
def anU (p : Int → Bool) (l : List Int) (j : Nat) : Bool := (l.take j).any p
theorem anU_succ {p : Int → Bool} {l : List Int} {j : Nat} {x : Int} (hx : l[j]? = some x) : anU p l (j + 1) = (anU p l j || p x) := by
  unfold anU
  rw [List.take_add_one, hx, List.any_append]
  simp
theorem anU_all (p : Int → Bool) (l : List Int) : anU p l l.length = l.any p := by unfold anU; rw [List.take_length]
abbrev c0 (c : Cry) : Cry := { c with k := 0 }
abbrev c1 (c : Cry) : Cry := { c with k := 1 }
theorem c01 (c : Cry) : CryOk (c0 c) ↔ CryOk (c1 c) := by
  constructor
  · rintro ⟨h1, h2, _, h4⟩; exact ⟨h1, h2, (show (0 : Int) ≤ 1 ∧ (1 : Int) ≤ 1 from ⟨by decide, by decide⟩), h4⟩
  · rintro ⟨h1, h2, _, h4⟩; exact ⟨h1, h2, (show (0 : Int) ≤ 0 ∧ (0 : Int) ≤ 1 from ⟨by decide, by decide⟩), h4⟩
theorem whereL_whs {b : Bk} (hbk : BookOk b) {m : Int} (hm : 0 ≤ m ∧ m ≤ 30) : whereL b m = whs b m.toNat := by
  rcases where_of (ok_of hbk) hm with ⟨_, _, h⟩ | ⟨h, _, h2⟩
  · exact h
  · rw [h2, whs_none hbk.num (by omega) h]
theorem both_no {b : Bk} (hbk : BookOk b) (_h6 : b.cries.length ≤ 6) (c : Cry) (hc : ¬ CryOk (c0 c)) : fitsV b (c0 c) = false ∧ fitsV b (c1 c) = false ∧ fitsE b (c0 c) = 11 ∧ fitsE b (c1 c) = 11 := by
  have hok := ok_of hbk
  have hc' : ¬ CryOk (c1 c) := fun h => hc ((c01 c).2 h)
  refine ⟨?_, ?_, ?_, ?_⟩
  · unfold fitsV; rw [decide_eq_false hc]; simp
  · unfold fitsV; rw [decide_eq_false hc']; simp
  · unfold fitsE; rw [if_pos hok, if_neg hc]
  · unfold fitsE; rw [if_pos hok, if_neg hc']
theorem both_sum {b : Bk} (hbk : BookOk b) (h6 : b.cries.length ≤ 6) (c : Cry) (hc : CryOk (c0 c)) :
    ∃ y n bc wl i, fitsV b (c0 c) = y ∧ fitsV b (c1 c) = n ∧ fitsE b (c0 c) = 0 ∧ fitsE b (c1 c) = 0 ∧ BookOk (wi (wi b (c0 c)) (c1 c)) ∧ canB (wi (wi b (c0 c)) (c1 c)) = false ∧ canB b = bc ∧
      whereL b c.m = wl ∧ askV b (decide (0 ≤ c.m ∧ c.m ≤ 30)) = i ∧ wl.length ≤ 80 ∧ (∀ z ∈ wl, 0 ≤ z ∧ z ≤ 1000) ∧ decide (i = 0) = bc ∧ (y || n) = bc ∧
      (wl.any fun z => decide (Btw b c (z % b.wide) (z / b.wide))) = y ∧ (wl.any fun z => !decide (Btw b c (z % b.wide) (z / b.wide))) = n := by
  have hok := ok_of hbk
  have hb := hbk.num
  have hc' := (c01 c).1 hc
  have hm : 0 ≤ c.m ∧ c.m ≤ 30 := hc.2.1
  have hx : BookOk (wi (wi b (c0 c)) (c1 c)) := ⟨hb, hbk.ll, by rw [wi_len, wi_len]; omega, hbk.land, hbk.nd, wi_cry (wi_cry hbk.cry hc) hc'⟩
  have hV0 : fitsV b (c0 c) = canB (wi b (c0 c)) := by unfold fitsV; rw [hok, decide_eq_true hc]; simp
  have hV1 : fitsV b (c1 c) = canB (wi b (c1 c)) := by unfold fitsV; rw [hok, decide_eq_true hc']; simp
  have hwl := whereL_whs hbk hm
  have hbtw0 : ∀ z : Int, decide (Btw b (c0 c) (z % b.wide) (z / b.wide)) = decide (Btw b c (z % b.wide) (z / b.wide)) := fun z => rfl
  have hbtw1 : ∀ z : Int, decide (Btw b (c1 c) (z % b.wide) (z / b.wide)) = decide (Btw b c (z % b.wide) (z / b.wide)) := fun z => rfl
  have hy : (whs b c.m.toNat).any (fun z => decide (Btw b c (z % b.wide) (z / b.wide))) = canB (wi b (c0 c)) := by
    rw [Bool.eq_iff_iff, List.any_eq_true, can_wi hb (c0 c) hm]
    constructor
    · rintro ⟨z, hz, h⟩; exact ⟨z, hz, by rw [hbtw0, h]; rfl⟩
    · rintro ⟨z, hz, h⟩; exact ⟨z, hz, by rw [hbtw0] at h; rw [h]; rfl⟩
  have hn : (whs b c.m.toNat).any (fun z => !decide (Btw b c (z % b.wide) (z / b.wide))) = canB (wi b (c1 c)) := by
    rw [Bool.eq_iff_iff, List.any_eq_true, can_wi hb (c1 c) hm]
    constructor
    · rintro ⟨z, hz, h⟩; exact ⟨z, hz, by rw [hbtw1]; rw [Bool.not_eq_true'] at h; rw [h]; rfl⟩
    · rintro ⟨z, hz, h⟩; exact ⟨z, hz, by rw [hbtw1] at h; rw [h]; rfl⟩
  refine ⟨_, _, _, _, _, rfl, rfl, ?_, ?_, hx, ?_, rfl, rfl, rfl, whereL_len b c.m, ?_, ?_, ?_, ?_, ?_⟩
  · unfold fitsE; rw [if_pos hok, if_pos hc]
  · unfold fitsE; rw [if_pos hok, if_pos hc']
  · cases e : canB (wi (wi b (c0 c)) (c1 c)) with
    | false => rfl
    | true =>
      obtain ⟨t, ht⟩ := (can_iff (wi (wi b (c0 c)) (c1 c)) hb (show c.m.toNat ≤ 30 by omega)).1 e
      have hf := (alw_fact (cnd_lt (by omega) ht).2).2.2
      have h0 := hf (c0 c) (List.mem_append_left _ (List.mem_append_right _ (by simp))) (show c.m = _ by omega)
      have h1 := hf (c1 c) (List.mem_append_right _ (by simp)) (show c.m = _ by omega)
      have h01 : decide (Btw (wi (wi b (c0 c)) (c1 c)) (c0 c) ((t : Int) % b.wide) ((t : Int) / b.wide)) = decide (Btw (wi (wi b (c0 c)) (c1 c)) (c1 c) ((t : Int) % b.wide) ((t : Int) / b.wide)) := rfl
      exact absurd (h0.symm.trans (h01.trans h1)) (show ¬ (decide ((0 : Int) = 0) = decide ((1 : Int) = 0)) by decide)
  · intro z hz
    rw [hwl] at hz
    have := (whs_fact (show c.m.toNat ≤ 30 by omega) hz).1
    have := sq_le hb
    omega
  · rcases where_of hok hm with ⟨h1, h2, _⟩ | ⟨h1, h2, _⟩
    · rw [h1, h2]; rfl
    · rw [h1, h2]; rfl
  · rw [hV0, hV1]
    cases e : canB b with
    | true =>
      obtain ⟨z, l, hz⟩ := List.exists_cons_of_ne_nil (whs_some hb (show c.m.toNat ≤ 30 by omega) e)
      cases hz2 : decide (Btw b c (z % b.wide) (z / b.wide)) with
      | true => rw [(can_wi hb (c0 c) hm).2 ⟨z, by rw [show (c0 c).m = c.m from rfl, hz]; simp, by rw [hbtw0, hz2]; rfl⟩]; rfl
      | false => rw [(can_wi hb (c1 c) hm).2 ⟨z, by rw [show (c1 c).m = c.m from rfl, hz]; simp, by rw [hbtw1, hz2]; rfl⟩]; simp
    | false =>
      cases e0 : canB (wi b (c0 c)) with
      | true => rw [(wi_les b _).can e0] at e; cases e
      | false =>
        cases e1 : canB (wi b (c1 c)) with
        | true => rw [(wi_les b _).can e1] at e; cases e
        | false => rfl
  · rw [hV0, hwl]; exact hy
  · rw [hV1, hwl]; exact hn
set_option maxHeartbeats 4000000 in
theorem bothL (x : Cry) (w : World) (hK : Kinds w) (hl : Ints w la lc b.land) (hC : Cries w ca cc b.cries) : Ct Tryd.prog 10 #[.agg (bkL b la lc ca cc).toArray, .agg (cyL x).toArray] w (fun u w' => u = .bool true ∧ Ext w w') := by
  refine fn_intro (args := [.agg (bkL b la lc ca cc).toArray, .agg (cyL x).toArray]) Tryd.func10 rfl rfl (by kernel_rfl) ?_
  have S := St.start no w
  refine W.seq (W.region S ?_)
  refine AS.cons (sp_boxa 2 rfl (fun b2 => ?_))
  refine AS.cons (sp_boxa 3 rfl (fun b3 => ?_))
  refine AS.cons (sp_asg rfl ?_)
  refine AS.nil ?_
  intro _ S
  refine W.seq (W.seq (W.region S ?_))
  refine AS.cons (sp_ldw 2 rfl rfl ag_26_7 ?_)
  refine AS.cons (sp_call [] rfl rfl cf_37 (fun F w _ S => soundF _ _ _ _ _ w (hl.ext S.mod) (hC.ext S.mod)) ?_)
  refine AS.cons (sp_not rfl ?_)
  refine AS.cons (sp_move (v := .bool _) rfl ?_)
  refine AS.split 24 rfl (fun g24 => ?_) (fun g24 => ?_)
  · skip
    refine AS.cons (sp_skip rfl ?_)
    refine AS.cons (sp_skip rfl ?_)
    refine AS.cons (sp_skip rfl ?_)
    refine AS.cons (sp_skip rfl ?_)
    refine AS.cons (sp_pick_t rfl (v := .bool _) rfl ?_)
    refine AS.nil ?_
    intro _ S
    refine W.cond (b := true) rfl (fun _ => ?_) (fun h => nomatch h)
    refine W.seq (W.region S ?_)
    refine AS.cons (sp_call [] rfl rfl cf_28 (fun F w _ S => cried w (hK.ext S.mod)) ?_)
    refine AS.cons (sp_asg (v := .bool _) rfl ?_)
    refine AS.nil ?_
    intro _ S
    refine W.ret ?_
    exact ret1 rfl rfl S fun w' S' => ⟨rfl, S'.mod⟩
  · skip
    refine AS.cons (sp_fa rfl fo_26_5_6 ?_)
    refine AS.cons (sp_ld 2 rfl rfl sc_24 rfl ?_)
    refine AS.cons (sp_len rfl sl_24_46_7 ?_)
    refine AS.cons (sp_gtr rfl rfl ?_)
    refine AS.cons (sp_pick_f rfl (v := .bool _) rfl ?_)
    refine AS.nil ?_
    intro _ S
    refine W.cond rfl (fun c29 => ?_) (fun c29 => ?_)
    · skip
      refine W.seq (W.region S ?_)
      refine AS.cons (sp_call [] rfl rfl cf_28 (fun F w _ S => cried w (hK.ext S.mod)) ?_)
      refine AS.cons (sp_asg (v := .bool _) rfl ?_)
      refine AS.nil ?_
      intro _ S
      refine W.ret ?_
      exact ret1 rfl rfl S fun w' S' => ⟨rfl, S'.mod⟩
    · skip
      refine W.skip ?_
      have hok : okAll b = true := by rw [Bool.not_eq_false'] at g24; exact g24
      have hbk := okAll_ok hok
      have hb := hbk.num
      have hcl := hbk.lc
      have h6 : b.cries.length ≤ 6 := by have := of_decide_eq_false c29; omega
      obtain ⟨y, hy⟩ : ∃ y, fitsV b (c0 x) = y := ⟨_, rfl⟩
      obtain ⟨n, hn⟩ : ∃ n, fitsV b (c1 x) = n := ⟨_, rfl⟩
      obtain ⟨e, he⟩ : ∃ e, fitsE b (c0 x) = e := ⟨_, rfl⟩
      have he1 : fitsE b (c1 x) = e := by
        rw [← he]
        unfold fitsE
        rw [if_pos hok, if_pos hok]
        by_cases h : CryOk (c0 x)
        · rw [if_pos h, if_pos ((c01 x).1 h)]
        · rw [if_neg h, if_neg fun h' => h ((c01 x).2 h')]
      have hno : ¬ e = 0 → e = 11 ∧ y = false ∧ n = false := fun h => by
        have hcx : ¬ CryOk (c0 x) := fun hc => h (by rw [← he]; unfold fitsE; rw [if_pos hok, if_pos hc])
        obtain ⟨h1, h2, h3, _⟩ := both_no hbk h6 x hcx
        exact ⟨he.symm.trans h3, hy.symm.trans h1, hn.symm.trans h2⟩
      have e0 : 0 + b.cries.length + 2 = b.cries.length + 2 := by omega
      refine W.seq (W.draw S mixed (fun i => ([KD.q [3], KD.q [3], KD.a 5, KD.a 6, KD.e [5] [5], KD.e [6] [6]] : List KD)[i]?) [] [0, 1, 2, 3, 4, 5] (by kernel_rfl) ?_)
      refine AW.cons rfl rfl (sp_ldw 3 rfl rfl ag_46_7 ?_)
      refine AW.cons rfl rfl (sp_ldw 3 rfl rfl ag_46_7 ?_)
      refine AW.cons rfl rfl (sp_alloc 5 zv_46 rfl (fun b5 => ?_))
      refine AW.cons rfl rfl (sp_alloc 6 zv_46 rfl (fun b6 => ?_))
      refine AW.cons rfl rfl (sp_st 5 rfl rfl rfl rfl sz_46_7 rfl rfl ?_)
      refine AW.cons rfl rfl (sp_st 6 rfl rfl rfl rfl sz_46_7 rfl rfl ?_)
      refine AW.nil ?_
      intro _ S
      refine W.seq (W.region S ?_)
      refine AS.cons (sp_fa rfl fo_46_2_2 ?_)
      refine AS.cons (sp_st 5 rfl rfl rfl rfl sz_3_1 rfl rfl ?_)
      refine AS.cons (sp_fa rfl fo_46_2_2 ?_)
      refine AS.cons (sp_st 6 rfl rfl rfl rfl sz_3_1 rfl rfl ?_)
      refine AS.nil ?_
      intro _ S
      refine W.seq (W.region S ?_)
      refine AS.cons (sp_ldw 2 rfl rfl ag_26_7 ?_)
      refine AS.cons (sp_ldw (l := cyL (c0 x)) 5 rfl rfl ag_46_7 ?_)
      refine AS.cons (sp_call [] rfl rfl cf_33 (fun F w _ S => by have h := fitsP b la lc ca cc (c0 x) w (hK.ext S.mod) (hl.ext S.mod) (hC.ext S.mod); rw [hy, he] at h; exact h) ?_)
      refine AS.cons (sp_move rfl ?_)
      refine AS.cons (sp_ext rfl rfl ?_)
      refine AS.cons (sp_ext rfl rfl ?_)
      refine AS.cons (sp_asg (v := .bool _) rfl ?_)
      refine AS.cons (sp_asg (v := .int _ _) rfl ?_)
      refine AS.nil ?_
      intro _ S
      refine W.seq (W.region S ?_)
      refine AS.cons (sp_ldw 2 rfl rfl ag_26_7 ?_)
      refine AS.cons (sp_ldw (l := cyL (c1 x)) 6 rfl rfl ag_46_7 ?_)
      refine AS.cons (sp_call [] rfl rfl cf_33 (fun F w _ S => by have h := fitsP b la lc ca cc (c1 x) w (hK.ext S.mod) (hl.ext S.mod) (hC.ext S.mod); rw [hn, he1] at h; exact h) ?_)
      refine AS.cons (sp_move rfl ?_)
      refine AS.cons (sp_ext rfl rfl ?_)
      refine AS.cons (sp_ext rfl rfl ?_)
      refine AS.cons (sp_asg (v := .bool _) rfl ?_)
      refine AS.cons (sp_asg (v := .int _ _) rfl ?_)
      refine AS.nil ?_
      intro _ S
      refine W.seq (W.seq (W.region S ?_))
      refine AS.cons (sp_move (v := .int _ _) rfl ?_)
      refine AS.cons (sp_move (v := .int _ _) rfl ?_)
      refine AS.cons (sp_neq rfl rfl ?_)
      refine AS.cons (sp_move (v := .bool _) rfl ?_)
      refine AS.split 50 rfl (fun g50 => ?_) (fun g50 => ?_)
      · exact (no_neq g50).elim
      · skip
        refine AS.cons (sp_move (v := .int _ _) rfl ?_)
        refine AS.cons (sp_neq rfl rfl ?_)
        refine AS.cons (sp_pick_f rfl (v := .bool _) rfl ?_)
        refine AS.nil ?_
        intro _ S
        refine W.cond rfl (fun c53 => ?_) (fun c53 => ?_)
        · skip
          obtain ⟨h11, hyf, hnf⟩ := hno (of_decide_eq_true c53)
          refine W.seq (W.region S ?_)
          refine AS.cons (sp_move (v := .int _ _) rfl ?_)
          refine AS.cons (sp_move (v := .int _ _) rfl ?_)
          refine AS.cons (sp_eql rfl rfl ?_)
          refine AS.cons (sp_move (v := .bool _) rfl ?_)
          refine AS.split 57 rfl (fun g57 => ?_) (fun g57 => ?_)
          · skip
            refine AS.cons (sp_move (v := .int _ _) rfl ?_)
            refine AS.cons (sp_eql rfl rfl ?_)
            refine AS.cons (sp_pick_t rfl (v := .bool _) rfl ?_)
            refine AS.cons (sp_move (v := .bool _) rfl ?_)
            refine AS.split 61 rfl (fun g61 => ?_) (fun g61 => ?_)
            · skip
              refine AS.cons (sp_move (v := .bool _) rfl ?_)
              refine AS.cons (sp_not rfl ?_)
              refine AS.cons (sp_pick_t rfl (v := .bool _) rfl ?_)
              refine AS.cons (sp_move (v := .bool _) rfl ?_)
              refine AS.split 65 rfl (fun g65 => ?_) (fun g65 => ?_)
              · skip
                refine AS.cons (sp_move (v := .bool _) rfl ?_)
                refine AS.cons (sp_not rfl ?_)
                refine AS.cons (sp_pick_t rfl (v := .bool _) rfl ?_)
                refine AS.cons (sp_move (v := .bool _) rfl ?_)
                refine AS.split 69 rfl (fun g69 => ?_) (fun g69 => ?_)
                · skip
                  refine AS.cons (sp_call [] rfl rfl cf_28 (fun F w _ S => cried w (hK.ext S.mod)) ?_)
                  refine AS.cons (sp_pick_t rfl (v := .bool _) rfl ?_)
                  refine AS.cons (sp_asg (v := .bool _) rfl ?_)
                  refine AS.nil ?_
                  intro _ S
                  refine W.ret ?_
                  exact ret1 rfl rfl S fun w' S' => ⟨rfl, S'.mod⟩
                · rw [hnf] at g69; cases g69
              · rw [hyf] at g65; cases g65
            · exact absurd h11 (of_decide_eq_false g61)
          · exact (no_eq g57).elim
        · skip
          refine W.skip ?_
          have hE0 : e = 0 := Decidable.not_not.1 (of_decide_eq_false c53)
          have hcx : CryOk (c0 x) := Classical.byContradiction fun h => by have h1 := (both_no hbk h6 x h).2.2.1; rw [he, hE0] at h1; cases h1
          obtain ⟨y', n', bc, wl, i, hy', hn', _, _, hxk, hxc, hbc, hwl, hi, hl80, hlx, hib, hyn, hya, hna⟩ := both_sum hbk h6 x hcx
          have hyy : y' = y := hy'.symm.trans hy
          have hnn : n' = n := hn'.symm.trans hn
          subst hyy
          subst hnn
          have hokx := ok_of hxk
          have hch : chkV b = 0 := by unfold chkV; rw [if_pos hok]
          have hchx : chkV (wi (wi b (c0 x)) (c1 x)) = 0 := by unfold chkV; rw [if_pos hokx]
          have hrx : (okAll (wi (wi b (c0 x)) (c1 x)) && canB (wi (wi b (c0 x)) (c1 x))) = false := by rw [hxc]; simp
          have hrb : (okAll b && canB b) = bc := by rw [hok, hbc]; rfl
          have hxl : (wi (wi b (c0 x)) (c1 x)).cries.length = b.cries.length + 2 := by rw [wi_len, wi_len]
          obtain ⟨k1, k2, _, k4, k5, _⟩ := hcx
          refine W.seq (W.seq (W.region S ?_))
          refine AS.cons (sp_fa rfl fo_46_0_0 ?_)
          refine AS.cons (sp_ld 3 rfl rfl sc_3 rfl ?_)
          refine AS.cons (sp_call [] rfl rfl cf_44 (fun F w _ S => between _ _ _ w) ?_)
          refine AS.cons (sp_not rfl ?_)
          refine AS.cons (sp_move (v := .bool _) rfl ?_)
          refine AS.split 76 rfl (fun g76 => ?_) (fun g76 => ?_)
          · exfalso; rw [decide_eq_true k1] at g76; cases g76
          · skip
            refine AS.cons (sp_fa rfl fo_46_3_3 ?_)
            refine AS.cons (sp_lda 3 2 rfl rfl ag_44_2 rfl ?_)
            refine AS.cons (sp_call [] rfl rfl cf_48 (fun F w _ S => turns _ _ w) ?_)
            refine AS.cons (sp_not rfl ?_)
            refine AS.cons (sp_pick_f rfl (v := .bool _) rfl ?_)
            refine AS.cons (sp_move (v := .bool _) rfl ?_)
            refine AS.split 82 rfl (fun g82 => ?_) (fun g82 => ?_)
            · exfalso; rw [decide_eq_true k4] at g82; cases g82
            · skip
              refine AS.cons (sp_fa rfl fo_46_4_5 ?_)
              refine AS.cons (sp_lda 3 2 rfl rfl ag_44_2 rfl ?_)
              refine AS.cons (sp_call [] rfl rfl cf_48 (fun F w _ S => turns _ _ w) ?_)
              refine AS.cons (sp_not rfl ?_)
              refine AS.cons (sp_pick_f rfl (v := .bool _) rfl ?_)
              refine AS.nil ?_
              intro _ S
              refine W.cond rfl (fun c87 => ?_) (fun c87 => ?_)
              · exfalso; rw [decide_eq_true k5] at c87; cases c87
              · skip
                refine W.skip ?_
                refine W.seq (W.region S ?_)
                refine AS.cons (sp_ldw 2 rfl rfl ag_26_7 ?_)
                refine AS.cons (sp_alloc 11 zv_26 rfl (fun b11 => ?_))
                refine AS.cons (sp_st 11 rfl rfl rfl rfl sz_26_7 rfl rfl ?_)
                refine AS.nil ?_
                intro _ S
                refine W.seq (W.draw S mixed (fun i => ([KD.e [] [89], KD.q [], KD.q [2], KD.e [89] [89], KD.q [5], KD.q [6], KD.a 95, KD.e [89, 95] [89], KD.q [], KD.e [11] [11]] : List KD)[i]?) [3] [0, 1, 2, 3, 4, 5, 6, 7, 8, 9] (by kernel_rfl) ?_)
                refine AW.cons rfl rfl (sp_bsS0 89 sl_24_46_7 (fun b89 => ?_))
                refine AW.cons rfl rfl (sp_fa rfl fo_26_5_6 ?_)
                refine AW.cons rfl rfl (sp_ld 2 rfl rfl sc_24 rfl ?_)
                refine AW.cons rfl rfl (sp_app 89 [] rfl rfl sl_24_46_7 zs_46_7 rfl (fun F w hF S => hC.ext S.mod) (cries_one _) (by omega) (fun a92 c92 => ?_))
                refine AW.cons rfl rfl (sp_ldw (l := cyL (c0 x)) 5 rfl rfl ag_46_7 ?_)
                refine AW.cons rfl rfl (sp_ldw (l := cyL (c1 x)) 6 rfl rfl ag_46_7 ?_)
                refine AW.cons rfl rfl (sp_bs 95 [.tmp 93, .tmp 94] _ sl_24_46_7 zs_46_7 rfl rfl rfl rfl rfl rfl (fun b95 => ?_))
                refine AW.cons rfl rfl (sp_app 89 [95] rfl rfl sl_24_46_7 zs_46_7 rfl (fun F w hF S => rd_pt (S.get ((hF 95 (by simp)).trans rfl)).1 rfl (by omega) (by omega)) rfl (by first | omega | (simp only [decide_eq_true_eq, decide_eq_false_iff_not] at *; omega)) (fun a96 c96 => ?_))
                refine AW.cons rfl rfl (sp_fa rfl fo_26_5_6 ?_)
                refine AW.cons rfl rfl (sp_st 11 rfl rfl rfl rfl sz_24_1 rfl rfl ?_)
                refine AW.nil ?_
                intro _ S
                have hx11 : pt b11 (.cells [iv b.wide, iv b.high, .slice la b.land.length lc, iv b.h0, iv b.h1, iv b.swim, .slice a96 (0 + b.cries.length + 2) c96].toArray 26 (0, 0)) = pt b11 (.cells (bkL (wi (wi b (c0 x)) (c1 x)) la lc a96 c96).toArray 26 (0, 0)) := by
                  show _ = pt b11 (.cells [iv b.wide, iv b.high, .slice la b.land.length lc, iv b.h0, iv b.h1, iv b.swim, .slice a96 (wi (wi b (c0 x)) (c1 x)).cries.length c96].toArray 26 (0, 0))
                  rw [hxl, e0]
                have hx89 : slc 46 7 (.slice a96 (0 + b.cries.length + 2) c96) (0 + b.cries.length + 2) ([] ++ b.cries.flatMap cyL ++ (cyL (c0 x) ++ cyL (c1 x))) = CrS (wi (wi b (c0 x)) (c1 x)) a96 c96 := by
                  unfold CrS
                  rw [hxl, e0]
                  congr 1
                  simp [wi]
                refine W.seq (W.region S ?_)
                refine AS.cons (sp_ldw (l := bkL (wi (wi b (c0 x)) (c1 x)) la lc a96 c96) 11 rfl (Eq.trans rfl hx11) ag_26_7 ?_)
                refine AS.cons (sp_call [89] rfl rfl cf_20 (fun F w hF S => by have h := right (wi (wi b (c0 x)) (c1 x)) la lc a96 c96 w (hK.ext S.mod) (hl.ext S.mod) (S.slc_rd (k := 89) ((hF 89 (by simp)).trans (Eq.trans rfl hx89)) (by omega)); rw [hrx, hchx] at h; exact h) ?_)
                refine AS.cons (sp_move rfl ?_)
                refine AS.cons (sp_ext rfl rfl ?_)
                refine AS.cons (sp_ext rfl rfl ?_)
                refine AS.cons (sp_asg (v := .bool _) rfl ?_)
                refine AS.cons (sp_asg (v := .int _ _) rfl ?_)
                refine AS.nil ?_
                intro _ S
                refine W.seq (W.region S ?_)
                refine AS.cons (sp_ldw 2 rfl rfl ag_26_7 ?_)
                refine AS.cons (sp_call [] rfl rfl cf_20 (fun F w hF S => by have h := right b la lc ca cc w (hK.ext S.mod) (hl.ext S.mod) (hC.ext S.mod); rw [hrb, hch] at h; exact h) ?_)
                refine AS.cons (sp_move rfl ?_)
                refine AS.cons (sp_ext rfl rfl ?_)
                refine AS.cons (sp_ext rfl rfl ?_)
                refine AS.cons (sp_asg (v := .bool _) rfl ?_)
                refine AS.cons (sp_asg (v := .int _ _) rfl ?_)
                refine AS.nil ?_
                intro _ S
                refine W.seq (W.seq (W.region S ?_))
                refine AS.cons (sp_move (v := .int _ _) rfl ?_)
                refine AS.cons (sp_neq rfl rfl ?_)
                refine AS.cons (sp_move (v := .bool _) rfl ?_)
                refine AS.split 110 rfl (fun g110 => ?_) (fun g110 => ?_)
                · exact absurd g110 (by decide)
                · skip
                  refine AS.cons (sp_move (v := .int _ _) rfl ?_)
                  refine AS.cons (sp_neq rfl rfl ?_)
                  refine AS.cons (sp_pick_f rfl (v := .bool _) rfl ?_)
                  refine AS.cons (sp_move (v := .bool _) rfl ?_)
                  refine AS.split 114 rfl (fun g114 => ?_) (fun g114 => ?_)
                  · exact absurd g114 (by decide)
                  · skip
                    refine AS.cons (sp_move (v := .bool _) rfl ?_)
                    refine AS.cons (sp_pick_f rfl (v := .bool _) rfl ?_)
                    refine AS.cons (sp_move (v := .bool _) rfl ?_)
                    refine AS.split 117 rfl (fun g117 => ?_) (fun g117 => ?_)
                    · exact absurd g117 (by decide)
                    · skip
                      refine AS.cons (sp_move (v := .bool _) rfl ?_)
                      refine AS.cons (sp_move (v := .bool _) rfl ?_)
                      refine AS.split 119 rfl (fun g119 => ?_) (fun g119 => ?_)
                      · skip
                        refine AS.cons (sp_skip rfl ?_)
                        refine AS.cons (sp_pick_t rfl (v := .bool _) rfl ?_)
                        refine AS.cons (sp_move (v := .bool _) rfl ?_)
                        refine AS.cons (sp_neqb rfl rfl bool_4 ?_)
                        refine AS.cons (sp_pick_f rfl (v := .bool _) rfl ?_)
                        refine AS.nil ?_
                        intro _ S
                        refine W.cond rfl (fun c124 => ?_) (fun c124 => ?_)
                        · exfalso; rw [g119] at hyn; rw [← hyn] at c124; first | exact absurd c124 (by decide) | (revert c124; cases n' <;> decide)
                        · skip
                          refine W.skip ?_
                          refine W.seq (W.region S ?_)
                          refine AS.cons (sp_ldw 2 rfl rfl ag_26_7 ?_)
                          refine AS.cons (sp_fa rfl fo_46_1_1 ?_)
                          refine AS.cons (sp_ld 3 rfl rfl sc_3 rfl ?_)
                          refine AS.cons (sp_call1 129 [] _ rfl rfl cf_22 (fun F w hF S => by have h := whereP b la lc ca cc x.m w (hK.ext S.mod) (hl.ext S.mod) (hC.ext S.mod); rw [hwl, hi] at h; exact h) ?_ (by simp))
                          rintro v129 i129 ⟨a129, c129, h129, rfl, rfl⟩
                          refine AS.cons (sp_move rfl ?_)
                          refine AS.cons (sp_ext rfl rfl ?_)
                          refine AS.cons (sp_ext rfl rfl ?_)
                          refine AS.cons (sp_asg rfl ?_)
                          refine AS.cons (sp_asg (v := .int _ _) rfl ?_)
                          refine AS.nil ?_
                          intro _ S
                          refine W.seq (W.region S ?_)
                          refine AS.cons (sp_asg rfl ?_)
                          refine AS.cons (sp_asg rfl ?_)
                          refine AS.nil ?_
                          intro _ S
                          refine W.seq (W.seq (W.region S ?_))
                          refine AS.cons (sp_asg rfl ?_)
                          refine AS.nil ?_
                          intro _ S
                          refine W.block ?_
                          refine W.loopS S [18, 19, 20, 132, 133, 134, 135, 136, 137, 138, 139, 140, 141, 142, 143, 144] [] (fun (j : Nat) => [(20, iv j), (18, .bool (anU (fun z => decide (Btw b x (z % b.wide) (z / b.wide))) wl j)), (19, .bool (anU (fun z => !decide (Btw b x (z % b.wide) (z / b.wide))) wl j))]) (fun _ => []) (fun j => j ≤ wl.length) (fun j => wl.length - j) 0 (by omega) ⟨rfl, rfl, rfl, trivial⟩ trivial ?_
                          rintro j σ M w1 hj S
                          refine W.seq (W.seq (W.region S ?_))
                          refine AS.cons (sp_move (v := .int _ _) rfl ?_)
                          refine AS.cons (sp_move rfl ?_)
                          refine AS.cons (sp_len rfl sl_22_3_1 ?_)
                          refine AS.cons (sp_lss rfl rfl ?_)
                          refine AS.nil ?_
                          intro _ S
                          refine W.condd rfl (fun c135 => ?_) (fun c135 => ?_)
                          · skip
                            have hjl : j < wl.length := by omega
                            obtain ⟨z, hz⟩ := get_some hjl
                            have hzx := hlx z (List.mem_of_getElem? hz)
                            refine W.skip ?_
                            refine W.seq (W.block ?_)
                            refine W.seq (W.draw S mixed (fun i => ([KD.q [2], KD.q [3], KD.q [], KD.q [], KD.q [129], KD.q [129], KD.e [] []] : List KD)[i]?) [] [0, 1, 2, 3, 4, 5, 6] (by kernel_rfl) ?_)
                            refine AW.cons rfl rfl (sp_ldw 2 rfl rfl ag_26_7 ?_)
                            refine AW.cons rfl rfl (sp_ldw 3 rfl rfl ag_46_7 ?_)
                            refine AW.cons rfl rfl (sp_move rfl ?_)
                            refine AW.cons rfl rfl (sp_move (v := .int _ _) rfl ?_)
                            refine AW.cons rfl rfl (sp_iaS 129 rfl rfl rfl sl_22_3_1 (by omega) ?_)
                            refine AW.cons rfl rfl (sp_ldS 129 rfl rfl sc_3 (ints_of hz) (by omega) ?_)
                            refine AW.cons rfl rfl (sp_call [] rfl rfl cf_46 (fun F w _ S => seenG b la lc ca cc hb x ⟨k1, k2, (show (0 : Int) ≤ 0 ∧ (0 : Int) ≤ 1 from ⟨by decide, by decide⟩), k4, k5, by assumption⟩ z hzx w) ?_)
                            refine AW.nil ?_
                            intro _ S
                            refine W.cond rfl (fun c144 => ?_) (fun c144 => ?_)
                            · skip
                              refine W.region S ?_
                              refine AS.cons (sp_asg rfl ?_)
                              refine AS.nil ?_
                              intro _ S
                              refine W.region S ?_
                              refine AS.cons (sp_move (v := .int _ _) rfl ?_)
                              refine AS.cons (sp_add rfl rfl (by first | omega | (simp only [decide_eq_true_eq, decide_eq_false_iff_not] at *; omega)) ?_)
                              refine AS.cons (sp_asg (v := .int _ _) rfl ?_)
                              refine AS.nil ?_
                              intro _ S
                              exact ⟨j + 1, _, by omega, by omega, ⟨by simp [upd], by show Value.bool _ = Value.bool (anU _ wl (j + 1)); rw [anU_succ hz, c144]; simp, by show Value.bool _ = Value.bool (anU _ wl (j + 1)); rw [anU_succ hz, c144]; simp, trivial⟩, trivial, by repeat (first | exact Agr.refl _ _ | exact Agr.msk _ _ _ | refine Agr.upd ?_ _ rfl | refine Agr.upds ?_ rfl | refine Agr.mskIn ?_ rfl), by repeat (first | exact Agr.refl _ _ | exact Agr.msk _ _ _ | refine Agr.upd ?_ _ rfl | refine Agr.upds ?_ rfl | refine Agr.mskIn ?_ rfl), rfl, S⟩
                            · skip
                              refine W.region S ?_
                              refine AS.cons (sp_asg rfl ?_)
                              refine AS.nil ?_
                              intro _ S
                              refine W.region S ?_
                              refine AS.cons (sp_move (v := .int _ _) rfl ?_)
                              refine AS.cons (sp_add rfl rfl (by first | omega | (simp only [decide_eq_true_eq, decide_eq_false_iff_not] at *; omega)) ?_)
                              refine AS.cons (sp_asg (v := .int _ _) rfl ?_)
                              refine AS.nil ?_
                              intro _ S
                              exact ⟨j + 1, _, by omega, by omega, ⟨by simp [upd], by show Value.bool _ = Value.bool (anU _ wl (j + 1)); rw [anU_succ hz, c144]; simp, by show Value.bool _ = Value.bool (anU _ wl (j + 1)); rw [anU_succ hz, c144]; simp, trivial⟩, trivial, by repeat (first | exact Agr.refl _ _ | exact Agr.msk _ _ _ | refine Agr.upd ?_ _ rfl | refine Agr.upds ?_ rfl | refine Agr.mskIn ?_ rfl), by repeat (first | exact Agr.refl _ _ | exact Agr.msk _ _ _ | refine Agr.upd ?_ _ rfl | refine Agr.upds ?_ rfl | refine Agr.mskIn ?_ rfl), rfl, S⟩
                          · skip
                            obtain rfl : j = wl.length := by omega
                            have hin := (anU_all (fun z => decide (Btw b x (z % b.wide) (z / b.wide))) wl).trans hya
                            have hout := (anU_all (fun z => !decide (Btw b x (z % b.wide) (z / b.wide))) wl).trans hna
                            refine W.exit ?_
                            refine W.seq (W.region S ?_)
                            refine AS.cons (sp_move (v := .int _ _) rfl ?_)
                            refine AS.cons (sp_eql rfl rfl ?_)
                            refine AS.cons (sp_move (v := .bool _) rfl ?_)
                            refine AS.cons (sp_eqlb rfl rfl bool_4 ?_)
                            refine AS.cons (sp_move (v := .bool _) rfl ?_)
                            refine AS.split 149 rfl (fun g149 => ?_) (fun g149 => ?_)
                            · skip
                              refine AS.cons (sp_move (v := .bool _) rfl ?_)
                              refine AS.cons (sp_move (v := .bool _) rfl ?_)
                              refine AS.cons (sp_eqlb rfl rfl bool_4 ?_)
                              refine AS.cons (sp_pick_t rfl (v := .bool _) rfl ?_)
                              refine AS.cons (sp_move (v := .bool _) rfl ?_)
                              refine AS.split 154 rfl (fun g154 => ?_) (fun g154 => ?_)
                              · skip
                                refine AS.cons (sp_move (v := .bool _) rfl ?_)
                                refine AS.cons (sp_move (v := .bool _) rfl ?_)
                                refine AS.cons (sp_eqlb rfl rfl bool_4 ?_)
                                refine AS.cons (sp_pick_t rfl (v := .bool _) rfl ?_)
                                refine AS.cons (sp_move (v := .bool _) rfl ?_)
                                refine AS.split 159 rfl (fun g159 => ?_) (fun g159 => ?_)
                                · skip
                                  refine AS.cons (sp_call [] rfl rfl cf_28 (fun F w _ S => cried w (hK.ext S.mod)) ?_)
                                  refine AS.cons (sp_pick_t rfl (v := .bool _) rfl ?_)
                                  refine AS.cons (sp_asg (v := .bool _) rfl ?_)
                                  refine AS.nil ?_
                                  intro _ S
                                  refine W.ret ?_
                                  exact ret1 rfl rfl S fun w' S' => ⟨rfl, S'.mod⟩
                                · exfalso; rw [hout] at g159; revert g159; cases n' <;> decide
                              · exfalso; rw [hin] at g154; revert g154; cases y' <;> decide
                            · exfalso; rw [hib] at g149; revert g149; cases bc <;> decide
                      · skip
                        refine AS.cons (sp_move (v := .bool _) rfl ?_)
                        refine AS.cons (sp_pick_f rfl (v := .bool _) rfl ?_)
                        refine AS.cons (sp_move (v := .bool _) rfl ?_)
                        refine AS.cons (sp_neqb rfl rfl bool_4 ?_)
                        refine AS.cons (sp_pick_f rfl (v := .bool _) rfl ?_)
                        refine AS.nil ?_
                        intro _ S
                        refine W.cond rfl (fun c124 => ?_) (fun c124 => ?_)
                        · exfalso; rw [g119] at hyn; rw [← hyn] at c124; first | exact absurd c124 (by decide) | (revert c124; cases n' <;> decide)
                        · skip
                          refine W.skip ?_
                          refine W.seq (W.region S ?_)
                          refine AS.cons (sp_ldw 2 rfl rfl ag_26_7 ?_)
                          refine AS.cons (sp_fa rfl fo_46_1_1 ?_)
                          refine AS.cons (sp_ld 3 rfl rfl sc_3 rfl ?_)
                          refine AS.cons (sp_call1 129 [] _ rfl rfl cf_22 (fun F w hF S => by have h := whereP b la lc ca cc x.m w (hK.ext S.mod) (hl.ext S.mod) (hC.ext S.mod); rw [hwl, hi] at h; exact h) ?_ (by simp))
                          rintro v129 i129 ⟨a129, c129, h129, rfl, rfl⟩
                          refine AS.cons (sp_move rfl ?_)
                          refine AS.cons (sp_ext rfl rfl ?_)
                          refine AS.cons (sp_ext rfl rfl ?_)
                          refine AS.cons (sp_asg rfl ?_)
                          refine AS.cons (sp_asg (v := .int _ _) rfl ?_)
                          refine AS.nil ?_
                          intro _ S
                          refine W.seq (W.region S ?_)
                          refine AS.cons (sp_asg rfl ?_)
                          refine AS.cons (sp_asg rfl ?_)
                          refine AS.nil ?_
                          intro _ S
                          refine W.seq (W.seq (W.region S ?_))
                          refine AS.cons (sp_asg rfl ?_)
                          refine AS.nil ?_
                          intro _ S
                          refine W.block ?_
                          refine W.loopS S [18, 19, 20, 132, 133, 134, 135, 136, 137, 138, 139, 140, 141, 142, 143, 144] [] (fun (j : Nat) => [(20, iv j), (18, .bool (anU (fun z => decide (Btw b x (z % b.wide) (z / b.wide))) wl j)), (19, .bool (anU (fun z => !decide (Btw b x (z % b.wide) (z / b.wide))) wl j))]) (fun _ => []) (fun j => j ≤ wl.length) (fun j => wl.length - j) 0 (by omega) ⟨rfl, rfl, rfl, trivial⟩ trivial ?_
                          rintro j σ M w1 hj S
                          refine W.seq (W.seq (W.region S ?_))
                          refine AS.cons (sp_move (v := .int _ _) rfl ?_)
                          refine AS.cons (sp_move rfl ?_)
                          refine AS.cons (sp_len rfl sl_22_3_1 ?_)
                          refine AS.cons (sp_lss rfl rfl ?_)
                          refine AS.nil ?_
                          intro _ S
                          refine W.condd rfl (fun c135 => ?_) (fun c135 => ?_)
                          · skip
                            have hjl : j < wl.length := by omega
                            obtain ⟨z, hz⟩ := get_some hjl
                            have hzx := hlx z (List.mem_of_getElem? hz)
                            refine W.skip ?_
                            refine W.seq (W.block ?_)
                            refine W.seq (W.draw S mixed (fun i => ([KD.q [2], KD.q [3], KD.q [], KD.q [], KD.q [129], KD.q [129], KD.e [] []] : List KD)[i]?) [] [0, 1, 2, 3, 4, 5, 6] (by kernel_rfl) ?_)
                            refine AW.cons rfl rfl (sp_ldw 2 rfl rfl ag_26_7 ?_)
                            refine AW.cons rfl rfl (sp_ldw 3 rfl rfl ag_46_7 ?_)
                            refine AW.cons rfl rfl (sp_move rfl ?_)
                            refine AW.cons rfl rfl (sp_move (v := .int _ _) rfl ?_)
                            refine AW.cons rfl rfl (sp_iaS 129 rfl rfl rfl sl_22_3_1 (by omega) ?_)
                            refine AW.cons rfl rfl (sp_ldS 129 rfl rfl sc_3 (ints_of hz) (by omega) ?_)
                            refine AW.cons rfl rfl (sp_call [] rfl rfl cf_46 (fun F w _ S => seenG b la lc ca cc hb x ⟨k1, k2, (show (0 : Int) ≤ 0 ∧ (0 : Int) ≤ 1 from ⟨by decide, by decide⟩), k4, k5, by assumption⟩ z hzx w) ?_)
                            refine AW.nil ?_
                            intro _ S
                            refine W.cond rfl (fun c144 => ?_) (fun c144 => ?_)
                            · skip
                              refine W.region S ?_
                              refine AS.cons (sp_asg rfl ?_)
                              refine AS.nil ?_
                              intro _ S
                              refine W.region S ?_
                              refine AS.cons (sp_move (v := .int _ _) rfl ?_)
                              refine AS.cons (sp_add rfl rfl (by first | omega | (simp only [decide_eq_true_eq, decide_eq_false_iff_not] at *; omega)) ?_)
                              refine AS.cons (sp_asg (v := .int _ _) rfl ?_)
                              refine AS.nil ?_
                              intro _ S
                              exact ⟨j + 1, _, by omega, by omega, ⟨by simp [upd], by show Value.bool _ = Value.bool (anU _ wl (j + 1)); rw [anU_succ hz, c144]; simp, by show Value.bool _ = Value.bool (anU _ wl (j + 1)); rw [anU_succ hz, c144]; simp, trivial⟩, trivial, by repeat (first | exact Agr.refl _ _ | exact Agr.msk _ _ _ | refine Agr.upd ?_ _ rfl | refine Agr.upds ?_ rfl | refine Agr.mskIn ?_ rfl), by repeat (first | exact Agr.refl _ _ | exact Agr.msk _ _ _ | refine Agr.upd ?_ _ rfl | refine Agr.upds ?_ rfl | refine Agr.mskIn ?_ rfl), rfl, S⟩
                            · skip
                              refine W.region S ?_
                              refine AS.cons (sp_asg rfl ?_)
                              refine AS.nil ?_
                              intro _ S
                              refine W.region S ?_
                              refine AS.cons (sp_move (v := .int _ _) rfl ?_)
                              refine AS.cons (sp_add rfl rfl (by first | omega | (simp only [decide_eq_true_eq, decide_eq_false_iff_not] at *; omega)) ?_)
                              refine AS.cons (sp_asg (v := .int _ _) rfl ?_)
                              refine AS.nil ?_
                              intro _ S
                              exact ⟨j + 1, _, by omega, by omega, ⟨by simp [upd], by show Value.bool _ = Value.bool (anU _ wl (j + 1)); rw [anU_succ hz, c144]; simp, by show Value.bool _ = Value.bool (anU _ wl (j + 1)); rw [anU_succ hz, c144]; simp, trivial⟩, trivial, by repeat (first | exact Agr.refl _ _ | exact Agr.msk _ _ _ | refine Agr.upd ?_ _ rfl | refine Agr.upds ?_ rfl | refine Agr.mskIn ?_ rfl), by repeat (first | exact Agr.refl _ _ | exact Agr.msk _ _ _ | refine Agr.upd ?_ _ rfl | refine Agr.upds ?_ rfl | refine Agr.mskIn ?_ rfl), rfl, S⟩
                          · skip
                            obtain rfl : j = wl.length := by omega
                            have hin := (anU_all (fun z => decide (Btw b x (z % b.wide) (z / b.wide))) wl).trans hya
                            have hout := (anU_all (fun z => !decide (Btw b x (z % b.wide) (z / b.wide))) wl).trans hna
                            refine W.exit ?_
                            refine W.seq (W.region S ?_)
                            refine AS.cons (sp_move (v := .int _ _) rfl ?_)
                            refine AS.cons (sp_eql rfl rfl ?_)
                            refine AS.cons (sp_move (v := .bool _) rfl ?_)
                            refine AS.cons (sp_eqlb rfl rfl bool_4 ?_)
                            refine AS.cons (sp_move (v := .bool _) rfl ?_)
                            refine AS.split 149 rfl (fun g149 => ?_) (fun g149 => ?_)
                            · skip
                              refine AS.cons (sp_move (v := .bool _) rfl ?_)
                              refine AS.cons (sp_move (v := .bool _) rfl ?_)
                              refine AS.cons (sp_eqlb rfl rfl bool_4 ?_)
                              refine AS.cons (sp_pick_t rfl (v := .bool _) rfl ?_)
                              refine AS.cons (sp_move (v := .bool _) rfl ?_)
                              refine AS.split 154 rfl (fun g154 => ?_) (fun g154 => ?_)
                              · skip
                                refine AS.cons (sp_move (v := .bool _) rfl ?_)
                                refine AS.cons (sp_move (v := .bool _) rfl ?_)
                                refine AS.cons (sp_eqlb rfl rfl bool_4 ?_)
                                refine AS.cons (sp_pick_t rfl (v := .bool _) rfl ?_)
                                refine AS.cons (sp_move (v := .bool _) rfl ?_)
                                refine AS.split 159 rfl (fun g159 => ?_) (fun g159 => ?_)
                                · skip
                                  refine AS.cons (sp_call [] rfl rfl cf_28 (fun F w _ S => cried w (hK.ext S.mod)) ?_)
                                  refine AS.cons (sp_pick_t rfl (v := .bool _) rfl ?_)
                                  refine AS.cons (sp_asg (v := .bool _) rfl ?_)
                                  refine AS.nil ?_
                                  intro _ S
                                  refine W.ret ?_
                                  exact ret1 rfl rfl S fun w' S' => ⟨rfl, S'.mod⟩
                                · exfalso; rw [hout] at g159; revert g159; cases n' <;> decide
                              · exfalso; rw [hin] at g154; revert g154; cases y' <;> decide
                            · exfalso; rw [hib] at g149; revert g149; cases bc <;> decide
end
end Go.Proofs.YtmpclgepoemneaaDoor
