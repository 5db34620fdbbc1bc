/-
  Lemmas of this proof, several texts one behind the other; no condition beyond what each says.
-/
import Derived.Test.YtmpclgepoemneaaDoorMg
import Derived.Test.YtmpclgepoemneaaDoorMf
namespace Go.Proofs.YtmpclgepoemneaaDoor
open Go.Hu
theorem cf_37 : cfB Tryd.prog 37 = true := by kernel_rfl
theorem cf_42 : cfB Tryd.prog 42 = true := by kernel_rfl
theorem cf_45 : cfB Tryd.prog 45 = true := by kernel_rfl
theorem cf_46 : cfB Tryd.prog 46 = true := by kernel_rfl
theorem cf_93 : cfB Tryd.prog 93 = true := by kernel_rfl
end Go.Proofs.YtmpclgepoemneaaDoor
/-
  On from the squares of a minute, and back; what each of them is.
-/
namespace Go.Proofs.YtmpclgepoemneaaDoor
open Go.Hu Go.RowKit
theorem pass_on {b : Bk} (hb : Num b) {m t : Nat} (hm : m < 30) (ht : cnd b m t = true) : ∃ s, cnd b (m + 1) s = true ∧ NearP b.wide t s b.swim := by
  rw [cnd_G b (by omega), Bool.and_eq_true] at ht
  have h2 := ht.2
  rw [show 30 - m = (30 - (m + 1)) + 1 by omega] at h2
  obtain ⟨s, hs, hg, hn⟩ := G_step h2
  refine ⟨s, ?_, hn.symm⟩
  rw [cnd_G b (by omega), Bool.and_eq_true]
  refine ⟨G_next hb ht.1 hn.symm hs ?_, hg⟩
  have := (G_alw hg).2.2
  rwa [ord_flip _ (by omega)] at this
theorem pass_back {b : Bk} (hb : Num b) {m t : Nat} (hm : m < 30) (ht : cnd b (m + 1) t = true) : ∃ s, cnd b m s = true ∧ NearP b.wide t s b.swim := by
  rw [cnd_G b (by omega), Bool.and_eq_true] at ht
  obtain ⟨s, hs, hg, hn⟩ := G_step ht.1
  refine ⟨s, ?_, hn.symm⟩
  rw [cnd_G b (by omega), Bool.and_eq_true]
  refine ⟨hg, ?_⟩
  rw [show 30 - m = (30 - (m + 1)) + 1 by omega]
  refine G_next hb ht.2 hn.symm hs ?_
  rw [show (30 - (m + 1)) + 1 = 30 - m by omega, ord_flip _ (by omega)]
  exact (G_alw hg).2.2
/-- What a square that is told is: no land, and as the cries of its minute say. -/
theorem alw_fact {b : Bk} {m : Int} {t : Nat} (h : alw b m t = true) : t < sq b ∧ ¬ (t : Int) ∈ b.land ∧ ∀ c ∈ b.cries, c.m = m → decide (Btw b c ((t : Int) % b.wide) ((t : Int) / b.wide)) = decide (c.k = 0) := by
  unfold alw at h
  simp only [Bool.and_eq_true, decide_eq_true_eq, Bool.not_eq_true'] at h
  refine ⟨h.1, h.2.1, fun c hc hm => ?_⟩
  have hf := h.2.2
  unfold frb at hf
  rw [List.any_eq_false] at hf
  have := hf c hc
  rw [decide_eq_true hm, Bool.true_and] at this
  unfold against at this
  simpa using this
theorem whs_fact {b : Bk} {m : Nat} (hm : m ≤ 30) {z : Int} (hz : z ∈ whs b m) : (0 ≤ z ∧ z < sq b) ∧ ¬ z ∈ b.land ∧ ∀ c ∈ b.cries, c.m = m → decide (Btw b c (z % b.wide) (z / b.wide)) = decide (c.k = 0) := by
  obtain ⟨t, _, ht, rfl⟩ := whs_mem.1 hz
  obtain ⟨h1, h2, h3⟩ := alw_fact (cnd_lt hm ht).2
  exact ⟨by omega, h2, h3⟩
theorem whs_on {b : Bk} (hb : Num b) {m : Nat} (hm : m < 30) {z : Int} (hz : z ∈ whs b m) : ∃ y ∈ whs b (m + 1), NearP b.wide z y b.swim := by
  obtain ⟨t, _, ht, rfl⟩ := whs_mem.1 hz
  obtain ⟨s, hs, hn⟩ := pass_on hb hm ht
  have h80 := (sq_le hb).1
  have := (cnd_lt (show m + 1 ≤ 30 by omega) hs).1
  exact ⟨s, whs_mem.2 ⟨s, by omega, hs, rfl⟩, hn⟩
theorem whs_back {b : Bk} (hb : Num b) {m : Nat} (hm : m < 30) {z : Int} (hz : z ∈ whs b (m + 1)) : ∃ y ∈ whs b m, NearP b.wide z y b.swim := by
  obtain ⟨t, _, ht, rfl⟩ := whs_mem.1 hz
  obtain ⟨s, hs, hn⟩ := pass_back hb hm ht
  have h80 := (sq_le hb).1
  have := (cnd_lt (show m ≤ 30 by omega) hs).1
  exact ⟨s, whs_mem.2 ⟨s, by omega, hs, rfl⟩, hn⟩
theorem whs_some {b : Bk} (hb : Num b) {m : Nat} (hm : m ≤ 30) (h : canB b = true) : whs b m ≠ [] := by
  obtain ⟨t, ht⟩ := (can_iff b hb hm).1 h
  have h80 := (sq_le hb).1
  have := (cnd_lt hm ht).1
  intro he
  have : (t : Int) ∈ whs b m := whs_mem.2 ⟨t, by omega, ht, rfl⟩
  rw [he] at this; cases this
theorem whs_none {b : Bk} (hb : Num b) {m : Nat} (hm : m ≤ 30) (h : canB b = false) : whs b m = [] := by
  cases e : whs b m with
  | nil => rfl
  | cons z l =>
    have hz : z ∈ whs b m := by rw [e]; simp
    obtain ⟨t, _, ht, _⟩ := whs_mem.1 hz
    rw [(can_iff b hb hm).2 ⟨t, ht⟩] at h; cases h
/-- What is answered of a good book and a good minute. -/
theorem where_of {b : Bk} (hok : okAll b = true) {m : Int} (hm : 0 ≤ m ∧ m ≤ 30) : (canB b = true ∧ askV b (decide (0 ≤ m ∧ m ≤ 30)) = 0 ∧ whereL b m = whs b m.toNat) ∨ (canB b = false ∧ askV b (decide (0 ≤ m ∧ m ≤ 30)) = 12 ∧ whereL b m = []) := by
  have hd : decide (0 ≤ m ∧ m ≤ 30) = true := decide_eq_true hm
  cases e : canB b with
  | true =>
    have ha : askV b (decide (0 ≤ m ∧ m ≤ 30)) = 0 := by unfold askV; rw [hok, hd, e]; rfl
    exact .inl ⟨rfl, ha, by unfold whereL; rw [if_pos ha]⟩
  | false =>
    have ha : askV b (decide (0 ≤ m ∧ m ≤ 30)) = 12 := by unfold askV; rw [hok, hd, e]; rfl
    exact .inr ⟨rfl, ha, by unfold whereL; rw [if_neg (by rw [ha]; decide)]⟩
end Go.Proofs.YtmpclgepoemneaaDoor

/-
  Near enough, all of them; the law of how it swims, walked.
-/
namespace Go.Proofs.YtmpclgepoemneaaDoor
set_option maxRecDepth 100000
open Go.Hu Go.RowKit
section
variable (b : Bk) (la : Option Addr) (lc : Nat) (ca : Option Addr) (cc : Nat)
/-- Near enough to one of the first j. -/
def nrL (b : Bk) (k : List Int) (x : Int) (j : Nat) : Bool := (k.take j).any fun y => decide (NearP b.wide x y b.swim)
theorem nrL_succ {b : Bk} {k : List Int} {x y : Int} {j : Nat} (hy : k[j]? = some y) : nrL b k x (j + 1) = (nrL b k x j || decide (NearP b.wide x y b.swim)) := by
  unfold nrL
  rw [List.take_add_one, hy, List.any_append]
  simp
theorem nrL_all {b : Bk} {k : List Int} {x : Int} (h : ∃ y ∈ k, NearP b.wide x y b.swim) : nrL b k x k.length = true := by
  unfold nrL
  rw [List.take_length, List.any_eq_true]
  obtain ⟨y, hy, hn⟩ := h
  exact ⟨y, hy, decide_eq_true hn⟩
theorem reachF (hb : Num b) (ga : Option Addr) (gc : Nat) (l : List Int) (ka : Option Addr) (kc : Nat) (k : List Int) (hlx : ∀ x ∈ l, 0 ≤ x ∧ x ≤ 1000) (hkx : ∀ x ∈ k, 0 ≤ x ∧ x ≤ 1000) (hr : ∀ x ∈ l, ∃ y ∈ k, NearP b.wide x y b.swim) (w : World) (hg : Ints w ga gc l) (hk : Ints w ka kc k) : Ct Tryd.prog 45 #[.agg (bkL b la lc ca cc).toArray, .slice ga l.length gc, .slice ka k.length kc] w (fun u w' => u = .bool true ∧ Ext w w') := by
  refine fn_intro (args := [.agg (bkL b la lc ca cc).toArray, .slice ga l.length gc, .slice ka k.length kc]) Tryd.func45 rfl rfl (by kernel_rfl) ?_
  have S := St.start no w
  have hln : l.length ≤ 9223372036854775807 := hg.2.1
  have hkn : k.length ≤ 9223372036854775807 := hk.2.1
  have hsw := hb.2.2.2.2
  refine W.seq (W.region S ?_)
  refine AS.cons (sp_boxa 3 rfl (fun b3 => ?_))
  refine AS.cons (sp_asg rfl ?_)
  refine AS.nil ?_
  intro _ S
  refine W.seq (W.seq (W.region S ?_))
  refine AS.cons (sp_asg rfl ?_)
  refine AS.nil ?_
  intro _ S
  refine W.block ?_
  refine W.loopS S [6, 7, 8, 9, 10, 11, 12, 13, 14, 15, 16, 17, 18, 19, 20, 21, 22, 23, 24, 25, 26, 27, 28, 29, 30, 31, 32, 33, 34, 35, 36, 37, 38] [] (fun (i : Nat) => [(7, iv i)]) (fun _ => []) (fun i => i ≤ l.length) (fun i => l.length - i) 0 (by omega) ⟨rfl, trivial⟩ trivial ?_
  rintro i σ M w1 hi S
  refine W.seq (W.seq (W.region S ?_))
  refine AS.cons (sp_move (v := .int _ _) rfl ?_)
  refine AS.cons (sp_move rfl ?_)
  refine AS.cons (sp_len rfl sl_22_3_1 ?_)
  refine AS.cons (sp_lss rfl rfl ?_)
  refine AS.nil ?_
  intro _ S
  refine W.condd rfl (fun c13 => ?_) (fun c13 => ?_)
  · skip
    have hil : i < l.length := by omega
    obtain ⟨x, hx⟩ := get_some hil
    have hxb := hlx x (List.mem_of_getElem? hx)
    refine W.skip ?_
    refine W.seq (W.block ?_)
    refine W.seq (W.region S ?_)
    refine AS.cons (sp_asg rfl ?_)
    refine AS.nil ?_
    intro _ S
    refine W.seq (W.seq (W.region S ?_))
    refine AS.cons (sp_asg rfl ?_)
    refine AS.nil ?_
    intro _ S
    refine W.block ?_
    refine W.loopS S [8, 9, 16, 17, 18, 19, 20, 21, 22, 23, 24, 25, 26, 27, 28, 29, 30, 31, 32, 33, 34, 35, 36] [] (fun (j : Nat) => [(9, iv j), (8, .bool (nrL b k x j))]) (fun _ => []) (fun j => j ≤ k.length) (fun j => k.length - j) 0 (by omega) ⟨rfl, rfl, trivial⟩ trivial ?_
    rintro j σ M w2 hj S
    refine W.seq (W.seq (W.region S ?_))
    refine AS.cons (sp_move (v := .int _ _) rfl ?_)
    refine AS.cons (sp_move rfl ?_)
    refine AS.cons (sp_len rfl sl_22_3_1 ?_)
    refine AS.cons (sp_lss rfl rfl ?_)
    refine AS.nil ?_
    intro _ S
    refine W.condd rfl (fun c19 => ?_) (fun c19 => ?_)
    · skip
      have hjl : j < k.length := by omega
      obtain ⟨y, hy⟩ := get_some hjl
      have hyb := hkx y (List.mem_of_getElem? hy)
      refine W.skip ?_
      refine W.seq (W.block ?_)
      refine W.draw S mixed (fun i => ([KD.q [], KD.q [], KD.q [3], KD.q [], KD.q [], KD.q [], KD.q [], KD.q [], KD.q [], KD.q [], KD.q [], KD.q [], KD.q [3], KD.e [] [], KD.q [], KD.q []] : List KD)[i]?) [] [0, 1, 2, 3, 4, 5, 6, 7, 8, 9, 10, 11, 12, 13, 14, 15] (by kernel_rfl) ?_
      refine AW.cons rfl rfl (sp_move (v := .bool _) rfl ?_)
      refine AW.cons rfl rfl (sp_move (v := .bool _) rfl ?_)
      refine AW.split 23 rfl (fun g23 => ?_) (fun g23 => ?_)
      · skip
        refine AW.cons rfl rfl (sp_skip rfl ?_)
        refine AW.cons rfl rfl (sp_skip rfl ?_)
        refine AW.cons rfl rfl (sp_skip rfl ?_)
        refine AW.cons rfl rfl (sp_skip rfl ?_)
        refine AW.cons rfl rfl (sp_skip rfl ?_)
        refine AW.cons rfl rfl (sp_skip rfl ?_)
        refine AW.cons rfl rfl (sp_skip rfl ?_)
        refine AW.cons rfl rfl (sp_skip rfl ?_)
        refine AW.cons rfl rfl (sp_skip rfl ?_)
        refine AW.cons rfl rfl (sp_skip rfl ?_)
        refine AW.cons rfl rfl (sp_skip rfl ?_)
        refine AW.cons rfl rfl (sp_skip rfl ?_)
        refine AW.cons rfl rfl (sp_pick_t rfl (v := .bool _) rfl ?_)
        refine AW.cons rfl rfl (sp_asg (v := .bool _) rfl ?_)
        refine AW.nil ?_
        intro _ S
        refine W.region S ?_
        refine AS.cons (sp_move (v := .int _ _) rfl ?_)
        refine AS.cons (sp_add rfl rfl (by first | omega | (simp only [decide_eq_true_eq, decide_eq_false_iff_not] at *; omega)) ?_)
        refine AS.cons (sp_asg (v := .int _ _) rfl ?_)
        refine AS.nil ?_
        intro _ S
        exact ⟨j + 1, _, by omega, by omega, ⟨by simp [upd], by show Value.bool _ = Value.bool (nrL b k x (j + 1)); rw [nrL_succ hy, g23]; rfl, trivial⟩, trivial, by repeat (first | exact Agr.refl _ _ | exact Agr.msk _ _ _ | refine Agr.upd ?_ _ rfl | refine Agr.upds ?_ rfl | refine Agr.mskIn ?_ rfl), by repeat (first | exact Agr.refl _ _ | exact Agr.msk _ _ _ | refine Agr.upd ?_ _ rfl | refine Agr.upds ?_ rfl | refine Agr.mskIn ?_ rfl), rfl, S⟩
      · skip
        refine AW.cons rfl rfl (sp_ldw 3 rfl rfl ag_26_7 ?_)
        refine AW.cons rfl rfl (sp_move rfl ?_)
        refine AW.cons rfl rfl (sp_move (v := .int _ _) rfl ?_)
        refine AW.cons rfl rfl (sp_iaR hg rfl rfl sl_22_3_1 (by omega) ?_)
        refine AW.cons rfl rfl (sp_ldR 0 hg (fun _ h => h) rfl sc_3 (ints_at hx) (by omega) ?_)
        refine AW.cons rfl rfl (sp_move rfl ?_)
        refine AW.cons rfl rfl (sp_move (v := .int _ _) rfl ?_)
        refine AW.cons rfl rfl (sp_iaR hk rfl rfl sl_22_3_1 (by omega) ?_)
        refine AW.cons rfl rfl (sp_ldR 0 hk (fun _ h => h) rfl sc_3 (ints_at hy) (by omega) ?_)
        refine AW.cons rfl rfl (sp_fa rfl fo_26_4_5 ?_)
        refine AW.cons rfl rfl (sp_ld 3 rfl rfl sc_3 rfl ?_)
        refine AW.cons rfl rfl (sp_call [] rfl rfl cf_93 (fun F w _ S => nearF b la lc ca cc hb x y b.swim hxb hyb (by omega) w) ?_)
        refine AW.cons rfl rfl (sp_pick_f rfl (v := .bool _) rfl ?_)
        refine AW.cons rfl rfl (sp_asg (v := .bool _) rfl ?_)
        refine AW.nil ?_
        intro _ S
        refine W.region S ?_
        refine AS.cons (sp_move (v := .int _ _) rfl ?_)
        refine AS.cons (sp_add rfl rfl (by first | omega | (simp only [decide_eq_true_eq, decide_eq_false_iff_not] at *; omega)) ?_)
        refine AS.cons (sp_asg (v := .int _ _) rfl ?_)
        refine AS.nil ?_
        intro _ S
        exact ⟨j + 1, _, by omega, by omega, ⟨by simp [upd], by show Value.bool _ = Value.bool (nrL b k x (j + 1)); rw [nrL_succ hy, g23]; rfl, trivial⟩, trivial, by repeat (first | exact Agr.refl _ _ | exact Agr.msk _ _ _ | refine Agr.upd ?_ _ rfl | refine Agr.upds ?_ rfl | refine Agr.mskIn ?_ rfl), by repeat (first | exact Agr.refl _ _ | exact Agr.msk _ _ _ | refine Agr.upd ?_ _ rfl | refine Agr.upds ?_ rfl | refine Agr.mskIn ?_ rfl), rfl, S⟩
    · skip
      obtain rfl : j = k.length := by omega
      have hall := nrL_all (hr x (List.mem_of_getElem? hx))
      refine W.exit ?_
      refine W.seq (W.region S ?_)
      refine AS.cons (sp_move (v := .bool _) rfl ?_)
      refine AS.cons (sp_not rfl ?_)
      refine AS.nil ?_
      intro _ S
      refine W.cond rfl (fun c38 => ?_) (fun c38 => ?_)
      · rw [hall] at c38; cases c38
      · skip
        refine W.skip ?_
        refine W.region S ?_
        refine AS.cons (sp_move (v := .int _ _) rfl ?_)
        refine AS.cons (sp_add rfl rfl (by first | omega | (simp only [decide_eq_true_eq, decide_eq_false_iff_not] at *; omega)) ?_)
        refine AS.cons (sp_asg (v := .int _ _) rfl ?_)
        refine AS.nil ?_
        intro _ S
        exact ⟨i + 1, _, by omega, by omega, ⟨by simp [upd], trivial⟩, trivial, by repeat (first | exact Agr.refl _ _ | exact Agr.msk _ _ _ | refine Agr.upd ?_ _ rfl | refine Agr.upds ?_ rfl | refine Agr.mskIn ?_ rfl), by repeat (first | exact Agr.refl _ _ | exact Agr.msk _ _ _ | refine Agr.upd ?_ _ rfl | refine Agr.upds ?_ rfl | refine Agr.mskIn ?_ rfl), rfl, S⟩
  · skip
    refine W.exit ?_
    refine W.seq (W.region S ?_)
    refine AS.cons (sp_asg rfl ?_)
    refine AS.nil ?_
    intro _ S
    refine W.ret ?_
    exact ret1 rfl rfl S fun w' S' => ⟨rfl, S'.mod⟩
set_option maxHeartbeats 4000000 in
theorem swimsL (n : Int) (w : World) (hK : Kinds w) (hl : Ints w la lc b.land) (hC : Cries w ca cc b.cries) : Ct Tryd.prog 8 #[.agg (bkL b la lc ca cc).toArray, iv n] w (fun u w' => u = .bool true ∧ Ext w w') := by
  refine fn_intro (args := [.agg (bkL b la lc ca cc).toArray, iv n]) Tryd.func8 rfl rfl (by kernel_rfl) ?_
  have S := St.start no w
  refine W.seq (W.region S ?_)
  refine AS.cons (sp_boxa 2 rfl (fun b2 => ?_))
  refine AS.cons (sp_asg rfl ?_)
  refine AS.nil ?_
  intro _ S
  refine W.seq (W.seq (W.region S ?_))
  refine AS.cons (sp_ldw 2 rfl rfl ag_26_7 ?_)
  refine AS.cons (sp_call [] rfl rfl cf_37 (fun F w _ S => soundF _ _ _ _ _ w (hl.ext S.mod) (hC.ext S.mod)) ?_)
  refine AS.cons (sp_not rfl ?_)
  refine AS.nil ?_
  intro _ S
  refine W.cond rfl (fun c16 => ?_) (fun c16 => ?_)
  · skip
    refine W.seq (W.region S ?_)
    refine AS.cons (sp_call [] rfl rfl cf_28 (fun F w _ S => cried w (hK.ext S.mod)) ?_)
    refine AS.cons (sp_asg (v := .bool _) rfl ?_)
    refine AS.nil ?_
    intro _ S
    refine W.ret ?_
    exact ret1 rfl rfl S fun w' S' => ⟨rfl, S'.mod⟩
  · skip
    have hok : okAll b = true := by rw [Bool.not_eq_false'] at c16; exact c16
    have hbk := okAll_ok hok
    have hb := hbk.num
    have hsq := sq_le hb
    have hw := hb.1
    have hh := hb.2.1
    have hcl := hbk.lc
    have hll := hbk.ll
    have hm := mulS (a := b.wide) (b := b.high) (by omega) (by omega)
    have hn1 := Int.emod_nonneg n (show (30 : Int) ≠ 0 by decide)
    have hn2 := Int.emod_lt_of_pos n (show (0 : Int) < 30 by decide)
    obtain ⟨m, hmn⟩ : ∃ m : Nat, n % 30 = m := ⟨(n % 30).toNat, by omega⟩
    have hm30 : m < 30 := by omega
    obtain ⟨e, hee⟩ : ∃ e, askV b (decide (0 ≤ (m : Int) ∧ (m : Int) ≤ 30)) = e := ⟨_, rfl⟩
    obtain ⟨wl, hwl⟩ : ∃ wl, whereL b (m : Int) = wl := ⟨_, rfl⟩
    obtain ⟨wk, hwk⟩ : ∃ wk, whereL b ((m : Int) + 1) = wk := ⟨_, rfl⟩
    have hl80 : wl.length ≤ 80 := hwl ▸ whereL_len b m
    have hk80 : wk.length ≤ 80 := hwk ▸ whereL_len b ((m : Int) + 1)
    have hee2 : askV b (decide (0 ≤ (m : Int) + 1 ∧ (m : Int) + 1 ≤ 30)) = e := by rw [← hee, decide_eq_true (show 0 ≤ (m : Int) ∧ (m : Int) ≤ 30 by omega), decide_eq_true (show 0 ≤ (m : Int) + 1 ∧ (m : Int) + 1 ≤ 30 by omega)]
    have hor : (e = 0 ∧ canB b = true ∧ wl = whs b m ∧ wk = whs b (m + 1)) ∨ e = 12 := by
      rcases where_of hok (m := (m : Int)) (by omega) with ⟨h1, h2, h3⟩ | ⟨h1, h2, h3⟩
      · refine .inl ⟨by rw [← hee, h2], h1, by rw [← hwl, h3]; rfl, ?_⟩
        rcases where_of hok (m := (m : Int) + 1) (by omega) with ⟨_, _, h6⟩ | ⟨h4, _, _⟩
        · rw [← hwk, h6]; rfl
        · rw [h1] at h4; cases h4
      · exact .inr (by rw [← hee, h2])
    refine W.skip ?_
    refine W.seq (W.region S ?_)
    refine AS.cons (sp_move (v := .int _ _) rfl ?_)
    refine AS.cons (sp_call [] rfl rfl cf_40 (fun F w _ S => by have h := wheel n 30 (by decide) w; rw [if_neg (by decide), hmn] at h; exact h) ?_)
    refine AS.cons (sp_asg (v := .int _ _) rfl ?_)
    refine AS.nil ?_
    intro _ S
    refine W.seq (W.region S ?_)
    refine AS.cons (sp_ldw 2 rfl rfl ag_26_7 ?_)
    refine AS.cons (sp_move (v := .int _ _) rfl ?_)
    refine AS.cons (sp_call1 23 [] _ rfl rfl cf_22 (fun F w hF S => by have h := whereP b la lc ca cc m w (hK.ext S.mod) (hl.ext S.mod) (hC.ext S.mod); rw [hwl, hee] at h; exact h) ?_ (by simp))
    rintro v23 i23 ⟨a23, c23, h23, rfl, rfl⟩
    refine AS.cons (sp_move rfl ?_)
    refine AS.cons (sp_ext rfl rfl ?_)
    refine AS.cons (sp_ext rfl rfl ?_)
    refine AS.cons (sp_asg rfl ?_)
    refine AS.cons (sp_asg (v := .int _ _) rfl ?_)
    refine AS.nil ?_
    intro _ S
    refine W.seq (W.region S ?_)
    refine AS.cons (sp_ldw 2 rfl rfl ag_26_7 ?_)
    refine AS.cons (sp_move (v := .int _ _) rfl ?_)
    refine AS.cons (sp_add rfl rfl (by first | omega | (simp only [decide_eq_true_eq, decide_eq_false_iff_not] at *; omega)) ?_)
    refine AS.cons (sp_call1 30 [] _ rfl rfl cf_22 (fun F w hF S => by have h := whereP b la lc ca cc ((m : Int) + 1) w (hK.ext S.mod) (hl.ext S.mod) (hC.ext S.mod); rw [hwk, hee2] at h; exact h) ?_ (by simp))
    rintro v30 i30 ⟨a30, c30, h30, rfl, rfl⟩
    refine AS.cons (sp_move rfl ?_)
    refine AS.cons (sp_ext rfl rfl ?_)
    refine AS.cons (sp_ext rfl rfl ?_)
    refine AS.cons (sp_asg rfl ?_)
    refine AS.cons (sp_asg (v := .int _ _) rfl ?_)
    refine AS.nil ?_
    intro _ S
    refine W.seq (W.seq (W.region S ?_))
    refine AS.cons (sp_move (v := .int _ _) rfl ?_)
    refine AS.cons (sp_move (v := .int _ _) rfl ?_)
    refine AS.cons (sp_neq rfl rfl ?_)
    refine AS.cons (sp_move (v := .bool _) rfl ?_)
    refine AS.split 36 rfl (fun g36 => ?_) (fun g36 => ?_)
    · exact (no_neq g36).elim
    · skip
      refine AS.cons (sp_move (v := .int _ _) rfl ?_)
      refine AS.cons (sp_neq rfl rfl ?_)
      refine AS.cons (sp_pick_f rfl (v := .bool _) rfl ?_)
      refine AS.nil ?_
      intro _ S
      refine W.cond rfl (fun c39 => ?_) (fun c39 => ?_)
      · skip
        refine W.seq (W.region S ?_)
        refine AS.cons (sp_move (v := .int _ _) rfl ?_)
        refine AS.cons (sp_move (v := .int _ _) rfl ?_)
        refine AS.cons (sp_eql rfl rfl ?_)
        refine AS.cons (sp_move (v := .bool _) rfl ?_)
        refine AS.split 43 rfl (fun g43 => ?_) (fun g43 => ?_)
        · skip
          refine AS.cons (sp_move (v := .int _ _) rfl ?_)
          refine AS.cons (sp_eql rfl rfl ?_)
          refine AS.cons (sp_pick_t rfl (v := .bool _) rfl ?_)
          refine AS.cons (sp_move (v := .bool _) rfl ?_)
          refine AS.split 47 rfl (fun g47 => ?_) (fun g47 => ?_)
          · skip
            refine AS.cons (sp_call [] rfl rfl cf_28 (fun F w _ S => cried w (hK.ext S.mod)) ?_)
            refine AS.cons (sp_pick_t rfl (v := .bool _) rfl ?_)
            refine AS.cons (sp_asg (v := .bool _) rfl ?_)
            refine AS.nil ?_
            intro _ S
            refine W.ret ?_
            exact ret1 rfl rfl S fun w' S' => ⟨rfl, S'.mod⟩
          · exfalso; have h1 := of_decide_eq_false g47; have h2 := of_decide_eq_true c39; rcases hor with h | h <;> omega
        · exact (no_eq g43).elim
      · skip
        refine W.skip ?_
        have he0 : e = 0 := Decidable.not_not.1 (of_decide_eq_false c39)
        have hor' : canB b = true ∧ wl = whs b m ∧ wk = whs b (m + 1) := by
          rcases hor with h | h
          · exact h.2
          · omega
        obtain ⟨hcan, hwl2, hwk2⟩ := hor'
        have hl0 : 0 < wl.length := Nat.pos_of_ne_zero fun h => whs_some hb (show m ≤ 30 by omega) hcan (hwl2 ▸ List.eq_nil_of_length_eq_zero h)
        have hk0 : 0 < wk.length := Nat.pos_of_ne_zero fun h => whs_some hb (show m + 1 ≤ 30 by omega) hcan (hwk2 ▸ List.eq_nil_of_length_eq_zero h)
        have hlup : Up 0 (sq b) wl := hwl2 ▸ whs_up b (by omega)
        have hkup : Up 0 (sq b) wk := hwk2 ▸ whs_up b (by omega)
        have hlx : ∀ x ∈ wl, 0 ≤ x ∧ x ≤ 1000 := fun x hx => by have := Up.mem hlup x hx; omega
        have hkx : ∀ x ∈ wk, 0 ≤ x ∧ x ≤ 1000 := fun x hx => by have := Up.mem hkup x hx; omega
        have hon : ∀ x ∈ wl, ∃ y ∈ wk, NearP b.wide x y b.swim := fun x hx => by rw [hwk2]; exact whs_on hb hm30 (hwl2 ▸ hx)
        have hba : ∀ x ∈ wk, ∃ y ∈ wl, NearP b.wide x y b.swim := fun x hx => by rw [hwl2]; exact whs_back hb hm30 (hwk2 ▸ hx)
        have hfact : ∀ z ∈ wl, ¬ z ∈ b.land ∧ ∀ c ∈ b.cries, c.m = m → decide (Btw b c (z % b.wide) (z / b.wide)) = decide (c.k = 0) := fun z hz => (whs_fact (show m ≤ 30 by omega) (hwl2 ▸ hz)).2
        refine W.seq (W.seq (W.region S ?_))
        refine AS.cons (sp_move rfl ?_)
        refine AS.cons (sp_len rfl sl_22_3_1 ?_)
        refine AS.cons (sp_eql rfl rfl ?_)
        refine AS.cons (sp_move (v := .bool _) rfl ?_)
        refine AS.split 53 rfl (fun g53 => ?_) (fun g53 => ?_)
        · exfalso; have := of_decide_eq_true g53; omega
        · skip
          refine AS.cons (sp_move rfl ?_)
          refine AS.cons (sp_len rfl sl_22_3_1 ?_)
          refine AS.cons (sp_eql rfl rfl ?_)
          refine AS.cons (sp_pick_f rfl (v := .bool _) rfl ?_)
          refine AS.cons (sp_move (v := .bool _) rfl ?_)
          refine AS.split 58 rfl (fun g58 => ?_) (fun g58 => ?_)
          · exfalso; have := of_decide_eq_true g58; omega
          · skip
            refine AS.cons (sp_move rfl ?_)
            refine AS.cons (sp_fa rfl fo_26_0_0 ?_)
            refine AS.cons (sp_ld 2 rfl rfl sc_3 rfl ?_)
            refine AS.cons (sp_fa rfl fo_26_1_1 ?_)
            refine AS.cons (sp_ld 2 rfl rfl sc_3 rfl ?_)
            refine AS.cons (sp_mul rfl rfl (mulB (by first | omega | (simp only [decide_eq_true_eq, decide_eq_false_iff_not] at *; omega)) (by first | omega | (simp only [decide_eq_true_eq, decide_eq_false_iff_not] at *; omega))) ?_)
            refine AS.cons (sp_call [23] rfl rfl cf_42 (fun F w hF S => by have h := risesF a23 c23 wl (sq b) (by omega) hlup w (S.slc_rd (k := 23) ((hF 23 (by simp)).trans rfl) (by omega)); rw [hsq.2.1] at h; exact h) ?_)
            refine AS.cons (sp_not rfl ?_)
            refine AS.cons (sp_pick_f rfl (v := .bool _) rfl ?_)
            refine AS.cons (sp_move (v := .bool _) rfl ?_)
            refine AS.split 68 rfl (fun g68 => ?_) (fun g68 => ?_)
            · exact absurd g68 (by decide)
            · skip
              refine AS.cons (sp_move rfl ?_)
              refine AS.cons (sp_fa rfl fo_26_0_0 ?_)
              refine AS.cons (sp_ld 2 rfl rfl sc_3 rfl ?_)
              refine AS.cons (sp_fa rfl fo_26_1_1 ?_)
              refine AS.cons (sp_ld 2 rfl rfl sc_3 rfl ?_)
              refine AS.cons (sp_mul rfl rfl (mulB (by first | omega | (simp only [decide_eq_true_eq, decide_eq_false_iff_not] at *; omega)) (by first | omega | (simp only [decide_eq_true_eq, decide_eq_false_iff_not] at *; omega))) ?_)
              refine AS.cons (sp_call [30] rfl rfl cf_42 (fun F w hF S => by have h := risesF a30 c30 wk (sq b) (by omega) hkup w (S.slc_rd (k := 30) ((hF 30 (by simp)).trans rfl) (by omega)); rw [hsq.2.1] at h; exact h) ?_)
              refine AS.cons (sp_not rfl ?_)
              refine AS.cons (sp_pick_f rfl (v := .bool _) rfl ?_)
              refine AS.cons (sp_move (v := .bool _) rfl ?_)
              refine AS.split 78 rfl (fun g78 => ?_) (fun g78 => ?_)
              · exact absurd g78 (by decide)
              · skip
                refine AS.cons (sp_ldw 2 rfl rfl ag_26_7 ?_)
                refine AS.cons (sp_move rfl ?_)
                refine AS.cons (sp_move rfl ?_)
                refine AS.cons (sp_call [23, 30] rfl rfl cf_45 (fun F w hF S => reachF b la lc ca cc hb a23 c23 wl a30 c30 wk hlx hkx hon w (S.slc_rd (k := 23) ((hF 23 (by simp)).trans rfl) (by omega)) (S.slc_rd (k := 30) ((hF 30 (by simp)).trans rfl) (by omega))) ?_)
                refine AS.cons (sp_not rfl ?_)
                refine AS.cons (sp_pick_f rfl (v := .bool _) rfl ?_)
                refine AS.cons (sp_move (v := .bool _) rfl ?_)
                refine AS.split 85 rfl (fun g85 => ?_) (fun g85 => ?_)
                · exact absurd g85 (by decide)
                · skip
                  refine AS.cons (sp_ldw 2 rfl rfl ag_26_7 ?_)
                  refine AS.cons (sp_move rfl ?_)
                  refine AS.cons (sp_move rfl ?_)
                  refine AS.cons (sp_call [23, 30] rfl rfl cf_45 (fun F w hF S => reachF b la lc ca cc hb a30 c30 wk a23 c23 wl hkx hlx hba w (S.slc_rd (k := 30) ((hF 30 (by simp)).trans rfl) (by omega)) (S.slc_rd (k := 23) ((hF 23 (by simp)).trans rfl) (by omega))) ?_)
                  refine AS.cons (sp_not rfl ?_)
                  refine AS.cons (sp_pick_f rfl (v := .bool _) rfl ?_)
                  refine AS.nil ?_
                  intro _ S
                  refine W.cond rfl (fun c91 => ?_) (fun c91 => ?_)
                  · exact absurd c91 (by decide)
                  · skip
                    refine W.skip ?_
                    refine W.seq (W.seq (W.region S ?_))
                    refine AS.cons (sp_asg rfl ?_)
                    refine AS.nil ?_
                    intro _ S
                    refine W.block ?_
                    refine W.loopS S [4, 10, 11, 12, 13, 92, 93, 94, 95, 96, 97, 98, 99, 100, 101, 102, 103, 104, 105, 106, 107, 108, 109, 110, 111, 112, 113, 114, 115, 116, 117, 118, 119, 120, 121, 122, 123, 124, 125, 126, 127, 128, 129, 130, 131, 132, 133, 134, 135, 136, 137, 138, 139] [13] (fun (i : Nat) => [(10, iv i)]) (fun _ => []) (fun i => i ≤ wl.length) (fun i => wl.length - i) 0 (by omega) ⟨rfl, trivial⟩ trivial ?_
                    rintro i σ M w1 hi S
                    refine W.seq (W.seq (W.region S ?_))
                    refine AS.cons (sp_move (v := .int _ _) rfl ?_)
                    refine AS.cons (sp_move rfl ?_)
                    refine AS.cons (sp_len rfl sl_22_3_1 ?_)
                    refine AS.cons (sp_lss rfl rfl ?_)
                    refine AS.nil ?_
                    intro _ S
                    refine W.condd rfl (fun c95 => ?_) (fun c95 => ?_)
                    · skip
                      have hil : i < wl.length := by omega
                      obtain ⟨z, hz⟩ := get_some hil
                      have hzx := hlx z (List.mem_of_getElem? hz)
                      obtain ⟨hzl, hzc⟩ := hfact z (List.mem_of_getElem? hz)
                      refine W.skip ?_
                      refine W.seq (W.block ?_)
                      refine W.seq (W.draw S mixed (fun i => ([KD.q [], KD.q [2], KD.q [], KD.q [], KD.q [23], KD.q [23], KD.e [] [], KD.q [], KD.q []] : List KD)[i]?) [] [0, 1, 2, 3, 4, 5, 6, 7, 8] (by kernel_rfl) ?_)
                      refine AW.cons rfl rfl (sp_fa rfl fo_26_2_2 ?_)
                      refine AW.cons rfl rfl (sp_ld 2 rfl rfl sc_22 rfl ?_)
                      refine AW.cons rfl rfl (sp_move rfl ?_)
                      refine AW.cons rfl rfl (sp_move (v := .int _ _) rfl ?_)
                      refine AW.cons rfl rfl (sp_iaS 23 rfl rfl rfl sl_22_3_1 (by omega) ?_)
                      refine AW.cons rfl rfl (sp_ldS 23 rfl rfl sc_3 (ints_of hz) (by omega) ?_)
                      refine AW.cons rfl rfl (sp_call [] rfl rfl cf_41 (fun F w _ S => place _ _ _ _ (by omega) w (hl.ext S.mod)) ?_)
                      refine AW.cons rfl rfl (sp_lss rfl rfl ?_)
                      refine AW.cons rfl rfl (sp_asg (v := .bool _) rfl ?_)
                      refine AW.nil ?_
                      intro _ S
                      refine W.seq (W.seq (W.region S ?_))
                      refine AS.cons (sp_asg rfl ?_)
                      refine AS.nil ?_
                      intro _ S
                      refine W.block ?_
                      refine W.loopS S [11, 12, 13, 106, 107, 108, 109, 110, 111, 112, 113, 114, 115, 116, 117, 118, 119, 120, 121, 122, 123, 124, 125, 126, 127, 128, 129, 130, 131, 132, 133, 134, 135, 136, 137] [13] (fun (j : Nat) => [(12, iv j), (11, .bool true)]) (fun _ => []) (fun j => j ≤ b.cries.length) (fun j => b.cries.length - j) 0 (by omega) ⟨rfl, congrArg Value.bool (decide_eq_true ((ix_lt b.land z).2 hzl)), trivial⟩ trivial ?_
                      rintro j σ M w2 hj S
                      refine W.seq (W.seq (W.region S ?_))
                      refine AS.cons (sp_move (v := .int _ _) rfl ?_)
                      refine AS.cons (sp_fa rfl fo_26_5_6 ?_)
                      refine AS.cons (sp_ld 2 rfl rfl sc_24 rfl ?_)
                      refine AS.cons (sp_len rfl sl_24_46_7 ?_)
                      refine AS.cons (sp_lss rfl rfl ?_)
                      refine AS.nil ?_
                      intro _ S
                      refine W.condd rfl (fun c110 => ?_) (fun c110 => ?_)
                      · skip
                        have hjl : j < b.cries.length := by omega
                        obtain ⟨x, hxc⟩ := get_some hjl
                        have hxm := List.mem_of_getElem? hxc
                        have hxo := hbk.cry x hxm
                        refine W.skip ?_
                        refine W.seq (W.block ?_)
                        refine W.seq (W.region S ?_)
                        refine AS.cons (sp_fa rfl fo_26_5_6 ?_)
                        refine AS.cons (sp_ld 2 rfl rfl sc_24 rfl ?_)
                        refine AS.cons (sp_move (v := .int _ _) rfl ?_)
                        refine AS.cons (sp_iaR hC rfl rfl sl_24_46_7 (by first | omega | (simp only [decide_eq_true_eq, decide_eq_false_iff_not] at *; omega)) ?_)
                        refine AS.cons (sp_ldaR 0 hC (fun _ h => h) rfl ag_46_7 (cries_at hxc) (by first | omega | (simp only [decide_eq_true_eq, decide_eq_false_iff_not] at *; omega)) ?_)
                        refine AS.cons (sp_alloc 13 zv_46 rfl (fun b13 => ?_))
                        refine AS.cons (sp_st 13 rfl rfl rfl rfl sz_46_7 rfl rfl ?_)
                        refine AS.nil ?_
                        intro _ S
                        refine W.draw S mixed (fun i => ([KD.q [], KD.q [], KD.q [], KD.q [13], KD.q [], KD.q [], KD.q [], KD.q [2], KD.q [13], KD.q [], KD.q [], KD.q [23], KD.q [23], KD.e [] [], KD.q [], KD.q [13], KD.q [], KD.q [], KD.q [], KD.q [], KD.q []] : List KD)[i]?) [] [0, 1, 2, 3, 4, 5, 6, 7, 8, 9, 10, 11, 12, 13, 14, 15, 16, 17, 18, 19, 20] (by kernel_rfl) ?_
                        refine AW.cons rfl rfl (sp_move (v := .bool _) rfl ?_)
                        refine AW.cons rfl rfl (sp_move (v := .bool _) rfl ?_)
                        refine AW.split 119 rfl (fun g119 => ?_) (fun g119 => ?_)
                        · skip
                          refine AW.cons rfl rfl (sp_fa rfl fo_46_1_1 ?_)
                          refine AW.cons rfl rfl (sp_ld 13 rfl rfl sc_3 rfl ?_)
                          refine AW.cons rfl rfl (sp_move (v := .int _ _) rfl ?_)
                          refine AW.cons rfl rfl (sp_neq rfl rfl ?_)
                          refine AW.cons rfl rfl (sp_move (v := .bool _) rfl ?_)
                          refine AW.split 124 rfl (fun g124 => ?_) (fun g124 => ?_)
                          · skip
                            refine AW.cons rfl rfl (sp_skip rfl ?_)
                            refine AW.cons rfl rfl (sp_skip rfl ?_)
                            refine AW.cons rfl rfl (sp_skip rfl ?_)
                            refine AW.cons rfl rfl (sp_skip rfl ?_)
                            refine AW.cons rfl rfl (sp_skip rfl ?_)
                            refine AW.cons rfl rfl (sp_skip rfl ?_)
                            refine AW.cons rfl rfl (sp_skip rfl ?_)
                            refine AW.cons rfl rfl (sp_skip rfl ?_)
                            refine AW.cons rfl rfl (sp_skip rfl ?_)
                            refine AW.cons rfl rfl (sp_skip rfl ?_)
                            refine AW.cons rfl rfl (sp_skip rfl ?_)
                            refine AW.cons rfl rfl (sp_pick_t rfl (v := .bool _) rfl ?_)
                            refine AW.cons rfl rfl (sp_pick_t rfl (v := .bool _) rfl ?_)
                            refine AW.cons rfl rfl (sp_asg (v := .bool _) rfl ?_)
                            refine AW.nil ?_
                            intro _ S
                            refine W.region S ?_
                            refine AS.cons (sp_move (v := .int _ _) rfl ?_)
                            refine AS.cons (sp_add rfl rfl (by first | omega | (simp only [decide_eq_true_eq, decide_eq_false_iff_not] at *; omega)) ?_)
                            refine AS.cons (sp_asg (v := .int _ _) rfl ?_)
                            refine AS.nil ?_
                            intro _ S
                            exact ⟨j + 1, _, by omega, by omega, ⟨by simp [upd], by first | rfl | (show Value.bool (decide (Btw b x (z % b.wide) (z / b.wide)) == decide (x.k = 0)) = Value.bool true; rw [hxe]; simp), trivial⟩, trivial, by repeat (first | exact Agr.refl _ _ | exact Agr.msk _ _ _ | refine Agr.upd ?_ _ rfl | refine Agr.upds ?_ rfl | refine Agr.mskIn ?_ rfl), by repeat (first | exact Agr.refl _ _ | exact Agr.msk _ _ _ | refine Agr.upd ?_ _ rfl | refine Agr.upds ?_ rfl | refine Agr.mskIn ?_ rfl), rfl, S⟩
                          · skip
                            have hxm2 : x.m = m := Decidable.not_not.1 (of_decide_eq_false g124)
                            have hxe := hzc x hxm hxm2
                            refine AW.cons rfl rfl (sp_ldw 2 rfl rfl ag_26_7 ?_)
                            refine AW.cons rfl rfl (sp_ldw 13 rfl rfl ag_46_7 ?_)
                            refine AW.cons rfl rfl (sp_move rfl ?_)
                            refine AW.cons rfl rfl (sp_move (v := .int _ _) rfl ?_)
                            refine AW.cons rfl rfl (sp_iaS 23 rfl rfl rfl sl_22_3_1 (by omega) ?_)
                            refine AW.cons rfl rfl (sp_ldS 23 rfl rfl sc_3 (ints_of hz) (by omega) ?_)
                            refine AW.cons rfl rfl (sp_call [] rfl rfl cf_46 (fun F w _ S => seen b la lc ca cc hb x hxo z (by omega) w) ?_)
                            refine AW.cons rfl rfl (sp_fa rfl fo_46_2_2 ?_)
                            refine AW.cons rfl rfl (sp_ld 13 rfl rfl sc_3 rfl ?_)
                            refine AW.cons rfl rfl (sp_eql rfl rfl ?_)
                            refine AW.cons rfl rfl (sp_eqlb rfl rfl bool_4 ?_)
                            refine AW.cons rfl rfl (sp_pick_f rfl (v := .bool _) rfl ?_)
                            refine AW.cons rfl rfl (sp_pick_t rfl (v := .bool _) rfl ?_)
                            refine AW.cons rfl rfl (sp_asg (v := .bool _) rfl ?_)
                            refine AW.nil ?_
                            intro _ S
                            refine W.region S ?_
                            refine AS.cons (sp_move (v := .int _ _) rfl ?_)
                            refine AS.cons (sp_add rfl rfl (by first | omega | (simp only [decide_eq_true_eq, decide_eq_false_iff_not] at *; omega)) ?_)
                            refine AS.cons (sp_asg (v := .int _ _) rfl ?_)
                            refine AS.nil ?_
                            intro _ S
                            exact ⟨j + 1, _, by omega, by omega, ⟨by simp [upd], by first | rfl | (show Value.bool (decide (Btw b x (z % b.wide) (z / b.wide)) == decide (x.k = 0)) = Value.bool true; rw [hxe]; simp), trivial⟩, trivial, by repeat (first | exact Agr.refl _ _ | exact Agr.msk _ _ _ | refine Agr.upd ?_ _ rfl | refine Agr.upds ?_ rfl | refine Agr.mskIn ?_ rfl), by repeat (first | exact Agr.refl _ _ | exact Agr.msk _ _ _ | refine Agr.upd ?_ _ rfl | refine Agr.upds ?_ rfl | refine Agr.mskIn ?_ rfl), rfl, S⟩
                        · exact absurd g119 (by decide)
                      · skip
                        refine W.exit ?_
                        refine W.seq (W.region S ?_)
                        refine AS.cons (sp_move (v := .bool _) rfl ?_)
                        refine AS.cons (sp_not rfl ?_)
                        refine AS.nil ?_
                        intro _ S
                        refine W.cond rfl (fun c139 => ?_) (fun c139 => ?_)
                        · exact absurd c139 (by decide)
                        · skip
                          refine W.skip ?_
                          refine W.region S ?_
                          refine AS.cons (sp_move (v := .int _ _) rfl ?_)
                          refine AS.cons (sp_add rfl rfl (by first | omega | (simp only [decide_eq_true_eq, decide_eq_false_iff_not] at *; omega)) ?_)
                          refine AS.cons (sp_asg (v := .int _ _) rfl ?_)
                          refine AS.nil ?_
                          intro _ S
                          exact ⟨i + 1, _, by omega, by omega, ⟨by simp [upd], trivial⟩, trivial, by repeat (first | exact Agr.refl _ _ | exact Agr.msk _ _ _ | refine Agr.upd ?_ _ rfl | refine Agr.upds ?_ rfl | refine Agr.mskIn ?_ rfl), by repeat (first | exact Agr.refl _ _ | exact Agr.msk _ _ _ | refine Agr.upd ?_ _ rfl | refine Agr.upds ?_ rfl | refine Agr.mskIn ?_ rfl), rfl, S⟩
                    · skip
                      refine W.exit ?_
                      refine W.seq (W.region S ?_)
                      refine AS.cons (sp_call [] rfl rfl cf_28 (fun F w _ S => cried w (hK.ext S.mod)) ?_)
                      refine AS.cons (sp_asg (v := .bool _) rfl ?_)
                      refine AS.nil ?_
                      intro _ S
                      refine W.ret ?_
                      exact ret1 rfl rfl S fun w' S' => ⟨rfl, S'.mod⟩
end
end Go.Proofs.YtmpclgepoemneaaDoor
