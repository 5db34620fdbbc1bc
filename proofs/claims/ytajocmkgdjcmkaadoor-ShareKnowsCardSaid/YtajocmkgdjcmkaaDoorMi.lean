/-
  Lemmas of this proof, several texts one behind the other; no condition beyond what each says.
-/
import Derived.Test.YtajocmkgdjcmkaaDoorMh
namespace Go.Proofs.YtajocmkgdjcmkaaDoor
open Go.Hu
theorem ar_67_4_3_1 : arB Tryd.prog 67 4 3 1 = true := by kernel_rfl
theorem cf_36 : cfB Tryd.prog 36 = true := by kernel_rfl
theorem cf_41 : cfB Tryd.prog 41 = true := by kernel_rfl
theorem cf_57 : cfB Tryd.prog 57 = true := by kernel_rfl
theorem cf_58 : cfB Tryd.prog 58 = true := by kernel_rfl
end Go.Proofs.YtajocmkgdjcmkaaDoor
/-
  The law that more knowledge tells no less.
-/
namespace Go.Proofs.YtajocmkgdjcmkaaDoor
set_option maxRecDepth 100000
open Go.Hu Go.RowKit
section
variable (b : Sb) (ha : Option Addr) (hc : Nat) (da : Option Addr) (dc : Nat)
theorem sdL_of {b : Sb} {but : List Int} {s : Int} (h : b.s0 ≤ s ∧ s ≤ b.s1) (hf : fitB b but s = true) : s ∈ sdL b but := by
  unfold sdL sdU
  refine List.mem_filter.2 ⟨List.mem_map.2 ⟨(s - b.s0).toNat, List.mem_range.2 (by unfold sdN; omega), by omega⟩, hf⟩
theorem fit_same {b' b : Sb} (h : SameH b' b) (hd : b'.dr = b.dr) (but : List Int) (s : Int) : fitB b' but s = fitB b but s := by
  unfold fitB fitU
  rw [h.ord, hd]
/-- Of more knowledge no less is told. -/
structure Kn (b b' : Sb) : Prop where
  good : Good b'
  hs : b'.hs = b.hs
  sub : ∀ s ∈ sdL b' [], s ∈ sdL b []
  pay : ∀ k, k < b.hs.length → payLo b k ≤ payLo b' k ∧ payHi b' k ≤ payHi b k
theorem kn_pay {b b' : Sb} (h1 : ∀ s ∈ sdL b' [], s ∈ sdL b []) {k : Nat} (h2 : ∀ s j, j < mnN b' → ∃ j', j' < mnN b ∧ payF b' k s j = payF b k s j') : payLo b k ≤ payLo b' k ∧ payHi b' k ≤ payHi b k := by
  have hlo := fldS_min.1 (Int.le_refl (payLo b k))
  have hhi := fldS_max.1 (Int.le_refl (payHi b k))
  refine ⟨fldS_min.2 ⟨hlo.1, fun s hs j hj => ?_⟩, fldS_max.2 ⟨hhi.1, fun s hs j hj => ?_⟩⟩
  · obtain ⟨j', hj', e⟩ := h2 s j hj
    rw [e]; exact hlo.2 s (h1 s hs) j' hj'
  · obtain ⟨j', hj', e⟩ := h2 s j hj
    rw [e]; exact hhi.2 s (h1 s hs) j' hj'
abbrev moB (b : Sb) (lo hi : Int) : Sb := { b with m0 := lo, m1 := hi }
abbrev seB (b : Sb) (lo hi : Int) : Sb := { b with s0 := lo, s1 := hi }
theorem kn_mo {b : Sb} (hb : Good b) {lo hi : Int} (h : b.m0 ≤ lo ∧ lo ≤ hi ∧ hi ≤ b.m1) : Kn b (moB b lo hi) := by
  have hs : SameH (moB b lo hi) b := ⟨rfl, rfl, rfl, rfl⟩
  have hmo := hb.mo
  have hsub : ∀ s ∈ sdL (moB b lo hi) [], s ∈ sdL b [] := fun s h' => by
    have h1 := sdL_mem h'
    exact sdL_of ⟨h1.1, h1.2.1⟩ (by rw [← fit_same hs rfl]; exact h1.2.2)
  refine ⟨hs.good hb ⟨⟨by show 0 ≤ lo; omega, h.2.1⟩, by show hi ≤ 9999; omega, by show hi - lo ≤ 20; omega⟩ hb.se hb.d8 hb.dn hb.da, rfl, hsub, fun k hk => kn_pay hsub (fun s j hj => ⟨j + (lo - b.m0).toNat, ?_, ?_⟩)⟩
  · have hj' : j < (hi - lo + 1).toNat := hj
    show _ < (b.m1 - b.m0 + 1).toNat; omega
  · show payK (moB b lo hi) s (lo + (j : Int)) k = payK b s (b.m0 + ((j + (lo - b.m0).toNat : Nat) : Int)) k
    rw [hs.pay]; congr 1; omega
theorem kn_se {b : Sb} (hb : Good b) {lo hi : Int} (h : b.s0 ≤ lo ∧ lo ≤ hi ∧ hi ≤ b.s1) : Kn b (seB b lo hi) := by
  have hs : SameH (seB b lo hi) b := ⟨rfl, rfl, rfl, rfl⟩
  have hse := hb.se
  have hsub : ∀ s ∈ sdL (seB b lo hi) [], s ∈ sdL b [] := fun s h' => by
    have h1 := sdL_mem h'
    have h2 : lo ≤ s := h1.1
    have h3 : s ≤ hi := h1.2.1
    exact sdL_of ⟨by omega, by omega⟩ (by rw [← fit_same hs rfl]; exact h1.2.2)
  refine ⟨hs.good hb hb.mo ⟨⟨by show 0 ≤ lo; omega, h.2.1⟩, by show hi ≤ 9999; omega, by show hi - lo ≤ 50; omega⟩ hb.d8 hb.dn hb.da, rfl, hsub, fun k hk => kn_pay hsub (fun s j hj => ⟨j, hj, ?_⟩)⟩
  show payK (seB b lo hi) s (b.m0 + (j : Int)) k = payK b s (b.m0 + (j : Int)) k
  rw [hs.pay]
theorem kn_dr {b : Sb} (hb : Good b) {x : Int} (hx : 0 ≤ x ∧ x < b.hs.length) (h8 : b.dr.length < 8) (ha : (b.dr.length : Int) < allN b) : Kn b (wd b (b.dr ++ [x])) := by
  have hs := wd_same b (b.dr ++ [x])
  have hsub : ∀ s ∈ sdL (wd b (b.dr ++ [x])) [], s ∈ sdL b [] := fun s h' => by
    have h1 := sdL_mem h'
    refine sdL_of ⟨h1.1, h1.2.1⟩ ?_
    have h2 := h1.2.2
    unfold fitB fitU at h2 ⊢
    rw [hs.ord] at h2
    rw [List.all_eq_true] at h2 ⊢
    intro k hk
    have hk' := List.mem_range.1 hk
    have h3 := h2 k (List.mem_range.2 (by show k < (b.dr ++ [x]).length; rw [List.length_append]; omega))
    have e : (wd b (b.dr ++ [x])).dr.getD k 0 = b.dr.getD k 0 := by
      show (b.dr ++ [x]).getD k 0 = _
      rw [List.getD_eq_getElem?_getD, List.getD_eq_getElem?_getD, List.getElem?_append_left hk']
    rw [e] at h3; exact h3
  refine ⟨hb.wd (by rw [List.length_append]; show b.dr.length + 1 ≤ 8; omega) (fun n hn => ?_) (by rw [List.length_append]; show ((b.dr.length + 1 : Nat) : Int) ≤ _; omega), rfl, hsub, fun k hk => kn_pay hsub (fun s j hj => ⟨j, hj, ?_⟩)⟩
  · rcases List.mem_append.1 hn with h | h
    · exact hb.dn n h
    · rw [List.mem_singleton.1 h]; omega
  · show payK (wd b (b.dr ++ [x])) s (b.m0 + (j : Int)) k = payK b s (b.m0 + (j : Int)) k
    rw [hs.pay]
theorem kn_no {b : Sb} (hb : Good b) : Kn b b := ⟨hb, rfl, fun _ h => h, fun _ _ => ⟨Int.le_refl _, Int.le_refl _⟩⟩
theorem wheelT {n k v : Int} (h : whlV n k = v) (hk : k ≤ 9223372036854775807) (w : World) : Ct Tryd.prog 39 #[iv n, iv k] w (fun u w' => u = iv v ∧ Ext w w') := by
  have h1 := wheelV n k hk w; rw [h] at h1; exact h1
theorem someT {lo hi n v : Int} (h : v = someV lo hi n) (hb : 0 ≤ lo ∧ lo ≤ hi ∧ hi ≤ 10000) (w : World) : Ct Tryd.prog 36 #[.agg [iv lo, iv hi].toArray, iv n] w (fun u w' => u = iv v ∧ Ext w w') := by
  have h1 := someF lo hi n hb w; rw [← h] at h1; exact h1
theorem noK (n0 n1 n2 n3 : Int) (hok : okS b = false) (w : World) (hK : Kinds w) (hH : Hos w ha hc b.hs) (hD : Ints w da dc b.dr) : Ct Tryd.prog 13 #[.agg (sbL b ha hc da dc).toArray, .agg [iv n0, iv n1, iv n2, iv n3].toArray] w (fun u w' => u = .bool true ∧ Ext w w') := by
  refine fn_intro (args := [.agg (sbL b ha hc da dc).toArray, .agg [iv n0, iv n1, iv n2, iv n3].toArray]) Tryd.func13 rfl rfl (by kernel_rfl) ?_
  have S := St.start no w
  refine W.seq (W.region S ?_)
  refine AS.cons (sp_boxa 2 rfl (fun b2 => ?_))
  refine AS.cons (sp_boxa 3 rfl (fun b3 => ?_))
  refine AS.cons (sp_asg rfl ?_)
  refine AS.nil ?_
  intro _ S
  refine W.seq (W.seq (W.region S ?_))
  refine AS.cons (sp_ldw 2 rfl rfl ag_28_9 ?_)
  refine AS.cons (sp_call [] rfl rfl cf_35 (fun F w _ S => soundT hok w (hK.ext S.mod) (hH.ext S.mod) (hD.ext S.mod)) ?_)
  refine AS.cons (sp_not rfl ?_)
  refine AS.nil ?_
  intro _ S
  refine W.cond rfl (fun c18 => ?_) (fun c18 => ?_)
  · skip
    refine W.seq (W.region S ?_)
    refine AS.cons (sp_call [] rfl rfl cf_26 (fun F w _ S => drawn w (hK.ext S.mod)) ?_)
    refine AS.cons (sp_asg (v := .bool _) rfl ?_)
    refine AS.nil ?_
    intro _ S
    refine W.ret ?_
    exact ret1 rfl rfl S fun w' S' => ⟨rfl, S'.mod⟩
  · exact absurd c18 (by decide)
set_option maxHeartbeats 16000000 in
theorem knowsA (n0 n1 n2 n3 : Int) (hb : Good b) (hw0 : whlV n0 3 = 0) (w : World) (hK : Kinds w) (hH : Hos w ha hc b.hs) (hD : Ints w da dc b.dr) : Ct Tryd.prog 13 #[.agg (sbL b ha hc da dc).toArray, .agg [iv n0, iv n1, iv n2, iv n3].toArray] w (fun u w' => u = .bool true ∧ Ext w w') := by
  refine fn_intro (args := [.agg (sbL b ha hc da dc).toArray, .agg [iv n0, iv n1, iv n2, iv n3].toArray]) Tryd.func13 rfl rfl (by kernel_rfl) ?_
  have S := St.start no w
  have hO := hb.own
  have hn1 := hb.n1
  have hn6 := hb.n6
  have hd8 := hb.d8
  have hl51 := sdL_51 hb []
  obtain ⟨⟨hm1, hm2⟩, hm3, hm4⟩ := hb.mo
  obtain ⟨⟨hs1, hs2⟩, hs3, hs4⟩ := hb.se
  have hws := some_bd n1 hm2
  obtain ⟨lo, hlo⟩ : ∃ lo, lo = someV b.m0 b.m1 n1 := ⟨_, rfl⟩
  rw [← hlo] at hws
  have hwt := some_bd n2 (lo := lo) (hi := b.m1) hws.2
  obtain ⟨hi, hhi⟩ : ∃ hi, hi = someV lo b.m1 n2 := ⟨_, rfl⟩
  rw [← hhi] at hwt
  have hkn := kn_mo hb (lo := lo) (hi := hi) ⟨hws.1, hwt.1, hwt.2⟩
  have hwk := whl_bd n3 (k := (b.hs.length : Int)) (by omega)
  obtain ⟨k, hk⟩ : ∃ k : Nat, whlV n3 (b.hs.length : Int) = (k : Int) := ⟨(whlV n3 (b.hs.length : Int)).toNat, by omega⟩
  have hkl : k < b.hs.length := by omega
  have hpay := hkn.pay k hkl
  obtain ⟨m, hm⟩ : ∃ m, sdL (moB b lo hi) [] = m := ⟨_, rfl⟩
  have hsub := hkn.sub
  replace hsub : ∀ s ∈ m, s ∈ sdL b [] := by rw [← hm]; exact hsub
  have hml : m.length ≤ 51 := by rw [← hm]; exact sdL_51 hkn.good []
  obtain ⟨p0, hp0⟩ : ∃ p0, p0 = payLo b k := ⟨_, rfl⟩
  obtain ⟨p1, hp1⟩ : ∃ p1, p1 = payHi b k := ⟨_, rfl⟩
  obtain ⟨q0, hq0⟩ : ∃ q0, q0 = payLo (moB b lo hi) k := ⟨_, rfl⟩
  obtain ⟨q1, hq1⟩ : ∃ q1, q1 = payHi (moB b lo hi) k := ⟨_, rfl⟩
  replace hpay : p0 ≤ q0 ∧ q1 ≤ p1 := by rw [hp0, hp1, hq0, hq1]; exact hpay
  refine W.seq (W.region S ?_)
  refine AS.cons (sp_boxa 2 rfl (fun b2 => ?_))
  refine AS.cons (sp_boxa 3 rfl (fun b3 => ?_))
  refine AS.cons (sp_asg rfl ?_)
  refine AS.nil ?_
  intro _ S
  refine W.seq (W.seq (W.region S ?_))
  refine AS.cons (sp_ldw 2 rfl rfl ag_28_9 ?_)
  refine AS.cons (sp_call [] rfl rfl cf_35 (fun F w _ S => soundT (okS_good.2 hb) w (hK.ext S.mod) (hH.ext S.mod) (hD.ext S.mod)) ?_)
  refine AS.cons (sp_not rfl ?_)
  refine AS.nil ?_
  intro _ S
  refine W.cond rfl (fun c18 => ?_) (fun c18 => ?_)
  · exact absurd c18 (by decide)
  · skip
    refine W.skip ?_
    refine W.seq (W.region S ?_)
    refine AS.cons (sp_ldw 2 rfl rfl ag_28_9 ?_)
    refine AS.cons (sp_alloc 5 zv_28 rfl (fun b5 => ?_))
    refine AS.cons (sp_st 5 rfl rfl rfl rfl sz_28_9 rfl rfl ?_)
    refine AS.nil ?_
    intro _ S
    refine W.seq (W.seq (W.region S ?_))
    refine AS.cons (sp_iaa rfl rfl ar_67_4_3_1 (by first | omega | (simp only [decide_eq_true_eq, decide_eq_false_iff_not] at *; omega)) ?_)
    refine AS.cons (sp_ld 3 rfl rfl sc_3 rfl ?_)
    refine AS.cons (sp_call [] rfl rfl cf_39 (fun F w _ S => wheelT hw0 (by omega) w) ?_)
    refine AS.nil ?_
    intro _ S
    refine W.block ?_
    refine W.seq (W.region S ?_)
    refine AS.cons (sp_eql rfl rfl ?_)
    refine AS.cons (sp_asg (v := .bool _) rfl ?_)
    refine AS.nil ?_
    intro _ S
    refine W.cond rfl (fun c46 => ?_) (fun c46 => ?_)
    · skip
      refine W.seq (W.region S ?_)
      refine AS.cons (sp_fa rfl fo_28_2_4 ?_)
      refine AS.cons (sp_lda 2 2 rfl rfl ag_25_2 rfl ?_)
      refine AS.cons (sp_iaa rfl rfl ar_67_4_3_1 (by first | omega | (simp only [decide_eq_true_eq, decide_eq_false_iff_not] at *; omega)) ?_)
      refine AS.cons (sp_ld 3 rfl rfl sc_3 rfl ?_)
      refine AS.cons (sp_call [] rfl rfl cf_36 (fun F w _ S => someT hlo (by omega) w) ?_)
      refine AS.cons (sp_asg (v := .int _ _) rfl ?_)
      refine AS.nil ?_
      intro _ S
      refine W.draw S mixed (fun i => ([KD.q [], KD.q [], KD.q [], KD.q [], KD.q [2], KD.e [] [], KD.q [], KD.q [3], KD.e [] [], KD.e [] [], KD.q [], KD.e [5] [5]] : List KD)[i]?) [8] [0, 1, 2, 3, 4, 5, 6, 7, 8, 9, 10, 11] (by kernel_rfl) ?_
      refine AW.cons rfl rfl (sp_move (v := .int _ _) rfl ?_)
      refine AW.cons rfl rfl (sp_move (v := .int _ _) rfl ?_)
      refine AW.cons rfl rfl (sp_fa rfl fo_28_2_4 ?_)
      refine AW.cons rfl rfl (sp_fa rfl fo_25_1_1 ?_)
      refine AW.cons rfl rfl (sp_ld 2 rfl rfl sc_3 rfl ?_)
      refine AW.cons rfl rfl (sp_call [] rfl rfl cf_51 (fun F w _ S => toF _ _ w) ?_)
      refine AW.cons rfl rfl (sp_iaa rfl rfl ar_67_4_3_1 (by first | omega | (simp only [decide_eq_true_eq, decide_eq_false_iff_not] at *; omega)) ?_)
      refine AW.cons rfl rfl (sp_ld 3 rfl rfl sc_3 rfl ?_)
      refine AW.cons rfl rfl (sp_call [] rfl rfl cf_36 (fun F w _ S => someT hhi (by omega) w) ?_)
      refine AW.cons rfl rfl (sp_call [] rfl rfl cf_51 (fun F w _ S => toF _ _ w) ?_)
      refine AW.cons rfl rfl (sp_fa rfl fo_28_2_4 ?_)
      refine AW.cons rfl rfl (sp_st 5 rfl rfl rfl rfl sz_25_2 rfl rfl ?_)
      refine AW.nil ?_
      intro _ S
      refine W.seq (W.region S ?_)
      refine AS.cons (sp_ldw 2 rfl rfl ag_28_9 ?_)
      refine AS.cons (sp_call1 84 [] _ rfl rfl cf_24 (fun F w _ S => seedsG b ha hc da dc hb w (hK.ext S.mod) (hH.ext S.mod) (hD.ext S.mod)) ?_ (by simp))
      rintro v84 i84 ⟨a84, c84, h84, rfl, rfl⟩
      refine AS.cons (sp_move rfl ?_)
      refine AS.cons (sp_ext rfl rfl ?_)
      refine AS.cons (sp_ext rfl rfl ?_)
      refine AS.cons (sp_asg rfl ?_)
      refine AS.cons (sp_asg (v := .int _ _) rfl ?_)
      refine AS.nil ?_
      intro _ S
      refine W.seq (W.region S ?_)
      refine AS.cons (sp_ldw 5 rfl rfl ag_28_9 ?_)
      refine AS.cons (sp_call1 89 [] _ rfl rfl cf_24 (fun F w hF S => seedsT (b := moB b lo hi) hkn.good hm w (hK.ext S.mod) (hH.ext S.mod) (hD.ext S.mod)) ?_ (by simp))
      rintro v89 i89 ⟨a89, c89, h89, rfl, rfl⟩
      refine AS.cons (sp_move rfl ?_)
      refine AS.cons (sp_ext rfl rfl ?_)
      refine AS.cons (sp_ext rfl rfl ?_)
      refine AS.cons (sp_asg rfl ?_)
      refine AS.cons (sp_asg (v := .int _ _) rfl ?_)
      refine AS.nil ?_
      intro _ S
      refine W.seq (W.seq (W.region S ?_))
      refine AS.cons (sp_move (v := .int _ _) rfl ?_)
      refine AS.cons (sp_neq rfl rfl ?_)
      refine AS.cons (sp_move (v := .bool _) rfl ?_)
      refine AS.split 94 rfl (fun g94 => ?_) (fun g94 => ?_)
      · exact absurd g94 (by decide)
      · skip
        refine AS.cons (sp_move (v := .int _ _) rfl ?_)
        refine AS.cons (sp_neq rfl rfl ?_)
        refine AS.cons (sp_pick_f rfl (v := .bool _) rfl ?_)
        refine AS.nil ?_
        intro _ S
        refine W.cond rfl (fun c97 => ?_) (fun c97 => ?_)
        · exact absurd c97 (by decide)
        · skip
          refine W.skip ?_
          refine W.seq (W.seq (W.region S ?_))
          refine AS.cons (sp_asg rfl ?_)
          refine AS.nil ?_
          intro _ S
          refine W.block ?_
          refine W.loopS S [4, 12, 98, 99, 100, 101, 102, 103, 104, 105, 106, 107, 108, 109, 110] [] (fun (j : Nat) => [(12, iv j)]) (fun _ => []) (fun j => j ≤ m.length) (fun j => m.length - j) 0 (by omega) ⟨rfl, trivial⟩ trivial ?_
          rintro j σ M w1 hj S
          refine W.seq (W.seq (W.region S ?_))
          refine AS.cons (sp_move (v := .int _ _) rfl ?_)
          refine AS.cons (sp_move rfl ?_)
          refine AS.cons (sp_len rfl sl_26_3_1 ?_)
          refine AS.cons (sp_lss rfl rfl ?_)
          refine AS.nil ?_
          intro _ S
          refine W.condd rfl (fun c101 => ?_) (fun c101 => ?_)
          · skip
            have hlt : j < m.length := by omega
            obtain ⟨y, hy⟩ := get_some hlt
            have hyl := hsub y (List.mem_of_getElem? hy)
            refine W.skip ?_
            refine W.seq (W.block ?_)
            refine W.seq (W.region S ?_)
            refine AS.cons (sp_move rfl ?_)
            refine AS.cons (sp_move rfl ?_)
            refine AS.cons (sp_move (v := .int _ _) rfl ?_)
            refine AS.cons (sp_iaS 89 rfl rfl rfl sl_26_3_1 (by omega) ?_)
            refine AS.cons (sp_ldS 89 rfl rfl sc_3 (v := iv y) (by simp [hy]) (by omega) ?_)
            refine AS.cons (sp_call [84] rfl rfl cf_41 (fun F w hF S => place a84 c84 (sdL b []) y (by omega) w (S.slc_rd (k := 84) ((hF 84 (by simp)).trans rfl) (by omega))) ?_)
            refine AS.cons (sp_lss rfl rfl ?_)
            refine AS.nil ?_
            intro _ S
            refine W.condd rfl (fun c110 => ?_) (fun c110 => ?_)
            · exact absurd hyl ((ix_lt _ _).1 c110)
            · skip
              refine W.skip ?_
              refine W.region S ?_
              refine AS.cons (sp_move (v := .int _ _) rfl ?_)
              refine AS.cons (sp_add rfl rfl (by first | omega | (simp only [decide_eq_true_eq, decide_eq_false_iff_not] at *; omega)) ?_)
              refine AS.cons (sp_asg (v := .int _ _) rfl ?_)
              refine AS.nil ?_
              intro _ S
              exact ⟨j + 1, _, by omega, by omega, ⟨by simp [upd], trivial⟩, trivial, by repeat (first | exact Agr.refl _ _ | exact Agr.msk _ _ _ | refine Agr.upd ?_ _ rfl | refine Agr.upds ?_ rfl | refine Agr.mskIn ?_ rfl), by repeat (first | exact Agr.refl _ _ | exact Agr.msk _ _ _ | refine Agr.upd ?_ _ rfl | refine Agr.upds ?_ rfl | refine Agr.mskIn ?_ rfl), rfl, S⟩
          · skip
            refine W.exit ?_
            refine W.seq (W.seq (W.region S ?_))
            refine AS.cons (sp_move rfl ?_)
            refine AS.cons (sp_len rfl sl_26_3_1 ?_)
            refine AS.cons (sp_eql rfl rfl ?_)
            refine AS.nil ?_
            intro _ S
            refine W.condd rfl (fun c113 => ?_) (fun c113 => ?_)
            · skip
              refine W.seq (W.region S ?_)
              refine AS.cons (sp_call [] rfl rfl cf_26 (fun F w _ S => drawn w (hK.ext S.mod)) ?_)
              refine AS.cons (sp_asg (v := .bool _) rfl ?_)
              refine AS.nil ?_
              intro _ S
              refine W.ret ?_
              exact ret1 rfl rfl S fun w' S' => ⟨rfl, S'.mod⟩
            · skip
              have hne2 : ¬ m = [] := fun e => c113 (by subst e; rfl)
              have hne1 : ¬ sdL b [] = [] := fun e => by
                cases hmm : m with
                | nil => exact hne2 hmm
                | cons z t => have := hsub z (by rw [hmm]; simp); rw [e] at this; cases this
              refine W.skip ?_
              refine W.seq (W.region S ?_)
              refine AS.cons (sp_iaa rfl rfl ar_67_4_3_1 (by first | omega | (simp only [decide_eq_true_eq, decide_eq_false_iff_not] at *; omega)) ?_)
              refine AS.cons (sp_ld 3 rfl rfl sc_3 rfl ?_)
              refine AS.cons (sp_fa rfl fo_28_1_3 ?_)
              refine AS.cons (sp_ld 2 rfl rfl sc_23 rfl ?_)
              refine AS.cons (sp_len rfl sl_23_75_3 ?_)
              refine AS.cons (sp_call [] rfl rfl cf_39 (fun F w _ S => wheelT hk (by omega) w) ?_)
              refine AS.cons (sp_asg (v := .int _ _) rfl ?_)
              refine AS.nil ?_
              intro _ S
              refine W.seq (W.region S ?_)
              refine AS.cons (sp_ldw 2 rfl rfl ag_28_9 ?_)
              refine AS.cons (sp_move (v := .int _ _) rfl ?_)
              refine AS.cons (sp_call [] rfl rfl cf_27 (fun F w _ S => by have h := paysG b ha hc da dc hb k hkl hne1 w (hK.ext S.mod) (hH.ext S.mod) (hD.ext S.mod); rw [← hp0, ← hp1] at h; exact h) ?_)
              refine AS.cons (sp_move rfl ?_)
              refine AS.cons (sp_ext rfl rfl ?_)
              refine AS.cons (sp_ext rfl rfl ?_)
              refine AS.cons (sp_alloc 14 zv_25 rfl (fun b14 => ?_))
              refine AS.cons (sp_st 14 rfl rfl rfl rfl sz_25_2 rfl rfl ?_)
              refine AS.cons (sp_asg (v := .int _ _) rfl ?_)
              refine AS.nil ?_
              intro _ S
              refine W.seq (W.region S ?_)
              refine AS.cons (sp_ldw 5 rfl rfl ag_28_9 ?_)
              refine AS.cons (sp_move (v := .int _ _) rfl ?_)
              refine AS.cons (sp_call [] rfl rfl cf_27 (fun F w hF S => by have h := paysG (moB b lo hi) ha hc _ _ hkn.good k hkl (by rw [hm]; exact hne2) w (hK.ext S.mod) (hH.ext S.mod) (hD.ext S.mod); rw [← hq0, ← hq1] at h; exact h) ?_)
              refine AS.cons (sp_move rfl ?_)
              refine AS.cons (sp_ext rfl rfl ?_)
              refine AS.cons (sp_ext rfl rfl ?_)
              refine AS.cons (sp_alloc 15 zv_25 rfl (fun b15 => ?_))
              refine AS.cons (sp_st 15 rfl rfl rfl rfl sz_25_2 rfl rfl ?_)
              refine AS.cons (sp_asg (v := .int _ _) rfl ?_)
              refine AS.nil ?_
              intro _ S
              refine W.seq (W.region S ?_)
              refine AS.cons (sp_move (v := .int _ _) rfl ?_)
              refine AS.cons (sp_eql rfl rfl ?_)
              refine AS.cons (sp_move (v := .bool _) rfl ?_)
              refine AS.split 135 rfl (fun g135 => ?_) (fun g135 => ?_)
              · skip
                refine AS.cons (sp_move (v := .int _ _) rfl ?_)
                refine AS.cons (sp_eql rfl rfl ?_)
                refine AS.cons (sp_pick_t rfl (v := .bool _) rfl ?_)
                refine AS.cons (sp_move (v := .bool _) rfl ?_)
                refine AS.split 139 rfl (fun g139 => ?_) (fun g139 => ?_)
                · skip
                  refine AS.cons (sp_ldw 14 rfl rfl ag_25_2 ?_)
                  refine AS.cons (sp_ldw 15 rfl rfl ag_25_2 ?_)
                  refine AS.cons (sp_call [] rfl rfl cf_58 (fun F w _ S => spansF _ _ _ _ w) ?_)
                  refine AS.cons (sp_pick_t rfl (v := .bool _) rfl ?_)
                  refine AS.cons (sp_move (v := .bool _) rfl ?_)
                  refine AS.split 144 rfl (fun g144 => ?_) (fun g144 => ?_)
                  · skip
                    refine AS.cons (sp_call [] rfl rfl cf_26 (fun F w _ S => drawn w (hK.ext S.mod)) ?_)
                    refine AS.cons (sp_pick_t rfl (v := .bool _) rfl ?_)
                    refine AS.cons (sp_asg (v := .bool _) rfl ?_)
                    refine AS.nil ?_
                    intro _ S
                    refine W.ret ?_
                    exact ret1 rfl rfl S fun w' S' => ⟨rfl, S'.mod⟩
                  · exact absurd hpay (of_decide_eq_false g144)
                · exact absurd g139 (by decide)
              · exact absurd g135 (by decide)
    · exact absurd c46 (by decide)
set_option maxHeartbeats 16000000 in
theorem knowsB (n0 n1 n2 n3 : Int) (hb : Good b) (hw0 : whlV n0 3 = 1) (w : World) (hK : Kinds w) (hH : Hos w ha hc b.hs) (hD : Ints w da dc b.dr) : Ct Tryd.prog 13 #[.agg (sbL b ha hc da dc).toArray, .agg [iv n0, iv n1, iv n2, iv n3].toArray] w (fun u w' => u = .bool true ∧ Ext w w') := by
  refine fn_intro (args := [.agg (sbL b ha hc da dc).toArray, .agg [iv n0, iv n1, iv n2, iv n3].toArray]) Tryd.func13 rfl rfl (by kernel_rfl) ?_
  have S := St.start no w
  have hO := hb.own
  have hn1 := hb.n1
  have hn6 := hb.n6
  have hd8 := hb.d8
  have hl51 := sdL_51 hb []
  obtain ⟨⟨hm1, hm2⟩, hm3, hm4⟩ := hb.mo
  obtain ⟨⟨hs1, hs2⟩, hs3, hs4⟩ := hb.se
  have hws := some_bd n1 hs2
  obtain ⟨lo, hlo⟩ : ∃ lo, lo = someV b.s0 b.s1 n1 := ⟨_, rfl⟩
  rw [← hlo] at hws
  have hwt := some_bd n2 (lo := lo) (hi := b.s1) hws.2
  obtain ⟨hi, hhi⟩ : ∃ hi, hi = someV lo b.s1 n2 := ⟨_, rfl⟩
  rw [← hhi] at hwt
  have hkn := kn_se hb (lo := lo) (hi := hi) ⟨hws.1, hwt.1, hwt.2⟩
  have hwk := whl_bd n3 (k := (b.hs.length : Int)) (by omega)
  obtain ⟨k, hk⟩ : ∃ k : Nat, whlV n3 (b.hs.length : Int) = (k : Int) := ⟨(whlV n3 (b.hs.length : Int)).toNat, by omega⟩
  have hkl : k < b.hs.length := by omega
  have hpay := hkn.pay k hkl
  obtain ⟨m, hm⟩ : ∃ m, sdL (seB b lo hi) [] = m := ⟨_, rfl⟩
  have hsub := hkn.sub
  replace hsub : ∀ s ∈ m, s ∈ sdL b [] := by rw [← hm]; exact hsub
  have hml : m.length ≤ 51 := by rw [← hm]; exact sdL_51 hkn.good []
  obtain ⟨p0, hp0⟩ : ∃ p0, p0 = payLo b k := ⟨_, rfl⟩
  obtain ⟨p1, hp1⟩ : ∃ p1, p1 = payHi b k := ⟨_, rfl⟩
  obtain ⟨q0, hq0⟩ : ∃ q0, q0 = payLo (seB b lo hi) k := ⟨_, rfl⟩
  obtain ⟨q1, hq1⟩ : ∃ q1, q1 = payHi (seB b lo hi) k := ⟨_, rfl⟩
  replace hpay : p0 ≤ q0 ∧ q1 ≤ p1 := by rw [hp0, hp1, hq0, hq1]; exact hpay
  refine W.seq (W.region S ?_)
  refine AS.cons (sp_boxa 2 rfl (fun b2 => ?_))
  refine AS.cons (sp_boxa 3 rfl (fun b3 => ?_))
  refine AS.cons (sp_asg rfl ?_)
  refine AS.nil ?_
  intro _ S
  refine W.seq (W.seq (W.region S ?_))
  refine AS.cons (sp_ldw 2 rfl rfl ag_28_9 ?_)
  refine AS.cons (sp_call [] rfl rfl cf_35 (fun F w _ S => soundT (okS_good.2 hb) w (hK.ext S.mod) (hH.ext S.mod) (hD.ext S.mod)) ?_)
  refine AS.cons (sp_not rfl ?_)
  refine AS.nil ?_
  intro _ S
  refine W.cond rfl (fun c18 => ?_) (fun c18 => ?_)
  · exact absurd c18 (by decide)
  · skip
    refine W.skip ?_
    refine W.seq (W.region S ?_)
    refine AS.cons (sp_ldw 2 rfl rfl ag_28_9 ?_)
    refine AS.cons (sp_alloc 5 zv_28 rfl (fun b5 => ?_))
    refine AS.cons (sp_st 5 rfl rfl rfl rfl sz_28_9 rfl rfl ?_)
    refine AS.nil ?_
    intro _ S
    refine W.seq (W.seq (W.region S ?_))
    refine AS.cons (sp_iaa rfl rfl ar_67_4_3_1 (by first | omega | (simp only [decide_eq_true_eq, decide_eq_false_iff_not] at *; omega)) ?_)
    refine AS.cons (sp_ld 3 rfl rfl sc_3 rfl ?_)
    refine AS.cons (sp_call [] rfl rfl cf_39 (fun F w _ S => wheelT hw0 (by omega) w) ?_)
    refine AS.nil ?_
    intro _ S
    refine W.block ?_
    refine W.seq (W.region S ?_)
    refine AS.cons (sp_eql rfl rfl ?_)
    refine AS.cons (sp_asg (v := .bool _) rfl ?_)
    refine AS.nil ?_
    intro _ S
    refine W.cond rfl (fun c46 => ?_) (fun c46 => ?_)
    · exact absurd c46 (by decide)
    · skip
      refine W.seq (W.region S ?_)
      refine AS.cons (sp_eql rfl rfl ?_)
      refine AS.cons (sp_asg (v := .bool _) rfl ?_)
      refine AS.nil ?_
      intro _ S
      refine W.cond rfl (fun c64 => ?_) (fun c64 => ?_)
      · skip
        refine W.seq (W.region S ?_)
        refine AS.cons (sp_fa rfl fo_28_3_6 ?_)
        refine AS.cons (sp_lda 2 2 rfl rfl ag_25_2 rfl ?_)
        refine AS.cons (sp_iaa rfl rfl ar_67_4_3_1 (by first | omega | (simp only [decide_eq_true_eq, decide_eq_false_iff_not] at *; omega)) ?_)
        refine AS.cons (sp_ld 3 rfl rfl sc_3 rfl ?_)
        refine AS.cons (sp_call [] rfl rfl cf_36 (fun F w _ S => someT hlo (by omega) w) ?_)
        refine AS.cons (sp_asg (v := .int _ _) rfl ?_)
        refine AS.nil ?_
        intro _ S
        refine W.draw S mixed (fun i => ([KD.q [], KD.q [], KD.q [], KD.q [], KD.q [2], KD.e [] [], KD.q [], KD.q [3], KD.e [] [], KD.e [] [], KD.q [], KD.e [5] [5]] : List KD)[i]?) [8] [0, 1, 2, 3, 4, 5, 6, 7, 8, 9, 10, 11] (by kernel_rfl) ?_
        refine AW.cons rfl rfl (sp_move (v := .int _ _) rfl ?_)
        refine AW.cons rfl rfl (sp_move (v := .int _ _) rfl ?_)
        refine AW.cons rfl rfl (sp_fa rfl fo_28_3_6 ?_)
        refine AW.cons rfl rfl (sp_fa rfl fo_25_1_1 ?_)
        refine AW.cons rfl rfl (sp_ld 2 rfl rfl sc_3 rfl ?_)
        refine AW.cons rfl rfl (sp_call [] rfl rfl cf_51 (fun F w _ S => toF _ _ w) ?_)
        refine AW.cons rfl rfl (sp_iaa rfl rfl ar_67_4_3_1 (by first | omega | (simp only [decide_eq_true_eq, decide_eq_false_iff_not] at *; omega)) ?_)
        refine AW.cons rfl rfl (sp_ld 3 rfl rfl sc_3 rfl ?_)
        refine AW.cons rfl rfl (sp_call [] rfl rfl cf_36 (fun F w _ S => someT hhi (by omega) w) ?_)
        refine AW.cons rfl rfl (sp_call [] rfl rfl cf_51 (fun F w _ S => toF _ _ w) ?_)
        refine AW.cons rfl rfl (sp_fa rfl fo_28_3_6 ?_)
        refine AW.cons rfl rfl (sp_st 5 rfl rfl rfl rfl sz_25_2 rfl rfl ?_)
        refine AW.nil ?_
        intro _ S
        refine W.seq (W.region S ?_)
        refine AS.cons (sp_ldw 2 rfl rfl ag_28_9 ?_)
        refine AS.cons (sp_call1 84 [] _ rfl rfl cf_24 (fun F w _ S => seedsG b ha hc da dc hb w (hK.ext S.mod) (hH.ext S.mod) (hD.ext S.mod)) ?_ (by simp))
        rintro v84 i84 ⟨a84, c84, h84, rfl, rfl⟩
        refine AS.cons (sp_move rfl ?_)
        refine AS.cons (sp_ext rfl rfl ?_)
        refine AS.cons (sp_ext rfl rfl ?_)
        refine AS.cons (sp_asg rfl ?_)
        refine AS.cons (sp_asg (v := .int _ _) rfl ?_)
        refine AS.nil ?_
        intro _ S
        refine W.seq (W.region S ?_)
        refine AS.cons (sp_ldw 5 rfl rfl ag_28_9 ?_)
        refine AS.cons (sp_call1 89 [] _ rfl rfl cf_24 (fun F w hF S => seedsT (b := seB b lo hi) hkn.good hm w (hK.ext S.mod) (hH.ext S.mod) (hD.ext S.mod)) ?_ (by simp))
        rintro v89 i89 ⟨a89, c89, h89, rfl, rfl⟩
        refine AS.cons (sp_move rfl ?_)
        refine AS.cons (sp_ext rfl rfl ?_)
        refine AS.cons (sp_ext rfl rfl ?_)
        refine AS.cons (sp_asg rfl ?_)
        refine AS.cons (sp_asg (v := .int _ _) rfl ?_)
        refine AS.nil ?_
        intro _ S
        refine W.seq (W.seq (W.region S ?_))
        refine AS.cons (sp_move (v := .int _ _) rfl ?_)
        refine AS.cons (sp_neq rfl rfl ?_)
        refine AS.cons (sp_move (v := .bool _) rfl ?_)
        refine AS.split 94 rfl (fun g94 => ?_) (fun g94 => ?_)
        · exact absurd g94 (by decide)
        · skip
          refine AS.cons (sp_move (v := .int _ _) rfl ?_)
          refine AS.cons (sp_neq rfl rfl ?_)
          refine AS.cons (sp_pick_f rfl (v := .bool _) rfl ?_)
          refine AS.nil ?_
          intro _ S
          refine W.cond rfl (fun c97 => ?_) (fun c97 => ?_)
          · exact absurd c97 (by decide)
          · skip
            refine W.skip ?_
            refine W.seq (W.seq (W.region S ?_))
            refine AS.cons (sp_asg rfl ?_)
            refine AS.nil ?_
            intro _ S
            refine W.block ?_
            refine W.loopS S [4, 12, 98, 99, 100, 101, 102, 103, 104, 105, 106, 107, 108, 109, 110] [] (fun (j : Nat) => [(12, iv j)]) (fun _ => []) (fun j => j ≤ m.length) (fun j => m.length - j) 0 (by omega) ⟨rfl, trivial⟩ trivial ?_
            rintro j σ M w1 hj S
            refine W.seq (W.seq (W.region S ?_))
            refine AS.cons (sp_move (v := .int _ _) rfl ?_)
            refine AS.cons (sp_move rfl ?_)
            refine AS.cons (sp_len rfl sl_26_3_1 ?_)
            refine AS.cons (sp_lss rfl rfl ?_)
            refine AS.nil ?_
            intro _ S
            refine W.condd rfl (fun c101 => ?_) (fun c101 => ?_)
            · skip
              have hlt : j < m.length := by omega
              obtain ⟨y, hy⟩ := get_some hlt
              have hyl := hsub y (List.mem_of_getElem? hy)
              refine W.skip ?_
              refine W.seq (W.block ?_)
              refine W.seq (W.region S ?_)
              refine AS.cons (sp_move rfl ?_)
              refine AS.cons (sp_move rfl ?_)
              refine AS.cons (sp_move (v := .int _ _) rfl ?_)
              refine AS.cons (sp_iaS 89 rfl rfl rfl sl_26_3_1 (by omega) ?_)
              refine AS.cons (sp_ldS 89 rfl rfl sc_3 (v := iv y) (by simp [hy]) (by omega) ?_)
              refine AS.cons (sp_call [84] rfl rfl cf_41 (fun F w hF S => place a84 c84 (sdL b []) y (by omega) w (S.slc_rd (k := 84) ((hF 84 (by simp)).trans rfl) (by omega))) ?_)
              refine AS.cons (sp_lss rfl rfl ?_)
              refine AS.nil ?_
              intro _ S
              refine W.condd rfl (fun c110 => ?_) (fun c110 => ?_)
              · exact absurd hyl ((ix_lt _ _).1 c110)
              · skip
                refine W.skip ?_
                refine W.region S ?_
                refine AS.cons (sp_move (v := .int _ _) rfl ?_)
                refine AS.cons (sp_add rfl rfl (by first | omega | (simp only [decide_eq_true_eq, decide_eq_false_iff_not] at *; omega)) ?_)
                refine AS.cons (sp_asg (v := .int _ _) rfl ?_)
                refine AS.nil ?_
                intro _ S
                exact ⟨j + 1, _, by omega, by omega, ⟨by simp [upd], trivial⟩, trivial, by repeat (first | exact Agr.refl _ _ | exact Agr.msk _ _ _ | refine Agr.upd ?_ _ rfl | refine Agr.upds ?_ rfl | refine Agr.mskIn ?_ rfl), by repeat (first | exact Agr.refl _ _ | exact Agr.msk _ _ _ | refine Agr.upd ?_ _ rfl | refine Agr.upds ?_ rfl | refine Agr.mskIn ?_ rfl), rfl, S⟩
            · skip
              refine W.exit ?_
              refine W.seq (W.seq (W.region S ?_))
              refine AS.cons (sp_move rfl ?_)
              refine AS.cons (sp_len rfl sl_26_3_1 ?_)
              refine AS.cons (sp_eql rfl rfl ?_)
              refine AS.nil ?_
              intro _ S
              refine W.condd rfl (fun c113 => ?_) (fun c113 => ?_)
              · skip
                refine W.seq (W.region S ?_)
                refine AS.cons (sp_call [] rfl rfl cf_26 (fun F w _ S => drawn w (hK.ext S.mod)) ?_)
                refine AS.cons (sp_asg (v := .bool _) rfl ?_)
                refine AS.nil ?_
                intro _ S
                refine W.ret ?_
                exact ret1 rfl rfl S fun w' S' => ⟨rfl, S'.mod⟩
              · skip
                have hne2 : ¬ m = [] := fun e => c113 (by subst e; rfl)
                have hne1 : ¬ sdL b [] = [] := fun e => by
                  cases hmm : m with
                  | nil => exact hne2 hmm
                  | cons z t => have := hsub z (by rw [hmm]; simp); rw [e] at this; cases this
                refine W.skip ?_
                refine W.seq (W.region S ?_)
                refine AS.cons (sp_iaa rfl rfl ar_67_4_3_1 (by first | omega | (simp only [decide_eq_true_eq, decide_eq_false_iff_not] at *; omega)) ?_)
                refine AS.cons (sp_ld 3 rfl rfl sc_3 rfl ?_)
                refine AS.cons (sp_fa rfl fo_28_1_3 ?_)
                refine AS.cons (sp_ld 2 rfl rfl sc_23 rfl ?_)
                refine AS.cons (sp_len rfl sl_23_75_3 ?_)
                refine AS.cons (sp_call [] rfl rfl cf_39 (fun F w _ S => wheelT hk (by omega) w) ?_)
                refine AS.cons (sp_asg (v := .int _ _) rfl ?_)
                refine AS.nil ?_
                intro _ S
                refine W.seq (W.region S ?_)
                refine AS.cons (sp_ldw 2 rfl rfl ag_28_9 ?_)
                refine AS.cons (sp_move (v := .int _ _) rfl ?_)
                refine AS.cons (sp_call [] rfl rfl cf_27 (fun F w _ S => by have h := paysG b ha hc da dc hb k hkl hne1 w (hK.ext S.mod) (hH.ext S.mod) (hD.ext S.mod); rw [← hp0, ← hp1] at h; exact h) ?_)
                refine AS.cons (sp_move rfl ?_)
                refine AS.cons (sp_ext rfl rfl ?_)
                refine AS.cons (sp_ext rfl rfl ?_)
                refine AS.cons (sp_alloc 14 zv_25 rfl (fun b14 => ?_))
                refine AS.cons (sp_st 14 rfl rfl rfl rfl sz_25_2 rfl rfl ?_)
                refine AS.cons (sp_asg (v := .int _ _) rfl ?_)
                refine AS.nil ?_
                intro _ S
                refine W.seq (W.region S ?_)
                refine AS.cons (sp_ldw 5 rfl rfl ag_28_9 ?_)
                refine AS.cons (sp_move (v := .int _ _) rfl ?_)
                refine AS.cons (sp_call [] rfl rfl cf_27 (fun F w hF S => by have h := paysG (seB b lo hi) ha hc _ _ hkn.good k hkl (by rw [hm]; exact hne2) w (hK.ext S.mod) (hH.ext S.mod) (hD.ext S.mod); rw [← hq0, ← hq1] at h; exact h) ?_)
                refine AS.cons (sp_move rfl ?_)
                refine AS.cons (sp_ext rfl rfl ?_)
                refine AS.cons (sp_ext rfl rfl ?_)
                refine AS.cons (sp_alloc 15 zv_25 rfl (fun b15 => ?_))
                refine AS.cons (sp_st 15 rfl rfl rfl rfl sz_25_2 rfl rfl ?_)
                refine AS.cons (sp_asg (v := .int _ _) rfl ?_)
                refine AS.nil ?_
                intro _ S
                refine W.seq (W.region S ?_)
                refine AS.cons (sp_move (v := .int _ _) rfl ?_)
                refine AS.cons (sp_eql rfl rfl ?_)
                refine AS.cons (sp_move (v := .bool _) rfl ?_)
                refine AS.split 135 rfl (fun g135 => ?_) (fun g135 => ?_)
                · skip
                  refine AS.cons (sp_move (v := .int _ _) rfl ?_)
                  refine AS.cons (sp_eql rfl rfl ?_)
                  refine AS.cons (sp_pick_t rfl (v := .bool _) rfl ?_)
                  refine AS.cons (sp_move (v := .bool _) rfl ?_)
                  refine AS.split 139 rfl (fun g139 => ?_) (fun g139 => ?_)
                  · skip
                    refine AS.cons (sp_ldw 14 rfl rfl ag_25_2 ?_)
                    refine AS.cons (sp_ldw 15 rfl rfl ag_25_2 ?_)
                    refine AS.cons (sp_call [] rfl rfl cf_58 (fun F w _ S => spansF _ _ _ _ w) ?_)
                    refine AS.cons (sp_pick_t rfl (v := .bool _) rfl ?_)
                    refine AS.cons (sp_move (v := .bool _) rfl ?_)
                    refine AS.split 144 rfl (fun g144 => ?_) (fun g144 => ?_)
                    · skip
                      refine AS.cons (sp_call [] rfl rfl cf_26 (fun F w _ S => drawn w (hK.ext S.mod)) ?_)
                      refine AS.cons (sp_pick_t rfl (v := .bool _) rfl ?_)
                      refine AS.cons (sp_asg (v := .bool _) rfl ?_)
                      refine AS.nil ?_
                      intro _ S
                      refine W.ret ?_
                      exact ret1 rfl rfl S fun w' S' => ⟨rfl, S'.mod⟩
                    · exact absurd hpay (of_decide_eq_false g144)
                  · exact absurd g139 (by decide)
                · exact absurd g135 (by decide)
      · exact absurd c64 (by decide)
set_option maxHeartbeats 16000000 in
theorem knowsC (n0 n1 n2 n3 : Int) (hb : Good b) (hw0 : whlV n0 3 = 2) (h8 : b.dr.length < 8) (hdl : (b.dr.length : Int) < allN b) (w : World) (hK : Kinds w) (hH : Hos w ha hc b.hs) (hD : Ints w da dc b.dr) : Ct Tryd.prog 13 #[.agg (sbL b ha hc da dc).toArray, .agg [iv n0, iv n1, iv n2, iv n3].toArray] w (fun u w' => u = .bool true ∧ Ext w w') := by
  refine fn_intro (args := [.agg (sbL b ha hc da dc).toArray, .agg [iv n0, iv n1, iv n2, iv n3].toArray]) Tryd.func13 rfl rfl (by kernel_rfl) ?_
  have S := St.start no w
  have hO := hb.own
  have hn1 := hb.n1
  have hn6 := hb.n6
  have hd8 := hb.d8
  have hl51 := sdL_51 hb []
  obtain ⟨⟨hm1, hm2⟩, hm3, hm4⟩ := hb.mo
  obtain ⟨⟨hs1, hs2⟩, hs3, hs4⟩ := hb.se
  have hwx := whl_bd n1 (k := (b.hs.length : Int)) (by omega)
  obtain ⟨x, hx⟩ : ∃ x, whlV n1 (b.hs.length : Int) = x := ⟨_, rfl⟩
  rw [hx] at hwx
  have hkn := kn_dr hb (x := x) hwx h8 hdl
  have hbl : (b.dr ++ [x]).length ≤ 8 := by rw [List.length_append]; show b.dr.length + 1 ≤ 8; omega
  have hwk := whl_bd n3 (k := (b.hs.length : Int)) (by omega)
  obtain ⟨k, hk⟩ : ∃ k : Nat, whlV n3 (b.hs.length : Int) = (k : Int) := ⟨(whlV n3 (b.hs.length : Int)).toNat, by omega⟩
  have hkl : k < b.hs.length := by omega
  have hpay := hkn.pay k hkl
  obtain ⟨m, hm⟩ : ∃ m, sdL (wd b (b.dr ++ [x])) [] = m := ⟨_, rfl⟩
  have hsub := hkn.sub
  replace hsub : ∀ s ∈ m, s ∈ sdL b [] := by rw [← hm]; exact hsub
  have hml : m.length ≤ 51 := by rw [← hm]; exact sdL_51 hkn.good []
  obtain ⟨p0, hp0⟩ : ∃ p0, p0 = payLo b k := ⟨_, rfl⟩
  obtain ⟨p1, hp1⟩ : ∃ p1, p1 = payHi b k := ⟨_, rfl⟩
  obtain ⟨q0, hq0⟩ : ∃ q0, q0 = payLo (wd b (b.dr ++ [x])) k := ⟨_, rfl⟩
  obtain ⟨q1, hq1⟩ : ∃ q1, q1 = payHi (wd b (b.dr ++ [x])) k := ⟨_, rfl⟩
  replace hpay : p0 ≤ q0 ∧ q1 ≤ p1 := by rw [hp0, hp1, hq0, hq1]; exact hpay
  refine W.seq (W.region S ?_)
  refine AS.cons (sp_boxa 2 rfl (fun b2 => ?_))
  refine AS.cons (sp_boxa 3 rfl (fun b3 => ?_))
  refine AS.cons (sp_asg rfl ?_)
  refine AS.nil ?_
  intro _ S
  refine W.seq (W.seq (W.region S ?_))
  refine AS.cons (sp_ldw 2 rfl rfl ag_28_9 ?_)
  refine AS.cons (sp_call [] rfl rfl cf_35 (fun F w _ S => soundT (okS_good.2 hb) w (hK.ext S.mod) (hH.ext S.mod) (hD.ext S.mod)) ?_)
  refine AS.cons (sp_not rfl ?_)
  refine AS.nil ?_
  intro _ S
  refine W.cond rfl (fun c18 => ?_) (fun c18 => ?_)
  · exact absurd c18 (by decide)
  · skip
    refine W.skip ?_
    refine W.seq (W.region S ?_)
    refine AS.cons (sp_ldw 2 rfl rfl ag_28_9 ?_)
    refine AS.cons (sp_alloc 5 zv_28 rfl (fun b5 => ?_))
    refine AS.cons (sp_st 5 rfl rfl rfl rfl sz_28_9 rfl rfl ?_)
    refine AS.nil ?_
    intro _ S
    refine W.seq (W.seq (W.region S ?_))
    refine AS.cons (sp_iaa rfl rfl ar_67_4_3_1 (by first | omega | (simp only [decide_eq_true_eq, decide_eq_false_iff_not] at *; omega)) ?_)
    refine AS.cons (sp_ld 3 rfl rfl sc_3 rfl ?_)
    refine AS.cons (sp_call [] rfl rfl cf_39 (fun F w _ S => wheelT hw0 (by omega) w) ?_)
    refine AS.nil ?_
    intro _ S
    refine W.block ?_
    refine W.seq (W.region S ?_)
    refine AS.cons (sp_eql rfl rfl ?_)
    refine AS.cons (sp_asg (v := .bool _) rfl ?_)
    refine AS.nil ?_
    intro _ S
    refine W.cond rfl (fun c46 => ?_) (fun c46 => ?_)
    · exact absurd c46 (by decide)
    · skip
      refine W.seq (W.region S ?_)
      refine AS.cons (sp_eql rfl rfl ?_)
      refine AS.cons (sp_asg (v := .bool _) rfl ?_)
      refine AS.nil ?_
      intro _ S
      refine W.cond rfl (fun c64 => ?_) (fun c64 => ?_)
      · exact absurd c64 (by decide)
      · skip
        refine W.seq (W.draw S mixed (fun i => ([KD.q [], KD.q [2], KD.q [], KD.q [], KD.q [], KD.q [], KD.q [2], KD.q [], KD.q [2], KD.e [] [], KD.q [], KD.q []] : List KD)[i]?) [] [0, 1, 2, 3, 4, 5, 6, 7, 8, 9, 10, 11] (by kernel_rfl) ?_)
        refine AW.cons rfl rfl (sp_fa rfl fo_28_4_8 ?_)
        refine AW.cons rfl rfl (sp_ld 2 rfl rfl sc_26 rfl ?_)
        refine AW.cons rfl rfl (sp_len rfl sl_26_3_1 ?_)
        refine AW.cons rfl rfl (sp_lss rfl rfl ?_)
        refine AW.cons rfl rfl (sp_move (v := .bool _) rfl ?_)
        refine AW.split 28 rfl (fun g28 => ?_) (fun g28 => ?_)
        · skip
          refine AW.cons rfl rfl (sp_fa rfl fo_28_4_8 ?_)
          refine AW.cons rfl rfl (sp_ld 2 rfl rfl sc_26 rfl ?_)
          refine AW.cons rfl rfl (sp_len rfl sl_26_3_1 ?_)
          refine AW.cons rfl rfl (sp_ldw 2 rfl rfl ag_28_9 ?_)
          refine AW.cons rfl rfl (sp_call [] rfl rfl cf_44 (fun F w _ S => allLF _ _ _ _ _ (by assumption) w (hH.ext S.mod)) ?_)
          refine AW.cons rfl rfl (sp_lss rfl rfl ?_)
          refine AW.cons rfl rfl (sp_pick_t rfl (v := .bool _) rfl ?_)
          refine AW.nil ?_
          intro _ S
          refine W.cond rfl (fun c35 => ?_) (fun c35 => ?_)
          · skip
            refine W.draw S mixed (fun i => ([KD.q [], KD.q [2], KD.q [], KD.q [3], KD.q [], KD.q [2], KD.q [], KD.e [] [], KD.e [] [44], KD.q [], KD.e [5] [5]] : List KD)[i]?) [] [0, 1, 2, 3, 4, 5, 6, 7, 8, 9, 10] (by kernel_rfl) ?_
            refine AW.cons rfl rfl (sp_fa rfl fo_28_4_8 ?_)
            refine AW.cons rfl rfl (sp_ld 2 rfl rfl sc_26 rfl ?_)
            refine AW.cons rfl rfl (sp_iaa rfl rfl ar_67_4_3_1 (by first | omega | (simp only [decide_eq_true_eq, decide_eq_false_iff_not] at *; omega)) ?_)
            refine AW.cons rfl rfl (sp_ld 3 rfl rfl sc_3 rfl ?_)
            refine AW.cons rfl rfl (sp_fa rfl fo_28_1_3 ?_)
            refine AW.cons rfl rfl (sp_ld 2 rfl rfl sc_23 rfl ?_)
            refine AW.cons rfl rfl (sp_len rfl sl_23_75_3 ?_)
            refine AW.cons rfl rfl (sp_call [] rfl rfl cf_39 (fun F w _ S => wheelT hx (by omega) w) ?_)
            refine AW.cons rfl rfl (sp_call1 44 [] _ rfl rfl cf_57 (fun F w _ S => andF da dc b.dr x (by omega) w (hD.ext S.mod)) ?_ (fun _ => LsR.ne _))
            rintro v44 i44 ⟨⟨a44, c44, rfl, h44⟩, rfl⟩
            refine AW.cons rfl rfl (sp_fa rfl fo_28_4_8 ?_)
            refine AW.cons rfl rfl (sp_st 5 rfl rfl rfl rfl sz_26_1 rfl rfl ?_)
            refine AW.nil ?_
            intro _ S
            refine W.seq (W.region S ?_)
            refine AS.cons (sp_ldw 2 rfl rfl ag_28_9 ?_)
            refine AS.cons (sp_call1 84 [] _ rfl rfl cf_24 (fun F w _ S => seedsG b ha hc da dc hb w (hK.ext S.mod) (hH.ext S.mod) (hD.ext S.mod)) ?_ (by simp))
            rintro v84 i84 ⟨a84, c84, h84, rfl, rfl⟩
            refine AS.cons (sp_move rfl ?_)
            refine AS.cons (sp_ext rfl rfl ?_)
            refine AS.cons (sp_ext rfl rfl ?_)
            refine AS.cons (sp_asg rfl ?_)
            refine AS.cons (sp_asg (v := .int _ _) rfl ?_)
            refine AS.nil ?_
            intro _ S
            refine W.seq (W.region S ?_)
            refine AS.cons (sp_ldw 5 rfl rfl ag_28_9 ?_)
            refine AS.cons (sp_call1 89 [44] _ rfl rfl cf_24 (fun F w hF S => seedsT (b := wd b (b.dr ++ [x])) hkn.good hm w (hK.ext S.mod) (hH.ext S.mod) (S.slc_rd (k := 44) ((hF 44 (by simp)).trans rfl) (Nat.le_trans hbl (by decide)))) ?_ (by simp))
            rintro v89 i89 ⟨a89, c89, h89, rfl, rfl⟩
            refine AS.cons (sp_move rfl ?_)
            refine AS.cons (sp_ext rfl rfl ?_)
            refine AS.cons (sp_ext rfl rfl ?_)
            refine AS.cons (sp_asg rfl ?_)
            refine AS.cons (sp_asg (v := .int _ _) rfl ?_)
            refine AS.nil ?_
            intro _ S
            refine W.seq (W.seq (W.region S ?_))
            refine AS.cons (sp_move (v := .int _ _) rfl ?_)
            refine AS.cons (sp_neq rfl rfl ?_)
            refine AS.cons (sp_move (v := .bool _) rfl ?_)
            refine AS.split 94 rfl (fun g94 => ?_) (fun g94 => ?_)
            · exact absurd g94 (by decide)
            · skip
              refine AS.cons (sp_move (v := .int _ _) rfl ?_)
              refine AS.cons (sp_neq rfl rfl ?_)
              refine AS.cons (sp_pick_f rfl (v := .bool _) rfl ?_)
              refine AS.nil ?_
              intro _ S
              refine W.cond rfl (fun c97 => ?_) (fun c97 => ?_)
              · exact absurd c97 (by decide)
              · skip
                refine W.skip ?_
                refine W.seq (W.seq (W.region S ?_))
                refine AS.cons (sp_asg rfl ?_)
                refine AS.nil ?_
                intro _ S
                refine W.block ?_
                refine W.loopS S [4, 12, 98, 99, 100, 101, 102, 103, 104, 105, 106, 107, 108, 109, 110] [] (fun (j : Nat) => [(12, iv j)]) (fun _ => []) (fun j => j ≤ m.length) (fun j => m.length - j) 0 (by omega) ⟨rfl, trivial⟩ trivial ?_
                rintro j σ M w1 hj S
                refine W.seq (W.seq (W.region S ?_))
                refine AS.cons (sp_move (v := .int _ _) rfl ?_)
                refine AS.cons (sp_move rfl ?_)
                refine AS.cons (sp_len rfl sl_26_3_1 ?_)
                refine AS.cons (sp_lss rfl rfl ?_)
                refine AS.nil ?_
                intro _ S
                refine W.condd rfl (fun c101 => ?_) (fun c101 => ?_)
                · skip
                  have hlt : j < m.length := by omega
                  obtain ⟨y, hy⟩ := get_some hlt
                  have hyl := hsub y (List.mem_of_getElem? hy)
                  refine W.skip ?_
                  refine W.seq (W.block ?_)
                  refine W.seq (W.region S ?_)
                  refine AS.cons (sp_move rfl ?_)
                  refine AS.cons (sp_move rfl ?_)
                  refine AS.cons (sp_move (v := .int _ _) rfl ?_)
                  refine AS.cons (sp_iaS 89 rfl rfl rfl sl_26_3_1 (by omega) ?_)
                  refine AS.cons (sp_ldS 89 rfl rfl sc_3 (v := iv y) (by simp [hy]) (by omega) ?_)
                  refine AS.cons (sp_call [84] rfl rfl cf_41 (fun F w hF S => place a84 c84 (sdL b []) y (by omega) w (S.slc_rd (k := 84) ((hF 84 (by simp)).trans rfl) (by omega))) ?_)
                  refine AS.cons (sp_lss rfl rfl ?_)
                  refine AS.nil ?_
                  intro _ S
                  refine W.condd rfl (fun c110 => ?_) (fun c110 => ?_)
                  · exact absurd hyl ((ix_lt _ _).1 c110)
                  · skip
                    refine W.skip ?_
                    refine W.region S ?_
                    refine AS.cons (sp_move (v := .int _ _) rfl ?_)
                    refine AS.cons (sp_add rfl rfl (by first | omega | (simp only [decide_eq_true_eq, decide_eq_false_iff_not] at *; omega)) ?_)
                    refine AS.cons (sp_asg (v := .int _ _) rfl ?_)
                    refine AS.nil ?_
                    intro _ S
                    exact ⟨j + 1, _, by omega, by omega, ⟨by simp [upd], trivial⟩, trivial, by repeat (first | exact Agr.refl _ _ | exact Agr.msk _ _ _ | refine Agr.upd ?_ _ rfl | refine Agr.upds ?_ rfl | refine Agr.mskIn ?_ rfl), by repeat (first | exact Agr.refl _ _ | exact Agr.msk _ _ _ | refine Agr.upd ?_ _ rfl | refine Agr.upds ?_ rfl | refine Agr.mskIn ?_ rfl), rfl, S⟩
                · skip
                  refine W.exit ?_
                  refine W.seq (W.seq (W.region S ?_))
                  refine AS.cons (sp_move rfl ?_)
                  refine AS.cons (sp_len rfl sl_26_3_1 ?_)
                  refine AS.cons (sp_eql rfl rfl ?_)
                  refine AS.nil ?_
                  intro _ S
                  refine W.condd rfl (fun c113 => ?_) (fun c113 => ?_)
                  · skip
                    refine W.seq (W.region S ?_)
                    refine AS.cons (sp_call [] rfl rfl cf_26 (fun F w _ S => drawn w (hK.ext S.mod)) ?_)
                    refine AS.cons (sp_asg (v := .bool _) rfl ?_)
                    refine AS.nil ?_
                    intro _ S
                    refine W.ret ?_
                    exact ret1 rfl rfl S fun w' S' => ⟨rfl, S'.mod⟩
                  · skip
                    have hne2 : ¬ m = [] := fun e => c113 (by subst e; rfl)
                    have hne1 : ¬ sdL b [] = [] := fun e => by
                      cases hmm : m with
                      | nil => exact hne2 hmm
                      | cons z t => have := hsub z (by rw [hmm]; simp); rw [e] at this; cases this
                    refine W.skip ?_
                    refine W.seq (W.region S ?_)
                    refine AS.cons (sp_iaa rfl rfl ar_67_4_3_1 (by first | omega | (simp only [decide_eq_true_eq, decide_eq_false_iff_not] at *; omega)) ?_)
                    refine AS.cons (sp_ld 3 rfl rfl sc_3 rfl ?_)
                    refine AS.cons (sp_fa rfl fo_28_1_3 ?_)
                    refine AS.cons (sp_ld 2 rfl rfl sc_23 rfl ?_)
                    refine AS.cons (sp_len rfl sl_23_75_3 ?_)
                    refine AS.cons (sp_call [] rfl rfl cf_39 (fun F w _ S => wheelT hk (by omega) w) ?_)
                    refine AS.cons (sp_asg (v := .int _ _) rfl ?_)
                    refine AS.nil ?_
                    intro _ S
                    refine W.seq (W.region S ?_)
                    refine AS.cons (sp_ldw 2 rfl rfl ag_28_9 ?_)
                    refine AS.cons (sp_move (v := .int _ _) rfl ?_)
                    refine AS.cons (sp_call [] rfl rfl cf_27 (fun F w _ S => by have h := paysG b ha hc da dc hb k hkl hne1 w (hK.ext S.mod) (hH.ext S.mod) (hD.ext S.mod); rw [← hp0, ← hp1] at h; exact h) ?_)
                    refine AS.cons (sp_move rfl ?_)
                    refine AS.cons (sp_ext rfl rfl ?_)
                    refine AS.cons (sp_ext rfl rfl ?_)
                    refine AS.cons (sp_alloc 14 zv_25 rfl (fun b14 => ?_))
                    refine AS.cons (sp_st 14 rfl rfl rfl rfl sz_25_2 rfl rfl ?_)
                    refine AS.cons (sp_asg (v := .int _ _) rfl ?_)
                    refine AS.nil ?_
                    intro _ S
                    refine W.seq (W.region S ?_)
                    refine AS.cons (sp_ldw 5 rfl rfl ag_28_9 ?_)
                    refine AS.cons (sp_move (v := .int _ _) rfl ?_)
                    refine AS.cons (sp_call [44] rfl rfl cf_27 (fun F w hF S => by have h := paysG (wd b (b.dr ++ [x])) ha hc _ _ hkn.good k hkl (by rw [hm]; exact hne2) w (hK.ext S.mod) (hH.ext S.mod) (S.slc_rd (k := 44) ((hF 44 (by simp)).trans rfl) (Nat.le_trans hbl (by decide))); rw [← hq0, ← hq1] at h; exact h) ?_)
                    refine AS.cons (sp_move rfl ?_)
                    refine AS.cons (sp_ext rfl rfl ?_)
                    refine AS.cons (sp_ext rfl rfl ?_)
                    refine AS.cons (sp_alloc 15 zv_25 rfl (fun b15 => ?_))
                    refine AS.cons (sp_st 15 rfl rfl rfl rfl sz_25_2 rfl rfl ?_)
                    refine AS.cons (sp_asg (v := .int _ _) rfl ?_)
                    refine AS.nil ?_
                    intro _ S
                    refine W.seq (W.region S ?_)
                    refine AS.cons (sp_move (v := .int _ _) rfl ?_)
                    refine AS.cons (sp_eql rfl rfl ?_)
                    refine AS.cons (sp_move (v := .bool _) rfl ?_)
                    refine AS.split 135 rfl (fun g135 => ?_) (fun g135 => ?_)
                    · skip
                      refine AS.cons (sp_move (v := .int _ _) rfl ?_)
                      refine AS.cons (sp_eql rfl rfl ?_)
                      refine AS.cons (sp_pick_t rfl (v := .bool _) rfl ?_)
                      refine AS.cons (sp_move (v := .bool _) rfl ?_)
                      refine AS.split 139 rfl (fun g139 => ?_) (fun g139 => ?_)
                      · skip
                        refine AS.cons (sp_ldw 14 rfl rfl ag_25_2 ?_)
                        refine AS.cons (sp_ldw 15 rfl rfl ag_25_2 ?_)
                        refine AS.cons (sp_call [] rfl rfl cf_58 (fun F w _ S => spansF _ _ _ _ w) ?_)
                        refine AS.cons (sp_pick_t rfl (v := .bool _) rfl ?_)
                        refine AS.cons (sp_move (v := .bool _) rfl ?_)
                        refine AS.split 144 rfl (fun g144 => ?_) (fun g144 => ?_)
                        · skip
                          refine AS.cons (sp_call [] rfl rfl cf_26 (fun F w _ S => drawn w (hK.ext S.mod)) ?_)
                          refine AS.cons (sp_pick_t rfl (v := .bool _) rfl ?_)
                          refine AS.cons (sp_asg (v := .bool _) rfl ?_)
                          refine AS.nil ?_
                          intro _ S
                          refine W.ret ?_
                          exact ret1 rfl rfl S fun w' S' => ⟨rfl, S'.mod⟩
                        · exact absurd hpay (of_decide_eq_false g144)
                      · exact absurd g139 (by decide)
                    · exact absurd g135 (by decide)
          · exact absurd hdl (of_decide_eq_false c35)
        · exact absurd (by omega) (of_decide_eq_false g28)
set_option maxHeartbeats 16000000 in
theorem knowsD (n0 n1 n2 n3 : Int) (hb : Good b) (hw0 : whlV n0 3 = 2) (hno : ¬ (b.dr.length < 8 ∧ (b.dr.length : Int) < allN b)) (w : World) (hK : Kinds w) (hH : Hos w ha hc b.hs) (hD : Ints w da dc b.dr) : Ct Tryd.prog 13 #[.agg (sbL b ha hc da dc).toArray, .agg [iv n0, iv n1, iv n2, iv n3].toArray] w (fun u w' => u = .bool true ∧ Ext w w') := by
  refine fn_intro (args := [.agg (sbL b ha hc da dc).toArray, .agg [iv n0, iv n1, iv n2, iv n3].toArray]) Tryd.func13 rfl rfl (by kernel_rfl) ?_
  have S := St.start no w
  have hO := hb.own
  have hn1 := hb.n1
  have hn6 := hb.n6
  have hd8 := hb.d8
  have hl51 := sdL_51 hb []
  obtain ⟨⟨hm1, hm2⟩, hm3, hm4⟩ := hb.mo
  obtain ⟨⟨hs1, hs2⟩, hs3, hs4⟩ := hb.se
  have hkn := kn_no hb
  have hwk := whl_bd n3 (k := (b.hs.length : Int)) (by omega)
  obtain ⟨k, hk⟩ : ∃ k : Nat, whlV n3 (b.hs.length : Int) = (k : Int) := ⟨(whlV n3 (b.hs.length : Int)).toNat, by omega⟩
  have hkl : k < b.hs.length := by omega
  have hpay := hkn.pay k hkl
  obtain ⟨m, hm⟩ : ∃ m, sdL (b) [] = m := ⟨_, rfl⟩
  have hsub := hkn.sub
  replace hsub : ∀ s ∈ m, s ∈ sdL b [] := by rw [← hm]; exact hsub
  have hml : m.length ≤ 51 := by rw [← hm]; exact sdL_51 hkn.good []
  obtain ⟨p0, hp0⟩ : ∃ p0, p0 = payLo b k := ⟨_, rfl⟩
  obtain ⟨p1, hp1⟩ : ∃ p1, p1 = payHi b k := ⟨_, rfl⟩
  obtain ⟨q0, hq0⟩ : ∃ q0, q0 = payLo (b) k := ⟨_, rfl⟩
  obtain ⟨q1, hq1⟩ : ∃ q1, q1 = payHi (b) k := ⟨_, rfl⟩
  replace hpay : p0 ≤ q0 ∧ q1 ≤ p1 := by rw [hp0, hp1, hq0, hq1]; exact hpay
  refine W.seq (W.region S ?_)
  refine AS.cons (sp_boxa 2 rfl (fun b2 => ?_))
  refine AS.cons (sp_boxa 3 rfl (fun b3 => ?_))
  refine AS.cons (sp_asg rfl ?_)
  refine AS.nil ?_
  intro _ S
  refine W.seq (W.seq (W.region S ?_))
  refine AS.cons (sp_ldw 2 rfl rfl ag_28_9 ?_)
  refine AS.cons (sp_call [] rfl rfl cf_35 (fun F w _ S => soundT (okS_good.2 hb) w (hK.ext S.mod) (hH.ext S.mod) (hD.ext S.mod)) ?_)
  refine AS.cons (sp_not rfl ?_)
  refine AS.nil ?_
  intro _ S
  refine W.cond rfl (fun c18 => ?_) (fun c18 => ?_)
  · exact absurd c18 (by decide)
  · skip
    refine W.skip ?_
    refine W.seq (W.region S ?_)
    refine AS.cons (sp_ldw 2 rfl rfl ag_28_9 ?_)
    refine AS.cons (sp_alloc 5 zv_28 rfl (fun b5 => ?_))
    refine AS.cons (sp_st 5 rfl rfl rfl rfl sz_28_9 rfl rfl ?_)
    refine AS.nil ?_
    intro _ S
    refine W.seq (W.seq (W.region S ?_))
    refine AS.cons (sp_iaa rfl rfl ar_67_4_3_1 (by first | omega | (simp only [decide_eq_true_eq, decide_eq_false_iff_not] at *; omega)) ?_)
    refine AS.cons (sp_ld 3 rfl rfl sc_3 rfl ?_)
    refine AS.cons (sp_call [] rfl rfl cf_39 (fun F w _ S => wheelT hw0 (by omega) w) ?_)
    refine AS.nil ?_
    intro _ S
    refine W.block ?_
    refine W.seq (W.region S ?_)
    refine AS.cons (sp_eql rfl rfl ?_)
    refine AS.cons (sp_asg (v := .bool _) rfl ?_)
    refine AS.nil ?_
    intro _ S
    refine W.cond rfl (fun c46 => ?_) (fun c46 => ?_)
    · exact absurd c46 (by decide)
    · skip
      refine W.seq (W.region S ?_)
      refine AS.cons (sp_eql rfl rfl ?_)
      refine AS.cons (sp_asg (v := .bool _) rfl ?_)
      refine AS.nil ?_
      intro _ S
      refine W.cond rfl (fun c64 => ?_) (fun c64 => ?_)
      · exact absurd c64 (by decide)
      · skip
        refine W.seq (W.draw S mixed (fun i => ([KD.q [], KD.q [2], KD.q [], KD.q [], KD.q [], KD.q [], KD.q [2], KD.q [], KD.q [2], KD.e [] [], KD.q [], KD.q []] : List KD)[i]?) [] [0, 1, 2, 3, 4, 5, 6, 7, 8, 9, 10, 11] (by kernel_rfl) ?_)
        refine AW.cons rfl rfl (sp_fa rfl fo_28_4_8 ?_)
        refine AW.cons rfl rfl (sp_ld 2 rfl rfl sc_26 rfl ?_)
        refine AW.cons rfl rfl (sp_len rfl sl_26_3_1 ?_)
        refine AW.cons rfl rfl (sp_lss rfl rfl ?_)
        refine AW.cons rfl rfl (sp_move (v := .bool _) rfl ?_)
        refine AW.split 28 rfl (fun g28 => ?_) (fun g28 => ?_)
        · skip
          refine AW.cons rfl rfl (sp_fa rfl fo_28_4_8 ?_)
          refine AW.cons rfl rfl (sp_ld 2 rfl rfl sc_26 rfl ?_)
          refine AW.cons rfl rfl (sp_len rfl sl_26_3_1 ?_)
          refine AW.cons rfl rfl (sp_ldw 2 rfl rfl ag_28_9 ?_)
          refine AW.cons rfl rfl (sp_call [] rfl rfl cf_44 (fun F w _ S => allLF _ _ _ _ _ (by assumption) w (hH.ext S.mod)) ?_)
          refine AW.cons rfl rfl (sp_lss rfl rfl ?_)
          refine AW.cons rfl rfl (sp_pick_t rfl (v := .bool _) rfl ?_)
          refine AW.nil ?_
          intro _ S
          refine W.cond rfl (fun c35 => ?_) (fun c35 => ?_)
          · exact absurd ⟨by have := of_decide_eq_true g28; omega, of_decide_eq_true c35⟩ hno
          · skip
            refine W.skip ?_
            refine W.seq (W.region S ?_)
            refine AS.cons (sp_ldw 2 rfl rfl ag_28_9 ?_)
            refine AS.cons (sp_call1 84 [] _ rfl rfl cf_24 (fun F w _ S => seedsG b ha hc da dc hb w (hK.ext S.mod) (hH.ext S.mod) (hD.ext S.mod)) ?_ (by simp))
            rintro v84 i84 ⟨a84, c84, h84, rfl, rfl⟩
            refine AS.cons (sp_move rfl ?_)
            refine AS.cons (sp_ext rfl rfl ?_)
            refine AS.cons (sp_ext rfl rfl ?_)
            refine AS.cons (sp_asg rfl ?_)
            refine AS.cons (sp_asg (v := .int _ _) rfl ?_)
            refine AS.nil ?_
            intro _ S
            refine W.seq (W.region S ?_)
            refine AS.cons (sp_ldw 5 rfl rfl ag_28_9 ?_)
            refine AS.cons (sp_call1 89 [] _ rfl rfl cf_24 (fun F w hF S => seedsT (b := b) hkn.good hm w (hK.ext S.mod) (hH.ext S.mod) (hD.ext S.mod)) ?_ (by simp))
            rintro v89 i89 ⟨a89, c89, h89, rfl, rfl⟩
            refine AS.cons (sp_move rfl ?_)
            refine AS.cons (sp_ext rfl rfl ?_)
            refine AS.cons (sp_ext rfl rfl ?_)
            refine AS.cons (sp_asg rfl ?_)
            refine AS.cons (sp_asg (v := .int _ _) rfl ?_)
            refine AS.nil ?_
            intro _ S
            refine W.seq (W.seq (W.region S ?_))
            refine AS.cons (sp_move (v := .int _ _) rfl ?_)
            refine AS.cons (sp_neq rfl rfl ?_)
            refine AS.cons (sp_move (v := .bool _) rfl ?_)
            refine AS.split 94 rfl (fun g94 => ?_) (fun g94 => ?_)
            · exact absurd g94 (by decide)
            · skip
              refine AS.cons (sp_move (v := .int _ _) rfl ?_)
              refine AS.cons (sp_neq rfl rfl ?_)
              refine AS.cons (sp_pick_f rfl (v := .bool _) rfl ?_)
              refine AS.nil ?_
              intro _ S
              refine W.cond rfl (fun c97 => ?_) (fun c97 => ?_)
              · exact absurd c97 (by decide)
              · skip
                refine W.skip ?_
                refine W.seq (W.seq (W.region S ?_))
                refine AS.cons (sp_asg rfl ?_)
                refine AS.nil ?_
                intro _ S
                refine W.block ?_
                refine W.loopS S [4, 12, 98, 99, 100, 101, 102, 103, 104, 105, 106, 107, 108, 109, 110] [] (fun (j : Nat) => [(12, iv j)]) (fun _ => []) (fun j => j ≤ m.length) (fun j => m.length - j) 0 (by omega) ⟨rfl, trivial⟩ trivial ?_
                rintro j σ M w1 hj S
                refine W.seq (W.seq (W.region S ?_))
                refine AS.cons (sp_move (v := .int _ _) rfl ?_)
                refine AS.cons (sp_move rfl ?_)
                refine AS.cons (sp_len rfl sl_26_3_1 ?_)
                refine AS.cons (sp_lss rfl rfl ?_)
                refine AS.nil ?_
                intro _ S
                refine W.condd rfl (fun c101 => ?_) (fun c101 => ?_)
                · skip
                  have hlt : j < m.length := by omega
                  obtain ⟨y, hy⟩ := get_some hlt
                  have hyl := hsub y (List.mem_of_getElem? hy)
                  refine W.skip ?_
                  refine W.seq (W.block ?_)
                  refine W.seq (W.region S ?_)
                  refine AS.cons (sp_move rfl ?_)
                  refine AS.cons (sp_move rfl ?_)
                  refine AS.cons (sp_move (v := .int _ _) rfl ?_)
                  refine AS.cons (sp_iaS 89 rfl rfl rfl sl_26_3_1 (by omega) ?_)
                  refine AS.cons (sp_ldS 89 rfl rfl sc_3 (v := iv y) (by simp [hy]) (by omega) ?_)
                  refine AS.cons (sp_call [84] rfl rfl cf_41 (fun F w hF S => place a84 c84 (sdL b []) y (by omega) w (S.slc_rd (k := 84) ((hF 84 (by simp)).trans rfl) (by omega))) ?_)
                  refine AS.cons (sp_lss rfl rfl ?_)
                  refine AS.nil ?_
                  intro _ S
                  refine W.condd rfl (fun c110 => ?_) (fun c110 => ?_)
                  · exact absurd hyl ((ix_lt _ _).1 c110)
                  · skip
                    refine W.skip ?_
                    refine W.region S ?_
                    refine AS.cons (sp_move (v := .int _ _) rfl ?_)
                    refine AS.cons (sp_add rfl rfl (by first | omega | (simp only [decide_eq_true_eq, decide_eq_false_iff_not] at *; omega)) ?_)
                    refine AS.cons (sp_asg (v := .int _ _) rfl ?_)
                    refine AS.nil ?_
                    intro _ S
                    exact ⟨j + 1, _, by omega, by omega, ⟨by simp [upd], trivial⟩, trivial, by repeat (first | exact Agr.refl _ _ | exact Agr.msk _ _ _ | refine Agr.upd ?_ _ rfl | refine Agr.upds ?_ rfl | refine Agr.mskIn ?_ rfl), by repeat (first | exact Agr.refl _ _ | exact Agr.msk _ _ _ | refine Agr.upd ?_ _ rfl | refine Agr.upds ?_ rfl | refine Agr.mskIn ?_ rfl), rfl, S⟩
                · skip
                  refine W.exit ?_
                  refine W.seq (W.seq (W.region S ?_))
                  refine AS.cons (sp_move rfl ?_)
                  refine AS.cons (sp_len rfl sl_26_3_1 ?_)
                  refine AS.cons (sp_eql rfl rfl ?_)
                  refine AS.nil ?_
                  intro _ S
                  refine W.condd rfl (fun c113 => ?_) (fun c113 => ?_)
                  · skip
                    refine W.seq (W.region S ?_)
                    refine AS.cons (sp_call [] rfl rfl cf_26 (fun F w _ S => drawn w (hK.ext S.mod)) ?_)
                    refine AS.cons (sp_asg (v := .bool _) rfl ?_)
                    refine AS.nil ?_
                    intro _ S
                    refine W.ret ?_
                    exact ret1 rfl rfl S fun w' S' => ⟨rfl, S'.mod⟩
                  · skip
                    have hne2 : ¬ m = [] := fun e => c113 (by subst e; rfl)
                    have hne1 : ¬ sdL b [] = [] := fun e => by
                      cases hmm : m with
                      | nil => exact hne2 hmm
                      | cons z t => have := hsub z (by rw [hmm]; simp); rw [e] at this; cases this
                    refine W.skip ?_
                    refine W.seq (W.region S ?_)
                    refine AS.cons (sp_iaa rfl rfl ar_67_4_3_1 (by first | omega | (simp only [decide_eq_true_eq, decide_eq_false_iff_not] at *; omega)) ?_)
                    refine AS.cons (sp_ld 3 rfl rfl sc_3 rfl ?_)
                    refine AS.cons (sp_fa rfl fo_28_1_3 ?_)
                    refine AS.cons (sp_ld 2 rfl rfl sc_23 rfl ?_)
                    refine AS.cons (sp_len rfl sl_23_75_3 ?_)
                    refine AS.cons (sp_call [] rfl rfl cf_39 (fun F w _ S => wheelT hk (by omega) w) ?_)
                    refine AS.cons (sp_asg (v := .int _ _) rfl ?_)
                    refine AS.nil ?_
                    intro _ S
                    refine W.seq (W.region S ?_)
                    refine AS.cons (sp_ldw 2 rfl rfl ag_28_9 ?_)
                    refine AS.cons (sp_move (v := .int _ _) rfl ?_)
                    refine AS.cons (sp_call [] rfl rfl cf_27 (fun F w _ S => by have h := paysG b ha hc da dc hb k hkl hne1 w (hK.ext S.mod) (hH.ext S.mod) (hD.ext S.mod); rw [← hp0, ← hp1] at h; exact h) ?_)
                    refine AS.cons (sp_move rfl ?_)
                    refine AS.cons (sp_ext rfl rfl ?_)
                    refine AS.cons (sp_ext rfl rfl ?_)
                    refine AS.cons (sp_alloc 14 zv_25 rfl (fun b14 => ?_))
                    refine AS.cons (sp_st 14 rfl rfl rfl rfl sz_25_2 rfl rfl ?_)
                    refine AS.cons (sp_asg (v := .int _ _) rfl ?_)
                    refine AS.nil ?_
                    intro _ S
                    refine W.seq (W.region S ?_)
                    refine AS.cons (sp_ldw 5 rfl rfl ag_28_9 ?_)
                    refine AS.cons (sp_move (v := .int _ _) rfl ?_)
                    refine AS.cons (sp_call [] rfl rfl cf_27 (fun F w hF S => by have h := paysG (b) ha hc _ _ hkn.good k hkl (by rw [hm]; exact hne2) w (hK.ext S.mod) (hH.ext S.mod) (hD.ext S.mod); rw [← hq0, ← hq1] at h; exact h) ?_)
                    refine AS.cons (sp_move rfl ?_)
                    refine AS.cons (sp_ext rfl rfl ?_)
                    refine AS.cons (sp_ext rfl rfl ?_)
                    refine AS.cons (sp_alloc 15 zv_25 rfl (fun b15 => ?_))
                    refine AS.cons (sp_st 15 rfl rfl rfl rfl sz_25_2 rfl rfl ?_)
                    refine AS.cons (sp_asg (v := .int _ _) rfl ?_)
                    refine AS.nil ?_
                    intro _ S
                    refine W.seq (W.region S ?_)
                    refine AS.cons (sp_move (v := .int _ _) rfl ?_)
                    refine AS.cons (sp_eql rfl rfl ?_)
                    refine AS.cons (sp_move (v := .bool _) rfl ?_)
                    refine AS.split 135 rfl (fun g135 => ?_) (fun g135 => ?_)
                    · skip
                      refine AS.cons (sp_move (v := .int _ _) rfl ?_)
                      refine AS.cons (sp_eql rfl rfl ?_)
                      refine AS.cons (sp_pick_t rfl (v := .bool _) rfl ?_)
                      refine AS.cons (sp_move (v := .bool _) rfl ?_)
                      refine AS.split 139 rfl (fun g139 => ?_) (fun g139 => ?_)
                      · skip
                        refine AS.cons (sp_ldw 14 rfl rfl ag_25_2 ?_)
                        refine AS.cons (sp_ldw 15 rfl rfl ag_25_2 ?_)
                        refine AS.cons (sp_call [] rfl rfl cf_58 (fun F w _ S => spansF _ _ _ _ w) ?_)
                        refine AS.cons (sp_pick_t rfl (v := .bool _) rfl ?_)
                        refine AS.cons (sp_move (v := .bool _) rfl ?_)
                        refine AS.split 144 rfl (fun g144 => ?_) (fun g144 => ?_)
                        · skip
                          refine AS.cons (sp_call [] rfl rfl cf_26 (fun F w _ S => drawn w (hK.ext S.mod)) ?_)
                          refine AS.cons (sp_pick_t rfl (v := .bool _) rfl ?_)
                          refine AS.cons (sp_asg (v := .bool _) rfl ?_)
                          refine AS.nil ?_
                          intro _ S
                          refine W.ret ?_
                          exact ret1 rfl rfl S fun w' S' => ⟨rfl, S'.mod⟩
                        · exact absurd hpay (of_decide_eq_false g144)
                      · exact absurd g139 (by decide)
                    · exact absurd g135 (by decide)
        · skip
          refine AW.cons rfl rfl (sp_skip rfl ?_)
          refine AW.cons rfl rfl (sp_skip rfl ?_)
          refine AW.cons rfl rfl (sp_skip rfl ?_)
          refine AW.cons rfl rfl (sp_skip rfl ?_)
          refine AW.cons rfl rfl (sp_skip rfl ?_)
          refine AW.cons rfl rfl (sp_skip rfl ?_)
          refine AW.cons rfl rfl (sp_pick_f rfl (v := .bool _) rfl ?_)
          refine AW.nil ?_
          intro _ S
          refine W.cond (b := false) rfl (fun h => nomatch h) (fun _ => ?_)
          refine W.skip ?_
          refine W.seq (W.region S ?_)
          refine AS.cons (sp_ldw 2 rfl rfl ag_28_9 ?_)
          refine AS.cons (sp_call1 84 [] _ rfl rfl cf_24 (fun F w _ S => seedsG b ha hc da dc hb w (hK.ext S.mod) (hH.ext S.mod) (hD.ext S.mod)) ?_ (by simp))
          rintro v84 i84 ⟨a84, c84, h84, rfl, rfl⟩
          refine AS.cons (sp_move rfl ?_)
          refine AS.cons (sp_ext rfl rfl ?_)
          refine AS.cons (sp_ext rfl rfl ?_)
          refine AS.cons (sp_asg rfl ?_)
          refine AS.cons (sp_asg (v := .int _ _) rfl ?_)
          refine AS.nil ?_
          intro _ S
          refine W.seq (W.region S ?_)
          refine AS.cons (sp_ldw 5 rfl rfl ag_28_9 ?_)
          refine AS.cons (sp_call1 89 [] _ rfl rfl cf_24 (fun F w hF S => seedsT (b := b) hkn.good hm w (hK.ext S.mod) (hH.ext S.mod) (hD.ext S.mod)) ?_ (by simp))
          rintro v89 i89 ⟨a89, c89, h89, rfl, rfl⟩
          refine AS.cons (sp_move rfl ?_)
          refine AS.cons (sp_ext rfl rfl ?_)
          refine AS.cons (sp_ext rfl rfl ?_)
          refine AS.cons (sp_asg rfl ?_)
          refine AS.cons (sp_asg (v := .int _ _) rfl ?_)
          refine AS.nil ?_
          intro _ S
          refine W.seq (W.seq (W.region S ?_))
          refine AS.cons (sp_move (v := .int _ _) rfl ?_)
          refine AS.cons (sp_neq rfl rfl ?_)
          refine AS.cons (sp_move (v := .bool _) rfl ?_)
          refine AS.split 94 rfl (fun g94 => ?_) (fun g94 => ?_)
          · exact absurd g94 (by decide)
          · skip
            refine AS.cons (sp_move (v := .int _ _) rfl ?_)
            refine AS.cons (sp_neq rfl rfl ?_)
            refine AS.cons (sp_pick_f rfl (v := .bool _) rfl ?_)
            refine AS.nil ?_
            intro _ S
            refine W.cond rfl (fun c97 => ?_) (fun c97 => ?_)
            · exact absurd c97 (by decide)
            · skip
              refine W.skip ?_
              refine W.seq (W.seq (W.region S ?_))
              refine AS.cons (sp_asg rfl ?_)
              refine AS.nil ?_
              intro _ S
              refine W.block ?_
              refine W.loopS S [4, 12, 98, 99, 100, 101, 102, 103, 104, 105, 106, 107, 108, 109, 110] [] (fun (j : Nat) => [(12, iv j)]) (fun _ => []) (fun j => j ≤ m.length) (fun j => m.length - j) 0 (by omega) ⟨rfl, trivial⟩ trivial ?_
              rintro j σ M w1 hj S
              refine W.seq (W.seq (W.region S ?_))
              refine AS.cons (sp_move (v := .int _ _) rfl ?_)
              refine AS.cons (sp_move rfl ?_)
              refine AS.cons (sp_len rfl sl_26_3_1 ?_)
              refine AS.cons (sp_lss rfl rfl ?_)
              refine AS.nil ?_
              intro _ S
              refine W.condd rfl (fun c101 => ?_) (fun c101 => ?_)
              · skip
                have hlt : j < m.length := by omega
                obtain ⟨y, hy⟩ := get_some hlt
                have hyl := hsub y (List.mem_of_getElem? hy)
                refine W.skip ?_
                refine W.seq (W.block ?_)
                refine W.seq (W.region S ?_)
                refine AS.cons (sp_move rfl ?_)
                refine AS.cons (sp_move rfl ?_)
                refine AS.cons (sp_move (v := .int _ _) rfl ?_)
                refine AS.cons (sp_iaS 89 rfl rfl rfl sl_26_3_1 (by omega) ?_)
                refine AS.cons (sp_ldS 89 rfl rfl sc_3 (v := iv y) (by simp [hy]) (by omega) ?_)
                refine AS.cons (sp_call [84] rfl rfl cf_41 (fun F w hF S => place a84 c84 (sdL b []) y (by omega) w (S.slc_rd (k := 84) ((hF 84 (by simp)).trans rfl) (by omega))) ?_)
                refine AS.cons (sp_lss rfl rfl ?_)
                refine AS.nil ?_
                intro _ S
                refine W.condd rfl (fun c110 => ?_) (fun c110 => ?_)
                · exact absurd hyl ((ix_lt _ _).1 c110)
                · skip
                  refine W.skip ?_
                  refine W.region S ?_
                  refine AS.cons (sp_move (v := .int _ _) rfl ?_)
                  refine AS.cons (sp_add rfl rfl (by first | omega | (simp only [decide_eq_true_eq, decide_eq_false_iff_not] at *; omega)) ?_)
                  refine AS.cons (sp_asg (v := .int _ _) rfl ?_)
                  refine AS.nil ?_
                  intro _ S
                  exact ⟨j + 1, _, by omega, by omega, ⟨by simp [upd], trivial⟩, trivial, by repeat (first | exact Agr.refl _ _ | exact Agr.msk _ _ _ | refine Agr.upd ?_ _ rfl | refine Agr.upds ?_ rfl | refine Agr.mskIn ?_ rfl), by repeat (first | exact Agr.refl _ _ | exact Agr.msk _ _ _ | refine Agr.upd ?_ _ rfl | refine Agr.upds ?_ rfl | refine Agr.mskIn ?_ rfl), rfl, S⟩
              · skip
                refine W.exit ?_
                refine W.seq (W.seq (W.region S ?_))
                refine AS.cons (sp_move rfl ?_)
                refine AS.cons (sp_len rfl sl_26_3_1 ?_)
                refine AS.cons (sp_eql rfl rfl ?_)
                refine AS.nil ?_
                intro _ S
                refine W.condd rfl (fun c113 => ?_) (fun c113 => ?_)
                · skip
                  refine W.seq (W.region S ?_)
                  refine AS.cons (sp_call [] rfl rfl cf_26 (fun F w _ S => drawn w (hK.ext S.mod)) ?_)
                  refine AS.cons (sp_asg (v := .bool _) rfl ?_)
                  refine AS.nil ?_
                  intro _ S
                  refine W.ret ?_
                  exact ret1 rfl rfl S fun w' S' => ⟨rfl, S'.mod⟩
                · skip
                  have hne2 : ¬ m = [] := fun e => c113 (by subst e; rfl)
                  have hne1 : ¬ sdL b [] = [] := fun e => by
                    cases hmm : m with
                    | nil => exact hne2 hmm
                    | cons z t => have := hsub z (by rw [hmm]; simp); rw [e] at this; cases this
                  refine W.skip ?_
                  refine W.seq (W.region S ?_)
                  refine AS.cons (sp_iaa rfl rfl ar_67_4_3_1 (by first | omega | (simp only [decide_eq_true_eq, decide_eq_false_iff_not] at *; omega)) ?_)
                  refine AS.cons (sp_ld 3 rfl rfl sc_3 rfl ?_)
                  refine AS.cons (sp_fa rfl fo_28_1_3 ?_)
                  refine AS.cons (sp_ld 2 rfl rfl sc_23 rfl ?_)
                  refine AS.cons (sp_len rfl sl_23_75_3 ?_)
                  refine AS.cons (sp_call [] rfl rfl cf_39 (fun F w _ S => wheelT hk (by omega) w) ?_)
                  refine AS.cons (sp_asg (v := .int _ _) rfl ?_)
                  refine AS.nil ?_
                  intro _ S
                  refine W.seq (W.region S ?_)
                  refine AS.cons (sp_ldw 2 rfl rfl ag_28_9 ?_)
                  refine AS.cons (sp_move (v := .int _ _) rfl ?_)
                  refine AS.cons (sp_call [] rfl rfl cf_27 (fun F w _ S => by have h := paysG b ha hc da dc hb k hkl hne1 w (hK.ext S.mod) (hH.ext S.mod) (hD.ext S.mod); rw [← hp0, ← hp1] at h; exact h) ?_)
                  refine AS.cons (sp_move rfl ?_)
                  refine AS.cons (sp_ext rfl rfl ?_)
                  refine AS.cons (sp_ext rfl rfl ?_)
                  refine AS.cons (sp_alloc 14 zv_25 rfl (fun b14 => ?_))
                  refine AS.cons (sp_st 14 rfl rfl rfl rfl sz_25_2 rfl rfl ?_)
                  refine AS.cons (sp_asg (v := .int _ _) rfl ?_)
                  refine AS.nil ?_
                  intro _ S
                  refine W.seq (W.region S ?_)
                  refine AS.cons (sp_ldw 5 rfl rfl ag_28_9 ?_)
                  refine AS.cons (sp_move (v := .int _ _) rfl ?_)
                  refine AS.cons (sp_call [] rfl rfl cf_27 (fun F w hF S => by have h := paysG (b) ha hc _ _ hkn.good k hkl (by rw [hm]; exact hne2) w (hK.ext S.mod) (hH.ext S.mod) (hD.ext S.mod); rw [← hq0, ← hq1] at h; exact h) ?_)
                  refine AS.cons (sp_move rfl ?_)
                  refine AS.cons (sp_ext rfl rfl ?_)
                  refine AS.cons (sp_ext rfl rfl ?_)
                  refine AS.cons (sp_alloc 15 zv_25 rfl (fun b15 => ?_))
                  refine AS.cons (sp_st 15 rfl rfl rfl rfl sz_25_2 rfl rfl ?_)
                  refine AS.cons (sp_asg (v := .int _ _) rfl ?_)
                  refine AS.nil ?_
                  intro _ S
                  refine W.seq (W.region S ?_)
                  refine AS.cons (sp_move (v := .int _ _) rfl ?_)
                  refine AS.cons (sp_eql rfl rfl ?_)
                  refine AS.cons (sp_move (v := .bool _) rfl ?_)
                  refine AS.split 135 rfl (fun g135 => ?_) (fun g135 => ?_)
                  · skip
                    refine AS.cons (sp_move (v := .int _ _) rfl ?_)
                    refine AS.cons (sp_eql rfl rfl ?_)
                    refine AS.cons (sp_pick_t rfl (v := .bool _) rfl ?_)
                    refine AS.cons (sp_move (v := .bool _) rfl ?_)
                    refine AS.split 139 rfl (fun g139 => ?_) (fun g139 => ?_)
                    · skip
                      refine AS.cons (sp_ldw 14 rfl rfl ag_25_2 ?_)
                      refine AS.cons (sp_ldw 15 rfl rfl ag_25_2 ?_)
                      refine AS.cons (sp_call [] rfl rfl cf_58 (fun F w _ S => spansF _ _ _ _ w) ?_)
                      refine AS.cons (sp_pick_t rfl (v := .bool _) rfl ?_)
                      refine AS.cons (sp_move (v := .bool _) rfl ?_)
                      refine AS.split 144 rfl (fun g144 => ?_) (fun g144 => ?_)
                      · skip
                        refine AS.cons (sp_call [] rfl rfl cf_26 (fun F w _ S => drawn w (hK.ext S.mod)) ?_)
                        refine AS.cons (sp_pick_t rfl (v := .bool _) rfl ?_)
                        refine AS.cons (sp_asg (v := .bool _) rfl ?_)
                        refine AS.nil ?_
                        intro _ S
                        refine W.ret ?_
                        exact ret1 rfl rfl S fun w' S' => ⟨rfl, S'.mod⟩
                      · exact absurd hpay (of_decide_eq_false g144)
                    · exact absurd g139 (by decide)
                  · exact absurd g135 (by decide)
theorem knowsLaw (n0 n1 n2 n3 : Int) (w : World) (hK : Kinds w) (hH : Hos w ha hc b.hs) (hD : Ints w da dc b.dr) : Ct Tryd.prog 13 #[.agg (sbL b ha hc da dc).toArray, .agg [iv n0, iv n1, iv n2, iv n3].toArray] w (fun u w' => u = .bool true ∧ Ext w w') := by
  cases hok : okS b with
  | false => exact noK b ha hc da dc n0 n1 n2 n3 hok w hK hH hD
  | true =>
    have hb := okS_good.1 hok
    have hw := whl_bd n0 (k := 3) (by omega)
    rcases (show whlV n0 3 = 0 ∨ whlV n0 3 = 1 ∨ whlV n0 3 = 2 by omega) with h | h | h
    · exact knowsA b ha hc da dc n0 n1 n2 n3 hb h w hK hH hD
    · exact knowsB b ha hc da dc n0 n1 n2 n3 hb h w hK hH hD
    · by_cases h2 : b.dr.length < 8 ∧ (b.dr.length : Int) < allN b
      · exact knowsC b ha hc da dc n0 n1 n2 n3 hb h h2.1 h2.2 w hK hH hD
      · exact knowsD b ha hc da dc n0 n1 n2 n3 hb h h2 w hK hH hD
end
end Go.Proofs.YtajocmkgdjcmkaaDoor
