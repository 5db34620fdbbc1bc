/-
  Lemmas of this proof, several texts one behind the other; no condition beyond what each says.
-/
import Derived.Test.YtajocmkgdjcmkaaDoorMj
import Derived.Test.YtajocmkgdjcmkaaDoorMh
namespace Go.Proofs.YtajocmkgdjcmkaaDoor
open Go.Hu
theorem cf_38 : cfB Tryd.prog 38 = true := by kernel_rfl
theorem cf_41 : cfB Tryd.prog 41 = true := by kernel_rfl
theorem cf_42 : cfB Tryd.prog 42 = true := by kernel_rfl
theorem cf_43 : cfB Tryd.prog 43 = true := by kernel_rfl
end Go.Proofs.YtajocmkgdjcmkaaDoor
/-
  The theorem of the shares.
-/
namespace Go.Proofs.YtajocmkgdjcmkaaDoor
set_option maxRecDepth 100000
open Go.Hu Go.RowKit
section
variable (b : Sb) (ha : Option Addr) (hc : Nat) (da : Option Addr) (dc : Nat)
theorem sum_same {l m : List Int} {j : Nat} (h : ∀ i, i < j → l.getD i 0 = m.getD i 0) : sumU l j = sumU m j := by
  induction j with
  | zero => rfl
  | succ j ih => simp only [sumU]; rw [ih (fun i hi => h i (by omega)), h j (by omega)]
theorem sum_set {l : List Int} {i : Nat} {x v : Int} (hx : l[i]? = some x) : ∀ j, sumU (l.set i v) j = if i < j then sumU l j - x + v else sumU l j
  | 0 => by simp [sumU]
  | j + 1 => by
    have hil : i < l.length := (List.getElem?_eq_some_iff.1 hx).1
    simp only [sumU]
    rw [sum_set hx j]
    have hg : (l.set i v).getD j 0 = if i = j then v else l.getD j 0 := by
      rw [List.getD_eq_getElem?_getD, List.getElem?_set]
      by_cases e : i = j
      · subst e; rw [if_pos rfl, if_pos rfl, if_pos hil]; rfl
      · rw [if_neg e, if_neg e, List.getD_eq_getElem?_getD]
    rw [hg]
    by_cases e : i = j
    · subst e
      rw [if_neg (by omega), if_pos rfl, if_pos (by omega), List.getD_eq_getElem?_getD, hx]
      show _ = _ + (some x).getD 0 - x + v
      show sumU l i + v = sumU l i + x - x + v
      omega
    · rw [if_neg e]
      by_cases h : i < j
      · rw [if_pos h, if_pos (by omega)]; omega
      · rw [if_neg h, if_neg (by omega)]
theorem sum_zero (n : Nat) : ∀ j, sumU (List.replicate n 0) j = 0
  | 0 => rfl
  | j + 1 => by
    simp only [sumU]
    rw [sum_zero n j, List.getD_eq_getElem?_getD, List.getElem?_replicate]
    split <;> rfl
/-- What all are paid is, together, all pence. -/
theorem pay_sum {b : Sb} (hb : Good b) (s : Int) : ∀ m : Nat, sumU (payL b s (m : Int)) b.hs.length = (m : Int)
  | 0 => by
    show sumU (payL b s 0) b.hs.length = 0
    rw [payL_zero hb]; exact sum_zero _ _
  | m + 1 => by
    have h1 := hb.a1
    have hol := ord_all hb s
    obtain ⟨y, hy⟩ := get_some (l := ord b s) (j := m % (allN b).toNat) (by have := Nat.mod_lt m (show 0 < (allN b).toNat by omega); omega)
    have hym := ord_mem (List.mem_of_getElem? hy)
    obtain ⟨yn, rfl⟩ : ∃ yn : Nat, y = yn := ⟨y.toNat, by omega⟩
    have hyn : yn < b.hs.length := by omega
    rw [show ((m + 1 : Nat) : Int) = (m : Int) + 1 from rfl, ← payL_set hb hy, sum_set (payL_at hyn), if_pos hyn, pay_sum hb s m]
    omega
theorem sdL_of' {b : Sb} {but : List Int} {s : Int} (h : b.s0 ≤ s ∧ s ≤ b.s1) (hf : fitB b but s = true) : s ∈ sdL b but := by
  unfold sdL sdU
  refine List.mem_filter.2 ⟨List.mem_map.2 ⟨(s - b.s0).toNat, List.mem_range.2 (by unfold sdN; omega), by omega⟩, hf⟩
/-- A book in which draws were noted as they truly were. -/
theorem nt_good {b : Sb} (hb : Good b) (s : Int) (set : Nat) : Good (wd b (ntU (ord b s) set (min (ord b s).length 8))) := by
  have hol := ord_all hb s
  refine hb.wd (by rw [ntU_len]; exact Nat.min_le_right _ _) (fun n hn => ?_) (by rw [ntU_len]; omega)
  obtain ⟨k, hk, rfl⟩ := List.mem_map.1 hn
  have hk' := List.mem_range.1 hk
  have hn1 := hb.n1
  split
  · have hm : (ord b s).getD k 0 ∈ ord b s := by rw [List.getD_eq_getElem?_getD, List.getElem?_eq_getElem (by omega)]; exact List.getElem_mem _
    have := ord_mem hm
    omega
  · omega
theorem nt_seed {b : Sb} {s : Int} (hs : b.s0 ≤ s ∧ s ≤ b.s1) (set : Nat) : s ∈ sdL (wd b (ntU (ord b s) set (min (ord b s).length 8))) [] := by
  refine sdL_of' (b := wd b _) hs ?_
  unfold fitB fitU
  rw [List.all_eq_true]
  intro k hk
  have hk' : k < (ntU (ord b s) set (min (ord b s).length 8)).length := List.mem_range.1 hk
  rw [ntU_len] at hk'
  have e : (wd b (ntU (ord b s) set (min (ord b s).length 8))).dr.getD k 0 = if set.testBit k = true then (ord b s).getD k 0 else -1 := ntU_at hk'
  rw [e]
  by_cases h : set.testBit k = true
  · rw [if_pos h, (wd_same b (ntU (ord b s) set (min (ord b s).length 8))).ord s]; simp
  · rw [if_neg h]; simp
theorem noT (n0 n1 n2 : Int) (hok : okS b = false) (w : World) (hK : Kinds w) (hH : Hos w ha hc b.hs) (hD : Ints w da dc b.dr) : Ct Tryd.prog 6 #[.agg (sbL b ha hc da dc).toArray, .agg [iv n0, iv n1, iv n2].toArray] w (fun u w' => u = .bool true ∧ Ext w w') := by
  refine fn_intro (args := [.agg (sbL b ha hc da dc).toArray, .agg [iv n0, iv n1, iv n2].toArray]) Tryd.func6 rfl rfl (by kernel_rfl) ?_
  have S := St.start no w
  refine W.seq (W.region S ?_)
  refine AS.cons (sp_boxa 2 rfl (fun b2 => ?_))
  refine AS.cons (sp_boxa 3 rfl (fun b3 => ?_))
  refine AS.cons (sp_asg rfl ?_)
  refine AS.nil ?_
  intro _ S
  refine W.seq (W.seq (W.region S ?_))
  refine AS.cons (sp_ldw 2 rfl rfl ag_28_9 ?_)
  refine AS.cons (sp_call [] rfl rfl cf_35 (fun F w _ S => soundT hok w (hK.ext S.mod) (hH.ext S.mod) (hD.ext S.mod)) ?_)
  refine AS.cons (sp_not rfl ?_)
  refine AS.nil ?_
  intro _ S
  refine W.cond rfl (fun c24 => ?_) (fun c24 => ?_)
  · skip
    refine W.seq (W.region S ?_)
    refine AS.cons (sp_call [] rfl rfl cf_26 (fun F w _ S => drawn w (hK.ext S.mod)) ?_)
    refine AS.cons (sp_asg (v := .bool _) rfl ?_)
    refine AS.nil ?_
    intro _ S
    refine W.ret ?_
    exact ret1 rfl rfl S fun w' S' => ⟨rfl, S'.mod⟩
  · exact absurd c24 (by decide)
set_option maxHeartbeats 16000000 in
theorem trueL1 (n0 n1 n2 : Int) (hb : Good b) (w : World) (hK : Kinds w) (hH : Hos w ha hc b.hs) (hD : Ints w da dc b.dr) : Ct Tryd.prog 6 #[.agg (sbL b ha hc da dc).toArray, .agg [iv n0, iv n1, iv n2].toArray] w (fun u w' => u = .bool true ∧ Ext w w') := by
  refine fn_intro (args := [.agg (sbL b ha hc da dc).toArray, .agg [iv n0, iv n1, iv n2].toArray]) Tryd.func6 rfl rfl (by kernel_rfl) ?_
  have S := St.start no w
  have hn1 := hb.n1
  have hn6 := hb.n6
  have ha60 := hb.a60
  obtain ⟨⟨hm1, hm2⟩, hm3, hm4⟩ := hb.mo
  obtain ⟨⟨hs1, hs2⟩, hs3, hs4⟩ := hb.se
  have hws := some_bd n0 hs2
  obtain ⟨s, hse⟩ : ∃ s, s = someV b.s0 b.s1 n0 := ⟨_, rfl⟩
  rw [← hse] at hws
  have hsb : 0 ≤ s ∧ s ≤ 9999 := by omega
  have hwm := some_bd n1 hm2
  obtain ⟨m, hme⟩ : ∃ m : Nat, (m : Int) = someV b.m0 b.m1 n1 := ⟨(someV b.m0 b.m1 n1).toNat, by omega⟩
  rw [← hme] at hwm
  have hwt := whl_bd n2 (k := 256) (by omega)
  obtain ⟨set, hset⟩ : ∃ set : Nat, whlV n2 256 = (set : Int) := ⟨(whlV n2 256).toNat, by omega⟩
  have hol := ord_all hb s
  have hg := nt_good hb s set
  have hsd := nt_seed hws set
  have hnl := ntU_len (ord b s) set (min (ord b s).length 8)
  obtain ⟨l, hl⟩ : ∃ l, l = ntU (ord b s) set (min (ord b s).length 8) := ⟨_, rfl⟩
  rw [← hl] at hg hsd hnl
  have hl8 : l.length ≤ 8 := by rw [hnl]; exact Nat.min_le_right _ _
  have hne : ¬ sdL (wd b l) [] = [] := fun e => by rw [e] at hsd; cases hsd
  have hrg : (!decide (sdL (wd b l) [] = [])) = true := by rw [decide_eq_false hne]; rfl
  have hwr : wrV (wd b l) = [] := by
    have h := wr_nil hg
    rw [hrg] at h
    have := of_decide_eq_true h
    exact List.length_eq_zero_iff.1 (by omega)
  have hsame := wd_same b l
  have hcan := can_yes hg hsd (m := (m : Int)) hwm
  rw [hsame.payL] at hcan
  have hls := sdL_51 hg []
  obtain ⟨sl, hsl⟩ : ∃ sl, sdL (wd b l) [] = sl := ⟨_, rfl⟩
  rw [hsl] at hls
  have hsm : s ∈ sl := by rw [← hsl]; exact hsd
  have hpl := payL_len b s (m : Int)
  have hpx : ∀ x ∈ payL b s (m : Int), 0 ≤ x ∧ x ≤ 1000000 := fun x hx => by
    obtain ⟨k, hk, rfl⟩ := List.mem_map.1 hx
    have := payK_bd hb s (List.mem_range.1 hk) (m := (m : Int)) (by omega)
    omega
  have hsum := pay_sum hb s m
  rw [← hpl] at hsum
  have hnote : ∀ (oa : Option Addr) (oc : Nat) (w : World), Ints w oa oc (ord b s) → Ct Tryd.prog 38 #[.agg (sbL b ha hc da dc).toArray, iv set, .slice oa (ord b s).length oc] w (fun u w' => ∃ i, BwR b l ha hc u i ∧ St no w w' (upd eL 0 i) []) := fun oa oc w h => by rw [hl]; exact notedF b ha hc da dc set (by omega) (ord b s) oa oc (by omega) w h
  refine W.seq (W.region S ?_)
  refine AS.cons (sp_boxa 2 rfl (fun b2 => ?_))
  refine AS.cons (sp_boxa 3 rfl (fun b3 => ?_))
  refine AS.cons (sp_asg rfl ?_)
  refine AS.nil ?_
  intro _ S
  refine W.seq (W.seq (W.region S ?_))
  refine AS.cons (sp_ldw 2 rfl rfl ag_28_9 ?_)
  refine AS.cons (sp_call [] rfl rfl cf_35 (fun F w _ S => soundT (okS_good.2 hb) w (hK.ext S.mod) (hH.ext S.mod) (hD.ext S.mod)) ?_)
  refine AS.cons (sp_not rfl ?_)
  refine AS.nil ?_
  intro _ S
  refine W.cond rfl (fun c24 => ?_) (fun c24 => ?_)
  · exact absurd c24 (by decide)
  · skip
    refine W.skip ?_
    refine W.seq (W.draw S mixed (fun i => ([KD.q [], KD.q [2], KD.q [], KD.q [3], KD.e [] [], KD.q [], KD.q [2], KD.q [], KD.q [3], KD.e [] [], KD.q [], KD.q []] : List KD)[i]?) [] [0, 1, 2, 3, 4, 5, 6, 7, 8, 9, 10, 11] (by kernel_rfl) ?_)
    refine AW.cons rfl rfl (sp_fa rfl fo_28_3_6 ?_)
    refine AW.cons rfl rfl (sp_lda 2 2 rfl rfl ag_25_2 rfl ?_)
    refine AW.cons rfl rfl (sp_iaa rfl rfl ar_22_3_3_1 (by first | omega | (simp only [decide_eq_true_eq, decide_eq_false_iff_not] at *; omega)) ?_)
    refine AW.cons rfl rfl (sp_ld 3 rfl rfl sc_3 rfl ?_)
    refine AW.cons rfl rfl (sp_call [] rfl rfl cf_36 (fun F w _ S => someT hse (by omega) w) ?_)
    refine AW.cons rfl rfl (sp_fa rfl fo_28_2_4 ?_)
    refine AW.cons rfl rfl (sp_lda 2 2 rfl rfl ag_25_2 rfl ?_)
    refine AW.cons rfl rfl (sp_iaa rfl rfl ar_22_3_3_1 (by first | omega | (simp only [decide_eq_true_eq, decide_eq_false_iff_not] at *; omega)) ?_)
    refine AW.cons rfl rfl (sp_ld 3 rfl rfl sc_3 rfl ?_)
    refine AW.cons rfl rfl (sp_call [] rfl rfl cf_36 (fun F w _ S => someT hme (by omega) w) ?_)
    refine AW.cons rfl rfl (sp_asg (v := .int _ _) rfl ?_)
    refine AW.cons rfl rfl (sp_asg (v := .int _ _) rfl ?_)
    refine AW.nil ?_
    intro _ S
    refine W.seq (W.region S ?_)
    refine AS.cons (sp_ldw 2 rfl rfl ag_28_9 ?_)
    refine AS.cons (sp_move (v := .int _ _) rfl ?_)
    refine AS.cons (sp_call1 39 [] _ rfl rfl cf_22 (fun F w _ S => orderG b ha hc da dc hb s hsb w (hK.ext S.mod) (hH.ext S.mod) (hD.ext S.mod)) ?_ (by simp))
    rintro v39 i39 ⟨a39, c39, h39, rfl, rfl⟩
    refine AS.cons (sp_move rfl ?_)
    refine AS.cons (sp_ext rfl rfl ?_)
    refine AS.cons (sp_ext rfl rfl ?_)
    refine AS.cons (sp_asg rfl ?_)
    refine AS.cons (sp_asg (v := .int _ _) rfl ?_)
    refine AS.nil ?_
    intro _ S
    refine W.seq (W.seq (W.region S ?_))
    refine AS.cons (sp_move (v := .int _ _) rfl ?_)
    refine AS.cons (sp_neq rfl rfl ?_)
    refine AS.cons (sp_move (v := .bool _) rfl ?_)
    refine AS.split 44 rfl (fun g44 => ?_) (fun g44 => ?_)
    · exact absurd g44 (by decide)
    · skip
      refine AS.cons (sp_move rfl ?_)
      refine AS.cons (sp_ldw 2 rfl rfl ag_28_9 ?_)
      refine AS.cons (sp_move (v := .int _ _) rfl ?_)
      refine AS.cons (sp_call1 48 [] _ rfl rfl cf_37 (fun F w _ S => wonF b ha hc da dc hb s (by omega) w (hH.ext S.mod)) ?_ (by simp))
      rintro v48 i48 ⟨⟨a48, c48, rfl, h48⟩, rfl⟩
      refine AS.cons (sp_call [39, 48] rfl rfl cf_21 (fun F w hF S => same a39 c39 _ a48 c48 _ w (S.slc_rd (k := 39) ((hF 39 (by simp)).trans rfl) (by omega)) (S.slc_rd (k := 48) ((hF 48 (by simp)).trans rfl) (by omega))) ?_)
      refine AS.cons (sp_not rfl ?_)
      refine AS.cons (sp_pick_f rfl (v := .bool _) rfl ?_)
      refine AS.nil ?_
      intro _ S
      refine W.cond rfl (fun c51 => ?_) (fun c51 => ?_)
      · exact (no_same c51).elim
      · skip
        refine W.skip ?_
        refine W.seq (W.draw S mixed (fun i => ([KD.q [2], KD.q [], KD.q [3], KD.e [] [], KD.q [], KD.e [39] [57], KD.a 9, KD.e [9] [9]] : List KD)[i]?) [] [0, 1, 2, 3, 4, 5, 6, 7] (by kernel_rfl) ?_)
        refine AW.cons rfl rfl (sp_ldw 2 rfl rfl ag_28_9 ?_)
        refine AW.cons rfl rfl (sp_iaa rfl rfl ar_22_3_3_1 (by first | omega | (simp only [decide_eq_true_eq, decide_eq_false_iff_not] at *; omega)) ?_)
        refine AW.cons rfl rfl (sp_ld 3 rfl rfl sc_3 rfl ?_)
        refine AW.cons rfl rfl (sp_call [] rfl rfl cf_39 (fun F w _ S => wheelT hset (by omega) w) ?_)
        refine AW.cons rfl rfl (sp_move rfl ?_)
        refine AW.cons rfl rfl (sp_call1 57 [39] _ rfl rfl cf_38 (fun F w hF S => hnote a39 c39 w (S.slc_rd (k := 39) ((hF 39 (by simp)).trans rfl) (by omega))) ?_ (fun _ => BwR.ne _ _ _ _))
        rintro v57 i57 ⟨a57, c57, h57, rfl, rfl⟩
        refine AW.cons rfl rfl (sp_alloc 9 zv_28 rfl (fun b9 => ?_))
        refine AW.cons rfl rfl (sp_st 9 rfl rfl rfl rfl sz_28_9 rfl rfl ?_)
        refine AW.nil ?_
        intro _ S
        refine W.seq (W.region S ?_)
        refine AS.cons (sp_ldw 9 rfl rfl ag_28_9 ?_)
        refine AS.cons (sp_call [57] rfl rfl cf_15 (fun F w hF S => rightT (b := wd b l) hg hrg w (hK.ext S.mod) (hH.ext S.mod) (S.slc_rd (k := 57) ((hF 57 (by simp)).trans rfl) (Nat.le_trans hl8 (by decide)))) ?_)
        refine AS.cons (sp_move rfl ?_)
        refine AS.cons (sp_ext rfl rfl ?_)
        refine AS.cons (sp_ext rfl rfl ?_)
        refine AS.cons (sp_asg (v := .bool _) rfl ?_)
        refine AS.cons (sp_asg (v := .int _ _) rfl ?_)
        refine AS.nil ?_
        intro _ S
        refine W.seq (W.region S ?_)
        refine AS.cons (sp_ldw 9 rfl rfl ag_28_9 ?_)
        refine AS.cons (sp_call1 65 [57] _ rfl rfl cf_24 (fun F w hF S => seedsT (b := wd b l) hg hsl w (hK.ext S.mod) (hH.ext S.mod) (S.slc_rd (k := 57) ((hF 57 (by simp)).trans rfl) (Nat.le_trans hl8 (by decide)))) ?_ (by simp))
        rintro v65 i65 ⟨a65, c65, h65, rfl, rfl⟩
        refine AS.cons (sp_move rfl ?_)
        refine AS.cons (sp_ext rfl rfl ?_)
        refine AS.cons (sp_ext rfl rfl ?_)
        refine AS.cons (sp_asg rfl ?_)
        refine AS.cons (sp_asg (v := .int _ _) rfl ?_)
        refine AS.nil ?_
        intro _ S
        refine W.seq (W.region S ?_)
        refine AS.cons (sp_ldw 9 rfl rfl ag_28_9 ?_)
        refine AS.cons (sp_call1 70 [57] _ rfl rfl cf_33 (fun F w hF S => wrongT (b := wd b l) hwr (chk_ok (okS_good.2 hg)) w (hK.ext S.mod) (hH.ext S.mod) (S.slc_rd (k := 57) ((hF 57 (by simp)).trans rfl) (Nat.le_trans hl8 (by decide)))) ?_ (by simp))
        rintro v70 i70 ⟨a70, c70, h70, rfl, rfl⟩
        refine AS.cons (sp_move rfl ?_)
        refine AS.cons (sp_ext rfl rfl ?_)
        refine AS.cons (sp_ext rfl rfl ?_)
        refine AS.cons (sp_asg rfl ?_)
        refine AS.cons (sp_asg (v := .int _ _) rfl ?_)
        refine AS.nil ?_
        intro _ S
        refine W.seq (W.region S ?_)
        refine AS.cons (sp_ldw 2 rfl rfl ag_28_9 ?_)
        refine AS.cons (sp_move (v := .int _ _) rfl ?_)
        refine AS.cons (sp_move rfl ?_)
        refine AS.cons (sp_call1 76 [39] _ rfl rfl cf_40 (fun F w hF S => settledF b ha hc da dc hb m (by omega) s a39 c39 w (S.slc_rd (k := 39) ((hF 39 (by simp)).trans rfl) (by omega))) ?_ (by simp))
        rintro v76 i76 ⟨⟨a76, c76, rfl, h76⟩, rfl⟩
        refine AS.cons (sp_asg rfl ?_)
        refine AS.nil ?_
        intro _ S
        refine W.seq (W.region S ?_)
        refine AS.cons (sp_ldw 9 rfl rfl ag_28_9 ?_)
        refine AS.cons (sp_move rfl ?_)
        refine AS.cons (sp_call [57, 76] rfl rfl cf_29 (fun F w hF S => canT (b := wd b l) hcan w (hK.ext S.mod) (hH.ext S.mod) (S.slc_rd (k := 57) ((hF 57 (by simp)).trans rfl) (Nat.le_trans hl8 (by decide))) (S.slc_rd (k := 76) ((hF 76 (by simp)).trans rfl) (by omega))) ?_)
        refine AS.cons (sp_move rfl ?_)
        refine AS.cons (sp_ext rfl rfl ?_)
        refine AS.cons (sp_ext rfl rfl ?_)
        refine AS.cons (sp_asg (v := .bool _) rfl ?_)
        refine AS.cons (sp_asg (v := .int _ _) rfl ?_)
        refine AS.nil ?_
        intro _ S
        refine W.seq (W.seq (W.region S ?_))
        refine AS.cons (sp_move (v := .int _ _) rfl ?_)
        refine AS.cons (sp_neq rfl rfl ?_)
        refine AS.cons (sp_move (v := .bool _) rfl ?_)
        refine AS.split 85 rfl (fun g85 => ?_) (fun g85 => ?_)
        · exact absurd g85 (by decide)
        · skip
          refine AS.cons (sp_move (v := .int _ _) rfl ?_)
          refine AS.cons (sp_neq rfl rfl ?_)
          refine AS.cons (sp_pick_f rfl (v := .bool _) rfl ?_)
          refine AS.cons (sp_move (v := .bool _) rfl ?_)
          refine AS.split 89 rfl (fun g89 => ?_) (fun g89 => ?_)
          · exact absurd g89 (by decide)
          · skip
            refine AS.cons (sp_move (v := .int _ _) rfl ?_)
            refine AS.cons (sp_neq rfl rfl ?_)
            refine AS.cons (sp_pick_f rfl (v := .bool _) rfl ?_)
            refine AS.cons (sp_move (v := .bool _) rfl ?_)
            refine AS.split 93 rfl (fun g93 => ?_) (fun g93 => ?_)
            · exact absurd g93 (by decide)
            · skip
              refine AS.cons (sp_move (v := .int _ _) rfl ?_)
              refine AS.cons (sp_neq rfl rfl ?_)
              refine AS.cons (sp_pick_f rfl (v := .bool _) rfl ?_)
              refine AS.cons (sp_move (v := .bool _) rfl ?_)
              refine AS.split 97 rfl (fun g97 => ?_) (fun g97 => ?_)
              · exact absurd g97 (by decide)
              · skip
                refine AS.cons (sp_move (v := .bool _) rfl ?_)
                refine AS.cons (sp_not rfl ?_)
                refine AS.cons (sp_pick_f rfl (v := .bool _) rfl ?_)
                refine AS.cons (sp_move (v := .bool _) rfl ?_)
                refine AS.split 101 rfl (fun g101 => ?_) (fun g101 => ?_)
                · exact absurd g101 (by decide)
                · skip
                  refine AS.cons (sp_move (v := .bool _) rfl ?_)
                  refine AS.cons (sp_not rfl ?_)
                  refine AS.cons (sp_pick_f rfl (v := .bool _) rfl ?_)
                  refine AS.cons (sp_move (v := .bool _) rfl ?_)
                  refine AS.split 105 rfl (fun g105 => ?_) (fun g105 => ?_)
                  · exact absurd g105 (by decide)
                  · skip
                    refine AS.cons (sp_move rfl ?_)
                    refine AS.cons (sp_len rfl sl_26_3_1 ?_)
                    refine AS.cons (sp_neq rfl rfl ?_)
                    refine AS.cons (sp_pick_f rfl (v := .bool _) rfl ?_)
                    refine AS.cons (sp_move (v := .bool _) rfl ?_)
                    refine AS.split 110 rfl (fun g110 => ?_) (fun g110 => ?_)
                    · exact absurd g110 (by decide)
                    · skip
                      refine AS.cons (sp_move rfl ?_)
                      refine AS.cons (sp_move (v := .int _ _) rfl ?_)
                      refine AS.cons (sp_call [65] rfl rfl cf_41 (fun F w hF S => place a65 c65 sl s (by omega) w (S.slc_rd (k := 65) ((hF 65 (by simp)).trans rfl) (by omega))) ?_)
                      refine AS.cons (sp_lss rfl rfl ?_)
                      refine AS.cons (sp_pick_f rfl (v := .bool _) rfl ?_)
                      refine AS.cons (sp_move (v := .bool _) rfl ?_)
                      refine AS.split 116 rfl (fun g116 => ?_) (fun g116 => ?_)
                      · exact absurd hsm ((ix_lt _ _).1 (of_decide_eq_true g116))
                      · skip
                        refine AS.cons (sp_move rfl ?_)
                        refine AS.cons (sp_call [76] rfl rfl cf_42 (fun F w hF S => by have h := addedF a76 c76 (payL b s m) (by omega) hpx w (S.slc_rd (k := 76) ((hF 76 (by simp)).trans rfl) (by omega)); rw [hsum] at h; exact h) ?_)
                        refine AS.cons (sp_move (v := .int _ _) rfl ?_)
                        refine AS.cons (sp_neq rfl rfl ?_)
                        refine AS.cons (sp_pick_f rfl (v := .bool _) rfl ?_)
                        refine AS.nil ?_
                        intro _ S
                        refine W.cond rfl (fun c121 => ?_) (fun c121 => ?_)
                        · exact absurd rfl (of_decide_eq_true c121)
                        · skip
                          refine W.skip ?_
                          refine W.seq (W.seq (W.region S ?_))
                          refine AS.cons (sp_asg rfl ?_)
                          refine AS.nil ?_
                          intro _ S
                          refine W.block ?_
                          refine W.loopS S [4, 19, 20, 21, 122, 123, 124, 125, 126, 127, 128, 129, 130, 131, 132, 133, 134, 135, 136, 137, 138, 139, 140, 141, 142, 143, 144, 145] [20] (fun (k : Nat) => [(19, iv k)]) (fun _ => []) (fun k => k ≤ b.hs.length) (fun k => b.hs.length - k) 0 (by omega) ⟨rfl, trivial⟩ trivial ?_
                          rintro k σ M w1 hk S
                          refine W.seq (W.seq (W.region S ?_))
                          refine AS.cons (sp_move (v := .int _ _) rfl ?_)
                          refine AS.cons (sp_fa rfl fo_28_1_3 ?_)
                          refine AS.cons (sp_ld 2 rfl rfl sc_23 rfl ?_)
                          refine AS.cons (sp_len rfl sl_23_75_3 ?_)
                          refine AS.cons (sp_lss rfl rfl ?_)
                          refine AS.nil ?_
                          intro _ S
                          refine W.condd rfl (fun c126 => ?_) (fun c126 => ?_)
                          · skip
                            have hlt : k < b.hs.length := by omega
                            have hpat : ((payL b s m).map iv)[((k : Int)).toNat * 1]? = some (iv (payK b s m k)) := by rw [Nat.mul_one, List.getElem?_map, Int.toNat_natCast, payL_at hlt]; rfl
                            obtain ⟨p0, hp0⟩ : ∃ p0, p0 = payLo (wd b l) k := ⟨_, rfl⟩
                            obtain ⟨p1, hp1⟩ : ∃ p1, p1 = payHi (wd b l) k := ⟨_, rfl⟩
                            have hin : p0 ≤ payK b s m k ∧ payK b s m k ≤ p1 := by
                              have h1 := (fldS_min.1 (Int.le_refl (payLo (wd b l) k))).2 s hsd ((m : Int) - b.m0).toNat (by show _ < (b.m1 - b.m0 + 1).toNat; omega)
                              have h2 := (fldS_max.1 (Int.le_refl (payHi (wd b l) k))).2 s hsd ((m : Int) - b.m0).toNat (by show _ < (b.m1 - b.m0 + 1).toNat; omega)
                              have e : payF (wd b l) k s ((m : Int) - b.m0).toNat = payK b s m k := by
                                show payK (wd b l) s (b.m0 + ((((m : Int) - b.m0).toNat : Nat) : Int)) k = _
                                rw [hsame.pay, show b.m0 + ((((m : Int) - b.m0).toNat : Nat) : Int) = (m : Int) by omega]
                              rw [e] at h1 h2
                              rw [hp0, hp1]; exact ⟨h1, h2⟩
                            refine W.skip ?_
                            refine W.seq (W.block ?_)
                            refine W.seq (W.region S ?_)
                            refine AS.cons (sp_ldw 9 rfl rfl ag_28_9 ?_)
                            refine AS.cons (sp_move (v := .int _ _) rfl ?_)
                            refine AS.cons (sp_call [57] rfl rfl cf_27 (fun F w hF S => by have h := paysG (wd b l) ha hc _ _ hg k hlt hne w (hK.ext S.mod) (hH.ext S.mod) (S.slc_rd (k := 57) ((hF 57 (by simp)).trans rfl) (Nat.le_trans hl8 (by decide))); rw [← hp0, ← hp1] at h; exact h) ?_)
                            refine AS.cons (sp_move rfl ?_)
                            refine AS.cons (sp_ext rfl rfl ?_)
                            refine AS.cons (sp_ext rfl rfl ?_)
                            refine AS.cons (sp_alloc 20 zv_25 rfl (fun b20 => ?_))
                            refine AS.cons (sp_st 20 rfl rfl rfl rfl sz_25_2 rfl rfl ?_)
                            refine AS.cons (sp_asg (v := .int _ _) rfl ?_)
                            refine AS.nil ?_
                            intro _ S
                            refine W.seq (W.draw S mixed (fun i => ([KD.q [], KD.q [], KD.q [], KD.q [20], KD.q [], KD.q [], KD.q [76], KD.q [76], KD.e [] [], KD.q [], KD.q []] : List KD)[i]?) [] [0, 1, 2, 3, 4, 5, 6, 7, 8, 9, 10] (by kernel_rfl) ?_)
                            refine AW.cons rfl rfl (sp_move (v := .int _ _) rfl ?_)
                            refine AW.cons rfl rfl (sp_neq rfl rfl ?_)
                            refine AW.cons rfl rfl (sp_move (v := .bool _) rfl ?_)
                            refine AW.split 137 rfl (fun g137 => ?_) (fun g137 => ?_)
                            · exact absurd g137 (by decide)
                            · skip
                              refine AW.cons rfl rfl (sp_ldw 20 rfl rfl ag_25_2 ?_)
                              refine AW.cons rfl rfl (sp_move rfl ?_)
                              refine AW.cons rfl rfl (sp_move (v := .int _ _) rfl ?_)
                              refine AW.cons rfl rfl (sp_iaS 76 rfl rfl rfl sl_26_3_1 (by omega) ?_)
                              refine AW.cons rfl rfl (sp_ldS 76 rfl rfl sc_3 hpat (by omega) ?_)
                              refine AW.cons rfl rfl (sp_call [] rfl rfl cf_43 (fun F w _ S => holdsF _ _ _ w) ?_)
                              refine AW.cons rfl rfl (sp_not rfl ?_)
                              refine AW.cons rfl rfl (sp_pick_f rfl (v := .bool _) rfl ?_)
                              refine AW.nil ?_
                              intro _ S
                              refine W.cond rfl (fun c145 => ?_) (fun c145 => ?_)
                              · exact absurd c145 (by rw [decide_eq_true hin]; decide)
                              · skip
                                refine W.skip ?_
                                refine W.region S ?_
                                refine AS.cons (sp_move (v := .int _ _) rfl ?_)
                                refine AS.cons (sp_add rfl rfl (by first | omega | (simp only [decide_eq_true_eq, decide_eq_false_iff_not] at *; omega)) ?_)
                                refine AS.cons (sp_asg (v := .int _ _) rfl ?_)
                                refine AS.nil ?_
                                intro _ S
                                exact ⟨k + 1, _, by omega, by omega, ⟨by simp [upd], trivial⟩, trivial, by repeat (first | exact Agr.refl _ _ | exact Agr.msk _ _ _ | refine Agr.upd ?_ _ rfl | refine Agr.upds ?_ rfl | refine Agr.mskIn ?_ rfl), by repeat (first | exact Agr.refl _ _ | exact Agr.msk _ _ _ | refine Agr.upd ?_ _ rfl | refine Agr.upds ?_ rfl | refine Agr.mskIn ?_ rfl), rfl, S⟩
                          · skip
                            refine W.exit ?_
                            refine W.seq (W.region S ?_)
                            refine AS.cons (sp_call [] rfl rfl cf_26 (fun F w _ S => drawn w (hK.ext S.mod)) ?_)
                            refine AS.cons (sp_asg (v := .bool _) rfl ?_)
                            refine AS.nil ?_
                            intro _ S
                            refine W.ret ?_
                            exact ret1 rfl rfl S fun w' S' => ⟨rfl, S'.mod⟩
theorem trueLaw (n0 n1 n2 : Int) (w : World) (hK : Kinds w) (hH : Hos w ha hc b.hs) (hD : Ints w da dc b.dr) : Ct Tryd.prog 6 #[.agg (sbL b ha hc da dc).toArray, .agg [iv n0, iv n1, iv n2].toArray] w (fun u w' => u = .bool true ∧ Ext w w') := by
  cases hok : okS b with
  | false => exact noT b ha hc da dc n0 n1 n2 hok w hK hH hD
  | true => exact trueL1 b ha hc da dc n0 n1 n2 (okS_good.1 hok) w hK hH hD
end
end Go.Proofs.YtajocmkgdjcmkaaDoor
