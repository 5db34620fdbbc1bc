/-
  Lemmas of this proof, several texts one behind the other; no condition beyond what each says.
-/
import Derived.Test.YtajocmkgdjcmkaaDoorMh
namespace Go.Proofs.YtajocmkgdjcmkaaDoor
open Go.Hu
theorem cf_36 : cfB Tryd.prog 36 = true := by kernel_rfl
theorem cf_40 : cfB Tryd.prog 40 = true := by kernel_rfl
theorem cf_50 : cfB Tryd.prog 50 = true := by kernel_rfl
end Go.Proofs.YtajocmkgdjcmkaaDoor
/-
  The law of both ends of what is paid.
-/
namespace Go.Proofs.YtajocmkgdjcmkaaDoor
set_option maxRecDepth 100000
open Go.Hu Go.RowKit
section
variable (b : Sb) (ha : Option Addr) (hc : Nat) (da : Option Addr) (dc : Nat)
theorem pickV_mem {l : List Int} (h : 0 < l.length) (n : Int) : pickV l n ∈ l := by
  unfold pickV
  rw [if_neg (by omega)]
  have hx : (if (l.length : Int) < 2 then 0 else n % l.length).toNat < l.length := by
    split
    · simpa using h
    · have := Int.emod_lt_of_pos n (show (0 : Int) < l.length by omega)
      have := Int.emod_nonneg n (show (l.length : Int) ≠ 0 by omega)
      omega
  rw [List.getD_eq_getElem?_getD, List.getElem?_eq_getElem hx]
  exact List.getElem_mem hx
def leU (b : Sb) (k : Nat) (l : List Int) : Nat → Int
  | 0 => -1
  | i + 1 => if leU b k l i < 0 ∨ payK b (l.getD i 0) b.m0 k < leU b k l i then payK b (l.getD i 0) b.m0 k else leU b k l i
def mxU (b : Sb) (k : Nat) (l : List Int) : Nat → Int
  | 0 => -1
  | i + 1 => max (mxU b k l i) (payK b (l.getD i 0) b.m1 k)
theorem le_is {b : Sb} (hb : Good b) {k : Nat} (hk : k < b.hs.length) {l : List Int} : ∀ i, i + 1 ≤ l.length → (∃ s ∈ l, payK b s b.m0 k = leU b k l (i + 1)) ∧ ∀ j, j < i + 1 → leU b k l (i + 1) ≤ payK b (l.getD j 0) b.m0 k
  | 0, h => by
    have hm : l.getD 0 0 ∈ l := by rw [List.getD_eq_getElem?_getD, List.getElem?_eq_getElem (by omega)]; exact List.getElem_mem _
    refine ⟨⟨_, hm, by simp [leU]⟩, fun j hj => ?_⟩
    obtain rfl : j = 0 := by omega
    simp [leU]
  | i + 1, h => by
    obtain ⟨⟨s, hs, e⟩, h2⟩ := le_is (l := l) hb hk i (by omega)
    have hn := payK_bd hb s hk (m := b.m0) hb.mo.1.1
    rw [e] at hn
    have hm : l.getD (i + 1) 0 ∈ l := by rw [List.getD_eq_getElem?_getD, List.getElem?_eq_getElem (by omega)]; exact List.getElem_mem _
    rw [show leU b k l (i + 1 + 1) = if leU b k l (i + 1) < 0 ∨ payK b (l.getD (i + 1) 0) b.m0 k < leU b k l (i + 1) then payK b (l.getD (i + 1) 0) b.m0 k else leU b k l (i + 1) from rfl]
    split
    · next hc =>
      refine ⟨⟨_, hm, rfl⟩, fun j hj => ?_⟩
      rcases Nat.lt_or_ge j (i + 1) with h3 | h3
      · have := h2 j h3; omega
      · obtain rfl : j = i + 1 := by omega
        exact Int.le_refl _
    · next hc =>
      refine ⟨⟨s, hs, e⟩, fun j hj => ?_⟩
      rcases Nat.lt_or_ge j (i + 1) with h3 | h3
      · exact h2 j h3
      · obtain rfl : j = i + 1 := by omega
        omega
theorem mx_is {b : Sb} (hb : Good b) {k : Nat} (hk : k < b.hs.length) {l : List Int} : ∀ i, i + 1 ≤ l.length → (∃ s ∈ l, payK b s b.m1 k = mxU b k l (i + 1)) ∧ ∀ j, j < i + 1 → payK b (l.getD j 0) b.m1 k ≤ mxU b k l (i + 1)
  | 0, h => by
    have hm : l.getD 0 0 ∈ l := by rw [List.getD_eq_getElem?_getD, List.getElem?_eq_getElem (by omega)]; exact List.getElem_mem _
    have hn := payK_bd hb (l.getD 0 0) hk (m := b.m1) (by have := hb.mo; omega)
    have e : mxU b k l (0 + 1) = payK b (l.getD 0 0) b.m1 k := by show max (-1) (payK b (l.getD 0 0) b.m1 k) = _; omega
    refine ⟨⟨_, hm, e.symm⟩, fun j hj => ?_⟩
    obtain rfl : j = 0 := by omega
    rw [e]; exact Int.le_refl _
  | i + 1, h => by
    obtain ⟨⟨s, hs, e⟩, h2⟩ := mx_is (l := l) hb hk i (by omega)
    have hm : l.getD (i + 1) 0 ∈ l := by rw [List.getD_eq_getElem?_getD, List.getElem?_eq_getElem (by omega)]; exact List.getElem_mem _
    have he : mxU b k l (i + 1 + 1) = max (mxU b k l (i + 1)) (payK b (l.getD (i + 1) 0) b.m1 k) := rfl
    refine ⟨?_, fun j hj => ?_⟩
    · rcases Int.le_total (mxU b k l (i + 1)) (payK b (l.getD (i + 1) 0) b.m1 k) with h3 | h3
      · exact ⟨_, hm, by rw [he]; omega⟩
      · exact ⟨s, hs, by rw [he]; omega⟩
    · rcases Nat.lt_or_ge j (i + 1) with h3 | h3
      · have := h2 j h3; omega
      · obtain rfl : j = i + 1 := by omega
        omega
theorem ends_is {b : Sb} (hb : Good b) {k : Nat} (hk : k < b.hs.length) (hne : 0 < (sdL b []).length) : leU b k (sdL b []) (sdL b []).length = payLo b k ∧ mxU b k (sdL b []) (sdL b []).length = payHi b k := by
  obtain ⟨i, hi⟩ : ∃ i, (sdL b []).length = i + 1 := ⟨(sdL b []).length - 1, by omega⟩
  obtain ⟨⟨s, hs, e⟩, h2⟩ := le_is hb hk (l := sdL b []) i (by omega)
  obtain ⟨⟨s', hs', e'⟩, h2'⟩ := mx_is hb hk (l := sdL b []) i (by omega)
  rw [hi]
  have hmo := hb.mo
  have hlo := fldS_min.1 (Int.le_refl (payLo b k))
  have hhi := fldS_max.1 (Int.le_refl (payHi b k))
  have hN : mnN b = (b.m1 - b.m0).toNat + 1 := by unfold mnN; omega
  have hat : ∀ s ∈ sdL b [], ∃ j, j < i + 1 ∧ (sdL b []).getD j 0 = s := fun s hs => by
    obtain ⟨j, hj, e⟩ := List.getElem_of_mem hs
    exact ⟨j, by omega, by rw [List.getD_eq_getElem?_getD, List.getElem?_eq_getElem hj, e]; rfl⟩
  refine ⟨Int.le_antisymm (fldS_min.2 ⟨?_, fun s1 hs1 j hj => ?_⟩) ?_, Int.le_antisymm ?_ (fldS_max.2 ⟨?_, fun s1 hs1 j hj => ?_⟩)⟩
  · have := payK_bd hb s hk (m := b.m0) hmo.1.1; omega
  · obtain ⟨j1, hj1, e1⟩ := hat s1 hs1
    have h3 := h2 j1 hj1
    rw [e1] at h3
    have h4 := (payK_mono hb s1 hk (m := b.m0) hmo.1.1 j).1
    show _ ≤ payK b s1 (b.m0 + (j : Int)) k
    omega
  · have := hlo.2 s hs 0 (by omega)
    rw [show payF b k s 0 = payK b s b.m0 k by unfold payF; rw [show b.m0 + ((0 : Nat) : Int) = b.m0 by omega], e] at this
    exact this
  · have := hhi.2 s' hs' (b.m1 - b.m0).toNat (by omega)
    rw [show payF b k s' (b.m1 - b.m0).toNat = payK b s' b.m1 k by unfold payF; rw [show b.m0 + (((b.m1 - b.m0).toNat : Nat) : Int) = b.m1 by omega], e'] at this
    exact this
  · have := payK_bd hb s' hk (m := b.m1) (by omega); omega
  · obtain ⟨j1, hj1, e1⟩ := hat s1 hs1
    have h3 := h2' j1 hj1
    rw [e1] at h3
    have h4 := (payK_mono hb s1 hk (m := b.m0 + (j : Int)) (by omega) (b.m1 - b.m0 - (j : Int)).toNat).1
    rw [show b.m0 + (j : Int) + (((b.m1 - b.m0 - (j : Int)).toNat : Nat) : Int) = b.m1 by omega] at h4
    show payK b s1 (b.m0 + (j : Int)) k ≤ _
    omega
theorem can_yes {b : Sb} (hb : Good b) {s m : Int} (hs : s ∈ sdL b []) (hm : b.m0 ≤ m ∧ m ≤ b.m1) : canV b (payL b s m) = true ∧ canE b (payL b s m) = 0 := by
  have hmo := hb.mo
  have hp : plB b (payL b s m) = true := by
    unfold plB
    rw [decide_eq_true (payL_len b s m), Bool.true_and, List.all_eq_true]
    intro x hx
    obtain ⟨k, hk, rfl⟩ := List.mem_map.1 hx
    exact decide_eq_true (payK_bd hb s (List.mem_range.1 hk) (by omega)).1
  have he : canE b (payL b s m) = 0 := by
    unfold canE askV; rw [if_pos (okS_good.2 hb), if_pos hp, if_neg (by intro e; rw [e] at hs; cases hs)]
  refine ⟨?_, he⟩
  unfold canV; rw [if_pos he]
  unfold canB
  refine List.any_eq_true.2 ⟨s, hs, List.any_eq_true.2 ⟨(m - b.m0).toNat, List.mem_range.2 (by unfold mnN; omega), decide_eq_true ?_⟩⟩
  rw [show b.m0 + (((m - b.m0).toNat : Nat) : Int) = m by omega]
theorem can_no {b : Sb} (hb : Good b) {s m : Int} (hs : s ∈ sdL b []) (hm : b.m0 ≤ m ∧ m ≤ b.m1) {k : Nat} (hk : k < b.hs.length) {x : Int} (hx : b.m1 < x) : canV b ((payL b s m).set k x) = false ∧ canE b ((payL b s m).set k x) = 0 := by
  have hmo := hb.mo
  have hp : plB b ((payL b s m).set k x) = true := by
    unfold plB
    rw [decide_eq_true (by rw [List.length_set]; exact payL_len b s m), Bool.true_and, List.all_eq_true]
    intro y hy
    rcases List.mem_or_eq_of_mem_set hy with hy | rfl
    · obtain ⟨k', hk', rfl⟩ := List.mem_map.1 hy
      exact decide_eq_true (payK_bd hb s (List.mem_range.1 hk') (by omega)).1
    · exact decide_eq_true (by omega)
  have he : canE b ((payL b s m).set k x) = 0 := by
    unfold canE askV; rw [if_pos (okS_good.2 hb), if_pos hp, if_neg (by intro e; rw [e] at hs; cases hs)]
  refine ⟨?_, he⟩
  unfold canV; rw [if_pos he]
  unfold canB
  rw [List.any_eq_false]
  intro s' hs' hc
  obtain ⟨j, hj, e⟩ := List.any_eq_true.1 hc
  have hj' := List.mem_range.1 hj
  unfold mnN at hj'
  have e := of_decide_eq_true e
  have h1 : (payL b s' (b.m0 + (j : Int)))[k]? = some x := by rw [e, List.getElem?_set, if_pos rfl, if_pos (by rw [payL_len]; exact hk)]
  rw [payL_at hk] at h1
  have h2 : payK b s' (b.m0 + (j : Int)) k = x := Option.some.inj h1
  have h3 := payK_bd hb s' hk (m := b.m0 + (j : Int)) (by omega)
  omega
theorem sdU_up {b : Sb} (hb : Good b) (but : List Int) : ∀ n, n ≤ sdN b → Up 0 10000 (sdU b but n) ∧ ∀ y ∈ sdU b but n, y < b.s0 + (n : Int)
  | 0, _ => ⟨trivial, fun y hy => by cases hy⟩
  | n + 1, h => by
    obtain ⟨h1, h2⟩ := sdU_up hb but n (by omega)
    have hse := hb.se
    have hn : (n : Int) < b.s1 - b.s0 + 1 := by unfold sdN at h; omega
    rw [sdU_succ]
    split
    · refine ⟨h1.snoc h2 (by omega) (by omega), fun y hy => ?_⟩
      rcases List.mem_append.1 hy with hy | hy
      · have := h2 y hy; omega
      · rw [List.mem_singleton.1 hy]; omega
    · exact ⟨h1, fun y hy => by have := h2 y hy; omega⟩
theorem sd_up {b : Sb} (hb : Good b) (but : List Int) : Up 0 10000 (sdL b but) := (sdU_up hb but (sdN b) (Nat.le_refl _)).1
theorem noE (n0 n1 n2 : Int) (hok : okS b = false) (w : World) (hK : Kinds w) (hH : Hos w ha hc b.hs) (hD : Ints w da dc b.dr) : Ct Tryd.prog 10 #[.agg (sbL b ha hc da dc).toArray, .agg [iv n0, iv n1, iv n2].toArray] w (fun u w' => u = .bool true ∧ Ext w w') := by
  refine fn_intro (args := [.agg (sbL b ha hc da dc).toArray, .agg [iv n0, iv n1, iv n2].toArray]) Tryd.func10 rfl rfl (by kernel_rfl) ?_
  have S := St.start no w
  refine W.seq (W.region S ?_)
  refine AS.cons (sp_boxa 2 rfl (fun b2 => ?_))
  refine AS.cons (sp_boxa 3 rfl (fun b3 => ?_))
  refine AS.cons (sp_asg rfl ?_)
  refine AS.nil ?_
  intro _ S
  refine W.seq (W.seq (W.region S ?_))
  refine AS.cons (sp_ldw 2 rfl rfl ag_28_9 ?_)
  refine AS.cons (sp_call [] rfl rfl cf_35 (fun F w _ S => soundT hok w (hK.ext S.mod) (hH.ext S.mod) (hD.ext S.mod)) ?_)
  refine AS.cons (sp_not rfl ?_)
  refine AS.nil ?_
  intro _ S
  refine W.cond rfl (fun c23 => ?_) (fun c23 => ?_)
  · skip
    refine W.seq (W.region S ?_)
    refine AS.cons (sp_call [] rfl rfl cf_26 (fun F w _ S => drawn w (hK.ext S.mod)) ?_)
    refine AS.cons (sp_asg (v := .bool _) rfl ?_)
    refine AS.nil ?_
    intro _ S
    refine W.ret ?_
    exact ret1 rfl rfl S fun w' S' => ⟨rfl, S'.mod⟩
  · exact absurd c23 (by decide)
theorem payT {b : Sb} {ha : Option Addr} {hc : Nat} {da : Option Addr} {dc : Nat} {k lo hi e : Int} (h1 : payLoV b k = lo) (h2 : payHiV b k = hi) (h3 : payE b k = e) (w : World) (hK : Kinds w) (hH : Hos w ha hc b.hs) (hD : Ints w da dc b.dr) : Ct Tryd.prog 27 #[.agg (sbL b ha hc da dc).toArray, iv k] w (fun u w' => u = .tuple #[.agg [iv lo, iv hi].toArray, iv e] ∧ Ext w w') := by
  have h := paysP b ha hc da dc k w hK hH hD; rw [h1, h2, h3] at h; exact h
theorem canT {b : Sb} {ha : Option Addr} {hc : Nat} {da : Option Addr} {dc : Nat} {pa : Option Addr} {pc : Nat} {l : List Int} {x : Bool} {e : Int} (h : canV b l = x ∧ canE b l = e) (w : World) (hK : Kinds w) (hH : Hos w ha hc b.hs) (hD : Ints w da dc b.dr) (hL : Ints w pa pc l) : Ct Tryd.prog 29 #[.agg (sbL b ha hc da dc).toArray, .slice pa l.length pc] w (fun u w' => u = .tuple #[.bool x, iv e] ∧ Ext w w') := by
  have h1 := canP b ha hc da dc pa pc l w hK hH hD hL; rw [h.1, h.2] at h1; exact h1
theorem wheelT {n k v : Int} (h : whlV n k = v) (hk : k ≤ 9223372036854775807) (w : World) : Ct Tryd.prog 39 #[iv n, iv k] w (fun u w' => u = iv v ∧ Ext w w') := by
  have h1 := wheelV n k hk w; rw [h] at h1; exact h1
theorem someT {lo hi n v : Int} (h : v = someV lo hi n) (hb : 0 ≤ lo ∧ lo ≤ hi ∧ hi ≤ 10000) (w : World) : Ct Tryd.prog 36 #[.agg [iv lo, iv hi].toArray, iv n] w (fun u w' => u = iv v ∧ Ext w w') := by
  have h1 := someF lo hi n hb w; rw [← h] at h1; exact h1
set_option maxHeartbeats 8000000 in
theorem endsL0 (n0 n1 n2 : Int) (hb : Good b) (h0 : sdL b [] = []) (w : World) (hK : Kinds w) (hH : Hos w ha hc b.hs) (hD : Ints w da dc b.dr) : Ct Tryd.prog 10 #[.agg (sbL b ha hc da dc).toArray, .agg [iv n0, iv n1, iv n2].toArray] w (fun u w' => u = .bool true ∧ Ext w w') := by
  refine fn_intro (args := [.agg (sbL b ha hc da dc).toArray, .agg [iv n0, iv n1, iv n2].toArray]) Tryd.func10 rfl rfl (by kernel_rfl) ?_
  have S := St.start no w
  have hn1 := hb.n1
  have hn6 := hb.n6
  have hwk := whl_bd n0 (k := (b.hs.length : Int)) (by omega)
  obtain ⟨k, hk⟩ : ∃ k, whlV n0 (b.hs.length : Int) = k := ⟨_, rfl⟩
  rw [hk] at hwk
  have he : payE b k = 82 := by unfold payE askV holdB; rw [if_pos (okS_good.2 hb), decide_eq_true (by omega), if_pos rfl, if_pos h0]
  have hlo : payLoV b k = 0 := by unfold payLoV; rw [he, if_neg (by decide)]
  have hhi : payHiV b k = 0 := by unfold payHiV; rw [he, if_neg (by decide)]
  refine W.seq (W.region S ?_)
  refine AS.cons (sp_boxa 2 rfl (fun b2 => ?_))
  refine AS.cons (sp_boxa 3 rfl (fun b3 => ?_))
  refine AS.cons (sp_asg rfl ?_)
  refine AS.nil ?_
  intro _ S
  refine W.seq (W.seq (W.region S ?_))
  refine AS.cons (sp_ldw 2 rfl rfl ag_28_9 ?_)
  refine AS.cons (sp_call [] rfl rfl cf_35 (fun F w _ S => soundT (okS_good.2 hb) w (hK.ext S.mod) (hH.ext S.mod) (hD.ext S.mod)) ?_)
  refine AS.cons (sp_not rfl ?_)
  refine AS.nil ?_
  intro _ S
  refine W.cond rfl (fun c23 => ?_) (fun c23 => ?_)
  · exact absurd c23 (by decide)
  · skip
    refine W.skip ?_
    refine W.seq (W.region S ?_)
    refine AS.cons (sp_ldw 2 rfl rfl ag_28_9 ?_)
    refine AS.cons (sp_call1 27 [] _ rfl rfl cf_24 (fun F w _ S => seedsT hb h0 w (hK.ext S.mod) (hH.ext S.mod) (hD.ext S.mod)) ?_ (by simp))
    rintro v27 i27 ⟨a27, c27, h27, rfl, rfl⟩
    refine AS.cons (sp_move rfl ?_)
    refine AS.cons (sp_ext rfl rfl ?_)
    refine AS.cons (sp_ext rfl rfl ?_)
    refine AS.cons (sp_asg rfl ?_)
    refine AS.cons (sp_asg (v := .int _ _) rfl ?_)
    refine AS.nil ?_
    intro _ S
    refine W.seq (W.region S ?_)
    refine AS.cons (sp_iaa rfl rfl ar_22_3_3_1 (by first | omega | (simp only [decide_eq_true_eq, decide_eq_false_iff_not] at *; omega)) ?_)
    refine AS.cons (sp_ld 3 rfl rfl sc_3 rfl ?_)
    refine AS.cons (sp_fa rfl fo_28_1_3 ?_)
    refine AS.cons (sp_ld 2 rfl rfl sc_23 rfl ?_)
    refine AS.cons (sp_len rfl sl_23_75_3 ?_)
    refine AS.cons (sp_call [] rfl rfl cf_39 (fun F w _ S => wheelT hk (by omega) w) ?_)
    refine AS.cons (sp_asg (v := .int _ _) rfl ?_)
    refine AS.nil ?_
    intro _ S
    refine W.seq (W.region S ?_)
    refine AS.cons (sp_ldw 2 rfl rfl ag_28_9 ?_)
    refine AS.cons (sp_move (v := .int _ _) rfl ?_)
    refine AS.cons (sp_call [] rfl rfl cf_27 (fun F w _ S => payT hlo hhi he w (hK.ext S.mod) (hH.ext S.mod) (hD.ext S.mod)) ?_)
    refine AS.cons (sp_move rfl ?_)
    refine AS.cons (sp_ext rfl rfl ?_)
    refine AS.cons (sp_ext rfl rfl ?_)
    refine AS.cons (sp_alloc 8 zv_25 rfl (fun b8 => ?_))
    refine AS.cons (sp_st 8 rfl rfl rfl rfl sz_25_2 rfl rfl ?_)
    refine AS.cons (sp_asg (v := .int _ _) rfl ?_)
    refine AS.nil ?_
    intro _ S
    refine W.seq (W.seq (W.region S ?_))
    refine AS.cons (sp_move (v := .int _ _) rfl ?_)
    refine AS.cons (sp_neq rfl rfl ?_)
    refine AS.nil ?_
    intro _ S
    refine W.condd rfl (fun c43 => ?_) (fun c43 => ?_)
    · exact absurd c43 (by decide)
    · skip
      refine W.skip ?_
      refine W.seq (W.seq (W.region S ?_))
      refine AS.cons (sp_move rfl ?_)
      refine AS.cons (sp_len rfl sl_26_3_1 ?_)
      refine AS.cons (sp_eql rfl rfl ?_)
      refine AS.nil ?_
      intro _ S
      refine W.condd rfl (fun c46 => ?_) (fun c46 => ?_)
      · skip
        refine W.seq (W.draw S mixed (fun i => ([KD.q [], KD.q [], KD.q [], KD.q [8], KD.e [] [], KD.q [], KD.q [], KD.q [], KD.e [] [], KD.q [], KD.q []] : List KD)[i]?) [7] [0, 1, 2, 4, 3, 5, 6, 7, 8, 9, 10] (by kernel_rfl) ?_)
        refine AW.cons rfl rfl (sp_move (v := .int _ _) rfl ?_)
        refine AW.cons rfl rfl (sp_eql rfl rfl ?_)
        refine AW.cons rfl rfl (sp_move (v := .bool _) rfl ?_)
        refine AW.split 49 rfl (fun g49 => ?_) (fun g49 => ?_)
        · skip
          refine AW.cons rfl rfl (sp_call [] rfl rfl cf_48 (fun F w _ S => justF _ w) ?_)
          refine AW.cons rfl rfl (sp_ldw 8 rfl rfl ag_25_2 ?_)
          refine AW.cons rfl rfl (sp_eqla rfl rfl gt_25 (eqP_p2 pr_25 _ _ _ _) ?_)
          refine AW.cons rfl rfl (sp_pick_t rfl (v := .bool _) rfl ?_)
          refine AW.cons rfl rfl (sp_move (v := .bool _) rfl ?_)
          refine AW.split 54 rfl (fun g54 => ?_) (fun g54 => ?_)
          · skip
            refine AW.cons rfl rfl (sp_call [] rfl rfl cf_26 (fun F w _ S => drawn w (hK.ext S.mod)) ?_)
            refine AW.cons rfl rfl (sp_pick_t rfl (v := .bool _) rfl ?_)
            refine AW.cons rfl rfl (sp_asg (v := .bool _) rfl ?_)
            refine AW.nil ?_
            intro _ S
            refine W.ret ?_
            exact ret1 rfl rfl S fun w' S' => ⟨rfl, S'.mod⟩
          · exact absurd g54 (by decide)
        · exact absurd g49 (by decide)
      · exact absurd rfl c46
set_option maxHeartbeats 16000000 in
theorem endsL1 (n0 n1 n2 : Int) (hb : Good b) (hL : 0 < (sdL b []).length) (w : World) (hK : Kinds w) (hH : Hos w ha hc b.hs) (hD : Ints w da dc b.dr) : Ct Tryd.prog 10 #[.agg (sbL b ha hc da dc).toArray, .agg [iv n0, iv n1, iv n2].toArray] w (fun u w' => u = .bool true ∧ Ext w w') := by
  refine fn_intro (args := [.agg (sbL b ha hc da dc).toArray, .agg [iv n0, iv n1, iv n2].toArray]) Tryd.func10 rfl rfl (by kernel_rfl) ?_
  have S := St.start no w
  have hn1 := hb.n1
  have hn6 := hb.n6
  have hl51 := sdL_51 hb []
  obtain ⟨⟨hm1, hm2⟩, hm3, hm4⟩ := hb.mo
  have hwk := whl_bd n0 (k := (b.hs.length : Int)) (by omega)
  obtain ⟨k, hk⟩ : ∃ k : Nat, whlV n0 (b.hs.length : Int) = (k : Int) := ⟨(whlV n0 (b.hs.length : Int)).toNat, by omega⟩
  have hkl : k < b.hs.length := by omega
  have hend := ends_is hb hkl hL
  have hsx : ∀ s ∈ sdL b [], 0 ≤ s ∧ s ≤ 9999 := fun s hs => sd_bd hb hs
  have hup := sd_up hb []
  have hne : ¬ sdL b [] = [] := fun e => by rw [e] at hL; exact absurd hL (by decide)
  obtain ⟨p0, hp0⟩ : ∃ p0, p0 = payLo b k := ⟨_, rfl⟩
  obtain ⟨p1, hp1⟩ : ∃ p1, p1 = payHi b k := ⟨_, rfl⟩
  rw [← hp0, ← hp1] at hend
  have hpm := pickV_mem hL n2
  obtain ⟨s2, hs2⟩ : ∃ s2, s2 = pickV (sdL b []) n2 := ⟨_, rfl⟩
  rw [← hs2] at hpm
  have hs2b := hsx s2 hpm
  have hws := some_bd n1 hm2
  obtain ⟨mm, hmm⟩ : ∃ mm : Nat, (mm : Int) = someV b.m0 b.m1 n1 := ⟨(someV b.m0 b.m1 n1).toNat, by omega⟩
  rw [← hmm] at hws
  have hcy := can_yes hb hpm hws
  have hpk2 := payK_bd hb s2 hkl (m := (mm : Int)) (by omega)
  have hcn := can_no hb hpm hws hkl (x := payK b s2 mm k + (b.m1 + 1)) (by omega)
  obtain ⟨m0, hm0⟩ : ∃ m0 : Nat, (m0 : Int) = b.m0 := ⟨b.m0.toNat, by omega⟩
  obtain ⟨m1, hm1'⟩ : ∃ m1 : Nat, (m1 : Int) = b.m1 := ⟨b.m1.toNat, by omega⟩
  have hset0 : ∀ (s : Int) (oa : Option Addr) (oc : Nat) (w : World), Ints w oa oc (ord b s) → Ct Tryd.prog 40 #[.agg (sbL b ha hc da dc).toArray, iv b.m0, .slice oa (ord b s).length oc] w (fun u w' => ∃ i, LsR (payL b s b.m0) u i ∧ St no w w' (upd eL 0 i) []) := fun s oa oc w h => by rw [← hm0]; exact settledF b ha hc da dc hb m0 (by omega) s oa oc w h
  have hset1 : ∀ (s : Int) (oa : Option Addr) (oc : Nat) (w : World), Ints w oa oc (ord b s) → Ct Tryd.prog 40 #[.agg (sbL b ha hc da dc).toArray, iv b.m1, .slice oa (ord b s).length oc] w (fun u w' => ∃ i, LsR (payL b s b.m1) u i ∧ St no w w' (upd eL 0 i) []) := fun s oa oc w h => by rw [← hm1']; exact settledF b ha hc da dc hb m1 (by omega) s oa oc w h
  have hol := ord_all hb
  have ha60 := hb.a60
  have hpl : ∀ s m, (payL b s m).length = b.hs.length := fun s m => payL_len b s m
  have hpat : ∀ s m, ((payL b s m).map iv)[((k : Int)).toNat * 1]? = some (iv (payK b s m k)) := fun s m => by rw [Nat.mul_one, List.getElem?_map, Int.toNat_natCast, payL_at hkl]; rfl
  have hpl2 := hpl s2 mm
  refine W.seq (W.region S ?_)
  refine AS.cons (sp_boxa 2 rfl (fun b2 => ?_))
  refine AS.cons (sp_boxa 3 rfl (fun b3 => ?_))
  refine AS.cons (sp_asg rfl ?_)
  refine AS.nil ?_
  intro _ S
  refine W.seq (W.seq (W.region S ?_))
  refine AS.cons (sp_ldw 2 rfl rfl ag_28_9 ?_)
  refine AS.cons (sp_call [] rfl rfl cf_35 (fun F w _ S => soundT (okS_good.2 hb) w (hK.ext S.mod) (hH.ext S.mod) (hD.ext S.mod)) ?_)
  refine AS.cons (sp_not rfl ?_)
  refine AS.nil ?_
  intro _ S
  refine W.cond rfl (fun c23 => ?_) (fun c23 => ?_)
  · exact absurd c23 (by decide)
  · skip
    refine W.skip ?_
    refine W.seq (W.region S ?_)
    refine AS.cons (sp_ldw 2 rfl rfl ag_28_9 ?_)
    refine AS.cons (sp_call1 27 [] _ rfl rfl cf_24 (fun F w _ S => seedsG b ha hc da dc hb w (hK.ext S.mod) (hH.ext S.mod) (hD.ext S.mod)) ?_ (by simp))
    rintro v27 i27 ⟨a27, c27, h27, rfl, rfl⟩
    refine AS.cons (sp_move rfl ?_)
    refine AS.cons (sp_ext rfl rfl ?_)
    refine AS.cons (sp_ext rfl rfl ?_)
    refine AS.cons (sp_asg rfl ?_)
    refine AS.cons (sp_asg (v := .int _ _) rfl ?_)
    refine AS.nil ?_
    intro _ S
    refine W.seq (W.region S ?_)
    refine AS.cons (sp_iaa rfl rfl ar_22_3_3_1 (by first | omega | (simp only [decide_eq_true_eq, decide_eq_false_iff_not] at *; omega)) ?_)
    refine AS.cons (sp_ld 3 rfl rfl sc_3 rfl ?_)
    refine AS.cons (sp_fa rfl fo_28_1_3 ?_)
    refine AS.cons (sp_ld 2 rfl rfl sc_23 rfl ?_)
    refine AS.cons (sp_len rfl sl_23_75_3 ?_)
    refine AS.cons (sp_call [] rfl rfl cf_39 (fun F w _ S => wheelT hk (by omega) w) ?_)
    refine AS.cons (sp_asg (v := .int _ _) rfl ?_)
    refine AS.nil ?_
    intro _ S
    refine W.seq (W.region S ?_)
    refine AS.cons (sp_ldw 2 rfl rfl ag_28_9 ?_)
    refine AS.cons (sp_move (v := .int _ _) rfl ?_)
    refine AS.cons (sp_call [] rfl rfl cf_27 (fun F w _ S => by have h := paysG b ha hc da dc hb k hkl hne w (hK.ext S.mod) (hH.ext S.mod) (hD.ext S.mod); rw [← hp0, ← hp1] at h; exact h) ?_)
    refine AS.cons (sp_move rfl ?_)
    refine AS.cons (sp_ext rfl rfl ?_)
    refine AS.cons (sp_ext rfl rfl ?_)
    refine AS.cons (sp_alloc 8 zv_25 rfl (fun b8 => ?_))
    refine AS.cons (sp_st 8 rfl rfl rfl rfl sz_25_2 rfl rfl ?_)
    refine AS.cons (sp_asg (v := .int _ _) rfl ?_)
    refine AS.nil ?_
    intro _ S
    refine W.seq (W.seq (W.region S ?_))
    refine AS.cons (sp_move (v := .int _ _) rfl ?_)
    refine AS.cons (sp_neq rfl rfl ?_)
    refine AS.nil ?_
    intro _ S
    refine W.condd rfl (fun c43 => ?_) (fun c43 => ?_)
    · exact absurd c43 (by decide)
    · skip
      refine W.skip ?_
      refine W.seq (W.seq (W.region S ?_))
      refine AS.cons (sp_move rfl ?_)
      refine AS.cons (sp_len rfl sl_26_3_1 ?_)
      refine AS.cons (sp_eql rfl rfl ?_)
      refine AS.nil ?_
      intro _ S
      refine W.condd rfl (fun c46 => ?_) (fun c46 => ?_)
      · exact absurd c46 (by omega)
      · skip
        refine W.skip ?_
        refine W.seq (W.seq (W.region S ?_))
        refine AS.cons (sp_move (v := .int _ _) rfl ?_)
        refine AS.cons (sp_neq rfl rfl ?_)
        refine AS.cons (sp_move (v := .bool _) rfl ?_)
        refine AS.split 59 rfl (fun g59 => ?_) (fun g59 => ?_)
        · exact absurd g59 (by decide)
        · skip
          refine AS.cons (sp_move rfl ?_)
          refine AS.cons (sp_call [27] rfl rfl cf_49 (fun F w hF S => risesF a27 c27 (sdL b []) 10000 (by omega) hup w (S.slc_rd (k := 27) ((hF 27 (by simp)).trans rfl) (by omega))) ?_)
          refine AS.cons (sp_not rfl ?_)
          refine AS.cons (sp_pick_f rfl (v := .bool _) rfl ?_)
          refine AS.nil ?_
          intro _ S
          refine W.cond rfl (fun c63 => ?_) (fun c63 => ?_)
          · exact absurd c63 (by decide)
          · skip
            refine W.skip ?_
            refine W.seq (W.region S ?_)
            refine AS.cons (sp_asg rfl ?_)
            refine AS.cons (sp_asg rfl ?_)
            refine AS.nil ?_
            intro _ S
            refine W.seq (W.seq (W.region S ?_))
            refine AS.cons (sp_asg rfl ?_)
            refine AS.nil ?_
            intro _ S
            refine W.block ?_
            refine W.loopS S [10, 11, 12, 13, 14, 15, 64, 65, 66, 67, 68, 69, 70, 71, 72, 73, 74, 75, 76, 77, 78, 79, 80, 81, 82, 83, 84, 85, 86, 87, 88, 89, 90, 91, 92, 93, 94, 95, 96, 97, 98, 99, 100, 101, 102, 103, 104] [75, 81, 90] (fun (i : Nat) => [(12, iv i), (10, iv (leU b k (sdL b []) i)), (11, iv (mxU b k (sdL b []) i))]) (fun _ => []) (fun i => i ≤ (sdL b []).length) (fun i => (sdL b []).length - i) 0 (by omega) ⟨rfl, rfl, rfl, trivial⟩ trivial ?_
            rintro i σ M w1 hi S
            refine W.seq (W.seq (W.region S ?_))
            refine AS.cons (sp_move (v := .int _ _) rfl ?_)
            refine AS.cons (sp_move rfl ?_)
            refine AS.cons (sp_len rfl sl_26_3_1 ?_)
            refine AS.cons (sp_lss rfl rfl ?_)
            refine AS.nil ?_
            intro _ S
            refine W.condd rfl (fun c67 => ?_) (fun c67 => ?_)
            · skip
              have hlt : i < (sdL b []).length := by omega
              obtain ⟨s, hx⟩ := get_some hlt
              have hsm := List.mem_of_getElem? hx
              have hsb := hsx s hsm
              have hgs : (sdL b []).getD i 0 = s := by rw [List.getD_eq_getElem?_getD, hx]; rfl
              have hos := hol s
              have hls0 := hpl s b.m0
              have hls1 := hpl s b.m1
              have hle : leU b k (sdL b []) (i + 1) = if leU b k (sdL b []) i < 0 ∨ payK b s b.m0 k < leU b k (sdL b []) i then payK b s b.m0 k else leU b k (sdL b []) i := by rw [leU, hgs]
              have hmx : mxU b k (sdL b []) (i + 1) = max (mxU b k (sdL b []) i) (payK b s b.m1 k) := by rw [mxU, hgs]
              refine W.skip ?_
              refine W.seq (W.block ?_)
              refine W.seq (W.draw S mixed (fun i => ([KD.q [2], KD.q [], KD.q [], KD.q [27], KD.q [27], KD.e [] [75], KD.q []] : List KD)[i]?) [] [0, 1, 2, 3, 4, 5, 6] (by kernel_rfl) ?_)
              refine AW.cons rfl rfl (sp_ldw 2 rfl rfl ag_28_9 ?_)
              refine AW.cons rfl rfl (sp_move rfl ?_)
              refine AW.cons rfl rfl (sp_move (v := .int _ _) rfl ?_)
              refine AW.cons rfl rfl (sp_iaS 27 rfl rfl rfl sl_26_3_1 (by omega) ?_)
              refine AW.cons rfl rfl (sp_ldS 27 rfl rfl sc_3 (v := iv s) (by simp [hx]) (by omega) ?_)
              refine AW.cons rfl rfl (sp_call1 75 [] _ rfl rfl cf_37 (fun F w _ S => wonF _ _ _ _ _ (by assumption) _ (by omega) w (hH.ext S.mod)) ?_ (fun _ => LsR.ne _))
              rintro v75 i75 ⟨⟨a75, c75, rfl, h75⟩, rfl⟩
              refine AW.cons rfl rfl (sp_asg rfl ?_)
              refine AW.nil ?_
              intro _ S
              refine W.seq (W.draw S mixed (fun i => ([KD.q [2], KD.q [], KD.q [], KD.q [2], KD.q [], KD.e [75] [81], KD.q [], KD.q [81], KD.q [81], KD.q [2], KD.q [], KD.q [], KD.q [2], KD.q [], KD.e [75] [90], KD.q [], KD.q [90], KD.q [90], KD.q [], KD.q []] : List KD)[i]?) [7, 16] [0, 1, 2, 3, 4, 5, 6, 7, 8, 9, 10, 11, 12, 13, 14, 15, 16, 17, 18, 19] (by kernel_rfl) ?_)
              refine AW.cons rfl rfl (sp_ldw 2 rfl rfl ag_28_9 ?_)
              refine AW.cons rfl rfl (sp_fa rfl fo_28_2_4 ?_)
              refine AW.cons rfl rfl (sp_fa rfl fo_25_0_0 ?_)
              refine AW.cons rfl rfl (sp_ld 2 rfl rfl sc_3 rfl ?_)
              refine AW.cons rfl rfl (sp_move rfl ?_)
              refine AW.cons rfl rfl (sp_call1 81 [75] _ rfl rfl cf_40 (fun F w hF S => hset0 s a75 c75 w (S.slc_rd (k := 75) ((hF 75 (by simp)).trans rfl) (by omega))) ?_ (fun _ => LsR.ne _))
              rintro v81 i81 ⟨⟨a81, c81, rfl, h81⟩, rfl⟩
              refine AW.cons rfl rfl (sp_move (v := .int _ _) rfl ?_)
              refine AW.cons rfl rfl (sp_iaS 81 rfl rfl rfl sl_26_3_1 (by omega) ?_)
              refine AW.cons rfl rfl (sp_ldS 81 rfl rfl sc_3 (hpat s b.m0) (by omega) ?_)
              refine AW.cons rfl rfl (sp_ldw 2 rfl rfl ag_28_9 ?_)
              refine AW.cons rfl rfl (sp_fa rfl fo_28_2_4 ?_)
              refine AW.cons rfl rfl (sp_fa rfl fo_25_1_1 ?_)
              refine AW.cons rfl rfl (sp_ld 2 rfl rfl sc_3 rfl ?_)
              refine AW.cons rfl rfl (sp_move rfl ?_)
              refine AW.cons rfl rfl (sp_call1 90 [75] _ rfl rfl cf_40 (fun F w hF S => hset1 s a75 c75 w (S.slc_rd (k := 75) ((hF 75 (by simp)).trans rfl) (by omega))) ?_ (fun _ => LsR.ne _))
              rintro v90 i90 ⟨⟨a90, c90, rfl, h90⟩, rfl⟩
              refine AW.cons rfl rfl (sp_move (v := .int _ _) rfl ?_)
              refine AW.cons rfl rfl (sp_iaS 90 rfl rfl rfl sl_26_3_1 (by omega) ?_)
              refine AW.cons rfl rfl (sp_ldS 90 rfl rfl sc_3 (hpat s b.m1) (by omega) ?_)
              refine AW.cons rfl rfl (sp_asg (v := .int _ _) rfl ?_)
              refine AW.cons rfl rfl (sp_asg (v := .int _ _) rfl ?_)
              refine AW.nil ?_
              intro _ S
              refine W.seq (W.seq (W.regionc S [94, 95, 96, 97, 98, 99, 100] 100 (leU b k (sdL b []) i < 0 ∨ payK b s b.m0 k < leU b k (sdL b []) i) ?_ ?_))
              · skip
                refine AS.cons (sp_move (v := .int _ _) rfl ?_)
                refine AS.cons (sp_lss rfl rfl ?_)
                refine AS.cons (sp_move (v := .bool _) rfl ?_)
                refine AS.split 96 rfl (fun g96 => ?_) (fun g96 => ?_)
                · skip
                  refine AS.cons (sp_skip rfl ?_)
                  refine AS.cons (sp_skip rfl ?_)
                  refine AS.cons (sp_skip rfl ?_)
                  refine AS.cons (sp_pick_t rfl (v := .bool _) rfl ?_)
                  refine AS.nil ⟨⟨_, rfl, ?_⟩, ?_, rfl⟩
                  · (try simp only [decide_eq_true_eq, decide_eq_false_iff_not] at *); first | omega | (simp_all; done) | (simp_all; omega)
                  · repeat (first | exact Agr.refl _ _ | exact Agr.msk _ _ _ | refine Agr.upd ?_ _ rfl | refine Agr.upds ?_ rfl | refine Agr.mskIn ?_ rfl)
                · skip
                  refine AS.cons (sp_move (v := .int _ _) rfl ?_)
                  refine AS.cons (sp_move (v := .int _ _) rfl ?_)
                  refine AS.cons (sp_lss rfl rfl ?_)
                  refine AS.cons (sp_pick_f rfl (v := .bool _) rfl ?_)
                  refine AS.nil ⟨⟨_, rfl, ?_⟩, ?_, rfl⟩
                  · (try simp only [decide_eq_true_eq, decide_eq_false_iff_not] at *); first | omega | (simp_all; done) | (simp_all; omega)
                  · repeat (first | exact Agr.refl _ _ | exact Agr.msk _ _ _ | refine Agr.upd ?_ _ rfl | refine Agr.upds ?_ rfl | refine Agr.mskIn ?_ rfl)
              intro σ18 _ S
              refine W.cond rfl (fun c100 => ?_) (fun c100 => ?_)
              · skip
                replace c100 := of_decide_eq_true c100
                rw [if_pos c100] at hle
                refine W.region S ?_
                refine AS.cons (sp_move (v := .int _ _) rfl ?_)
                refine AS.cons (sp_asg (v := .int _ _) rfl ?_)
                refine AS.nil ?_
                intro _ S
                refine W.region S ?_
                refine AS.cons (sp_move (v := .int _ _) rfl ?_)
                refine AS.cons (sp_move (v := .int _ _) rfl ?_)
                refine AS.cons (sp_max rfl rfl ?_)
                refine AS.cons (sp_asg (v := .int _ _) rfl ?_)
                refine AS.nil ?_
                intro _ S
                refine W.region S ?_
                refine AS.cons (sp_move (v := .int _ _) rfl ?_)
                refine AS.cons (sp_add rfl rfl (by first | omega | (simp only [decide_eq_true_eq, decide_eq_false_iff_not] at *; omega)) ?_)
                refine AS.cons (sp_asg (v := .int _ _) rfl ?_)
                refine AS.nil ?_
                intro _ S
                exact ⟨i + 1, _, by omega, by omega, ⟨by simp [upd], by rw [hle]; rfl, by rw [hmx]; rfl, trivial⟩, trivial, by repeat (first | exact Agr.refl _ _ | exact Agr.msk _ _ _ | refine Agr.upd ?_ _ rfl | refine Agr.upds ?_ rfl | refine Agr.mskIn ?_ rfl), by repeat (first | exact Agr.refl _ _ | exact Agr.msk _ _ _ | refine Agr.upd ?_ _ rfl | refine Agr.upds ?_ rfl | refine Agr.mskIn ?_ rfl), rfl, S⟩
              · skip
                replace c100 := of_decide_eq_false c100
                rw [if_neg c100] at hle
                refine W.skip ?_
                refine W.region S ?_
                refine AS.cons (sp_move (v := .int _ _) rfl ?_)
                refine AS.cons (sp_move (v := .int _ _) rfl ?_)
                refine AS.cons (sp_max rfl rfl ?_)
                refine AS.cons (sp_asg (v := .int _ _) rfl ?_)
                refine AS.nil ?_
                intro _ S
                refine W.region S ?_
                refine AS.cons (sp_move (v := .int _ _) rfl ?_)
                refine AS.cons (sp_add rfl rfl (by first | omega | (simp only [decide_eq_true_eq, decide_eq_false_iff_not] at *; omega)) ?_)
                refine AS.cons (sp_asg (v := .int _ _) rfl ?_)
                refine AS.nil ?_
                intro _ S
                exact ⟨i + 1, _, by omega, by omega, ⟨by simp [upd], by rw [hle]; rfl, by rw [hmx]; rfl, trivial⟩, trivial, by repeat (first | exact Agr.refl _ _ | exact Agr.msk _ _ _ | refine Agr.upd ?_ _ rfl | refine Agr.upds ?_ rfl | refine Agr.mskIn ?_ rfl), by repeat (first | exact Agr.refl _ _ | exact Agr.msk _ _ _ | refine Agr.upd ?_ _ rfl | refine Agr.upds ?_ rfl | refine Agr.mskIn ?_ rfl), rfl, S⟩
            · skip
              obtain rfl : i = (sdL b []).length := by omega
              rw [hend.1, hend.2] at *
              refine W.exit ?_
              refine W.seq (W.draw S mixed (fun i => ([KD.q [2], KD.q [], KD.q [2], KD.q [], KD.q [3], KD.e [] [], KD.q [2], KD.q [], KD.q [], KD.q [3], KD.e [27] [], KD.e [] [116], KD.e [116] [117], KD.q []] : List KD)[i]?) [10, 11] [0, 1, 2, 3, 4, 5, 6, 7, 8, 9, 10, 11, 12, 13] (by kernel_rfl) ?_)
              refine AW.cons rfl rfl (sp_ldw 2 rfl rfl ag_28_9 ?_)
              refine AW.cons rfl rfl (sp_fa rfl fo_28_2_4 ?_)
              refine AW.cons rfl rfl (sp_lda 2 2 rfl rfl ag_25_2 rfl ?_)
              refine AW.cons rfl rfl (sp_iaa rfl rfl ar_22_3_3_1 (by first | omega | (simp only [decide_eq_true_eq, decide_eq_false_iff_not] at *; omega)) ?_)
              refine AW.cons rfl rfl (sp_ld 3 rfl rfl sc_3 rfl ?_)
              refine AW.cons rfl rfl (sp_call [] rfl rfl cf_36 (fun F w _ S => someT hmm (by omega) w) ?_)
              refine AW.cons rfl rfl (sp_ldw 2 rfl rfl ag_28_9 ?_)
              refine AW.cons rfl rfl (sp_move rfl ?_)
              refine AW.cons rfl rfl (sp_iaa rfl rfl ar_22_3_3_1 (by first | omega | (simp only [decide_eq_true_eq, decide_eq_false_iff_not] at *; omega)) ?_)
              refine AW.cons rfl rfl (sp_ld 3 rfl rfl sc_3 rfl ?_)
              refine AW.cons rfl rfl (sp_call [27] rfl rfl cf_50 (fun F w hF S => by have h := pickG a27 c27 (sdL b []) n2 w (S.slc_rd (k := 27) ((hF 27 (by simp)).trans rfl) (by omega)); rw [← hs2] at h; exact h) ?_)
              refine AW.cons rfl rfl (sp_call1 116 [] _ rfl rfl cf_37 (fun F w _ S => wonF b ha hc da dc hb s2 (by omega) w (hH.ext S.mod)) ?_ (fun _ => LsR.ne _))
              rintro v116 i116 ⟨⟨a116, c116, rfl, h116⟩, rfl⟩
              have hos2 := hol s2
              refine AW.cons rfl rfl (sp_call1 117 [116] _ rfl rfl cf_40 (fun F w hF S => settledF b ha hc da dc hb mm (by omega) s2 a116 c116 w (S.slc_rd (k := 116) ((hF 116 (by simp)).trans rfl) (by omega))) ?_ (fun _ => LsR.ne _))
              rintro v117 i117 ⟨⟨a117, c117, rfl, h117⟩, rfl⟩
              refine AW.cons rfl rfl (sp_asg rfl ?_)
              refine AW.nil ?_
              intro _ S
              refine W.seq (W.region S ?_)
              refine AS.cons (sp_ldw 2 rfl rfl ag_28_9 ?_)
              refine AS.cons (sp_move rfl ?_)
              refine AS.cons (sp_call [117] rfl rfl cf_29 (fun F w hF S => canT hcy w (hK.ext S.mod) (hH.ext S.mod) (hD.ext S.mod) (S.slc_rd (k := 117) ((hF 117 (by simp)).trans rfl) (by omega))) ?_)
              refine AS.cons (sp_move rfl ?_)
              refine AS.cons (sp_ext rfl rfl ?_)
              refine AS.cons (sp_ext rfl rfl ?_)
              refine AS.cons (sp_asg (v := .bool _) rfl ?_)
              refine AS.cons (sp_asg (v := .int _ _) rfl ?_)
              refine AS.nil ?_
              intro _ S
              refine W.seq (W.draw S mixed (fun i => ([KD.q [], KD.q [], KD.q [117], KD.q [117], KD.q [], KD.q [], KD.q [2], KD.q [], KD.q [], KD.q [117], KD.e [117] [117]] : List KD)[i]?) [] [0, 1, 2, 3, 4, 5, 6, 7, 8, 9, 10] (by kernel_rfl) ?_)
              refine AW.cons rfl rfl (sp_move rfl ?_)
              refine AW.cons rfl rfl (sp_move (v := .int _ _) rfl ?_)
              refine AW.cons rfl rfl (sp_iaS 117 rfl rfl rfl sl_26_3_1 (by omega) ?_)
              refine AW.cons rfl rfl (sp_ldS 117 rfl rfl sc_3 (hpat s2 mm) (by omega) ?_)
              refine AW.cons rfl rfl (sp_fa rfl fo_28_2_4 ?_)
              refine AW.cons rfl rfl (sp_fa rfl fo_25_1_1 ?_)
              refine AW.cons rfl rfl (sp_ld 2 rfl rfl sc_3 rfl ?_)
              refine AW.cons rfl rfl (sp_add rfl rfl (by first | omega | (simp only [decide_eq_true_eq, decide_eq_false_iff_not] at *; omega)) ?_)
              refine AW.cons rfl rfl (sp_add rfl rfl (by first | omega | (simp only [decide_eq_true_eq, decide_eq_false_iff_not] at *; omega)) ?_)
              refine AW.cons rfl rfl (sp_iaS 117 rfl rfl rfl sl_26_3_1 (by omega) ?_)
              refine AW.cons rfl rfl (sp_stS 117 rfl rfl rfl rfl rfl sz_3_1 (by omega) ?_)
              refine AW.nil ?_
              intro _ S
              have S := S.weak (k := 117) (i := slc 3 1 (.slice a117 ((payL b s2 mm).set k (payK b s2 mm k + (b.m1 + 1))).length c117) ((payL b s2 mm).set k (payK b s2 mm k + (b.m1 + 1))).length (((payL b s2 mm).set k (payK b s2 mm k + (b.m1 + 1))).map iv)) (fun f hf => by rw [List.length_set, List.map_set]; exact hf)
              have hsl2 : ((payL b s2 mm).set k (payK b s2 mm k + (b.m1 + 1))).length = (payL b s2 mm).length := List.length_set ..
              refine W.seq (W.region S ?_)
              refine AS.cons (sp_ldw 2 rfl rfl ag_28_9 ?_)
              refine AS.cons (sp_move rfl ?_)
              refine AS.cons (sp_call [117] rfl rfl cf_29 (fun F w hF S => by have h := canT (pa := a117) (pc := c117) hcn w (hK.ext S.mod) (hH.ext S.mod) (hD.ext S.mod) (S.slc_rd (k := 117) ((hF 117 (by simp)).trans rfl) (by omega)); rw [hsl2] at h; exact h) ?_)
              refine AS.cons (sp_move rfl ?_)
              refine AS.cons (sp_ext rfl rfl ?_)
              refine AS.cons (sp_ext rfl rfl ?_)
              refine AS.cons (sp_asg (v := .bool _) rfl ?_)
              refine AS.cons (sp_asg (v := .int _ _) rfl ?_)
              refine AS.nil ?_
              intro _ S
              refine W.seq (W.draw S mixed (fun i => ([KD.q [8], KD.q [], KD.q [], KD.e [] [], KD.q [], KD.q [], KD.q [], KD.q [], KD.q [], KD.q [], KD.q [], KD.q [], KD.q [], KD.q [], KD.q [], KD.q [], KD.q [], KD.q [], KD.q [], KD.q [], KD.q [], KD.e [] [], KD.q [], KD.q []] : List KD)[i]?) [5, 9, 12, 16, 20] [0, 1, 2, 3, 4, 5, 6, 7, 8, 9, 10, 11, 12, 13, 14, 15, 16, 17, 18, 19, 20, 21, 22, 23] (by kernel_rfl) ?_)
              refine AW.cons rfl rfl (sp_ldw 8 rfl rfl ag_25_2 ?_)
              refine AW.cons rfl rfl (sp_move (v := .int _ _) rfl ?_)
              refine AW.cons rfl rfl (sp_move (v := .int _ _) rfl ?_)
              refine AW.cons rfl rfl (sp_call [] rfl rfl cf_51 (fun F w _ S => toF _ _ w) ?_)
              refine AW.cons rfl rfl (sp_eqla rfl rfl gt_25 (eqP_p2 pr_25 _ _ _ _) ?_)
              refine AW.cons rfl rfl (sp_move (v := .bool _) rfl ?_)
              refine AW.split 145 rfl (fun g145 => ?_) (fun g145 => ?_)
              · skip
                refine AW.cons rfl rfl (sp_move (v := .int _ _) rfl ?_)
                refine AW.cons rfl rfl (sp_eql rfl rfl ?_)
                refine AW.cons rfl rfl (sp_pick_t rfl (v := .bool _) rfl ?_)
                refine AW.cons rfl rfl (sp_move (v := .bool _) rfl ?_)
                refine AW.split 149 rfl (fun g149 => ?_) (fun g149 => ?_)
                · skip
                  refine AW.cons rfl rfl (sp_move (v := .bool _) rfl ?_)
                  refine AW.cons rfl rfl (sp_pick_t rfl (v := .bool _) rfl ?_)
                  refine AW.cons rfl rfl (sp_move (v := .bool _) rfl ?_)
                  refine AW.split 152 rfl (fun g152 => ?_) (fun g152 => ?_)
                  · skip
                    refine AW.cons rfl rfl (sp_move (v := .int _ _) rfl ?_)
                    refine AW.cons rfl rfl (sp_eql rfl rfl ?_)
                    refine AW.cons rfl rfl (sp_pick_t rfl (v := .bool _) rfl ?_)
                    refine AW.cons rfl rfl (sp_move (v := .bool _) rfl ?_)
                    refine AW.split 156 rfl (fun g156 => ?_) (fun g156 => ?_)
                    · skip
                      refine AW.cons rfl rfl (sp_move (v := .bool _) rfl ?_)
                      refine AW.cons rfl rfl (sp_not rfl ?_)
                      refine AW.cons rfl rfl (sp_pick_t rfl (v := .bool _) rfl ?_)
                      refine AW.cons rfl rfl (sp_move (v := .bool _) rfl ?_)
                      refine AW.split 160 rfl (fun g160 => ?_) (fun g160 => ?_)
                      · skip
                        refine AW.cons rfl rfl (sp_call [] rfl rfl cf_26 (fun F w _ S => drawn w (hK.ext S.mod)) ?_)
                        refine AW.cons rfl rfl (sp_pick_t rfl (v := .bool _) rfl ?_)
                        refine AW.cons rfl rfl (sp_asg (v := .bool _) rfl ?_)
                        refine AW.nil ?_
                        intro _ S
                        refine W.ret ?_
                        exact ret1 rfl rfl S fun w' S' => ⟨rfl, S'.mod⟩
                      · exact absurd g160 (by decide)
                    · exact absurd g156 (by decide)
                  · exact absurd g152 (by decide)
                · exact absurd g149 (by decide)
              · exact absurd g145 (by simp)
theorem endsLaw (n0 n1 n2 : Int) (w : World) (hK : Kinds w) (hH : Hos w ha hc b.hs) (hD : Ints w da dc b.dr) : Ct Tryd.prog 10 #[.agg (sbL b ha hc da dc).toArray, .agg [iv n0, iv n1, iv n2].toArray] w (fun u w' => u = .bool true ∧ Ext w w') := by
  cases hok : okS b with
  | false => exact noE b ha hc da dc n0 n1 n2 hok w hK hH hD
  | true =>
    have hb := okS_good.1 hok
    by_cases h : sdL b [] = []
    · exact endsL0 b ha hc da dc n0 n1 n2 hb h w hK hH hD
    · exact endsL1 b ha hc da dc n0 n1 n2 hb (by rcases Nat.eq_zero_or_pos (sdL b []).length with e | e; exact absurd (List.length_eq_zero_iff.1 e) h; exact e) w hK hH hD
end
end Go.Proofs.YtajocmkgdjcmkaaDoor
