/-
  Lemmas of this proof, several texts one behind the other; no condition beyond what each says.
-/
import Derived.Test.YtmpclgepoemneaaDoorMk
namespace Go.Proofs.YtmpclgepoemneaaDoor
open Go.Hu
theorem cf_51 : cfB Tryd.prog 51 = true := by kernel_rfl
end Go.Proofs.YtmpclgepoemneaaDoor
/-
  Books without cries, or with one; water.
-/
namespace Go.Proofs.YtmpclgepoemneaaDoor
open Go.Hu Go.RowKit
theorem Up_ext {N : Nat} {l m : List Int} (hl : Up 0 N l) (hm : Up 0 N m) (h : ∀ x, x ∈ l ↔ x ∈ m) : l = m := by
  have e1 := Up.range (N := N) (K := N) (lo := 0) (by omega) (by simpa using hl)
  have e2 := Up.range (N := N) (K := N) (lo := 0) (by omega) (by simpa using hm)
  rw [e1, e2]
  congr 1
  refine List.filter_congr fun n _ => ?_
  exact decide_eq_decide.2 (h n)
theorem wtI_up (b : Bk) : Up 0 (sq b) (wtI b (sq b)) := by
  unfold wtI wtU
  have := up_map (sq b) 0 (fun (n : Nat) => decide (n < sq b) && decide (¬ (n : Int) ∈ b.land)) (sq b) (fun n hn => by rw [Bool.and_eq_true] at hn; exact of_decide_eq_true hn.1)
  rw [List.range_eq_range']
  have e : (List.range' 0 (sq b)).filter (fun (n : Nat) => decide (n < sq b) && decide (¬ (n : Int) ∈ b.land)) = (List.range' 0 (sq b)).filter fun (n : Nat) => decide (¬ (n : Int) ∈ b.land) := by
    refine List.filter_congr fun n hn => ?_
    rw [List.mem_range'_1] at hn
    rw [decide_eq_true (show n < sq b by omega)]; rfl
  rw [← e]
  simpa using this
theorem cries_fld {l : List Cry} {j f : Nat} {c : Cry} (hx : l[j]? = some c) (hf : f < 7) : (l.flatMap cyL)[((j : Nat) : Int).toNat * 7 + f]? = (cyL c)[f]? := by
  have := (rdL_spec (cries_at hx)).2 f hf
  simpa using this
/-- A book without cries. -/
def clr (b : Bk) : Bk := { b with cries := [] }
def one (b : Bk) (c : Cry) : Bk := { b with cries := [c] }
theorem clr_ok {b : Bk} (h : BookOk b) : BookOk (clr b) := ⟨h.num, h.ll, Nat.zero_le _, h.land, h.nd, fun c hc => by cases hc⟩
theorem one_ok {b : Bk} (h : BookOk b) {c : Cry} (hc : CryOk c) : BookOk (one b c) := ⟨h.num, h.ll, (show 1 ≤ 8 by decide), h.land, h.nd, fun x hx => by rw [List.mem_singleton.1 hx]; exact hc⟩
theorem stay {b : Bk} (hb : Num b) {t : Nat} (h : ∀ i : Nat, i ≤ 30 → alw b (i : Int) t = true) : Path b (fun _ => t) 0 30 :=
  ⟨fun i _ hi => h i hi, fun i _ _ => by have := hb.2.2.2.2; unfold NearP; omega⟩
theorem wtI_mem' {b : Bk} {x : Int} : x ∈ wtI b (sq b) ↔ ∃ t : Nat, x = t ∧ t ∈ wtr b := by
  unfold wtI wtr
  rw [List.mem_map]
  constructor
  · rintro ⟨t, h, rfl⟩; exact ⟨t, rfl, h⟩
  · rintro ⟨t, rfl, h⟩; exact ⟨t, h, rfl⟩
theorem clr_whs {b : Bk} (hb : Num b) {m : Nat} (hm : m ≤ 30) : whs (clr b) m = wtI b (sq b) := by
  refine Up_ext (whs_up (clr b) hm) (wtI_up b) fun x => ?_
  rw [wtI_mem', whs_mem]
  constructor
  · rintro ⟨t, _, h, rfl⟩
    obtain ⟨h1, h2, _⟩ := alw_fact (cnd_lt hm h).2
    exact ⟨t, rfl, wtr_mem.2 ⟨h1, h2⟩⟩
  · rintro ⟨t, rfl, h⟩
    obtain ⟨h1, h2⟩ := wtr_mem.1 h
    have h80 := (sq_le hb).1
    refine ⟨t, by omega, ?_, rfl⟩
    exact cnd_of (b := clr b) hb (stay (b := clr b) hb fun i _ => alw_mk h1 h2 fun c hc => by cases hc) hm
theorem one_mem {b : Bk} (hb : Num b) {c : Cry} (hc : CryOk c) {x : Int} : x ∈ whs (one b c) c.m.toNat ↔ x ∈ wtI b (sq b) ∧ decide (Btw b c (x % b.wide) (x / b.wide)) = decide (c.k = 0) := by
  have hm := hc.2.1
  rw [wtI_mem', whs_mem]
  constructor
  · rintro ⟨t, _, h, rfl⟩
    obtain ⟨h1, h2, h3⟩ := alw_fact (cnd_lt (show c.m.toNat ≤ 30 by omega) h).2
    exact ⟨⟨t, rfl, wtr_mem.2 ⟨h1, h2⟩⟩, h3 c (by simp [one]) (by omega)⟩
  · rintro ⟨⟨t, rfl, h⟩, hx⟩
    obtain ⟨h1, h2⟩ := wtr_mem.1 h
    have h80 := (sq_le hb).1
    refine ⟨t, by omega, ?_, rfl⟩
    exact cnd_of (b := one b c) hb (stay (b := one b c) hb fun i _ => alw_mk h1 h2 fun c' hc' _ => by rw [List.mem_singleton.1 hc']; exact hx) (by omega)
theorem seenU_mem {b : Bk} {c : Cry} {x : Int} : x ∈ seenU b c (sq b) ↔ x ∈ wtI b (sq b) ∧ decide (Btw b c (x % b.wide) (x / b.wide)) = true := by
  unfold seenU wtI
  simp only [List.mem_map, List.mem_filter]
  constructor
  · rintro ⟨n, ⟨h1, h2⟩, rfl⟩; exact ⟨⟨n, h1, rfl⟩, h2⟩
  · rintro ⟨⟨n, h1, rfl⟩, h2⟩; exact ⟨n, ⟨h1, h2⟩, rfl⟩
theorem Up_filter {N : Nat} {p : Int → Bool} : ∀ {l : List Int} {lo : Int}, Up lo N l → Up lo N (l.filter p)
  | [], _, _ => trivial
  | x :: l, lo, ⟨h1, h2, h3⟩ => by
    rw [List.filter_cons]
    split
    · exact ⟨h1, h2, Up_filter h3⟩
    · exact Up.mono (by omega) (Up_filter h3)
theorem seenU_filter (b : Bk) (c : Cry) : seenU b c (sq b) = (wtI b (sq b)).filter fun x => decide (Btw b c (x % b.wide) (x / b.wide)) := by
  unfold seenU wtI
  rw [List.filter_map]
  rfl
theorem len_filter {α : Type} (p : α → Bool) : ∀ l : List α, (l.filter p).length + (l.filter fun x => !p x).length = l.length
  | [] => rfl
  | x :: l => by
    have := len_filter p l
    cases h : p x <;> simp [h] <;> omega
/-- What is answered of a book without cries. -/
theorem open_sum {b : Bk} (hbk : BookOk b) {m : Int} (hm : 0 ≤ m ∧ m ≤ 30) : ∃ ws e, wtI b (sq b) = ws ∧ whereL (clr b) m = ws ∧ askV (clr b) (decide (0 ≤ m ∧ m ≤ 30)) = e ∧ ws.length ≤ 80 ∧ canB (clr b) = decide ((0 : Int) < ws.length) ∧ decide (e = 0) = decide ((0 : Int) < ws.length) := by
  have hb := hbk.num
  have hck := clr_ok hbk
  have hw : whereL (clr b) m = wtI b (sq b) := (whereL_whs hck hm).trans (clr_whs hb (by omega))
  have h80 := (sq_le hb).1
  have hcan : canB (clr b) = decide ((0 : Int) < (wtI b (sq b)).length) := by
    rw [Bool.eq_iff_iff, decide_eq_true_eq]
    constructor
    · intro h
      have := whs_some (b := clr b) hb (Nat.zero_le 30) h
      rw [clr_whs hb (Nat.zero_le 30)] at this
      have := List.length_pos_iff.2 this
      omega
    · intro h
      refine Classical.byContradiction fun hn => ?_
      have := whs_none (b := clr b) hb (Nat.zero_le 30) (by simpa using hn)
      rw [clr_whs hb (Nat.zero_le 30)] at this
      rw [this] at h; simp at h
  refine ⟨_, _, rfl, hw, rfl, Nat.le_trans (wtI_len b (sq b)) h80, hcan, ?_⟩
  rw [← hcan]
  rcases where_of (ok_of hck) hm with ⟨h1, h2, _⟩ | ⟨h1, h2, _⟩
  · rw [h1, h2]; rfl
  · rw [h1, h2]; rfl
/-- What is answered of a book with one cry. -/
theorem one_sum {b : Bk} (hbk : BookOk b) {c : Cry} (hc : CryOk c) {j : Nat} (hj : b.cries[j]? = some c) : ∃ sl ol h, seenL b (j : Int) = sl ∧ seenE b (j : Int) = 0 ∧ whereL (one b c) c.m = ol ∧ askV (one b c) (decide (0 ≤ c.m ∧ c.m ≤ 30)) = h ∧ sl.length ≤ 80 ∧ ol.length ≤ 80 ∧ (c.k = 0 → ol = sl) ∧ (¬ c.k = 0 → (ol.length : Int) = ((wtI b (sq b)).length : Int) - sl.length) ∧ decide (h = 0) = decide ((0 : Int) < ol.length) := by
  have hb := hbk.num
  have hok := ok_of hbk
  have hck := one_ok hbk hc
  have hm := hc.2.1
  have hjl := (List.getElem?_eq_some_iff.1 hj).1
  have hse : seenE b (j : Int) = 0 := by unfold seenE; rw [if_pos hok, if_pos (by omega)]
  have hsl : seenL b (j : Int) = seenU b c (sq b) := by
    unfold seenL
    rw [if_pos hse, Int.toNat_natCast, List.getD_eq_getElem?_getD, hj]; rfl
  have hw := whereL_whs hck hm
  have h80 := (sq_le hb).1
  refine ⟨_, _, _, rfl, hse, rfl, rfl, seenL_80 b j, whereL_len (one b c) c.m, fun hk => ?_, fun hk => ?_, ?_⟩
  · rw [hw, hsl, seenU_filter]
    refine Up_ext (whs_up (one b c) (by omega)) (Up_filter (wtI_up b)) fun x => ?_
    rw [one_mem hb hc, List.mem_filter, decide_eq_true hk]
  · rw [hw, hsl, seenU_filter]
    have e : whs (one b c) c.m.toNat = (wtI b (sq b)).filter fun x => !decide (Btw b c (x % b.wide) (x / b.wide)) := by
      refine Up_ext (whs_up (one b c) (by omega)) (Up_filter (wtI_up b)) fun x => ?_
      rw [one_mem hb hc, List.mem_filter, decide_eq_false hk, Bool.not_eq_true']
    rw [e]
    have := len_filter (fun x => decide (Btw b c (x % b.wide) (x / b.wide))) (wtI b (sq b))
    omega
  · rcases where_of (ok_of hck) hm with ⟨h1, h2, h3⟩ | ⟨h1, h2, h3⟩
    · rw [h2, h3]
      have := List.length_pos_iff.2 (whs_some hck.num (show c.m.toNat ≤ 30 by omega) h1)
      rw [decide_eq_true (show (0 : Int) < ((whs (one b c) c.m.toNat).length : Int) by omega)]; rfl
    · rw [h2, h3]; rfl
end Go.Proofs.YtmpclgepoemneaaDoor

/-
  The law of the open sea, walked.
-/
namespace Go.Proofs.YtmpclgepoemneaaDoor
set_option maxRecDepth 100000
open Go.Hu Go.RowKit
section
variable (b : Bk) (la : Option Addr) (lc : Nat) (ca : Option Addr) (cc : Nat)
set_option maxHeartbeats 4000000 in
theorem openL (n : Int) (w : World) (hK : Kinds w) (hl : Ints w la lc b.land) (hC : Cries w ca cc b.cries) : Ct Tryd.prog 12 #[.agg (bkL b la lc ca cc).toArray, iv n] w (fun u w' => u = .bool true ∧ Ext w w') := by
  refine fn_intro (args := [.agg (bkL b la lc ca cc).toArray, iv n]) Tryd.func12 rfl rfl (by kernel_rfl) ?_
  have S := St.start no w
  refine W.seq (W.region S ?_)
  refine AS.cons (sp_boxa 2 rfl (fun b2 => ?_))
  refine AS.cons (sp_asg rfl ?_)
  refine AS.nil ?_
  intro _ S
  refine W.seq (W.seq (W.region S ?_))
  refine AS.cons (sp_ldw 2 rfl rfl ag_26_7 ?_)
  refine AS.cons (sp_call [] rfl rfl cf_37 (fun F w _ S => soundF _ _ _ _ _ w (hl.ext S.mod) (hC.ext S.mod)) ?_)
  refine AS.cons (sp_not rfl ?_)
  refine AS.nil ?_
  intro _ S
  refine W.cond rfl (fun c21 => ?_) (fun c21 => ?_)
  · skip
    refine W.seq (W.region S ?_)
    refine AS.cons (sp_call [] rfl rfl cf_28 (fun F w _ S => cried w (hK.ext S.mod)) ?_)
    refine AS.cons (sp_asg (v := .bool _) rfl ?_)
    refine AS.nil ?_
    intro _ S
    refine W.ret ?_
    exact ret1 rfl rfl S fun w' S' => ⟨rfl, S'.mod⟩
  · skip
    refine W.skip ?_
    have hok : okAll b = true := by rw [Bool.not_eq_false'] at c21; exact c21
    have hbk := okAll_ok hok
    have hb := hbk.num
    have hcl := hbk.lc
    have hn1 := Int.emod_nonneg n (show (31 : Int) ≠ 0 by decide)
    have hn2 := Int.emod_lt_of_pos n (show (0 : Int) < 31 by decide)
    obtain ⟨m, hmn⟩ : ∃ m, n % 31 = m := ⟨_, rfl⟩
    obtain ⟨ws, e, hws, hwl, hee, hws80, hcan, he0⟩ := open_sum hbk (show 0 ≤ m ∧ m ≤ 30 by omega)
    obtain ⟨bc, hbc⟩ : ∃ bc, canB (clr b) = bc := ⟨_, rfl⟩
    rw [hbc] at hcan
    have hck := ok_of (clr_ok hbk)
    have hr : (okAll (clr b) && canB (clr b)) = bc := by rw [hck, hbc]; rfl
    have hch : chkV (clr b) = 0 := by unfold chkV; rw [if_pos hck]
    have hone : ∀ {c : Cry}, CryOk c → ∀ {j : Nat}, b.cries[j]? = some c → ∃ sl ol h, seenL b (j : Int) = sl ∧ seenE b (j : Int) = 0 ∧ whereL (one b c) c.m = ol ∧ askV (one b c) (decide (0 ≤ c.m ∧ c.m ≤ 30)) = h ∧ sl.length ≤ 80 ∧ ol.length ≤ 80 ∧ (c.k = 0 → ol = sl) ∧ (¬ c.k = 0 → (ol.length : Int) = (ws.length : Int) - sl.length) ∧ decide (h = 0) = decide ((0 : Int) < ol.length) := fun hc j hj => by
      have := one_sum hbk hc hj
      rwa [hws] at this
    refine W.seq (W.draw S mixed (fun i => ([KD.q [2], KD.q [], KD.e [] [], KD.a 5, KD.e [5] [5], KD.q []] : List KD)[i]?) [] [0, 1, 2, 3, 4, 5] (by kernel_rfl) ?_)
    refine AW.cons rfl rfl (sp_ldw 2 rfl rfl ag_26_7 ?_)
    refine AW.cons rfl rfl (sp_move (v := .int _ _) rfl ?_)
    refine AW.cons rfl rfl (sp_call [] rfl rfl cf_40 (fun F w _ S => by have h := wheel n 31 (by decide) w; rw [if_neg (by decide), hmn] at h; exact h) ?_)
    refine AW.cons rfl rfl (sp_alloc 5 zv_26 rfl (fun b5 => ?_))
    refine AW.cons rfl rfl (sp_st 5 rfl rfl rfl rfl sz_26_7 rfl rfl ?_)
    refine AW.cons rfl rfl (sp_asg (v := .int _ _) rfl ?_)
    refine AW.nil ?_
    intro _ S
    refine W.seq (W.region S ?_)
    refine AS.cons (sp_fa rfl fo_26_5_6 ?_)
    refine AS.cons (sp_st 5 rfl rfl rfl rfl sz_24_1 rfl rfl ?_)
    refine AS.nil ?_
    intro _ S
    refine W.seq (W.region S ?_)
    refine AS.cons (sp_ldw (l := bkL (clr b) la lc none 0) 5 rfl rfl ag_26_7 ?_)
    refine AS.cons (sp_move (v := .int _ _) rfl ?_)
    refine AS.cons (sp_call1 30 [] _ rfl rfl cf_22 (fun F w hF S => by have h := whereP (clr b) la lc none 0 m w (hK.ext S.mod) (hl.ext S.mod) (cries_nil w); rw [hwl, hee] at h; exact h) ?_ (by simp))
    rintro v30 i30 ⟨a30, c30, h30, rfl, rfl⟩
    refine AS.cons (sp_move rfl ?_)
    refine AS.cons (sp_ext rfl rfl ?_)
    refine AS.cons (sp_ext rfl rfl ?_)
    refine AS.cons (sp_asg rfl ?_)
    refine AS.cons (sp_asg (v := .int _ _) rfl ?_)
    refine AS.nil ?_
    intro _ S
    refine W.seq (W.region S ?_)
    refine AS.cons (sp_ldw (l := bkL (clr b) la lc none 0) 5 rfl rfl ag_26_7 ?_)
    refine AS.cons (sp_call [] rfl rfl cf_20 (fun F w hF S => by have h := right (clr b) la lc none 0 w (hK.ext S.mod) (hl.ext S.mod) (cries_nil w); rw [hr, hch] at h; exact h) ?_)
    refine AS.cons (sp_move rfl ?_)
    refine AS.cons (sp_ext rfl rfl ?_)
    refine AS.cons (sp_ext rfl rfl ?_)
    refine AS.cons (sp_asg (v := .bool _) rfl ?_)
    refine AS.cons (sp_asg (v := .int _ _) rfl ?_)
    refine AS.nil ?_
    intro _ S
    refine W.seq (W.region S ?_)
    refine AS.cons (sp_ldw 2 rfl rfl ag_26_7 ?_)
    refine AS.cons (sp_call1 39 [] _ rfl rfl cf_51 (fun F w hF S => by have h := waterF b la lc ca cc hbk w (hl.ext S.mod); rw [hws] at h; exact h) ?_ (by simp))
    rintro v39 i39 ⟨⟨a39, c39, rfl, h39⟩, rfl⟩
    refine AS.cons (sp_asg rfl ?_)
    refine AS.nil ?_
    intro _ S
    refine W.seq (W.seq (W.region S ?_))
    refine AS.cons (sp_move (v := .int _ _) rfl ?_)
    refine AS.cons (sp_neq rfl rfl ?_)
    refine AS.cons (sp_move (v := .bool _) rfl ?_)
    refine AS.split 42 rfl (fun g42 => ?_) (fun g42 => ?_)
    · exact absurd g42 (by decide)
    · skip
      refine AS.cons (sp_move (v := .bool _) rfl ?_)
      refine AS.cons (sp_move rfl ?_)
      refine AS.cons (sp_len rfl sl_22_3_1 ?_)
      refine AS.cons (sp_gtr rfl rfl ?_)
      refine AS.cons (sp_neqb rfl rfl bool_4 ?_)
      refine AS.cons (sp_pick_f rfl (v := .bool _) rfl ?_)
      refine AS.cons (sp_move (v := .bool _) rfl ?_)
      refine AS.split 49 rfl (fun g49 => ?_) (fun g49 => ?_)
      · exfalso; rw [hcan] at g49; simp at g49
      · skip
        refine AS.cons (sp_move (v := .int _ _) rfl ?_)
        refine AS.cons (sp_eql rfl rfl ?_)
        refine AS.cons (sp_move (v := .bool _) rfl ?_)
        refine AS.cons (sp_neqb rfl rfl bool_4 ?_)
        refine AS.cons (sp_pick_f rfl (v := .bool _) rfl ?_)
        refine AS.cons (sp_move (v := .bool _) rfl ?_)
        refine AS.split 55 rfl (fun g55 => ?_) (fun g55 => ?_)
        · exfalso; rw [he0, hcan] at g55; simp at g55
        · skip
          refine AS.cons (sp_move rfl ?_)
          refine AS.cons (sp_move rfl ?_)
          refine AS.cons (sp_call [30, 39] rfl rfl cf_17 (fun F w hF S => same a30 c30 ws a39 c39 ws w (S.slc_rd (k := 30) ((hF 30 (by simp)).trans rfl) (by omega)) (S.slc_rd (k := 39) ((hF 39 (by simp)).trans rfl) (by omega))) ?_)
          refine AS.cons (sp_not rfl ?_)
          refine AS.cons (sp_pick_f rfl (v := .bool _) rfl ?_)
          refine AS.nil ?_
          intro _ S
          refine W.cond rfl (fun c60 => ?_) (fun c60 => ?_)
          · exact (no_same c60).elim
          · skip
            refine W.skip ?_
            refine W.seq (W.seq (W.region S ?_))
            refine AS.cons (sp_asg rfl ?_)
            refine AS.nil ?_
            intro _ S
            refine W.block ?_
            refine W.loopS S [4, 12, 13, 14, 15, 16, 17, 18, 61, 62, 63, 64, 65, 66, 67, 68, 69, 70, 71, 72, 73, 74, 75, 76, 77, 78, 79, 80, 81, 82, 83, 84, 85, 86, 87, 88, 89, 90, 91, 92, 93, 94, 95, 96, 97, 98, 99, 100, 101, 102, 103, 104, 105, 106, 107, 108, 109, 110, 111, 112, 113, 114, 115, 116, 117, 118, 119, 120, 121, 122, 123, 124, 125, 126, 127, 128, 129, 130, 131, 132] [15, 71, 80, 90] (fun (j : Nat) => [(12, iv j)]) (fun _ => []) (fun j => j ≤ b.cries.length) (fun j => b.cries.length - j) 0 (by omega) ⟨rfl, trivial⟩ trivial ?_
            rintro j σ M w1 hj S
            refine W.seq (W.seq (W.region S ?_))
            refine AS.cons (sp_move (v := .int _ _) rfl ?_)
            refine AS.cons (sp_fa rfl fo_26_5_6 ?_)
            refine AS.cons (sp_ld 2 rfl rfl sc_24 rfl ?_)
            refine AS.cons (sp_len rfl sl_24_46_7 ?_)
            refine AS.cons (sp_lss rfl rfl ?_)
            refine AS.nil ?_
            intro _ S
            refine W.condd rfl (fun c65 => ?_) (fun c65 => ?_)
            · skip
              have hjl : j < b.cries.length := by omega
              obtain ⟨c, hx⟩ := get_some hjl
              have hco := hbk.cry c (List.mem_of_getElem? hx)
              obtain ⟨sl, ol, h, hsl, hse, hol, hhe, hsl80, hol80, hs1, hs2, hs3⟩ := hone hco hx
              refine W.skip ?_
              refine W.seq (W.block ?_)
              refine W.seq (W.region S ?_)
              refine AS.cons (sp_ldw 2 rfl rfl ag_26_7 ?_)
              refine AS.cons (sp_move (v := .int _ _) rfl ?_)
              refine AS.cons (sp_call1 71 [] _ rfl rfl cf_15 (fun F w hF S => by have h := seenP b la lc ca cc (j : Int) w (hl.ext S.mod) (hC.ext S.mod); rw [hsl, hse] at h; exact h) ?_ (by simp))
              rintro v71 i71 ⟨a71, c71, h71, rfl, rfl⟩
              refine AS.cons (sp_move rfl ?_)
              refine AS.cons (sp_ext rfl rfl ?_)
              refine AS.cons (sp_ext rfl rfl ?_)
              refine AS.cons (sp_asg rfl ?_)
              refine AS.cons (sp_asg (v := .int _ _) rfl ?_)
              refine AS.nil ?_
              intro _ S
              refine W.seq (W.region S ?_)
              refine AS.cons (sp_ldw 2 rfl rfl ag_26_7 ?_)
              refine AS.cons (sp_alloc 15 zv_26 rfl (fun b15 => ?_))
              refine AS.cons (sp_st 15 rfl rfl rfl rfl sz_26_7 rfl rfl ?_)
              refine AS.nil ?_
              intro _ S
              refine W.seq (W.region S ?_)
              refine AS.cons (sp_fa rfl fo_26_5_6 ?_)
              refine AS.cons (sp_ld 2 rfl rfl sc_24 rfl ?_)
              refine AS.cons (sp_move (v := .int _ _) rfl ?_)
              refine AS.cons (sp_iaR hC rfl rfl sl_24_46_7 (by first | omega | (simp only [decide_eq_true_eq, decide_eq_false_iff_not] at *; omega)) ?_)
              refine AS.cons (sp_ldaR 0 hC (fun _ h => h) rfl ag_46_7 (cries_at hx) (by first | omega | (simp only [decide_eq_true_eq, decide_eq_false_iff_not] at *; omega)) ?_)
              refine AS.cons (sp_bs 80 [.tmp 79] _ sl_24_46_7 zs_46_7 rfl rfl rfl rfl rfl rfl (fun b80 => ?_))
              refine AS.cons (sp_fa rfl fo_26_5_6 ?_)
              refine AS.cons (sp_st 15 rfl rfl rfl rfl sz_24_1 rfl rfl ?_)
              refine AS.nil ?_
              intro _ S
              refine W.seq (W.draw S mixed (fun i => ([KD.q [15], KD.q [], KD.q [2], KD.q [], KD.q [], KD.q [], KD.q [], KD.e [80] [90], KD.q [], KD.q [], KD.q [], KD.q [], KD.q []] : List KD)[i]?) [] [0, 1, 2, 3, 4, 5, 6, 7, 8, 9, 10, 11, 12] (by kernel_rfl) ?_)
              refine AW.cons rfl rfl (sp_ldw (l := bkL (one b c) la lc (some ⟨b80, 0, none⟩) 1) 15 rfl rfl ag_26_7 ?_)
              refine AW.cons rfl rfl (sp_fa rfl fo_26_5_6 ?_)
              refine AW.cons rfl rfl (sp_ld 2 rfl rfl sc_24 rfl ?_)
              refine AW.cons rfl rfl (sp_move (v := .int _ _) rfl ?_)
              refine AW.cons rfl rfl (sp_iaR hC rfl rfl sl_24_46_7 (by first | omega | (simp only [decide_eq_true_eq, decide_eq_false_iff_not] at *; omega)) ?_)
              refine AW.cons rfl rfl (sp_fa rfl fo_46_1_1 ?_)
              refine AW.cons rfl rfl (sp_ldR 1 hC (fun _ h => h) rfl sc_3 (v := iv c.m) (cries_fld hx (by decide)) (by omega) ?_)
              refine AW.cons rfl rfl (sp_call1 90 [80] _ rfl rfl cf_22 (fun F w hF S => by have h := whereP (one b c) la lc (some ⟨b80, 0, none⟩) 1 c.m w (hK.ext S.mod) (hl.ext S.mod) (rd_pt (S.get ((hF 80 (by simp)).trans rfl)).1 rfl (show 1 ≤ 9223372036854775807 by decide) (Nat.le_refl 1)); rw [hol, hhe] at h; exact h) ?_ (fun _ => (⟨_, _, none, _, Nat.le_refl _, rfl, rfl⟩ : ∃ u i, ListR ol h u i)))
              rintro v90 i90 ⟨a90, c90, h90, rfl, rfl⟩
              refine AW.cons rfl rfl (sp_move rfl ?_)
              refine AW.cons rfl rfl (sp_ext rfl rfl ?_)
              refine AW.cons rfl rfl (sp_ext rfl rfl ?_)
              refine AW.cons rfl rfl (sp_asg rfl ?_)
              refine AW.cons rfl rfl (sp_asg (v := .int _ _) rfl ?_)
              refine AW.nil ?_
              intro _ S
              refine W.seq (W.region S ?_)
              refine AS.cons (sp_fa rfl fo_26_5_6 ?_)
              refine AS.cons (sp_ld 2 rfl rfl sc_24 rfl ?_)
              refine AS.cons (sp_move (v := .int _ _) rfl ?_)
              refine AS.cons (sp_iaR hC rfl rfl sl_24_46_7 (by first | omega | (simp only [decide_eq_true_eq, decide_eq_false_iff_not] at *; omega)) ?_)
              refine AS.cons (sp_fa rfl fo_46_2_2 ?_)
              refine AS.cons (sp_ldR 2 hC (fun _ h => h) rfl sc_3 (v := iv c.k) (cries_fld hx (by decide)) (by omega) ?_)
              refine AS.cons (sp_eql rfl rfl ?_)
              refine AS.cons (sp_asg (v := .bool _) rfl ?_)
              refine AS.nil ?_
              intro _ S
              refine W.seq (W.region S ?_)
              refine AS.cons (sp_move (v := .int _ _) rfl ?_)
              refine AS.cons (sp_neq rfl rfl ?_)
              refine AS.cons (sp_move (v := .bool _) rfl ?_)
              refine AS.split 102 rfl (fun g102 => ?_) (fun g102 => ?_)
              · exact absurd g102 (by decide)
              · skip
                refine AS.cons (sp_move (v := .bool _) rfl ?_)
                refine AS.cons (sp_move (v := .bool _) rfl ?_)
                refine AS.split 104 rfl (fun g104 => ?_) (fun g104 => ?_)
                · skip
                  refine AS.cons (sp_move rfl ?_)
                  refine AS.cons (sp_move rfl ?_)
                  refine AS.cons (sp_call [90, 71] rfl rfl cf_17 (fun F w hF S => same a90 c90 ol a71 c71 sl w (S.slc_rd (k := 90) ((hF 90 (by simp)).trans rfl) (by omega)) (S.slc_rd (k := 71) ((hF 71 (by simp)).trans rfl) (by omega))) ?_)
                  refine AS.cons (sp_not rfl ?_)
                  refine AS.cons (sp_pick_t rfl (v := .bool _) rfl ?_)
                  refine AS.cons (sp_pick_f rfl (v := .bool _) rfl ?_)
                  refine AS.cons (sp_move (v := .bool _) rfl ?_)
                  refine AS.split 111 rfl (fun g111 => ?_) (fun g111 => ?_)
                  · exfalso; rw [hs1 (of_decide_eq_true g104)] at g111; exact no_same g111
                  · skip
                    refine AS.cons (sp_move (v := .bool _) rfl ?_)
                    refine AS.cons (sp_not rfl ?_)
                    refine AS.cons (sp_move (v := .bool _) rfl ?_)
                    refine AS.split 114 rfl (fun g114 => ?_) (fun g114 => ?_)
                    · skip
                      refine AS.cons (sp_move rfl ?_)
                      refine AS.cons (sp_len rfl sl_22_3_1 ?_)
                      refine AS.cons (sp_move rfl ?_)
                      refine AS.cons (sp_len rfl sl_22_3_1 ?_)
                      refine AS.cons (sp_move rfl ?_)
                      refine AS.cons (sp_len rfl sl_22_3_1 ?_)
                      refine AS.cons (sp_sub rfl rfl (by first | omega | (simp only [decide_eq_true_eq, decide_eq_false_iff_not] at *; omega)) ?_)
                      refine AS.cons (sp_neq rfl rfl ?_)
                      refine AS.cons (sp_pick_t rfl (v := .bool _) rfl ?_)
                      refine AS.cons (sp_pick_f rfl (v := .bool _) rfl ?_)
                      refine AS.cons (sp_move (v := .bool _) rfl ?_)
                      refine AS.split 125 rfl (fun g125 => ?_) (fun g125 => ?_)
                      · exfalso; first | (have h1 := of_decide_eq_true g125; have h2 := hs2 (of_decide_eq_false g104); omega) | (rw [g104] at g114; exact absurd g114 (by decide))
                      · skip
                        refine AS.cons (sp_move (v := .int _ _) rfl ?_)
                        refine AS.cons (sp_eql rfl rfl ?_)
                        refine AS.cons (sp_move rfl ?_)
                        refine AS.cons (sp_len rfl sl_22_3_1 ?_)
                        refine AS.cons (sp_gtr rfl rfl ?_)
                        refine AS.cons (sp_neqb rfl rfl bool_4 ?_)
                        refine AS.cons (sp_pick_f rfl (v := .bool _) rfl ?_)
                        refine AS.nil ?_
                        intro _ S
                        refine W.cond rfl (fun c132 => ?_) (fun c132 => ?_)
                        · exfalso; rw [hs3] at c132; simp at c132
                        · skip
                          refine W.skip ?_
                          refine W.region S ?_
                          refine AS.cons (sp_move (v := .int _ _) rfl ?_)
                          refine AS.cons (sp_add rfl rfl (by first | omega | (simp only [decide_eq_true_eq, decide_eq_false_iff_not] at *; omega)) ?_)
                          refine AS.cons (sp_asg (v := .int _ _) rfl ?_)
                          refine AS.nil ?_
                          intro _ S
                          exact ⟨j + 1, _, by omega, by omega, ⟨by simp [upd], trivial⟩, trivial, by repeat (first | exact Agr.refl _ _ | exact Agr.msk _ _ _ | refine Agr.upd ?_ _ rfl | refine Agr.upds ?_ rfl | refine Agr.mskIn ?_ rfl), by repeat (first | exact Agr.refl _ _ | exact Agr.msk _ _ _ | refine Agr.upd ?_ _ rfl | refine Agr.upds ?_ rfl | refine Agr.mskIn ?_ rfl), rfl, S⟩
                    · skip
                      refine AS.cons (sp_skip rfl ?_)
                      refine AS.cons (sp_skip rfl ?_)
                      refine AS.cons (sp_skip rfl ?_)
                      refine AS.cons (sp_skip rfl ?_)
                      refine AS.cons (sp_skip rfl ?_)
                      refine AS.cons (sp_skip rfl ?_)
                      refine AS.cons (sp_skip rfl ?_)
                      refine AS.cons (sp_skip rfl ?_)
                      refine AS.cons (sp_pick_f rfl (v := .bool _) rfl ?_)
                      refine AS.cons (sp_pick_f rfl (v := .bool _) rfl ?_)
                      refine AS.cons (sp_move (v := .bool _) rfl ?_)
                      refine AS.cons (sp_move (v := .int _ _) rfl ?_)
                      refine AS.cons (sp_eql rfl rfl ?_)
                      refine AS.cons (sp_move rfl ?_)
                      refine AS.cons (sp_len rfl sl_22_3_1 ?_)
                      refine AS.cons (sp_gtr rfl rfl ?_)
                      refine AS.cons (sp_neqb rfl rfl bool_4 ?_)
                      refine AS.cons (sp_pick_f rfl (v := .bool _) rfl ?_)
                      refine AS.nil ?_
                      intro _ S
                      refine W.cond rfl (fun c132 => ?_) (fun c132 => ?_)
                      · exfalso; rw [hs3] at c132; simp at c132
                      · skip
                        refine W.skip ?_
                        refine W.region S ?_
                        refine AS.cons (sp_move (v := .int _ _) rfl ?_)
                        refine AS.cons (sp_add rfl rfl (by first | omega | (simp only [decide_eq_true_eq, decide_eq_false_iff_not] at *; omega)) ?_)
                        refine AS.cons (sp_asg (v := .int _ _) rfl ?_)
                        refine AS.nil ?_
                        intro _ S
                        exact ⟨j + 1, _, by omega, by omega, ⟨by simp [upd], trivial⟩, trivial, by repeat (first | exact Agr.refl _ _ | exact Agr.msk _ _ _ | refine Agr.upd ?_ _ rfl | refine Agr.upds ?_ rfl | refine Agr.mskIn ?_ rfl), by repeat (first | exact Agr.refl _ _ | exact Agr.msk _ _ _ | refine Agr.upd ?_ _ rfl | refine Agr.upds ?_ rfl | refine Agr.mskIn ?_ rfl), rfl, S⟩
                · skip
                  refine AS.cons (sp_skip rfl ?_)
                  refine AS.cons (sp_skip rfl ?_)
                  refine AS.cons (sp_skip rfl ?_)
                  refine AS.cons (sp_skip rfl ?_)
                  refine AS.cons (sp_pick_f rfl (v := .bool _) rfl ?_)
                  refine AS.cons (sp_pick_f rfl (v := .bool _) rfl ?_)
                  refine AS.cons (sp_move (v := .bool _) rfl ?_)
                  refine AS.cons (sp_move (v := .bool _) rfl ?_)
                  refine AS.cons (sp_not rfl ?_)
                  refine AS.cons (sp_move (v := .bool _) rfl ?_)
                  refine AS.split 114 rfl (fun g114 => ?_) (fun g114 => ?_)
                  · skip
                    refine AS.cons (sp_move rfl ?_)
                    refine AS.cons (sp_len rfl sl_22_3_1 ?_)
                    refine AS.cons (sp_move rfl ?_)
                    refine AS.cons (sp_len rfl sl_22_3_1 ?_)
                    refine AS.cons (sp_move rfl ?_)
                    refine AS.cons (sp_len rfl sl_22_3_1 ?_)
                    refine AS.cons (sp_sub rfl rfl (by first | omega | (simp only [decide_eq_true_eq, decide_eq_false_iff_not] at *; omega)) ?_)
                    refine AS.cons (sp_neq rfl rfl ?_)
                    refine AS.cons (sp_pick_t rfl (v := .bool _) rfl ?_)
                    refine AS.cons (sp_pick_f rfl (v := .bool _) rfl ?_)
                    refine AS.cons (sp_move (v := .bool _) rfl ?_)
                    refine AS.split 125 rfl (fun g125 => ?_) (fun g125 => ?_)
                    · exfalso; first | (have h1 := of_decide_eq_true g125; have h2 := hs2 (of_decide_eq_false g104); omega) | (rw [g104] at g114; exact absurd g114 (by decide))
                    · skip
                      refine AS.cons (sp_move (v := .int _ _) rfl ?_)
                      refine AS.cons (sp_eql rfl rfl ?_)
                      refine AS.cons (sp_move rfl ?_)
                      refine AS.cons (sp_len rfl sl_22_3_1 ?_)
                      refine AS.cons (sp_gtr rfl rfl ?_)
                      refine AS.cons (sp_neqb rfl rfl bool_4 ?_)
                      refine AS.cons (sp_pick_f rfl (v := .bool _) rfl ?_)
                      refine AS.nil ?_
                      intro _ S
                      refine W.cond rfl (fun c132 => ?_) (fun c132 => ?_)
                      · exfalso; rw [hs3] at c132; simp at c132
                      · skip
                        refine W.skip ?_
                        refine W.region S ?_
                        refine AS.cons (sp_move (v := .int _ _) rfl ?_)
                        refine AS.cons (sp_add rfl rfl (by first | omega | (simp only [decide_eq_true_eq, decide_eq_false_iff_not] at *; omega)) ?_)
                        refine AS.cons (sp_asg (v := .int _ _) rfl ?_)
                        refine AS.nil ?_
                        intro _ S
                        exact ⟨j + 1, _, by omega, by omega, ⟨by simp [upd], trivial⟩, trivial, by repeat (first | exact Agr.refl _ _ | exact Agr.msk _ _ _ | refine Agr.upd ?_ _ rfl | refine Agr.upds ?_ rfl | refine Agr.mskIn ?_ rfl), by repeat (first | exact Agr.refl _ _ | exact Agr.msk _ _ _ | refine Agr.upd ?_ _ rfl | refine Agr.upds ?_ rfl | refine Agr.mskIn ?_ rfl), rfl, S⟩
                  · skip
                    refine AS.cons (sp_skip rfl ?_)
                    refine AS.cons (sp_skip rfl ?_)
                    refine AS.cons (sp_skip rfl ?_)
                    refine AS.cons (sp_skip rfl ?_)
                    refine AS.cons (sp_skip rfl ?_)
                    refine AS.cons (sp_skip rfl ?_)
                    refine AS.cons (sp_skip rfl ?_)
                    refine AS.cons (sp_skip rfl ?_)
                    refine AS.cons (sp_pick_f rfl (v := .bool _) rfl ?_)
                    refine AS.cons (sp_pick_f rfl (v := .bool _) rfl ?_)
                    refine AS.cons (sp_move (v := .bool _) rfl ?_)
                    refine AS.cons (sp_move (v := .int _ _) rfl ?_)
                    refine AS.cons (sp_eql rfl rfl ?_)
                    refine AS.cons (sp_move rfl ?_)
                    refine AS.cons (sp_len rfl sl_22_3_1 ?_)
                    refine AS.cons (sp_gtr rfl rfl ?_)
                    refine AS.cons (sp_neqb rfl rfl bool_4 ?_)
                    refine AS.cons (sp_pick_f rfl (v := .bool _) rfl ?_)
                    refine AS.nil ?_
                    intro _ S
                    refine W.cond rfl (fun c132 => ?_) (fun c132 => ?_)
                    · exfalso; rw [hs3] at c132; simp at c132
                    · skip
                      refine W.skip ?_
                      refine W.region S ?_
                      refine AS.cons (sp_move (v := .int _ _) rfl ?_)
                      refine AS.cons (sp_add rfl rfl (by first | omega | (simp only [decide_eq_true_eq, decide_eq_false_iff_not] at *; omega)) ?_)
                      refine AS.cons (sp_asg (v := .int _ _) rfl ?_)
                      refine AS.nil ?_
                      intro _ S
                      exact ⟨j + 1, _, by omega, by omega, ⟨by simp [upd], trivial⟩, trivial, by repeat (first | exact Agr.refl _ _ | exact Agr.msk _ _ _ | refine Agr.upd ?_ _ rfl | refine Agr.upds ?_ rfl | refine Agr.mskIn ?_ rfl), by repeat (first | exact Agr.refl _ _ | exact Agr.msk _ _ _ | refine Agr.upd ?_ _ rfl | refine Agr.upds ?_ rfl | refine Agr.mskIn ?_ rfl), rfl, S⟩
            · skip
              refine W.exit ?_
              refine W.seq (W.region S ?_)
              refine AS.cons (sp_call [] rfl rfl cf_28 (fun F w _ S => cried w (hK.ext S.mod)) ?_)
              refine AS.cons (sp_asg (v := .bool _) rfl ?_)
              refine AS.nil ?_
              intro _ S
              refine W.ret ?_
              exact ret1 rfl rfl S fun w' S' => ⟨rfl, S'.mod⟩
end
end Go.Proofs.YtmpclgepoemneaaDoor
