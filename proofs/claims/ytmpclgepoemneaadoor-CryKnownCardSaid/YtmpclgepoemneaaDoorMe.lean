/-
  Lemmas of this proof, several texts one behind the other; no condition beyond what each says.
-/
import Derived.Test.YtmpclgepoemneaaDoorMd
import Derived.Test.YtmpclgepoemneaaDoorMb
import Derived.Test.YtmpclgepoemneaaDoorMa
/-
  How far the squares are apart, in the program.
-/
namespace Go.Proofs.YtmpclgepoemneaaDoor
set_option maxRecDepth 100000
open Go.Hu Go.RowKit
section
variable (b : Bk) (la : Option Addr) (lc : Nat) (ca : Option Addr) (cc : Nat) (mp : Nat)
theorem greatest (ga : Option Addr) (gc : Nat) (l : List Int) (f : Int) (w : World) (hl : Ints w ga gc l) : Ct Tryd.prog 83 #[iv f, .slice ga l.length gc] w (fun u w' => u = iv (grU f l l.length) ∧ Ext w w') := by
  refine fn_intro (args := [iv f, .slice ga l.length gc]) Tryd.func83 rfl rfl (by kernel_rfl) ?_
  have S := St.start no w
  have hln : l.length ≤ 9223372036854775807 := hl.2.1
  refine W.seq (W.region S ?_)
  refine AS.cons (sp_asg rfl ?_)
  refine AS.nil ?_
  intro _ S
  refine W.seq (W.seq (W.region S ?_))
  refine AS.cons (sp_move rfl ?_)
  refine AS.cons (sp_len rfl sl_22_3_1 ?_)
  refine AS.cons (sp_move rfl ?_)
  refine AS.nil ?_
  intro _ S
  refine W.block ?_
  refine W.loopS S [0, 6, 9, 10, 11, 12, 13, 14, 15, 16] [] (fun (j : Nat) => [(9, iv j), (0, iv (grU f l j))]) (fun _ => []) (fun j => j ≤ l.length) (fun j => l.length - j) 0 (by omega) ⟨rfl, rfl, trivial⟩ trivial ?_
  rintro j σ M w1 hj S
  refine W.seq (W.region S ?_)
  refine AS.cons (sp_lss rfl rfl ?_)
  refine AS.nil ?_
  intro _ S
  refine W.seq (W.condd rfl (fun c10 => ?_) (fun c10 => ?_))
  · skip
    refine W.skip ?_
    refine W.seq (W.block ?_)
    have hlt : j < l.length := by omega
    obtain ⟨x, hx⟩ := get_some hlt
    refine W.seq (W.region S ?_)
    refine AS.cons (sp_iaR hl rfl rfl sl_22_3_1 (by first | omega | (simp only [decide_eq_true_eq, decide_eq_false_iff_not] at *; omega)) ?_)
    refine AS.cons (sp_ldR 0 hl (fun _ h => h) rfl sc_3 (ints_at hx) (by first | omega | (simp only [decide_eq_true_eq, decide_eq_false_iff_not] at *; omega)) ?_)
    refine AS.cons (sp_asg (v := .int _ _) rfl ?_)
    refine AS.nil ?_
    intro _ S
    refine W.region S ?_
    refine AS.cons (sp_move (v := .int _ _) rfl ?_)
    refine AS.cons (sp_move (v := .int _ _) rfl ?_)
    refine AS.cons (sp_max rfl rfl ?_)
    refine AS.cons (sp_asg (v := .int _ _) rfl ?_)
    refine AS.nil ?_
    intro _ S
    refine W.region S ?_
    refine AS.cons (sp_add rfl rfl (by first | omega | (simp only [decide_eq_true_eq, decide_eq_false_iff_not] at *; omega)) ?_)
    refine AS.cons (sp_move (v := .int _ _) rfl ?_)
    refine AS.nil ?_
    intro _ S
    exact ⟨j + 1, _, by omega, by omega, ⟨by simp [upd], congrArg iv (grU_succ hx).symm, trivial⟩, trivial, by repeat (first | exact Agr.refl _ _ | exact Agr.msk _ _ _ | refine Agr.upd ?_ _ rfl | refine Agr.upds ?_ rfl | refine Agr.mskIn ?_ rfl), by repeat (first | exact Agr.refl _ _ | exact Agr.msk _ _ _ | refine Agr.upd ?_ _ rfl | refine Agr.upds ?_ rfl | refine Agr.mskIn ?_ rfl), rfl, S⟩
  · skip
    obtain rfl : j = l.length := by omega
    refine W.exit ?_
    refine W.seq (W.region S ?_)
    refine AS.cons (sp_move (v := .int _ _) rfl ?_)
    refine AS.cons (sp_asg (v := .int _ _) rfl ?_)
    refine AS.nil ?_
    intro _ S
    refine W.ret ?_
    exact ret1 rfl rfl S fun w' S' => ⟨rfl, S'.mod⟩
theorem apartP (m : Int) (w : World) (hK : Kinds w) (hl : Ints w la lc b.land) (hC : Cries w ca cc b.cries) : Ct Tryd.prog 26 #[.agg (bkL b la lc ca cc).toArray, iv m] w (fun u w' => u = .tuple #[iv (apartV b m), iv (askV b (decide (0 ≤ m ∧ m ≤ 30)))] ∧ Ext w w') := by
  refine fn_intro (args := [.agg (bkL b la lc ca cc).toArray, iv m]) Tryd.func26 rfl rfl (by kernel_rfl) ?_
  have S := St.start no w
  refine W.seq (W.region S ?_)
  refine AS.cons (sp_boxa 2 rfl (fun b2 => ?_))
  refine AS.cons (sp_boxs 3 rfl rfl (fun b3 => ?_))
  refine AS.cons (sp_asg rfl ?_)
  refine AS.cons (sp_asg rfl ?_)
  refine AS.nil ?_
  intro _ S
  refine W.seq (W.region S ?_)
  refine AS.cons (sp_ldw 2 rfl rfl ag_26_7 ?_)
  refine AS.cons (sp_mf ?_)
  refine AS.cons (sp_call1 19 [3] _ rfl rfl cf_73 (fun F w' hF S => asked b la lc ca cc w' (hK.ext S.mod) (hl.ext S.mod) (hC.ext S.mod) 81 [oP b3] (decide (0 ≤ m ∧ m ≤ 30)) cf_81 (fun w'' E _ => apartC b3 m w'' (At.ext (S.get ((hF 3 (by simp)).trans rfl)).1 E))) ?_ (by simp))
  rintro v19 i19 ⟨bl, hbl, hone, rfl, hz⟩
  refine AS.cons (sp_move rfl ?_)
  refine AS.cons (sp_ext rfl rfl ?_)
  refine AS.cons (sp_ext rfl rfl ?_)
  refine AS.cons (sp_alloc 6 zv_77 rfl (fun b6 => ?_))
  refine AS.cons (sp_stw 6 sz_77_8 rfl rfl rfl rfl hbl rfl hone ?_)
  refine AS.cons (sp_asg (v := .int _ _) rfl ?_)
  refine AS.nil ?_
  intro _ S
  refine W.seq (W.seq (W.region S ?_))
  refine AS.cons (sp_move (v := .int _ _) rfl ?_)
  refine AS.cons (sp_neq rfl rfl ?_)
  refine AS.nil ?_
  intro _ S
  refine W.condd rfl (fun c23 => ?_) (fun c23 => ?_)
  · skip
    have hv : apartV b m = 0 := by unfold apartV; rw [if_neg c23]
    refine W.seq (W.region S ?_)
    refine AS.cons (sp_move (v := .int _ _) rfl ?_)
    refine AS.cons (sp_asg rfl ?_)
    refine AS.cons (sp_asg (v := .int _ _) rfl ?_)
    refine AS.nil ?_
    intro _ S
    refine W.ret ?_
    first | exact ret2 rfl rfl rfl S fun w' S' => ⟨by rw [hv]; rfl, S'.mod⟩ | exact ret2 rfl rfl rfl S fun w' S' => ⟨by rw [hv, c0]; rfl, S'.mod⟩
  · skip
    have c0 := Decidable.not_not.1 c23
    obtain ⟨mp, rfl, rfl⟩ := hz c0
    obtain ⟨hok, hmm, _⟩ := askV_zero c0
    have hmm := of_decide_eq_true hmm
    have hbk := okAll_ok hok
    have hb := hbk.num
    have hw := hb.1
    have hv : apartV b m = colA b (whs b m.toNat) (whs b m.toNat).length := by unfold apartV; rw [if_pos c0]
    have hlen : (whs b m.toNat).length ≤ 80 := whU_len b m.toNat 80
    have hbd : ∀ n ∈ whs b m.toNat, 0 ≤ n ∧ n < 80 := fun n hn => whs_bd hn
    refine W.skip ?_
    refine W.seq (W.region S ?_)
    refine AS.cons (sp_ldw 6 rfl rfl ag_77_8 ?_)
    refine AS.cons (sp_ld 3 rfl rfl sc_3 rfl ?_)
    refine AS.cons (sp_call1 27 [19] _ rfl rfl cf_76 (fun F w' hF S => whereF b la lc ca cc mp hbk.num hbk.cry (by have := hbk.lc; omega) m hmm w' (hK.ext S.mod) (hC.ext S.mod) (mapAt S ((hF 19 (by simp)).trans rfl))) ?_ (by simp))
    rintro v27 i27 ⟨⟨a, c, rfl, hac⟩, rfl⟩
    refine AS.cons (sp_asg rfl ?_)
    refine AS.cons (sp_asg rfl ?_)
    refine AS.nil ?_
    intro _ S
    refine W.seq (W.seq (W.region S ?_))
    refine AS.cons (sp_move rfl ?_)
    refine AS.cons (sp_len rfl sl_22_3_1 ?_)
    refine AS.cons (sp_move rfl ?_)
    refine AS.nil ?_
    intro _ S
    refine W.block ?_
    refine W.loopS S [8, 11, 13, 14, 15, 30, 31, 32, 33, 34, 35, 36, 37, 38, 39, 40, 41, 42, 43, 44, 45, 46, 47, 48, 49, 50, 51, 52, 53, 54, 55, 56, 57, 58, 59, 60] [14, 15, 57] (fun (i : Nat) => [(30, iv i), (8, iv (colA b (whs b m.toNat) i))]) (fun _ => []) (fun i => i ≤ (whs b m.toNat).length) (fun i => (whs b m.toNat).length - i) 0 (by omega) ⟨rfl, rfl, trivial⟩ trivial ?_
    rintro i σ M w1 hi S
    refine W.seq (W.region S ?_)
    refine AS.cons (sp_lss rfl rfl ?_)
    refine AS.nil ?_
    intro _ S
    refine W.seq (W.condd rfl (fun c31 => ?_) (fun c31 => ?_))
    · skip
      have hin : i < (whs b m.toNat).length := by omega
      obtain ⟨x, hx⟩ := get_some hin
      have hxb := hbd x (List.mem_of_getElem? hx)
      have hxd := divB hxb.1 (show 0 < b.wide by omega)
      refine W.skip ?_
      refine W.seq (W.block ?_)
      refine W.seq (W.region S ?_)
      refine AS.cons (sp_iaS 27 rfl rfl rfl sl_22_3_1 (by omega) ?_)
      refine AS.cons (sp_ldS 27 rfl rfl sc_3 (ints_of hx) (by omega) ?_)
      refine AS.cons (sp_asg (v := .int _ _) rfl ?_)
      refine AS.nil ?_
      intro _ S
      refine W.seq (W.region S ?_)
      refine AS.cons (sp_move rfl ?_)
      refine AS.cons (sp_len rfl sl_22_3_1 ?_)
      refine AS.cons (sp_move rfl ?_)
      refine AS.nil ?_
      intro _ S
      refine W.block ?_
      refine W.loopS S [8, 13, 14, 15, 36, 37, 38, 39, 40, 41, 42, 43, 44, 45, 46, 47, 48, 49, 50, 51, 52, 53, 54, 55, 56, 57, 58, 59] [14, 15, 57] (fun (k : Nat) => [(36, iv k), (8, iv (rowA b (whs b m.toNat) x (colA b (whs b m.toNat) i) k))]) (fun _ => []) (fun k => k ≤ (whs b m.toNat).length) (fun k => (whs b m.toNat).length - k) 0 (by omega) ⟨rfl, rfl, trivial⟩ trivial ?_
      rintro k σ M w2 hk S
      refine W.seq (W.region S ?_)
      refine AS.cons (sp_lss rfl rfl ?_)
      refine AS.nil ?_
      intro _ S
      refine W.seq (W.condd rfl (fun c37 => ?_) (fun c37 => ?_))
      · skip
        have hkn : k < (whs b m.toNat).length := by omega
        obtain ⟨y, hy⟩ := get_some hkn
        have hyb := hbd y (List.mem_of_getElem? hy)
        have hyd := divB hyb.1 (show 0 < b.wide by omega)
        refine W.skip ?_
        refine W.seq (W.block ?_)
        refine W.seq (W.region S ?_)
        refine AS.cons (sp_iaS 27 rfl rfl rfl sl_22_3_1 (by omega) ?_)
        refine AS.cons (sp_ldS 27 rfl rfl sc_3 (ints_of hy) (by omega) ?_)
        refine AS.cons (sp_asg (v := .int _ _) rfl ?_)
        refine AS.nil ?_
        intro _ S
        refine W.seq (W.draw S mixed (fun i => ([KD.q [6], KD.q [], KD.e [] [], KD.q [6], KD.q [], KD.e [] [], KD.a 14, KD.a 15, KD.e [14] [14], KD.e [15] [15]] : List KD)[i]?) [] [0, 1, 2, 3, 4, 5, 6, 7, 8, 9] (by kernel_rfl) ?_)
        refine AW.cons rfl rfl (sp_ldw 6 rfl rfl ag_77_8 ?_)
        refine AW.cons rfl rfl (sp_move (v := .int _ _) rfl ?_)
        refine AW.cons rfl rfl (sp_call [] rfl rfl cf_82 (fun F w _ S => spot _ _ _ _ _ _ (by assumption) _ (by omega) w) ?_)
        refine AW.cons rfl rfl (sp_ldw 6 rfl rfl ag_77_8 ?_)
        refine AW.cons rfl rfl (sp_move (v := .int _ _) rfl ?_)
        refine AW.cons rfl rfl (sp_call [] rfl rfl cf_82 (fun F w _ S => spot _ _ _ _ _ _ (by assumption) _ (by omega) w) ?_)
        refine AW.cons rfl rfl (sp_alloc 14 zv_82 rfl (fun b14 => ?_))
        refine AW.cons rfl rfl (sp_alloc 15 zv_82 rfl (fun b15 => ?_))
        refine AW.cons rfl rfl (sp_st 14 rfl rfl rfl rfl sz_82_2 rfl rfl ?_)
        refine AW.cons rfl rfl (sp_st 15 rfl rfl rfl rfl sz_82_2 rfl rfl ?_)
        refine AW.nil ?_
        intro _ S
        refine W.region S ?_
        refine AS.cons (sp_move (v := .int _ _) rfl ?_)
        refine AS.cons (sp_fa rfl fo_82_0_0 ?_)
        refine AS.cons (sp_ld 14 rfl rfl sc_3 rfl ?_)
        refine AS.cons (sp_fa rfl fo_82_0_0 ?_)
        refine AS.cons (sp_ld 15 rfl rfl sc_3 rfl ?_)
        refine AS.cons (sp_sub rfl rfl (by first | omega | (simp only [decide_eq_true_eq, decide_eq_false_iff_not] at *; omega)) ?_)
        refine AS.cons (sp_fa rfl fo_82_1_1 ?_)
        refine AS.cons (sp_ld 14 rfl rfl sc_3 rfl ?_)
        refine AS.cons (sp_fa rfl fo_82_1_1 ?_)
        refine AS.cons (sp_ld 15 rfl rfl sc_3 rfl ?_)
        refine AS.cons (sp_sub rfl rfl (by first | omega | (simp only [decide_eq_true_eq, decide_eq_false_iff_not] at *; omega)) ?_)
        refine AS.cons (sp_bs 57 [.tmp 51, .tmp 56] _ sl_22_3_1 zs_3_1 rfl rfl rfl rfl rfl rfl (fun b57 => ?_))
        refine AS.cons (sp_call [57] (vs := [iv _, .slice (some ⟨b57, 0, none⟩) [x % b.wide - y % b.wide, x / b.wide - y / b.wide].length 2]) rfl rfl cf_83 (fun F w' hF S => greatest _ 2 [x % b.wide - y % b.wide, x / b.wide - y / b.wide] _ w' (rd_pt (S.get ((hF 57 (by simp)).trans rfl)).1 rfl (by simp) (by simp))) ?_)
        refine AS.cons (sp_asg (v := .int _ _) rfl ?_)
        refine AS.nil ?_
        intro _ S
        refine W.region S ?_
        refine AS.cons (sp_add rfl rfl (by first | omega | (simp only [decide_eq_true_eq, decide_eq_false_iff_not] at *; omega)) ?_)
        refine AS.cons (sp_move (v := .int _ _) rfl ?_)
        refine AS.nil ?_
        intro _ S
        exact ⟨k + 1, _, by omega, by omega, ⟨by simp [upd], congrArg iv (by rw [rowA_succ hy]; exact Int.max_assoc _ _ _), trivial⟩, trivial, by repeat (first | exact Agr.refl _ _ | exact Agr.msk _ _ _ | refine Agr.upd ?_ _ rfl | refine Agr.upds ?_ rfl | refine Agr.mskIn ?_ rfl), by repeat (first | exact Agr.refl _ _ | exact Agr.msk _ _ _ | refine Agr.upd ?_ _ rfl | refine Agr.upds ?_ rfl | refine Agr.mskIn ?_ rfl), rfl, S⟩
      · skip
        obtain rfl : k = (whs b m.toNat).length := by omega
        refine W.exit ?_
        refine W.region S ?_
        refine AS.cons (sp_add rfl rfl (by first | omega | (simp only [decide_eq_true_eq, decide_eq_false_iff_not] at *; omega)) ?_)
        refine AS.cons (sp_move (v := .int _ _) rfl ?_)
        refine AS.nil ?_
        intro _ S
        exact ⟨i + 1, _, by omega, by omega, ⟨by simp [upd], congrArg iv (colA_succ hx).symm, trivial⟩, trivial, by repeat (first | exact Agr.refl _ _ | exact Agr.msk _ _ _ | refine Agr.upd ?_ _ rfl | refine Agr.upds ?_ rfl | refine Agr.mskIn ?_ rfl), by repeat (first | exact Agr.refl _ _ | exact Agr.msk _ _ _ | refine Agr.upd ?_ _ rfl | refine Agr.upds ?_ rfl | refine Agr.mskIn ?_ rfl), rfl, S⟩
    · skip
      obtain rfl : i = (whs b m.toNat).length := by omega
      refine W.exit ?_
      refine W.seq (W.region S ?_)
      refine AS.cons (sp_move (v := .int _ _) rfl ?_)
      refine AS.cons (sp_asg (v := .int _ _) rfl ?_)
      refine AS.cons (sp_asg rfl ?_)
      refine AS.nil ?_
      intro _ S
      refine W.ret ?_
      first | exact ret2 rfl rfl rfl S fun w' S' => ⟨by rw [hv]; rfl, S'.mod⟩ | exact ret2 rfl rfl rfl S fun w' S' => ⟨by rw [hv, c0]; rfl, S'.mod⟩
end
end Go.Proofs.YtmpclgepoemneaaDoor

/-
  Where a seine incloses squares.
-/
namespace Go.Proofs.YtmpclgepoemneaaDoor
set_option maxRecDepth 100000
open Go.Hu Go.RowKit
section
variable (b : Bk) (la : Option Addr) (lc : Nat) (ca : Option Addr) (cc : Nat) (mp : Nat)
theorem shotB (hb : Num b) (ga : Option Addr) (gc : Nat) (l : List Int) (hbd : ∀ n ∈ l, 0 ≤ n ∧ n < 80) (wi hi : Int) (hwi : 1 ≤ wi ∧ wi ≤ 10) (hhi : 1 ≤ hi ∧ hi ≤ 10) (w : World) (hl : Ints w ga gc l) :
    Ct Tryd.prog 86 #[.agg (bayL b la lc ca cc mp).toArray, .slice ga l.length gc, iv wi, iv hi] w (fun u w' => u = .tuple #[iv (if shotN b l wi hi < 0 then 0 else shotN b l wi hi), .bool (decide (0 ≤ shotN b l wi hi))] ∧ Ext w w') := by
  refine fn_intro (args := [.agg (bayL b la lc ca cc mp).toArray, .slice ga l.length gc, iv wi, iv hi]) Tryd.func86 rfl rfl (by kernel_rfl) ?_
  have S := St.start no w
  have hln : l.length ≤ 9223372036854775807 := hl.2.1
  have hsq := sq_le hb
  have hw := hb.1
  have hh := hb.2.1
  refine W.seq (W.region S ?_)
  refine AS.cons (sp_boxa 4 rfl (fun b4 => ?_))
  refine AS.cons (sp_asg rfl ?_)
  refine AS.cons (sp_asg rfl ?_)
  refine AS.nil ?_
  intro _ S
  refine W.scope ?_
  refine W.seq (W.label ?_)
  refine W.seq (W.seq (W.region S ?_))
  refine AS.cons (sp_fa rfl fo_77_0_0 ?_)
  refine AS.cons (sp_fa rfl fo_26_0_0 ?_)
  refine AS.cons (sp_ld 4 rfl rfl sc_3 rfl ?_)
  refine AS.cons (sp_fa rfl fo_77_0_0 ?_)
  refine AS.cons (sp_fa rfl fo_26_1_1 ?_)
  refine AS.cons (sp_ld 4 rfl rfl sc_3 rfl ?_)
  refine AS.cons (sp_mul rfl rfl (mulB (by first | omega | (simp only [decide_eq_true_eq, decide_eq_false_iff_not] at *; omega)) (by first | omega | (simp only [decide_eq_true_eq, decide_eq_false_iff_not] at *; omega))) ?_)
  refine AS.cons (sp_move rfl ?_)
  refine AS.nil ?_
  intro _ S
  refine W.block ?_
  refine W.loopS S [8, 9, 10, 11, 13, 14, 22, 23, 24, 25, 26, 27, 28, 29, 30, 31, 32, 33, 34, 35, 36, 37, 38, 39, 40, 41, 42, 43, 44, 45, 46, 47, 48, 49, 50, 51, 52, 53, 54, 55, 56, 57, 58, 59, 60, 61, 62, 63] [11, 14] (fun (j : Nat) => [(22, iv j)]) (fun _ => []) (fun j => j ≤ sq b ∧ ∀ i, i < j → inc b l wi hi i = false) (fun j => sq b - j) 0 ⟨by omega, fun i hi => absurd hi (by omega)⟩ ⟨rfl, trivial⟩ trivial ?_
  rintro j σ M w1 ⟨hj, hnn⟩ S
  refine W.seq (W.region S ?_)
  refine AS.cons (sp_lss rfl rfl ?_)
  refine AS.nil ?_
  intro _ S
  refine W.seq (W.condd rfl (fun c23 => ?_) (fun c23 => ?_))
  · skip
    have hjn : j < sq b := by omega
    have hjd := sq_xy hb hjn
    refine W.skip ?_
    refine W.seq (W.block ?_)
    refine W.seq (W.region S ?_)
    refine AS.cons (sp_move (v := .int _ _) rfl ?_)
    refine AS.cons (sp_asg (v := .int _ _) rfl ?_)
    refine AS.nil ?_
    intro _ S
    refine W.seq (W.region S ?_)
    refine AS.cons (sp_ldw 4 rfl rfl ag_77_8 ?_)
    refine AS.cons (sp_move (v := .int _ _) rfl ?_)
    refine AS.cons (sp_call [] rfl rfl cf_82 (fun F w _ S => spot _ _ _ _ _ _ (by assumption) _ (by omega) w) ?_)
    refine AS.cons (sp_alloc 11 zv_82 rfl (fun b11 => ?_))
    refine AS.cons (sp_st 11 rfl rfl rfl rfl sz_82_2 rfl rfl ?_)
    refine AS.nil ?_
    intro _ S
    refine W.seq (W.seq (W.region S ?_))
    refine AS.cons (sp_move rfl ?_)
    refine AS.cons (sp_len rfl sl_22_3_1 ?_)
    refine AS.cons (sp_move rfl ?_)
    refine AS.nil ?_
    intro _ S
    refine W.block ?_
    refine W.loopS S [13, 14, 30, 31, 32, 33, 34, 35, 36, 37, 38, 39, 40, 41, 42, 43, 44, 45, 46, 47, 48, 49, 50, 51, 52, 53, 54, 55, 56, 57, 58, 59, 60, 61] [14] (fun (k : Nat) => [(30, iv k)]) (fun _ => []) (fun k => k ≤ l.length ∧ ∀ i, i < k → ∀ m, l[i]? = some m → HoldsP b.wide j wi hi m) (fun k => l.length - k) 0 ⟨by omega, fun i hi => absurd hi (by omega)⟩ ⟨rfl, trivial⟩ trivial ?_
    rintro k σ M w2 ⟨hk, hkk⟩ S
    refine W.seq (W.region S ?_)
    refine AS.cons (sp_lss rfl rfl ?_)
    refine AS.nil ?_
    intro _ S
    refine W.seq (W.condd rfl (fun c31 => ?_) (fun c31 => ?_))
    · skip
      have hkn : k < l.length := by omega
      obtain ⟨x, hx⟩ := get_some hkn
      have hxb := hbd x (List.mem_of_getElem? hx)
      have hxd := divB hxb.1 (show 0 < b.wide by omega)
      refine W.skip ?_
      refine W.seq (W.block ?_)
      refine W.seq (W.region S ?_)
      refine AS.cons (sp_iaR hl rfl rfl sl_22_3_1 (by first | omega | (simp only [decide_eq_true_eq, decide_eq_false_iff_not] at *; omega)) ?_)
      refine AS.cons (sp_ldR 0 hl (fun _ h => h) rfl sc_3 (ints_at hx) (by first | omega | (simp only [decide_eq_true_eq, decide_eq_false_iff_not] at *; omega)) ?_)
      refine AS.cons (sp_asg (v := .int _ _) rfl ?_)
      refine AS.nil ?_
      intro _ S
      refine W.seq (W.region S ?_)
      refine AS.cons (sp_ldw 4 rfl rfl ag_77_8 ?_)
      refine AS.cons (sp_move (v := .int _ _) rfl ?_)
      refine AS.cons (sp_call [] rfl rfl cf_82 (fun F w _ S => spot _ _ _ _ _ _ (by assumption) _ (by omega) w) ?_)
      refine AS.cons (sp_alloc 14 zv_82 rfl (fun b14 => ?_))
      refine AS.cons (sp_st 14 rfl rfl rfl rfl sz_82_2 rfl rfl ?_)
      refine AS.nil ?_
      intro _ S
      refine W.seq (W.regionc S [37, 38, 39, 40, 41, 42, 43, 44, 45, 46, 47, 48, 49, 50, 51, 52, 53, 54, 55, 56, 57, 58, 59, 60] 60 (¬ HoldsP b.wide j wi hi x) ?_ ?_)
      · skip
        refine AS.cons (sp_fa rfl fo_82_0_0 ?_)
        refine AS.cons (sp_ld 14 rfl rfl sc_3 rfl ?_)
        refine AS.cons (sp_fa rfl fo_82_0_0 ?_)
        refine AS.cons (sp_ld 11 rfl rfl sc_3 rfl ?_)
        refine AS.cons (sp_fa rfl fo_82_0_0 ?_)
        refine AS.cons (sp_ld 11 rfl rfl sc_3 rfl ?_)
        refine AS.cons (sp_move (v := .int _ _) rfl ?_)
        refine AS.cons (sp_add rfl rfl (by first | omega | (simp only [decide_eq_true_eq, decide_eq_false_iff_not] at *; omega)) ?_)
        refine AS.cons (sp_sub rfl rfl (by first | omega | (simp only [decide_eq_true_eq, decide_eq_false_iff_not] at *; omega)) ?_)
        refine AS.cons (sp_call [] rfl rfl cf_62 (fun F w _ S => within _ _ _ w) ?_)
        refine AS.cons (sp_not rfl ?_)
        refine AS.cons (sp_move (v := .bool _) rfl ?_)
        refine AS.split 48 rfl (fun g48 => ?_) (fun g48 => ?_)
        · skip
          refine AS.cons (sp_skip rfl ?_)
          refine AS.cons (sp_skip rfl ?_)
          refine AS.cons (sp_skip rfl ?_)
          refine AS.cons (sp_skip rfl ?_)
          refine AS.cons (sp_skip rfl ?_)
          refine AS.cons (sp_skip rfl ?_)
          refine AS.cons (sp_skip rfl ?_)
          refine AS.cons (sp_skip rfl ?_)
          refine AS.cons (sp_skip rfl ?_)
          refine AS.cons (sp_skip rfl ?_)
          refine AS.cons (sp_skip rfl ?_)
          refine AS.cons (sp_pick_t rfl (v := .bool _) rfl ?_)
          refine AS.nil ⟨⟨_, rfl, ?_⟩, ?_, rfl⟩
          · (try simp only [] at *); first | omega | (simp_all; done) | (simp_all; omega)
          · repeat (first | exact Agr.refl _ _ | exact Agr.msk _ _ _ | refine Agr.upd ?_ _ rfl | refine Agr.upds ?_ rfl | refine Agr.mskIn ?_ rfl)
        · skip
          refine AS.cons (sp_fa rfl fo_82_1_1 ?_)
          refine AS.cons (sp_ld 14 rfl rfl sc_3 rfl ?_)
          refine AS.cons (sp_fa rfl fo_82_1_1 ?_)
          refine AS.cons (sp_ld 11 rfl rfl sc_3 rfl ?_)
          refine AS.cons (sp_fa rfl fo_82_1_1 ?_)
          refine AS.cons (sp_ld 11 rfl rfl sc_3 rfl ?_)
          refine AS.cons (sp_move (v := .int _ _) rfl ?_)
          refine AS.cons (sp_add rfl rfl (by first | omega | (simp only [decide_eq_true_eq, decide_eq_false_iff_not] at *; omega)) ?_)
          refine AS.cons (sp_sub rfl rfl (by first | omega | (simp only [decide_eq_true_eq, decide_eq_false_iff_not] at *; omega)) ?_)
          refine AS.cons (sp_call [] rfl rfl cf_62 (fun F w _ S => within _ _ _ w) ?_)
          refine AS.cons (sp_not rfl ?_)
          refine AS.cons (sp_pick_f rfl (v := .bool _) rfl ?_)
          refine AS.nil ⟨⟨_, rfl, ?_⟩, ?_, rfl⟩
          · (try simp only [decide_eq_true_eq, decide_eq_false_iff_not] at *); first | omega | (simp_all; done) | (simp_all; omega)
          · repeat (first | exact Agr.refl _ _ | exact Agr.msk _ _ _ | refine Agr.upd ?_ _ rfl | refine Agr.upds ?_ rfl | refine Agr.mskIn ?_ rfl)
      intro σ9 _ S
      refine W.condd rfl (fun c60 => ?_) (fun c60 => ?_)
      · skip
        refine W.exit ?_
        refine W.region S ?_
        refine AS.cons (sp_add rfl rfl (by first | omega | (simp only [decide_eq_true_eq, decide_eq_false_iff_not] at *; omega)) ?_)
        refine AS.cons (sp_move (v := .int _ _) rfl ?_)
        refine AS.nil ?_
        intro _ S
        exact ⟨j + 1, _, ⟨by omega, snoc_lt hnn (inc_no hx c60)⟩, by omega, ⟨by simp [upd], trivial⟩, trivial, by repeat (first | exact Agr.refl _ _ | exact Agr.msk _ _ _ | refine Agr.upd ?_ _ rfl | refine Agr.upds ?_ rfl | refine Agr.mskIn ?_ rfl), by repeat (first | exact Agr.refl _ _ | exact Agr.msk _ _ _ | refine Agr.upd ?_ _ rfl | refine Agr.upds ?_ rfl | refine Agr.mskIn ?_ rfl), rfl, S⟩
      · skip
        refine W.skip ?_
        refine W.region S ?_
        refine AS.cons (sp_add rfl rfl (by first | omega | (simp only [decide_eq_true_eq, decide_eq_false_iff_not] at *; omega)) ?_)
        refine AS.cons (sp_move (v := .int _ _) rfl ?_)
        refine AS.nil ?_
        intro _ S
        exact ⟨k + 1, _, ⟨by omega, snoc_lt hkk (fun m hm => by rw [hx] at hm; cases hm; exact Decidable.not_not.1 c60)⟩, by omega, ⟨by simp [upd], trivial⟩, trivial, by repeat (first | exact Agr.refl _ _ | exact Agr.msk _ _ _ | refine Agr.upd ?_ _ rfl | refine Agr.upds ?_ rfl | refine Agr.mskIn ?_ rfl), by repeat (first | exact Agr.refl _ _ | exact Agr.msk _ _ _ | refine Agr.upd ?_ _ rfl | refine Agr.upds ?_ rfl | refine Agr.mskIn ?_ rfl), rfl, S⟩
    · skip
      have hsh : shotN b l wi hi = j := fstN_at hjn (inc_yes (fun i hi m hm => hkk i (by omega) m hm)) hnn
      refine W.exit ?_
      refine W.seq (W.region S ?_)
      refine AS.cons (sp_move (v := .int _ _) rfl ?_)
      refine AS.cons (sp_asg (v := .int _ _) rfl ?_)
      refine AS.cons (sp_asg rfl ?_)
      refine AS.nil ?_
      intro _ S
      refine W.ret ?_
      first | exact ret2 rfl rfl rfl S fun w' S' => ⟨by rw [hsh, if_neg (by omega), decide_eq_true (by omega)]; rfl, S'.mod⟩ | exact ret2 rfl rfl rfl S fun w' S' => ⟨by rw [hsh]; rfl, S'.mod⟩
  · skip
    have hsh : shotN b l wi hi = -1 := fstN_none (fun i hi => hnn i (by omega))
    refine W.exit ?_
    refine W.seq (W.region S ?_)
    refine AS.cons (sp_asg rfl ?_)
    refine AS.cons (sp_asg rfl ?_)
    refine AS.nil ?_
    intro _ S
    refine W.ret ?_
    first | exact ret2 rfl rfl rfl S fun w' S' => ⟨by rw [hsh, if_neg (by omega), decide_eq_true (by omega)]; rfl, S'.mod⟩ | exact ret2 rfl rfl rfl S fun w' S' => ⟨by rw [hsh]; rfl, S'.mod⟩
end
end Go.Proofs.YtmpclgepoemneaaDoor

/-
  Where a seine incloses squares, on the other side.
-/
namespace Go.Proofs.YtmpclgepoemneaaDoor
set_option maxRecDepth 100000
open Go.Hu Go.RowKit
section
variable (b : Bk) (la : Option Addr) (lc : Nat) (ca : Option Addr) (cc : Nat) (mp : Nat)
theorem inclosesR (hb : Num b) (ga : Option Addr) (gc : Nat) (l : List Int) (hbd : ∀ n ∈ l, 0 ≤ n ∧ n < 80) (wi hi : Int) (hwi : 1 ≤ wi ∧ wi ≤ 10) (hhi : 1 ≤ hi ∧ hi ≤ 10) (j : Nat) (hj : j < sq b) (w : World) (hl : Ints w ga gc l) :
    Ct Tryd.prog 105 #[.agg (bkL b la lc ca cc).toArray, iv j, iv wi, iv hi, .slice ga l.length gc] w (fun u w' => u = .bool (inc b l wi hi j) ∧ Ext w w') := by
  refine fn_intro (args := [.agg (bkL b la lc ca cc).toArray, iv j, iv wi, iv hi, .slice ga l.length gc]) Tryd.func105 rfl rfl (by kernel_rfl) ?_
  have S := St.start no w
  have hln : l.length ≤ 9223372036854775807 := hl.2.1
  have hsq := sq_le hb
  have hw := hb.1
  have hh := hb.2.1
  have hjd := sq_xy hb hj
  refine W.seq (W.region S ?_)
  refine AS.cons (sp_boxa 5 rfl (fun b5 => ?_))
  refine AS.cons (sp_asg rfl ?_)
  refine AS.nil ?_
  intro _ S
  refine W.seq (W.seq (W.region S ?_))
  refine AS.cons (sp_asg rfl ?_)
  refine AS.nil ?_
  intro _ S
  refine W.block ?_
  refine W.loopS S [10, 11, 12, 13, 14, 15, 16, 17, 18, 19, 20, 21, 22, 23, 24, 25, 26, 27, 28, 29, 30, 31, 32, 33, 34, 35, 36, 37, 38, 39, 40, 41, 42, 43, 44, 45, 46, 47, 48, 49, 50, 51, 52, 53, 54, 55] [] (fun (k : Nat) => [(11, iv k)]) (fun _ => []) (fun k => k ≤ l.length ∧ ∀ i, i < k → ∀ m, l[i]? = some m → HoldsP b.wide j wi hi m) (fun k => l.length - k) 0 ⟨by omega, fun i hi => absurd hi (by omega)⟩ ⟨rfl, trivial⟩ trivial ?_
  rintro k σ M w2 ⟨hk, hkk⟩ S
  refine W.seq (W.seq (W.region S ?_))
  refine AS.cons (sp_move (v := .int _ _) rfl ?_)
  refine AS.cons (sp_move rfl ?_)
  refine AS.cons (sp_len rfl sl_22_3_1 ?_)
  refine AS.cons (sp_lss rfl rfl ?_)
  refine AS.nil ?_
  intro _ S
  refine W.condd rfl (fun c17 => ?_) (fun c17 => ?_)
  · skip
    have hkn : k < l.length := by omega
    obtain ⟨x, hx⟩ := get_some hkn
    have hxb := hbd x (List.mem_of_getElem? hx)
    have hxd := divB hxb.1 (show 0 < b.wide by omega)
    refine W.skip ?_
    refine W.seq (W.block ?_)
    refine W.seq (W.draw S mixed (fun i => ([KD.q [], KD.q [], KD.q [], KD.q [], KD.q [], KD.q [5], KD.q [], KD.q [], KD.q [], KD.q [5], KD.q [], KD.q [], KD.q [], KD.q [], KD.q [], KD.q [], KD.q [], KD.q [5], KD.q [], KD.q [], KD.q [], KD.q [5], KD.q [], KD.q [], KD.q [], KD.q []] : List KD)[i]?) [] [0, 1, 2, 3, 4, 5, 6, 7, 8, 9, 10, 11, 12, 13, 14, 15, 16, 17, 18, 19, 20, 21, 22, 23, 24, 25] (by kernel_rfl) ?_)
    refine AW.cons rfl rfl (sp_move rfl ?_)
    refine AW.cons rfl rfl (sp_move (v := .int _ _) rfl ?_)
    refine AW.cons rfl rfl (sp_iaR hl rfl rfl sl_22_3_1 (by first | omega | (simp only [decide_eq_true_eq, decide_eq_false_iff_not] at *; omega)) ?_)
    refine AW.cons rfl rfl (sp_ldR 0 hl (fun _ h => h) rfl sc_3 (ints_at hx) (by first | omega | (simp only [decide_eq_true_eq, decide_eq_false_iff_not] at *; omega)) ?_)
    refine AW.cons rfl rfl (sp_fa rfl fo_26_0_0 ?_)
    refine AW.cons rfl rfl (sp_ld 5 rfl rfl sc_3 rfl ?_)
    refine AW.cons rfl rfl (sp_rem rfl rfl (by first | omega | (simp only [decide_eq_true_eq, decide_eq_false_iff_not] at *; omega)) (by first | omega | (simp only [decide_eq_true_eq, decide_eq_false_iff_not] at *; omega)) ?_)
    refine AW.cons rfl rfl (sp_move (v := .int _ _) rfl ?_)
    refine AW.cons rfl rfl (sp_fa rfl fo_26_0_0 ?_)
    refine AW.cons rfl rfl (sp_ld 5 rfl rfl sc_3 rfl ?_)
    refine AW.cons rfl rfl (sp_rem rfl rfl (by first | omega | (simp only [decide_eq_true_eq, decide_eq_false_iff_not] at *; omega)) (by first | omega | (simp only [decide_eq_true_eq, decide_eq_false_iff_not] at *; omega)) ?_)
    refine AW.cons rfl rfl (sp_sub rfl rfl (by first | omega | (simp only [decide_eq_true_eq, decide_eq_false_iff_not] at *; omega)) ?_)
    refine AW.cons rfl rfl (sp_move rfl ?_)
    refine AW.cons rfl rfl (sp_move (v := .int _ _) rfl ?_)
    refine AW.cons rfl rfl (sp_iaR hl rfl rfl sl_22_3_1 (by first | omega | (simp only [decide_eq_true_eq, decide_eq_false_iff_not] at *; omega)) ?_)
    refine AW.cons rfl rfl (sp_ldR 0 hl (fun _ h => h) rfl sc_3 (ints_at hx) (by first | omega | (simp only [decide_eq_true_eq, decide_eq_false_iff_not] at *; omega)) ?_)
    refine AW.cons rfl rfl (sp_fa rfl fo_26_0_0 ?_)
    refine AW.cons rfl rfl (sp_ld 5 rfl rfl sc_3 rfl ?_)
    refine AW.cons rfl rfl (sp_quo rfl rfl (by first | omega | (simp only [decide_eq_true_eq, decide_eq_false_iff_not] at *; omega)) (by first | omega | (simp only [decide_eq_true_eq, decide_eq_false_iff_not] at *; omega)) ?_)
    refine AW.cons rfl rfl (sp_move (v := .int _ _) rfl ?_)
    refine AW.cons rfl rfl (sp_fa rfl fo_26_0_0 ?_)
    refine AW.cons rfl rfl (sp_ld 5 rfl rfl sc_3 rfl ?_)
    refine AW.cons rfl rfl (sp_quo rfl rfl (by first | omega | (simp only [decide_eq_true_eq, decide_eq_false_iff_not] at *; omega)) (by first | omega | (simp only [decide_eq_true_eq, decide_eq_false_iff_not] at *; omega)) ?_)
    refine AW.cons rfl rfl (sp_sub rfl rfl (by first | omega | (simp only [decide_eq_true_eq, decide_eq_false_iff_not] at *; omega)) ?_)
    refine AW.cons rfl rfl (sp_asg (v := .int _ _) rfl ?_)
    refine AW.cons rfl rfl (sp_asg (v := .int _ _) rfl ?_)
    refine AW.nil ?_
    intro _ S
    refine W.seq (W.regionc S [44, 45, 46, 47, 48, 49, 50, 51, 52, 53, 54, 55] 55 (¬ HoldsP b.wide j wi hi x) ?_ ?_)
    · skip
      refine AS.cons (sp_move (v := .int _ _) rfl ?_)
      refine AS.cons (sp_move (v := .int _ _) rfl ?_)
      refine AS.cons (sp_sub rfl rfl (by first | omega | (simp only [decide_eq_true_eq, decide_eq_false_iff_not] at *; omega)) ?_)
      refine AS.cons (sp_call [] rfl rfl cf_44 (fun F w _ S => between _ _ _ w) ?_)
      refine AS.cons (sp_not rfl ?_)
      refine AS.cons (sp_move (v := .bool _) rfl ?_)
      refine AS.split 49 rfl (fun g49 => ?_) (fun g49 => ?_)
      · skip
        refine AS.cons (sp_skip rfl ?_)
        refine AS.cons (sp_skip rfl ?_)
        refine AS.cons (sp_skip rfl ?_)
        refine AS.cons (sp_skip rfl ?_)
        refine AS.cons (sp_skip rfl ?_)
        refine AS.cons (sp_pick_t rfl (v := .bool _) rfl ?_)
        refine AS.nil ⟨⟨_, rfl, ?_⟩, ?_, rfl⟩
        · (try simp only [] at *); first | omega | (simp_all; done) | (simp_all; omega)
        · repeat (first | exact Agr.refl _ _ | exact Agr.msk _ _ _ | refine Agr.upd ?_ _ rfl | refine Agr.upds ?_ rfl | refine Agr.mskIn ?_ rfl)
      · skip
        refine AS.cons (sp_move (v := .int _ _) rfl ?_)
        refine AS.cons (sp_move (v := .int _ _) rfl ?_)
        refine AS.cons (sp_sub rfl rfl (by first | omega | (simp only [decide_eq_true_eq, decide_eq_false_iff_not] at *; omega)) ?_)
        refine AS.cons (sp_call [] rfl rfl cf_44 (fun F w _ S => between _ _ _ w) ?_)
        refine AS.cons (sp_not rfl ?_)
        refine AS.cons (sp_pick_f rfl (v := .bool _) rfl ?_)
        refine AS.nil ⟨⟨_, rfl, ?_⟩, ?_, rfl⟩
        · (try simp only [decide_eq_true_eq, decide_eq_false_iff_not] at *); first | omega | (simp_all; done) | (simp_all; omega)
        · repeat (first | exact Agr.refl _ _ | exact Agr.msk _ _ _ | refine Agr.upd ?_ _ rfl | refine Agr.upds ?_ rfl | refine Agr.mskIn ?_ rfl)
    intro σ5 _ S
    refine W.condd rfl (fun c55 => ?_) (fun c55 => ?_)
    · skip
      have hv : inc b l wi hi j = false := inc_no hx c55
      refine W.seq (W.region S ?_)
      refine AS.cons (sp_asg rfl ?_)
      refine AS.nil ?_
      intro _ S
      refine W.ret ?_
      exact ret1 rfl rfl S fun w' S' => ⟨congrArg Value.bool hv.symm, S'.mod⟩
    · skip
      refine W.skip ?_
      refine W.region S ?_
      refine AS.cons (sp_move (v := .int _ _) rfl ?_)
      refine AS.cons (sp_add rfl rfl (by first | omega | (simp only [decide_eq_true_eq, decide_eq_false_iff_not] at *; omega)) ?_)
      refine AS.cons (sp_asg (v := .int _ _) rfl ?_)
      refine AS.nil ?_
      intro _ S
      exact ⟨k + 1, _, ⟨by omega, snoc_lt hkk (fun m hm => by rw [hx] at hm; cases hm; exact Decidable.not_not.1 c55)⟩, by omega, ⟨by simp [upd], trivial⟩, trivial, by repeat (first | exact Agr.refl _ _ | exact Agr.msk _ _ _ | refine Agr.upd ?_ _ rfl | refine Agr.upds ?_ rfl | refine Agr.mskIn ?_ rfl), by repeat (first | exact Agr.refl _ _ | exact Agr.msk _ _ _ | refine Agr.upd ?_ _ rfl | refine Agr.upds ?_ rfl | refine Agr.mskIn ?_ rfl), rfl, S⟩
  · skip
    have hv : inc b l wi hi j = true := inc_yes (fun i hi m hm => hkk i (by omega) m hm)
    refine W.exit ?_
    refine W.seq (W.region S ?_)
    refine AS.cons (sp_asg rfl ?_)
    refine AS.nil ?_
    intro _ S
    refine W.ret ?_
    exact ret1 rfl rfl S fun w' S' => ⟨congrArg Value.bool hv.symm, S'.mod⟩
theorem shotRF (hb : Num b) (ga : Option Addr) (gc : Nat) (l : List Int) (hbd : ∀ n ∈ l, 0 ≤ n ∧ n < 80) (wi hi : Int) (hwi : 1 ≤ wi ∧ wi ≤ 10) (hhi : 1 ≤ hi ∧ hi ≤ 10) (w : World) (hl : Ints w ga gc l) :
    Ct Tryd.prog 87 #[.agg (bkL b la lc ca cc).toArray, .slice ga l.length gc, iv wi, iv hi] w (fun u w' => u = iv (shotN b l wi hi) ∧ Ext w w') := by
  refine fn_intro (args := [.agg (bkL b la lc ca cc).toArray, .slice ga l.length gc, iv wi, iv hi]) Tryd.func87 rfl rfl (by kernel_rfl) ?_
  have S := St.start no w
  have hsq := sq_le hb
  refine W.seq (W.region S ?_)
  refine AS.cons (sp_boxa 4 rfl (fun b4 => ?_))
  refine AS.cons (sp_asg rfl ?_)
  refine AS.nil ?_
  intro _ S
  refine W.seq (W.seq (W.region S ?_))
  refine AS.cons (sp_asg rfl ?_)
  refine AS.nil ?_
  intro _ S
  refine W.block ?_
  refine W.loopS S [8, 9, 10, 11, 12, 13, 14, 15, 16, 17, 18, 19, 20, 21, 22] [] (fun (j : Nat) => [(9, iv j)]) (fun _ => []) (fun j => j ≤ sq b ∧ ∀ i, i < j → inc b l wi hi i = false) (fun j => sq b - j) 0 ⟨by omega, fun i hi => absurd hi (by omega)⟩ ⟨rfl, trivial⟩ trivial ?_
  rintro j σ M w1 ⟨hj, hnn⟩ S
  refine W.seq (W.seq (W.region S ?_))
  refine AS.cons (sp_move (v := .int _ _) rfl ?_)
  refine AS.cons (sp_ldw 4 rfl rfl ag_26_7 ?_)
  refine AS.cons (sp_call [] rfl rfl cf_66 (fun F w _ S => squaresN _ _ _ _ _ (by assumption) w) ?_)
  refine AS.cons (sp_lss rfl rfl ?_)
  refine AS.nil ?_
  intro _ S
  refine W.condd rfl (fun c13 => ?_) (fun c13 => ?_)
  · skip
    have hjn : j < sq b := by omega
    refine W.skip ?_
    refine W.seq (W.block ?_)
    refine W.seq (W.region S ?_)
    refine AS.cons (sp_ldw 4 rfl rfl ag_26_7 ?_)
    refine AS.cons (sp_move (v := .int _ _) rfl ?_)
    refine AS.cons (sp_move (v := .int _ _) rfl ?_)
    refine AS.cons (sp_move (v := .int _ _) rfl ?_)
    refine AS.cons (sp_move rfl ?_)
    refine AS.cons (sp_call [] rfl rfl cf_105 (fun F w' _ S => inclosesR b la lc ca cc hb ga gc l hbd wi hi hwi hhi j hjn w' (hl.ext S.mod)) ?_)
    refine AS.nil ?_
    intro _ S
    refine W.cond rfl (fun c21 => ?_) (fun c21 => ?_)
    · skip
      have hsh : shotN b l wi hi = j := fstN_at hjn c21 hnn
      refine W.seq (W.region S ?_)
      refine AS.cons (sp_move (v := .int _ _) rfl ?_)
      refine AS.cons (sp_asg (v := .int _ _) rfl ?_)
      refine AS.nil ?_
      intro _ S
      refine W.ret ?_
      exact ret1 rfl rfl S fun w' S' => ⟨congrArg iv hsh.symm, S'.mod⟩
    · skip
      refine W.skip ?_
      refine W.region S ?_
      refine AS.cons (sp_move (v := .int _ _) rfl ?_)
      refine AS.cons (sp_add rfl rfl (by first | omega | (simp only [decide_eq_true_eq, decide_eq_false_iff_not] at *; omega)) ?_)
      refine AS.cons (sp_asg (v := .int _ _) rfl ?_)
      refine AS.nil ?_
      intro _ S
      exact ⟨j + 1, _, ⟨by omega, snoc_lt hnn c21⟩, by omega, ⟨by simp [upd], trivial⟩, trivial, by repeat (first | exact Agr.refl _ _ | exact Agr.msk _ _ _ | refine Agr.upd ?_ _ rfl | refine Agr.upds ?_ rfl | refine Agr.mskIn ?_ rfl), by repeat (first | exact Agr.refl _ _ | exact Agr.msk _ _ _ | refine Agr.upd ?_ _ rfl | refine Agr.upds ?_ rfl | refine Agr.mskIn ?_ rfl), rfl, S⟩
  · skip
    have hsh : shotN b l wi hi = -1 := fstN_none (fun i hi => hnn i (by omega))
    refine W.exit ?_
    refine W.seq (W.region S ?_)
    refine AS.cons (sp_asg rfl ?_)
    refine AS.nil ?_
    intro _ S
    refine W.ret ?_
    exact ret1 rfl rfl S fun w' S' => ⟨congrArg iv hsh.symm, S'.mod⟩
end
end Go.Proofs.YtmpclgepoemneaaDoor

/-
  Shot, on both sides.
-/
namespace Go.Proofs.YtmpclgepoemneaaDoor
set_option maxRecDepth 100000
open Go.Hu Go.RowKit
section
variable (b : Bk) (la : Option Addr) (lc : Nat) (ca : Option Addr) (cc : Nat) (mp : Nat)
theorem shotP (m x y : Int) (w : World) (hK : Kinds w) (hl : Ints w la lc b.land) (hC : Cries w ca cc b.cries) : Ct Tryd.prog 29 #[.agg (bkL b la lc ca cc).toArray, iv m, iv x, iv y] w (fun u w' => u = .tuple #[iv (shotV b m x y), iv (shotE b m x y)] ∧ Ext w w') := by
  refine fn_intro (args := [.agg (bkL b la lc ca cc).toArray, iv m, iv x, iv y]) Tryd.func29 rfl rfl (by kernel_rfl) ?_
  have S := St.start no w
  refine W.seq (W.region S ?_)
  refine AS.cons (sp_boxa 4 rfl (fun b4 => ?_))
  refine AS.cons (sp_boxs 5 rfl rfl (fun b5 => ?_))
  refine AS.cons (sp_boxs 6 rfl rfl (fun b6 => ?_))
  refine AS.cons (sp_boxs 7 rfl rfl (fun b7 => ?_))
  refine AS.cons (sp_asg rfl ?_)
  refine AS.cons (sp_asg rfl ?_)
  refine AS.nil ?_
  intro _ S
  refine W.seq (W.region S ?_)
  refine AS.cons (sp_ldw 4 rfl rfl ag_26_7 ?_)
  refine AS.cons (sp_mf ?_)
  refine AS.cons (sp_call1 17 [5, 6, 7] _ rfl rfl cf_73 (fun F w' hF S => asked b la lc ca cc w' (hK.ext S.mod) (hl.ext S.mod) (hC.ext S.mod) 84 [oP b5, oP b6, oP b7] (decide (ShotP m x y)) cf_84 (fun w'' E _ => shotC b5 b6 b7 m x y w'' (At.ext (S.get ((hF 5 (by simp)).trans rfl)).1 E) (At.ext (S.get ((hF 6 (by simp)).trans rfl)).1 E) (At.ext (S.get ((hF 7 (by simp)).trans rfl)).1 E))) ?_ (by simp))
  rintro v17 i17 ⟨bl, hbl, hone, rfl, hz⟩
  refine AS.cons (sp_move rfl ?_)
  refine AS.cons (sp_ext rfl rfl ?_)
  refine AS.cons (sp_ext rfl rfl ?_)
  refine AS.cons (sp_alloc 10 zv_77 rfl (fun b10 => ?_))
  refine AS.cons (sp_stw 10 sz_77_8 rfl rfl rfl rfl hbl rfl hone ?_)
  refine AS.cons (sp_asg (v := .int _ _) rfl ?_)
  refine AS.nil ?_
  intro _ S
  refine W.seq (W.seq (W.region S ?_))
  refine AS.cons (sp_move (v := .int _ _) rfl ?_)
  refine AS.cons (sp_neq rfl rfl ?_)
  refine AS.nil ?_
  intro _ S
  refine W.condd rfl (fun c21 => ?_) (fun c21 => ?_)
  · skip
    have he : shotE b m x y = askV b (decide (ShotP m x y)) := by unfold shotE; rw [if_neg c21]
    have hv : shotV b m x y = 0 := by unfold shotV; rw [he, if_neg c21]
    refine W.seq (W.region S ?_)
    refine AS.cons (sp_move (v := .int _ _) rfl ?_)
    refine AS.cons (sp_asg rfl ?_)
    refine AS.cons (sp_asg (v := .int _ _) rfl ?_)
    refine AS.nil ?_
    intro _ S
    refine W.ret ?_
    first | exact ret2 rfl rfl rfl S fun w' S' => ⟨by rw [he, hv]; rfl, S'.mod⟩ | exact ret2 rfl rfl rfl S fun w' S' => ⟨(congrArg (fun z => Value.tuple #[iv z, iv 0]) hif).trans (by rw [he, hv]), S'.mod⟩
  · skip
    have c0 := Decidable.not_not.1 c21
    obtain ⟨mp, rfl, rfl⟩ := hz c0
    obtain ⟨hok, hmm, _⟩ := askV_zero c0
    have hmm := of_decide_eq_true hmm
    have hbk := okAll_ok hok
    have hlen : (whs b m.toNat).length ≤ 80 := whU_len b m.toNat 80
    refine W.skip ?_
    refine W.seq (W.seq (W.draw S mixed (fun i => ([KD.q [10], KD.q [10], KD.q [5], KD.e [17] [27], KD.q [6], KD.q [7], KD.e [27] [], KD.q [], KD.q [], KD.q [], KD.q [], KD.q []] : List KD)[i]?) [] [0, 1, 2, 3, 4, 5, 6, 7, 8, 9, 10, 11] (by kernel_rfl) ?_))
    refine AW.cons rfl rfl (sp_ldw 10 rfl rfl ag_77_8 ?_)
    refine AW.cons rfl rfl (sp_ldw 10 rfl rfl ag_77_8 ?_)
    refine AW.cons rfl rfl (sp_ld 5 rfl rfl sc_3 rfl ?_)
    refine AW.cons rfl rfl (sp_call1 27 [17] _ rfl rfl cf_76 (fun F w' hF S => whereF b la lc ca cc mp hbk.num hbk.cry (by have := hbk.lc; omega) m hmm.1 w' (hK.ext S.mod) (hC.ext S.mod) (mapAt S ((hF 17 (by simp)).trans rfl))) ?_ (fun _ => ⟨.slice none _ _, _, ⟨none, _, rfl, Nat.le_refl _⟩, rfl⟩))
    rintro v27 i27 ⟨⟨a, c, rfl, hac⟩, rfl⟩
    refine AW.cons rfl rfl (sp_ld 6 rfl rfl sc_3 rfl ?_)
    refine AW.cons rfl rfl (sp_ld 7 rfl rfl sc_3 rfl ?_)
    refine AW.cons rfl rfl (sp_call [27] rfl rfl cf_86 (fun F w' hF S => shotB b la lc ca cc mp hbk.num a c (whs b m.toNat) (fun n hn => whs_bd hn) x y hmm.2.1 hmm.2.2 w' (S.slc_rd (k := 27) ((hF 27 (by simp)).trans rfl) (by omega))) ?_)
    refine AW.cons rfl rfl (sp_move rfl ?_)
    refine AW.cons rfl rfl (sp_ext rfl rfl ?_)
    refine AW.cons rfl rfl (sp_ext rfl rfl ?_)
    refine AW.cons rfl rfl (sp_asg (v := .int _ _) rfl ?_)
    refine AW.cons rfl rfl (sp_asg (v := .bool _) rfl ?_)
    refine AW.nil ?_
    intro _ S
    refine W.seq (W.region S ?_)
    refine AS.cons (sp_move (v := .bool _) rfl ?_)
    refine AS.nil ?_
    intro _ S
    refine W.cond rfl (fun c33 => ?_) (fun c33 => ?_)
    · skip
      have h0 := of_decide_eq_true c33
      have he : shotE b m x y = 0 := by unfold shotE; rw [if_pos c0, if_pos h0]
      have hv : shotV b m x y = shotN b (whs b m.toNat) x y := by unfold shotV; rw [if_pos he]
      have hif : (if shotN b (whs b m.toNat) x y < 0 then 0 else shotN b (whs b m.toNat) x y) = shotN b (whs b m.toNat) x y := if_neg (by omega)
      refine W.seq (W.region S ?_)
      refine AS.cons (sp_move (v := .int _ _) rfl ?_)
      refine AS.cons (sp_asg (v := .int _ _) rfl ?_)
      refine AS.cons (sp_asg rfl ?_)
      refine AS.nil ?_
      intro _ S
      refine W.ret ?_
      first | exact ret2 rfl rfl rfl S fun w' S' => ⟨by rw [he, hv]; rfl, S'.mod⟩ | exact ret2 rfl rfl rfl S fun w' S' => ⟨(congrArg (fun z => Value.tuple #[iv z, iv 0]) hif).trans (by rw [he, hv]), S'.mod⟩
    · skip
      have h0 := of_decide_eq_false c33
      have he : shotE b m x y = 4 := by unfold shotE; rw [if_pos c0, if_neg h0]
      have hv : shotV b m x y = 0 := by unfold shotV; rw [he]; rfl
      refine W.skip ?_
      refine W.seq (W.region S ?_)
      refine AS.cons (sp_asg rfl ?_)
      refine AS.cons (sp_asg rfl ?_)
      refine AS.nil ?_
      intro _ S
      refine W.ret ?_
      first | exact ret2 rfl rfl rfl S fun w' S' => ⟨by rw [he, hv]; rfl, S'.mod⟩ | exact ret2 rfl rfl rfl S fun w' S' => ⟨(congrArg (fun z => Value.tuple #[iv z, iv 0]) hif).trans (by rw [he, hv]), S'.mod⟩
end
end Go.Proofs.YtmpclgepoemneaaDoor

/-
  Shot, on the other side.
-/
namespace Go.Proofs.YtmpclgepoemneaaDoor
set_option maxRecDepth 100000
open Go.Hu Go.RowKit
section
variable (b : Bk) (la : Option Addr) (lc : Nat) (ca : Option Addr) (cc : Nat) (mp : Nat)
theorem shotRR (m x y : Int) (w : World) (hl : Ints w la lc b.land) (hC : Cries w ca cc b.cries) : Ct Tryd.prog 30 #[.agg (bkL b la lc ca cc).toArray, iv m, iv x, iv y] w (fun u w' => u = .tuple #[iv (shotV b m x y), iv (shotE b m x y)] ∧ Ext w w') := by
  refine fn_intro (args := [.agg (bkL b la lc ca cc).toArray, iv m, iv x, iv y]) Tryd.func30 rfl rfl (by kernel_rfl) ?_
  have S := St.start no w
  refine W.seq (W.region S ?_)
  refine AS.cons (sp_boxa 4 rfl (fun b4 => ?_))
  refine AS.cons (sp_asg rfl ?_)
  refine AS.cons (sp_asg rfl ?_)
  refine AS.nil ?_
  intro _ S
  refine W.seq (W.draw S mixed (fun i => ([KD.q [4], KD.q [], KD.e [] [], KD.q [], KD.q [], KD.e [] [], KD.q [], KD.q [], KD.q [], KD.e [] [], KD.q [], KD.e [] [904, 25], KD.q [], KD.q [], KD.q [], KD.q [], KD.q []] : List KD)[i]?) [3, 5, 7, 9] [0, 1, 2, 3, 4, 5, 6, 7, 8, 9, 10, 11, 12, 13, 14, 15, 16] (by kernel_rfl) ?_)
  refine AW.cons rfl rfl (sp_ldw 4 rfl rfl ag_26_7 ?_)
  refine AW.cons rfl rfl (sp_move (v := .int _ _) rfl ?_)
  refine AW.cons rfl rfl (sp_call [] rfl rfl cf_78 (fun F w _ S => isMinuteR _ w) ?_)
  refine AW.cons rfl rfl (sp_move (v := .bool _) rfl ?_)
  refine AW.split 17 rfl (fun g17 => ?_) (fun g17 => ?_)
  · skip
    refine AW.cons rfl rfl (sp_move (v := .int _ _) rfl ?_)
    refine AW.cons rfl rfl (sp_call [] rfl rfl cf_44 (fun F w _ S => between _ _ _ w) ?_)
    refine AW.cons rfl rfl (sp_pick_t rfl (v := .bool _) rfl ?_)
    refine AW.cons rfl rfl (sp_move (v := .bool _) rfl ?_)
    refine AW.split 21 rfl (fun g21 => ?_) (fun g21 => ?_)
    · skip
      refine AW.cons rfl rfl (sp_move (v := .int _ _) rfl ?_)
      refine AW.cons rfl rfl (sp_call [] rfl rfl cf_44 (fun F w _ S => between _ _ _ w) ?_)
      refine AW.cons rfl rfl (sp_pick_t rfl (v := .bool _) rfl ?_)
      refine AW.cons rfl rfl (sp_call1s 25 904 [] _ (by decide) rfl rfl cf_77 (fun F w' _ S => askedR b la lc ca cc w' (hl.ext S.mod) (hC.ext S.mod) _) ?_ (fun _ => askRR_ne b _))
      rintro v25 i25 j25 ⟨o, rfl, hz⟩
      first | (have hp : askV b (decide (1 ≤ y ∧ y ≤ 10)) = askV b (decide (ShotP m x y)) := askV_congr fun h => by (exact decide_eq_decide.2 ⟨fun h => ⟨of_decide_eq_true g17, of_decide_eq_true g21, h⟩, fun h => h.2.2⟩)); rw [hp] at hz ⊢ | (have hp : askV b false = askV b (decide (ShotP m x y)) := askV_congr fun h => (decide_eq_false (fun hh => by (first | exact absurd ((decide_eq_true hh.1).symm.trans g17) (by decide) | exact absurd ((decide_eq_true hh.2.1).symm.trans g21) (by decide)))).symm); rw [hp] at hz ⊢
      refine AW.cons rfl rfl (sp_move rfl ?_)
      refine AW.cons rfl rfl (sp_ext rfl rfl ?_)
      refine AW.cons rfl rfl (sp_ext rfl rfl ?_)
      refine AW.cons rfl rfl (sp_asg rfl ?_)
      refine AW.cons rfl rfl (sp_asg (v := .int _ _) rfl ?_)
      refine AW.nil ?_
      intro _ S
      refine W.seq (W.seq (W.region S ?_))
      refine AS.cons (sp_move (v := .int _ _) rfl ?_)
      refine AS.cons (sp_neq rfl rfl ?_)
      refine AS.nil ?_
      intro _ S
      refine W.condd rfl (fun c29 => ?_) (fun c29 => ?_)
      · skip
        have he : shotE b m x y = askV b (decide (ShotP m x y)) := by unfold shotE; rw [if_neg c29]
        have hv : shotV b m x y = 0 := by unfold shotV; rw [he, if_neg c29]
        refine W.seq (W.region S ?_)
        refine AS.cons (sp_move (v := .int _ _) rfl ?_)
        refine AS.cons (sp_asg rfl ?_)
        refine AS.cons (sp_asg (v := .int _ _) rfl ?_)
        refine AS.nil ?_
        intro _ S
        refine W.ret ?_
        exact ret2 rfl rfl rfl S fun w' S' => ⟨by rw [he, hv]; rfl, S'.mod⟩
      · skip
        have c0 := Decidable.not_not.1 c29
        obtain ⟨a, c, vs, rfl, hvl, hvs, rfl, rfl⟩ := hz c0
        obtain ⟨hok, hmm, _⟩ := askV_zero c0
        have hmm := of_decide_eq_true hmm
        have hbk := okAll_ok hok
        have hsq := sq_le hbk.num
        obtain ⟨v0, hv0⟩ := get_some (l := vs) (j := m.toNat) (by omega)
        obtain ⟨a0, rfl⟩ := hvs v0 (List.mem_of_getElem? hv0)
        have htr := trL_WR hbk.num (m := m.toNat) (by omega)
        have hlen : (whs b m.toNat).length ≤ 80 := whU_len b m.toNat 80
        refine W.skip ?_
        refine W.seq (W.draw S mixed (fun i => ([KD.q [4], KD.q [], KD.q [], KD.q [25], KD.q [25], KD.e [904] [36], KD.q [], KD.q [], KD.e [36] [], KD.q []] : List KD)[i]?) [] [0, 1, 2, 3, 4, 5, 6, 7, 8, 9] (by kernel_rfl) ?_)
        refine AW.cons rfl rfl (sp_ldw 4 rfl rfl ag_26_7 ?_)
        refine AW.cons rfl rfl (sp_move rfl ?_)
        refine AW.cons rfl rfl (sp_move (v := .int _ _) rfl ?_)
        refine AW.cons rfl rfl (sp_iaS 25 rfl rfl rfl sl_90_94_1 (by omega) ?_)
        refine AW.cons rfl rfl (sp_ldS 25 rfl rfl sc_94 (by rw [Nat.mul_one]; exact hv0) (by omega) ?_)
        refine AW.cons rfl rfl (sp_call1 36 [904] (fun u i => (∃ a c, u = .slice a (whs b m.toNat).length c ∧ (whs b m.toNat).length ≤ c) ∧ i = slc 3 1 u (whs b m.toNat).length ((whs b m.toNat).map iv)) (vs := [.slice a0 (WR b m.toNat).length (sq b)]) rfl (by rw [WR_len]; rfl) cf_79 (fun F w' hF S => by have h2 := listR a0 (sq b) (WR b m.toNat) (by rw [WR_len]; omega) w' (by have h1 := S.star_rd (k := 904) ((hF 904 (by simp)).trans rfl) (pcsF_get (sq b) (WR b) _ 0 m.toNat _ hv0) (by omega); rw [Nat.zero_add] at h1; unfold Bools; rw [WR_len]; exact h1); rw [htr] at h2; exact h2) ?_ (fun _ => ⟨.slice none _ _, _, ⟨none, _, rfl, Nat.le_refl _⟩, rfl⟩))
        rintro v36 i36 ⟨⟨a36, c36, rfl, hac⟩, rfl⟩
        refine AW.cons rfl rfl (sp_move (v := .int _ _) rfl ?_)
        refine AW.cons rfl rfl (sp_move (v := .int _ _) rfl ?_)
        refine AW.cons rfl rfl (sp_call [36] rfl rfl cf_87 (fun F w' hF S => shotRF b la lc ca cc hbk.num a36 c36 (whs b m.toNat) (fun n hn => whs_bd hn) x y hmm.2.1 hmm.2.2 w' (S.slc_rd (k := 36) ((hF 36 (by simp)).trans rfl) (by omega))) ?_)
        refine AW.cons rfl rfl (sp_asg (v := .int _ _) rfl ?_)
        refine AW.nil ?_
        intro _ S
        refine W.seq (W.seq (W.region S ?_))
        refine AS.cons (sp_move (v := .int _ _) rfl ?_)
        refine AS.cons (sp_lss rfl rfl ?_)
        refine AS.nil ?_
        intro _ S
        refine W.condd rfl (fun c41 => ?_) (fun c41 => ?_)
        · skip
          have he : shotE b m x y = 4 := by unfold shotE; rw [if_pos c0, if_neg (by omega)]
          have hv : shotV b m x y = 0 := by unfold shotV; rw [he]; rfl
          refine W.seq (W.region S ?_)
          refine AS.cons (sp_asg rfl ?_)
          refine AS.cons (sp_asg rfl ?_)
          refine AS.nil ?_
          intro _ S
          refine W.ret ?_
          exact ret2 rfl rfl rfl S fun w' S' => ⟨by rw [he, hv]; rfl, S'.mod⟩
        · skip
          have he : shotE b m x y = 0 := by unfold shotE; rw [if_pos c0, if_pos (by omega)]
          have hv : shotV b m x y = shotN b (whs b m.toNat) x y := by unfold shotV; rw [if_pos he]
          refine W.skip ?_
          refine W.seq (W.region S ?_)
          refine AS.cons (sp_move (v := .int _ _) rfl ?_)
          refine AS.cons (sp_asg (v := .int _ _) rfl ?_)
          refine AS.cons (sp_asg rfl ?_)
          refine AS.nil ?_
          intro _ S
          refine W.ret ?_
          exact ret2 rfl rfl rfl S fun w' S' => ⟨by rw [he, hv]; rfl, S'.mod⟩
    · skip
      refine AW.cons rfl rfl (sp_skip rfl ?_)
      refine AW.cons rfl rfl (sp_skip rfl ?_)
      refine AW.cons rfl rfl (sp_pick_f rfl (v := .bool _) rfl ?_)
      refine AW.cons rfl rfl (sp_call1s 25 904 [] _ (by decide) rfl rfl cf_77 (fun F w' _ S => askedR b la lc ca cc w' (hl.ext S.mod) (hC.ext S.mod) _) ?_ (fun _ => askRR_ne b _))
      rintro v25 i25 j25 ⟨o, rfl, hz⟩
      first | (have hp : askV b (decide (1 ≤ y ∧ y ≤ 10)) = askV b (decide (ShotP m x y)) := askV_congr fun h => by (exact decide_eq_decide.2 ⟨fun h => ⟨of_decide_eq_true g17, of_decide_eq_true g21, h⟩, fun h => h.2.2⟩)); rw [hp] at hz ⊢ | (have hp : askV b false = askV b (decide (ShotP m x y)) := askV_congr fun h => (decide_eq_false (fun hh => by (first | exact absurd ((decide_eq_true hh.1).symm.trans g17) (by decide) | exact absurd ((decide_eq_true hh.2.1).symm.trans g21) (by decide)))).symm); rw [hp] at hz ⊢
      refine AW.cons rfl rfl (sp_move rfl ?_)
      refine AW.cons rfl rfl (sp_ext rfl rfl ?_)
      refine AW.cons rfl rfl (sp_ext rfl rfl ?_)
      refine AW.cons rfl rfl (sp_asg rfl ?_)
      refine AW.cons rfl rfl (sp_asg (v := .int _ _) rfl ?_)
      refine AW.nil ?_
      intro _ S
      refine W.seq (W.seq (W.region S ?_))
      refine AS.cons (sp_move (v := .int _ _) rfl ?_)
      refine AS.cons (sp_neq rfl rfl ?_)
      refine AS.nil ?_
      intro _ S
      refine W.condd rfl (fun c29 => ?_) (fun c29 => ?_)
      · skip
        have he : shotE b m x y = askV b (decide (ShotP m x y)) := by unfold shotE; rw [if_neg c29]
        have hv : shotV b m x y = 0 := by unfold shotV; rw [he, if_neg c29]
        refine W.seq (W.region S ?_)
        refine AS.cons (sp_move (v := .int _ _) rfl ?_)
        refine AS.cons (sp_asg rfl ?_)
        refine AS.cons (sp_asg (v := .int _ _) rfl ?_)
        refine AS.nil ?_
        intro _ S
        refine W.ret ?_
        exact ret2 rfl rfl rfl S fun w' S' => ⟨by rw [he, hv]; rfl, S'.mod⟩
      · skip
        have c0 := Decidable.not_not.1 c29
        obtain ⟨a, c, vs, rfl, hvl, hvs, rfl, rfl⟩ := hz c0
        obtain ⟨hok, hmm, _⟩ := askV_zero c0
        have hmm := of_decide_eq_true hmm
        have hbk := okAll_ok hok
        have hsq := sq_le hbk.num
        obtain ⟨v0, hv0⟩ := get_some (l := vs) (j := m.toNat) (by omega)
        obtain ⟨a0, rfl⟩ := hvs v0 (List.mem_of_getElem? hv0)
        have htr := trL_WR hbk.num (m := m.toNat) (by omega)
        have hlen : (whs b m.toNat).length ≤ 80 := whU_len b m.toNat 80
        refine W.skip ?_
        refine W.seq (W.draw S mixed (fun i => ([KD.q [4], KD.q [], KD.q [], KD.q [25], KD.q [25], KD.e [904] [36], KD.q [], KD.q [], KD.e [36] [], KD.q []] : List KD)[i]?) [] [0, 1, 2, 3, 4, 5, 6, 7, 8, 9] (by kernel_rfl) ?_)
        refine AW.cons rfl rfl (sp_ldw 4 rfl rfl ag_26_7 ?_)
        refine AW.cons rfl rfl (sp_move rfl ?_)
        refine AW.cons rfl rfl (sp_move (v := .int _ _) rfl ?_)
        refine AW.cons rfl rfl (sp_iaS 25 rfl rfl rfl sl_90_94_1 (by omega) ?_)
        refine AW.cons rfl rfl (sp_ldS 25 rfl rfl sc_94 (by rw [Nat.mul_one]; exact hv0) (by omega) ?_)
        refine AW.cons rfl rfl (sp_call1 36 [904] (fun u i => (∃ a c, u = .slice a (whs b m.toNat).length c ∧ (whs b m.toNat).length ≤ c) ∧ i = slc 3 1 u (whs b m.toNat).length ((whs b m.toNat).map iv)) (vs := [.slice a0 (WR b m.toNat).length (sq b)]) rfl (by rw [WR_len]; rfl) cf_79 (fun F w' hF S => by have h2 := listR a0 (sq b) (WR b m.toNat) (by rw [WR_len]; omega) w' (by have h1 := S.star_rd (k := 904) ((hF 904 (by simp)).trans rfl) (pcsF_get (sq b) (WR b) _ 0 m.toNat _ hv0) (by omega); rw [Nat.zero_add] at h1; unfold Bools; rw [WR_len]; exact h1); rw [htr] at h2; exact h2) ?_ (fun _ => ⟨.slice none _ _, _, ⟨none, _, rfl, Nat.le_refl _⟩, rfl⟩))
        rintro v36 i36 ⟨⟨a36, c36, rfl, hac⟩, rfl⟩
        refine AW.cons rfl rfl (sp_move (v := .int _ _) rfl ?_)
        refine AW.cons rfl rfl (sp_move (v := .int _ _) rfl ?_)
        refine AW.cons rfl rfl (sp_call [36] rfl rfl cf_87 (fun F w' hF S => shotRF b la lc ca cc hbk.num a36 c36 (whs b m.toNat) (fun n hn => whs_bd hn) x y hmm.2.1 hmm.2.2 w' (S.slc_rd (k := 36) ((hF 36 (by simp)).trans rfl) (by omega))) ?_)
        refine AW.cons rfl rfl (sp_asg (v := .int _ _) rfl ?_)
        refine AW.nil ?_
        intro _ S
        refine W.seq (W.seq (W.region S ?_))
        refine AS.cons (sp_move (v := .int _ _) rfl ?_)
        refine AS.cons (sp_lss rfl rfl ?_)
        refine AS.nil ?_
        intro _ S
        refine W.condd rfl (fun c41 => ?_) (fun c41 => ?_)
        · skip
          have he : shotE b m x y = 4 := by unfold shotE; rw [if_pos c0, if_neg (by omega)]
          have hv : shotV b m x y = 0 := by unfold shotV; rw [he]; rfl
          refine W.seq (W.region S ?_)
          refine AS.cons (sp_asg rfl ?_)
          refine AS.cons (sp_asg rfl ?_)
          refine AS.nil ?_
          intro _ S
          refine W.ret ?_
          exact ret2 rfl rfl rfl S fun w' S' => ⟨by rw [he, hv]; rfl, S'.mod⟩
        · skip
          have he : shotE b m x y = 0 := by unfold shotE; rw [if_pos c0, if_pos (by omega)]
          have hv : shotV b m x y = shotN b (whs b m.toNat) x y := by unfold shotV; rw [if_pos he]
          refine W.skip ?_
          refine W.seq (W.region S ?_)
          refine AS.cons (sp_move (v := .int _ _) rfl ?_)
          refine AS.cons (sp_asg (v := .int _ _) rfl ?_)
          refine AS.cons (sp_asg rfl ?_)
          refine AS.nil ?_
          intro _ S
          refine W.ret ?_
          exact ret2 rfl rfl rfl S fun w' S' => ⟨by rw [he, hv]; rfl, S'.mod⟩
  · skip
    refine AW.cons rfl rfl (sp_skip rfl ?_)
    refine AW.cons rfl rfl (sp_skip rfl ?_)
    refine AW.cons rfl rfl (sp_pick_f rfl (v := .bool _) rfl ?_)
    refine AW.cons rfl rfl (sp_move (v := .bool _) rfl ?_)
    refine AW.cons rfl rfl (sp_skip rfl ?_)
    refine AW.cons rfl rfl (sp_skip rfl ?_)
    refine AW.cons rfl rfl (sp_pick_f rfl (v := .bool _) rfl ?_)
    refine AW.cons rfl rfl (sp_call1s 25 904 [] _ (by decide) rfl rfl cf_77 (fun F w' _ S => askedR b la lc ca cc w' (hl.ext S.mod) (hC.ext S.mod) _) ?_ (fun _ => askRR_ne b _))
    rintro v25 i25 j25 ⟨o, rfl, hz⟩
    first | (have hp : askV b (decide (1 ≤ y ∧ y ≤ 10)) = askV b (decide (ShotP m x y)) := askV_congr fun h => by (exact decide_eq_decide.2 ⟨fun h => ⟨of_decide_eq_true g17, of_decide_eq_true g21, h⟩, fun h => h.2.2⟩)); rw [hp] at hz ⊢ | (have hp : askV b false = askV b (decide (ShotP m x y)) := askV_congr fun h => (decide_eq_false (fun hh => by (first | exact absurd ((decide_eq_true hh.1).symm.trans g17) (by decide) | exact absurd ((decide_eq_true hh.2.1).symm.trans g21) (by decide)))).symm); rw [hp] at hz ⊢
    refine AW.cons rfl rfl (sp_move rfl ?_)
    refine AW.cons rfl rfl (sp_ext rfl rfl ?_)
    refine AW.cons rfl rfl (sp_ext rfl rfl ?_)
    refine AW.cons rfl rfl (sp_asg rfl ?_)
    refine AW.cons rfl rfl (sp_asg (v := .int _ _) rfl ?_)
    refine AW.nil ?_
    intro _ S
    refine W.seq (W.seq (W.region S ?_))
    refine AS.cons (sp_move (v := .int _ _) rfl ?_)
    refine AS.cons (sp_neq rfl rfl ?_)
    refine AS.nil ?_
    intro _ S
    refine W.condd rfl (fun c29 => ?_) (fun c29 => ?_)
    · skip
      have he : shotE b m x y = askV b (decide (ShotP m x y)) := by unfold shotE; rw [if_neg c29]
      have hv : shotV b m x y = 0 := by unfold shotV; rw [he, if_neg c29]
      refine W.seq (W.region S ?_)
      refine AS.cons (sp_move (v := .int _ _) rfl ?_)
      refine AS.cons (sp_asg rfl ?_)
      refine AS.cons (sp_asg (v := .int _ _) rfl ?_)
      refine AS.nil ?_
      intro _ S
      refine W.ret ?_
      exact ret2 rfl rfl rfl S fun w' S' => ⟨by rw [he, hv]; rfl, S'.mod⟩
    · skip
      have c0 := Decidable.not_not.1 c29
      obtain ⟨a, c, vs, rfl, hvl, hvs, rfl, rfl⟩ := hz c0
      obtain ⟨hok, hmm, _⟩ := askV_zero c0
      have hmm := of_decide_eq_true hmm
      have hbk := okAll_ok hok
      have hsq := sq_le hbk.num
      obtain ⟨v0, hv0⟩ := get_some (l := vs) (j := m.toNat) (by omega)
      obtain ⟨a0, rfl⟩ := hvs v0 (List.mem_of_getElem? hv0)
      have htr := trL_WR hbk.num (m := m.toNat) (by omega)
      have hlen : (whs b m.toNat).length ≤ 80 := whU_len b m.toNat 80
      refine W.skip ?_
      refine W.seq (W.draw S mixed (fun i => ([KD.q [4], KD.q [], KD.q [], KD.q [25], KD.q [25], KD.e [904] [36], KD.q [], KD.q [], KD.e [36] [], KD.q []] : List KD)[i]?) [] [0, 1, 2, 3, 4, 5, 6, 7, 8, 9] (by kernel_rfl) ?_)
      refine AW.cons rfl rfl (sp_ldw 4 rfl rfl ag_26_7 ?_)
      refine AW.cons rfl rfl (sp_move rfl ?_)
      refine AW.cons rfl rfl (sp_move (v := .int _ _) rfl ?_)
      refine AW.cons rfl rfl (sp_iaS 25 rfl rfl rfl sl_90_94_1 (by omega) ?_)
      refine AW.cons rfl rfl (sp_ldS 25 rfl rfl sc_94 (by rw [Nat.mul_one]; exact hv0) (by omega) ?_)
      refine AW.cons rfl rfl (sp_call1 36 [904] (fun u i => (∃ a c, u = .slice a (whs b m.toNat).length c ∧ (whs b m.toNat).length ≤ c) ∧ i = slc 3 1 u (whs b m.toNat).length ((whs b m.toNat).map iv)) (vs := [.slice a0 (WR b m.toNat).length (sq b)]) rfl (by rw [WR_len]; rfl) cf_79 (fun F w' hF S => by have h2 := listR a0 (sq b) (WR b m.toNat) (by rw [WR_len]; omega) w' (by have h1 := S.star_rd (k := 904) ((hF 904 (by simp)).trans rfl) (pcsF_get (sq b) (WR b) _ 0 m.toNat _ hv0) (by omega); rw [Nat.zero_add] at h1; unfold Bools; rw [WR_len]; exact h1); rw [htr] at h2; exact h2) ?_ (fun _ => ⟨.slice none _ _, _, ⟨none, _, rfl, Nat.le_refl _⟩, rfl⟩))
      rintro v36 i36 ⟨⟨a36, c36, rfl, hac⟩, rfl⟩
      refine AW.cons rfl rfl (sp_move (v := .int _ _) rfl ?_)
      refine AW.cons rfl rfl (sp_move (v := .int _ _) rfl ?_)
      refine AW.cons rfl rfl (sp_call [36] rfl rfl cf_87 (fun F w' hF S => shotRF b la lc ca cc hbk.num a36 c36 (whs b m.toNat) (fun n hn => whs_bd hn) x y hmm.2.1 hmm.2.2 w' (S.slc_rd (k := 36) ((hF 36 (by simp)).trans rfl) (by omega))) ?_)
      refine AW.cons rfl rfl (sp_asg (v := .int _ _) rfl ?_)
      refine AW.nil ?_
      intro _ S
      refine W.seq (W.seq (W.region S ?_))
      refine AS.cons (sp_move (v := .int _ _) rfl ?_)
      refine AS.cons (sp_lss rfl rfl ?_)
      refine AS.nil ?_
      intro _ S
      refine W.condd rfl (fun c41 => ?_) (fun c41 => ?_)
      · skip
        have he : shotE b m x y = 4 := by unfold shotE; rw [if_pos c0, if_neg (by omega)]
        have hv : shotV b m x y = 0 := by unfold shotV; rw [he]; rfl
        refine W.seq (W.region S ?_)
        refine AS.cons (sp_asg rfl ?_)
        refine AS.cons (sp_asg rfl ?_)
        refine AS.nil ?_
        intro _ S
        refine W.ret ?_
        exact ret2 rfl rfl rfl S fun w' S' => ⟨by rw [he, hv]; rfl, S'.mod⟩
      · skip
        have he : shotE b m x y = 0 := by unfold shotE; rw [if_pos c0, if_pos (by omega)]
        have hv : shotV b m x y = shotN b (whs b m.toNat) x y := by unfold shotV; rw [if_pos he]
        refine W.skip ?_
        refine W.seq (W.region S ?_)
        refine AS.cons (sp_move (v := .int _ _) rfl ?_)
        refine AS.cons (sp_asg (v := .int _ _) rfl ?_)
        refine AS.cons (sp_asg rfl ?_)
        refine AS.nil ?_
        intro _ S
        refine W.ret ?_
        exact ret2 rfl rfl rfl S fun w' S' => ⟨by rw [he, hv]; rfl, S'.mod⟩
end
end Go.Proofs.YtmpclgepoemneaaDoor

/-
  Soon.
-/
namespace Go.Proofs.YtmpclgepoemneaaDoor
set_option maxRecDepth 100000
open Go.Hu Go.RowKit
section
variable (b : Bk) (la : Option Addr) (lc : Nat) (ca : Option Addr) (cc : Nat) (mp : Nat)
theorem soonP (x y : Int) (w : World) (hK : Kinds w) (hl : Ints w la lc b.land) (hC : Cries w ca cc b.cries) : Ct Tryd.prog 31 #[.agg (bkL b la lc ca cc).toArray, iv x, iv y] w (fun u w' => u = .tuple #[iv (soonV b x y), iv (soonS b x y), iv (soonE b x y)] ∧ Ext w w') := by
  refine fn_intro (args := [.agg (bkL b la lc ca cc).toArray, iv x, iv y]) Tryd.func31 rfl rfl (by kernel_rfl) ?_
  have S := St.start no w
  refine W.seq (W.region S ?_)
  refine AS.cons (sp_boxa 3 rfl (fun b3 => ?_))
  refine AS.cons (sp_boxs 4 rfl rfl (fun b4 => ?_))
  refine AS.cons (sp_boxs 5 rfl rfl (fun b5 => ?_))
  refine AS.cons (sp_asg rfl ?_)
  refine AS.cons (sp_asg rfl ?_)
  refine AS.cons (sp_asg rfl ?_)
  refine AS.nil ?_
  intro _ S
  refine W.seq (W.region S ?_)
  refine AS.cons (sp_ldw 3 rfl rfl ag_26_7 ?_)
  refine AS.cons (sp_mf ?_)
  refine AS.cons (sp_call1 17 [4, 5] _ rfl rfl cf_73 (fun F w' hF S => asked b la lc ca cc w' (hK.ext S.mod) (hl.ext S.mod) (hC.ext S.mod) 88 [oP b4, oP b5] (decide (SeineP x y)) cf_88 (fun w'' E _ => soonC b4 b5 x y w'' (At.ext (S.get ((hF 4 (by simp)).trans rfl)).1 E) (At.ext (S.get ((hF 5 (by simp)).trans rfl)).1 E))) ?_ (by simp))
  rintro v17 i17 ⟨bl, hbl, hone, rfl, hz⟩
  refine AS.cons (sp_move rfl ?_)
  refine AS.cons (sp_ext rfl rfl ?_)
  refine AS.cons (sp_ext rfl rfl ?_)
  refine AS.cons (sp_alloc 9 zv_77 rfl (fun b9 => ?_))
  refine AS.cons (sp_stw 9 sz_77_8 rfl rfl rfl rfl hbl rfl hone ?_)
  refine AS.cons (sp_asg (v := .int _ _) rfl ?_)
  refine AS.nil ?_
  intro _ S
  refine W.seq (W.seq (W.region S ?_))
  refine AS.cons (sp_move (v := .int _ _) rfl ?_)
  refine AS.cons (sp_neq rfl rfl ?_)
  refine AS.nil ?_
  intro _ S
  refine W.condd rfl (fun c21 => ?_) (fun c21 => ?_)
  · skip
    have he : soonE b x y = askV b (decide (SeineP x y)) := by unfold soonE; rw [if_neg c21]
    have hv : soonV b x y = 0 := by unfold soonV; rw [he, if_neg c21]
    have hs : soonS b x y = 0 := by unfold soonS; rw [he, if_neg c21]
    refine W.seq (W.region S ?_)
    refine AS.cons (sp_move (v := .int _ _) rfl ?_)
    refine AS.cons (sp_asg rfl ?_)
    refine AS.cons (sp_asg rfl ?_)
    refine AS.cons (sp_asg (v := .int _ _) rfl ?_)
    refine AS.nil ?_
    intro _ S
    refine W.ret ?_
    first | exact ret3 rfl rfl rfl rfl S fun w' S' => ⟨by rw [he, hv, hs]; rfl, S'.mod⟩ | exact ret3 rfl rfl rfl rfl S fun w' S' => ⟨(congrArg (fun z => Value.tuple #[iv j, iv z, iv 0]) hif).trans (by rw [he, hv, hs]), S'.mod⟩
  · skip
    have c0 := Decidable.not_not.1 c21
    obtain ⟨mp, rfl, rfl⟩ := hz c0
    obtain ⟨hok, hmm, _⟩ := askV_zero c0
    have hmm := of_decide_eq_true hmm
    have hbk := okAll_ok hok
    refine W.skip ?_
    refine W.seq (W.seq (W.region S ?_))
    refine AS.cons (sp_ldw 9 rfl rfl ag_77_8 ?_)
    refine AS.cons (sp_call1 24 [17] _ rfl rfl cf_89 (fun F w' hF S => wheres b la lc ca cc mp hbk.num hbk.cry (by have := hbk.lc; omega) w' (hK.ext S.mod) (hC.ext S.mod) (mapAt S ((hF 17 (by simp)).trans rfl))) ?_ (by simp))
    rintro v24 i24 ⟨vs, hvl, hvs, rfl, rfl⟩
    refine AS.cons (sp_move rfl ?_)
    refine AS.nil ?_
    intro _ S
    refine W.block ?_
    refine W.loopS S [6, 7, 8, 10, 11, 12, 13, 25, 26, 27, 28, 29, 30, 31, 32, 33, 34, 35, 36, 37, 38, 39, 40] [] (fun (j : Nat) => [(25, iv j)]) (fun _ => []) (fun j => j ≤ 31 ∧ ∀ i, i < j → decide (0 ≤ shotN b (whs b i) x y) = false) (fun j => 31 - j) 0 ⟨by omega, fun i hi => absurd hi (by omega)⟩ ⟨rfl, trivial⟩ trivial ?_
    rintro j σ M w1 ⟨hj, hnn⟩ S
    refine W.seq (W.region S ?_)
    refine AS.cons (sp_lss rfl rfl ?_)
    refine AS.nil ?_
    intro _ S
    refine W.seq (W.condd rfl (fun c26 => ?_) (fun c26 => ?_))
    · skip
      have hj30 : j < 31 := by omega
      obtain ⟨v, hvj⟩ := get_some (l := vs) (j := j) (by omega)
      have hpg := pcs_get b vs 0 j v hvj
      rw [Nat.zero_add] at hpg
      obtain ⟨a, c, rfl, hac⟩ := S.star_form (k := 24) rfl hpg
      have hlen : (whs b j).length ≤ 80 := whU_len b j 80
      refine W.skip ?_
      refine W.seq (W.block ?_)
      refine W.seq (W.region S ?_)
      refine AS.cons (sp_move (v := .int _ _) rfl ?_)
      refine AS.cons (sp_ixs (v := .slice a (whs b j).length c) rfl rfl ar_101_31_22_1 sc_22 (by omega) (by rw [Nat.mul_one, Int.toNat_natCast]; exact hvj) ?_)
      refine AS.cons (sp_asg (v := .int _ _) rfl ?_)
      refine AS.cons (sp_asg rfl ?_)
      refine AS.nil ?_
      intro _ S
      refine W.seq (W.region S ?_)
      refine AS.cons (sp_ldw 9 rfl rfl ag_77_8 ?_)
      refine AS.cons (sp_move rfl ?_)
      refine AS.cons (sp_ld 4 rfl rfl sc_3 rfl ?_)
      refine AS.cons (sp_ld 5 rfl rfl sc_3 rfl ?_)
      refine AS.cons (sp_call [24] rfl rfl cf_86 (fun F w' hF S => shotB b la lc ca cc mp hbk.num a c (whs b j) (fun n hn => whs_bd hn) x y hmm.1 hmm.2 w' (S.star_rd (k := 24) ((hF 24 (by simp)).trans rfl) hpg (by omega))) ?_)
      refine AS.cons (sp_move rfl ?_)
      refine AS.cons (sp_ext rfl rfl ?_)
      refine AS.cons (sp_ext rfl rfl ?_)
      refine AS.cons (sp_asg (v := .int _ _) rfl ?_)
      refine AS.cons (sp_asg (v := .bool _) rfl ?_)
      refine AS.nil ?_
      intro _ S
      refine W.seq (W.region S ?_)
      refine AS.cons (sp_move (v := .bool _) rfl ?_)
      refine AS.nil ?_
      intro _ S
      refine W.cond rfl (fun c37 => ?_) (fun c37 => ?_)
      · skip
        have h0 := of_decide_eq_true c37
        have hm : soonM b x y = j := fstN_at (p := fun m => decide (0 ≤ shotN b (whs b m) x y)) hj30 c37 hnn
        have he : soonE b x y = 0 := by unfold soonE; rw [if_pos c0, if_pos (by omega)]
        have hv : soonV b x y = j := by unfold soonV; rw [if_pos he, hm]
        have hs : soonS b x y = shotN b (whs b j) x y := by unfold soonS; rw [if_pos he, hm, Int.toNat_natCast]
        have hif : (if shotN b (whs b j) x y < 0 then 0 else shotN b (whs b j) x y) = shotN b (whs b j) x y := if_neg (by omega)
        refine W.seq (W.region S ?_)
        refine AS.cons (sp_move (v := .int _ _) rfl ?_)
        refine AS.cons (sp_move (v := .int _ _) rfl ?_)
        refine AS.cons (sp_asg (v := .int _ _) rfl ?_)
        refine AS.cons (sp_asg (v := .int _ _) rfl ?_)
        refine AS.cons (sp_asg rfl ?_)
        refine AS.nil ?_
        intro _ S
        refine W.ret ?_
        first | exact ret3 rfl rfl rfl rfl S fun w' S' => ⟨by rw [he, hv, hs]; rfl, S'.mod⟩ | exact ret3 rfl rfl rfl rfl S fun w' S' => ⟨(congrArg (fun z => Value.tuple #[iv j, iv z, iv 0]) hif).trans (by rw [he, hv, hs]), S'.mod⟩
      · skip
        refine W.skip ?_
        refine W.region S ?_
        refine AS.cons (sp_add rfl rfl (by first | omega | (simp only [decide_eq_true_eq, decide_eq_false_iff_not] at *; omega)) ?_)
        refine AS.cons (sp_move (v := .int _ _) rfl ?_)
        refine AS.nil ?_
        intro _ S
        exact ⟨j + 1, _, ⟨by omega, snoc_lt hnn c37⟩, by omega, ⟨by simp [upd], trivial⟩, trivial, by repeat (first | exact Agr.refl _ _ | exact Agr.msk _ _ _ | refine Agr.upd ?_ _ rfl | refine Agr.upds ?_ rfl | refine Agr.mskIn ?_ rfl), by repeat (first | exact Agr.refl _ _ | exact Agr.msk _ _ _ | refine Agr.upd ?_ _ rfl | refine Agr.upds ?_ rfl | refine Agr.mskIn ?_ rfl), rfl, S⟩
    · skip
      have hm : soonM b x y = -1 := fstN_none (fun i hi => hnn i (by omega))
      have he : soonE b x y = 4 := by unfold soonE; rw [if_pos c0, if_neg (by omega)]
      have hv : soonV b x y = 0 := by unfold soonV; rw [he]; rfl
      have hs : soonS b x y = 0 := by unfold soonS; rw [he]; rfl
      refine W.exit ?_
      refine W.seq (W.region S ?_)
      refine AS.cons (sp_asg rfl ?_)
      refine AS.cons (sp_asg rfl ?_)
      refine AS.cons (sp_asg rfl ?_)
      refine AS.nil ?_
      intro _ S
      refine W.ret ?_
      first | exact ret3 rfl rfl rfl rfl S fun w' S' => ⟨by rw [he, hv, hs]; rfl, S'.mod⟩ | exact ret3 rfl rfl rfl rfl S fun w' S' => ⟨(congrArg (fun z => Value.tuple #[iv j, iv z, iv 0]) hif).trans (by rw [he, hv, hs]), S'.mod⟩
end
end Go.Proofs.YtmpclgepoemneaaDoor

/-
  Soon, on the other side.
-/
namespace Go.Proofs.YtmpclgepoemneaaDoor
set_option maxRecDepth 100000
open Go.Hu Go.RowKit
section
variable (b : Bk) (la : Option Addr) (lc : Nat) (ca : Option Addr) (cc : Nat) (mp : Nat)
theorem soonRR (x y : Int) (w : World) (hl : Ints w la lc b.land) (hC : Cries w ca cc b.cries) : Ct Tryd.prog 32 #[.agg (bkL b la lc ca cc).toArray, iv x, iv y] w (fun u w' => u = .tuple #[iv (soonV b x y), iv (soonS b x y), iv (soonE b x y)] ∧ Ext w w') := by
  refine fn_intro (args := [.agg (bkL b la lc ca cc).toArray, iv x, iv y]) Tryd.func32 rfl rfl (by kernel_rfl) ?_
  have S := St.start no w
  refine W.seq (W.region S ?_)
  refine AS.cons (sp_boxa 3 rfl (fun b3 => ?_))
  refine AS.cons (sp_asg rfl ?_)
  refine AS.cons (sp_asg rfl ?_)
  refine AS.cons (sp_asg rfl ?_)
  refine AS.nil ?_
  intro _ S
  refine W.seq (W.draw S mixed (fun i => ([KD.q [3], KD.q [], KD.e [] [], KD.q [], KD.q [], KD.e [] [], KD.q [], KD.e [] [904, 21], KD.q [], KD.q [], KD.q [], KD.q [], KD.q []] : List KD)[i]?) [3, 5] [0, 1, 2, 3, 4, 5, 6, 7, 8, 9, 10, 11, 12] (by kernel_rfl) ?_)
  refine AW.cons rfl rfl (sp_ldw 3 rfl rfl ag_26_7 ?_)
  refine AW.cons rfl rfl (sp_move (v := .int _ _) rfl ?_)
  refine AW.cons rfl rfl (sp_call [] rfl rfl cf_44 (fun F w _ S => between _ _ _ w) ?_)
  refine AW.cons rfl rfl (sp_move (v := .bool _) rfl ?_)
  refine AW.split 17 rfl (fun g17 => ?_) (fun g17 => ?_)
  · skip
    refine AW.cons rfl rfl (sp_move (v := .int _ _) rfl ?_)
    refine AW.cons rfl rfl (sp_call [] rfl rfl cf_44 (fun F w _ S => between _ _ _ w) ?_)
    refine AW.cons rfl rfl (sp_pick_t rfl (v := .bool _) rfl ?_)
    refine AW.cons rfl rfl (sp_call1s 21 904 [] _ (by decide) rfl rfl cf_77 (fun F w' _ S => askedR b la lc ca cc w' (hl.ext S.mod) (hC.ext S.mod) _) ?_ (fun _ => askRR_ne b _))
    rintro v21 i21 j21 ⟨o, rfl, hz⟩
    first | (have hp : askV b (decide (1 ≤ y ∧ y ≤ 10)) = askV b (decide (SeineP x y)) := askV_congr fun h => by (exact decide_eq_decide.2 ⟨fun h => ⟨of_decide_eq_true g17, h⟩, fun h => h.2⟩)); rw [hp] at hz ⊢ | (have hp : askV b false = askV b (decide (SeineP x y)) := askV_congr fun h => (decide_eq_false (fun hh => absurd ((decide_eq_true hh.1).symm.trans g17) (by decide))).symm); rw [hp] at hz ⊢
    refine AW.cons rfl rfl (sp_move rfl ?_)
    refine AW.cons rfl rfl (sp_ext rfl rfl ?_)
    refine AW.cons rfl rfl (sp_ext rfl rfl ?_)
    refine AW.cons rfl rfl (sp_asg rfl ?_)
    refine AW.cons rfl rfl (sp_asg (v := .int _ _) rfl ?_)
    refine AW.nil ?_
    intro _ S
    refine W.seq (W.seq (W.region S ?_))
    refine AS.cons (sp_move (v := .int _ _) rfl ?_)
    refine AS.cons (sp_neq rfl rfl ?_)
    refine AS.nil ?_
    intro _ S
    refine W.condd rfl (fun c25 => ?_) (fun c25 => ?_)
    · skip
      have he : soonE b x y = askV b (decide (SeineP x y)) := by unfold soonE; rw [if_neg c25]
      have hv : soonV b x y = 0 := by unfold soonV; rw [he, if_neg c25]
      have hs : soonS b x y = 0 := by unfold soonS; rw [he, if_neg c25]
      refine W.seq (W.region S ?_)
      refine AS.cons (sp_move (v := .int _ _) rfl ?_)
      refine AS.cons (sp_asg rfl ?_)
      refine AS.cons (sp_asg rfl ?_)
      refine AS.cons (sp_asg (v := .int _ _) rfl ?_)
      refine AS.nil ?_
      intro _ S
      refine W.ret ?_
      exact ret3 rfl rfl rfl rfl S fun w' S' => ⟨by rw [he, hv, hs]; rfl, S'.mod⟩
    · skip
      have c0 := Decidable.not_not.1 c25
      obtain ⟨a, c, vs, rfl, hvl, hvs, rfl, rfl⟩ := hz c0
      obtain ⟨hok, hmm, _⟩ := askV_zero c0
      have hmm := of_decide_eq_true hmm
      have hbk := okAll_ok hok
      have hsq := sq_le hbk.num
      refine W.skip ?_
      refine W.seq (W.seq (W.region S ?_))
      refine AS.cons (sp_asg rfl ?_)
      refine AS.nil ?_
      intro _ S
      refine W.block ?_
      refine W.loopS S [6, 7, 8, 11, 12, 27, 28, 29, 30, 31, 32, 33, 34, 35, 36, 37, 38, 39, 40, 41, 42, 43] [36] (fun (j : Nat) => [(11, iv j)]) (fun _ => []) (fun j => j ≤ 31 ∧ ∀ i, i < j → decide (0 ≤ shotN b (whs b i) x y) = false) (fun j => 31 - j) 0 ⟨by omega, fun i hi => absurd hi (by omega)⟩ ⟨rfl, trivial⟩ trivial ?_
      rintro j σ M w1 ⟨hj, hnn⟩ S
      refine W.seq (W.seq (W.region S ?_))
      refine AS.cons (sp_move (v := .int _ _) rfl ?_)
      refine AS.cons (sp_leq rfl rfl ?_)
      refine AS.nil ?_
      intro _ S
      refine W.condd rfl (fun c28 => ?_) (fun c28 => ?_)
      · skip
        have hj30 : j < 31 := by omega
        obtain ⟨v0, hv0⟩ := get_some (l := vs) (j := j) (by omega)
        obtain ⟨a0, rfl⟩ := hvs v0 (List.mem_of_getElem? hv0)
        have htr := trL_WR hbk.num (m := j) (by omega)
        have hlen : (whs b j).length ≤ 80 := whU_len b j 80
        refine W.skip ?_
        refine W.seq (W.block ?_)
        refine W.seq (W.draw S mixed (fun i => ([KD.q [3], KD.q [], KD.q [], KD.q [21], KD.q [21], KD.e [904] [36], KD.q [], KD.q [], KD.e [36] [], KD.q []] : List KD)[i]?) [] [0, 1, 2, 3, 4, 5, 6, 7, 8, 9] (by kernel_rfl) ?_)
        refine AW.cons rfl rfl (sp_ldw 3 rfl rfl ag_26_7 ?_)
        refine AW.cons rfl rfl (sp_move rfl ?_)
        refine AW.cons rfl rfl (sp_move (v := .int _ _) rfl ?_)
        refine AW.cons rfl rfl (sp_iaS 21 rfl rfl rfl sl_90_94_1 (by omega) ?_)
        refine AW.cons rfl rfl (sp_ldS 21 rfl rfl sc_94 (by rw [Nat.mul_one, Int.toNat_natCast]; exact hv0) (by omega) ?_)
        refine AW.cons rfl rfl (sp_call1 36 [904] (fun u i => (∃ a c, u = .slice a (whs b j).length c ∧ (whs b j).length ≤ c) ∧ i = slc 3 1 u (whs b j).length ((whs b j).map iv)) (vs := [.slice a0 (WR b j).length (sq b)]) rfl (by rw [WR_len]; rfl) cf_79 (fun F w' hF S => by have h2 := listR a0 (sq b) (WR b j) (by rw [WR_len]; omega) w' (by have h1 := S.star_rd (k := 904) ((hF 904 (by simp)).trans rfl) (pcsF_get (sq b) (WR b) _ 0 j _ hv0) (by omega); rw [Nat.zero_add] at h1; unfold Bools; rw [WR_len]; exact h1); rw [htr] at h2; exact h2) ?_ (fun _ => ⟨.slice none _ _, _, ⟨none, _, rfl, Nat.le_refl _⟩, rfl⟩))
        rintro v36 i36 ⟨⟨a36, c36, rfl, hac⟩, rfl⟩
        refine AW.cons rfl rfl (sp_move (v := .int _ _) rfl ?_)
        refine AW.cons rfl rfl (sp_move (v := .int _ _) rfl ?_)
        refine AW.cons rfl rfl (sp_call [36] rfl rfl cf_87 (fun F w' hF S => shotRF b la lc ca cc hbk.num a36 c36 (whs b j) (fun n hn => whs_bd hn) x y hmm.1 hmm.2 w' (S.slc_rd (k := 36) ((hF 36 (by simp)).trans rfl) (by omega))) ?_)
        refine AW.cons rfl rfl (sp_asg (v := .int _ _) rfl ?_)
        refine AW.nil ?_
        intro _ S
        refine W.seq (W.region S ?_)
        refine AS.cons (sp_move (v := .int _ _) rfl ?_)
        refine AS.cons (sp_geq rfl rfl ?_)
        refine AS.nil ?_
        intro _ S
        refine W.condd rfl (fun c41 => ?_) (fun c41 => ?_)
        · skip
          have hm : soonM b x y = j := fstN_at (p := fun m => decide (0 ≤ shotN b (whs b m) x y)) hj30 (decide_eq_true (by omega)) hnn
          have he : soonE b x y = 0 := by unfold soonE; rw [if_pos c0, if_pos (by omega)]
          have hv : soonV b x y = j := by unfold soonV; rw [if_pos he, hm]
          have hs : soonS b x y = shotN b (whs b j) x y := by unfold soonS; rw [if_pos he, hm, Int.toNat_natCast]
          refine W.seq (W.region S ?_)
          refine AS.cons (sp_move (v := .int _ _) rfl ?_)
          refine AS.cons (sp_move (v := .int _ _) rfl ?_)
          refine AS.cons (sp_asg (v := .int _ _) rfl ?_)
          refine AS.cons (sp_asg (v := .int _ _) rfl ?_)
          refine AS.cons (sp_asg rfl ?_)
          refine AS.nil ?_
          intro _ S
          refine W.ret ?_
          exact ret3 rfl rfl rfl rfl S fun w' S' => ⟨by rw [he, hv, hs]; rfl, S'.mod⟩
        · skip
          refine W.skip ?_
          refine W.region S ?_
          refine AS.cons (sp_move (v := .int _ _) rfl ?_)
          refine AS.cons (sp_add rfl rfl (by first | omega | (simp only [decide_eq_true_eq, decide_eq_false_iff_not] at *; omega)) ?_)
          refine AS.cons (sp_asg (v := .int _ _) rfl ?_)
          refine AS.nil ?_
          intro _ S
          exact ⟨j + 1, _, ⟨by omega, snoc_lt hnn (decide_eq_false (by omega))⟩, by omega, ⟨by simp [upd], trivial⟩, trivial, by repeat (first | exact Agr.refl _ _ | exact Agr.msk _ _ _ | refine Agr.upd ?_ _ rfl | refine Agr.upds ?_ rfl | refine Agr.mskIn ?_ rfl), by repeat (first | exact Agr.refl _ _ | exact Agr.msk _ _ _ | refine Agr.upd ?_ _ rfl | refine Agr.upds ?_ rfl | refine Agr.mskIn ?_ rfl), rfl, S⟩
      · skip
        have hm : soonM b x y = -1 := fstN_none (fun i hi => hnn i (by omega))
        have he : soonE b x y = 4 := by unfold soonE; rw [if_pos c0, if_neg (by omega)]
        have hv : soonV b x y = 0 := by unfold soonV; rw [he]; rfl
        have hs : soonS b x y = 0 := by unfold soonS; rw [he]; rfl
        refine W.exit ?_
        refine W.seq (W.region S ?_)
        refine AS.cons (sp_asg rfl ?_)
        refine AS.cons (sp_asg rfl ?_)
        refine AS.cons (sp_asg rfl ?_)
        refine AS.nil ?_
        intro _ S
        refine W.ret ?_
        exact ret3 rfl rfl rfl rfl S fun w' S' => ⟨by rw [he, hv, hs]; rfl, S'.mod⟩
  · skip
    refine AW.cons rfl rfl (sp_skip rfl ?_)
    refine AW.cons rfl rfl (sp_skip rfl ?_)
    refine AW.cons rfl rfl (sp_pick_f rfl (v := .bool _) rfl ?_)
    refine AW.cons rfl rfl (sp_call1s 21 904 [] _ (by decide) rfl rfl cf_77 (fun F w' _ S => askedR b la lc ca cc w' (hl.ext S.mod) (hC.ext S.mod) _) ?_ (fun _ => askRR_ne b _))
    rintro v21 i21 j21 ⟨o, rfl, hz⟩
    first | (have hp : askV b (decide (1 ≤ y ∧ y ≤ 10)) = askV b (decide (SeineP x y)) := askV_congr fun h => by (exact decide_eq_decide.2 ⟨fun h => ⟨of_decide_eq_true g17, h⟩, fun h => h.2⟩)); rw [hp] at hz ⊢ | (have hp : askV b false = askV b (decide (SeineP x y)) := askV_congr fun h => (decide_eq_false (fun hh => absurd ((decide_eq_true hh.1).symm.trans g17) (by decide))).symm); rw [hp] at hz ⊢
    refine AW.cons rfl rfl (sp_move rfl ?_)
    refine AW.cons rfl rfl (sp_ext rfl rfl ?_)
    refine AW.cons rfl rfl (sp_ext rfl rfl ?_)
    refine AW.cons rfl rfl (sp_asg rfl ?_)
    refine AW.cons rfl rfl (sp_asg (v := .int _ _) rfl ?_)
    refine AW.nil ?_
    intro _ S
    refine W.seq (W.seq (W.region S ?_))
    refine AS.cons (sp_move (v := .int _ _) rfl ?_)
    refine AS.cons (sp_neq rfl rfl ?_)
    refine AS.nil ?_
    intro _ S
    refine W.condd rfl (fun c25 => ?_) (fun c25 => ?_)
    · skip
      have he : soonE b x y = askV b (decide (SeineP x y)) := by unfold soonE; rw [if_neg c25]
      have hv : soonV b x y = 0 := by unfold soonV; rw [he, if_neg c25]
      have hs : soonS b x y = 0 := by unfold soonS; rw [he, if_neg c25]
      refine W.seq (W.region S ?_)
      refine AS.cons (sp_move (v := .int _ _) rfl ?_)
      refine AS.cons (sp_asg rfl ?_)
      refine AS.cons (sp_asg rfl ?_)
      refine AS.cons (sp_asg (v := .int _ _) rfl ?_)
      refine AS.nil ?_
      intro _ S
      refine W.ret ?_
      exact ret3 rfl rfl rfl rfl S fun w' S' => ⟨by rw [he, hv, hs]; rfl, S'.mod⟩
    · skip
      have c0 := Decidable.not_not.1 c25
      obtain ⟨a, c, vs, rfl, hvl, hvs, rfl, rfl⟩ := hz c0
      obtain ⟨hok, hmm, _⟩ := askV_zero c0
      have hmm := of_decide_eq_true hmm
      have hbk := okAll_ok hok
      have hsq := sq_le hbk.num
      refine W.skip ?_
      refine W.seq (W.seq (W.region S ?_))
      refine AS.cons (sp_asg rfl ?_)
      refine AS.nil ?_
      intro _ S
      refine W.block ?_
      refine W.loopS S [6, 7, 8, 11, 12, 27, 28, 29, 30, 31, 32, 33, 34, 35, 36, 37, 38, 39, 40, 41, 42, 43] [36] (fun (j : Nat) => [(11, iv j)]) (fun _ => []) (fun j => j ≤ 31 ∧ ∀ i, i < j → decide (0 ≤ shotN b (whs b i) x y) = false) (fun j => 31 - j) 0 ⟨by omega, fun i hi => absurd hi (by omega)⟩ ⟨rfl, trivial⟩ trivial ?_
      rintro j σ M w1 ⟨hj, hnn⟩ S
      refine W.seq (W.seq (W.region S ?_))
      refine AS.cons (sp_move (v := .int _ _) rfl ?_)
      refine AS.cons (sp_leq rfl rfl ?_)
      refine AS.nil ?_
      intro _ S
      refine W.condd rfl (fun c28 => ?_) (fun c28 => ?_)
      · skip
        have hj30 : j < 31 := by omega
        obtain ⟨v0, hv0⟩ := get_some (l := vs) (j := j) (by omega)
        obtain ⟨a0, rfl⟩ := hvs v0 (List.mem_of_getElem? hv0)
        have htr := trL_WR hbk.num (m := j) (by omega)
        have hlen : (whs b j).length ≤ 80 := whU_len b j 80
        refine W.skip ?_
        refine W.seq (W.block ?_)
        refine W.seq (W.draw S mixed (fun i => ([KD.q [3], KD.q [], KD.q [], KD.q [21], KD.q [21], KD.e [904] [36], KD.q [], KD.q [], KD.e [36] [], KD.q []] : List KD)[i]?) [] [0, 1, 2, 3, 4, 5, 6, 7, 8, 9] (by kernel_rfl) ?_)
        refine AW.cons rfl rfl (sp_ldw 3 rfl rfl ag_26_7 ?_)
        refine AW.cons rfl rfl (sp_move rfl ?_)
        refine AW.cons rfl rfl (sp_move (v := .int _ _) rfl ?_)
        refine AW.cons rfl rfl (sp_iaS 21 rfl rfl rfl sl_90_94_1 (by omega) ?_)
        refine AW.cons rfl rfl (sp_ldS 21 rfl rfl sc_94 (by rw [Nat.mul_one, Int.toNat_natCast]; exact hv0) (by omega) ?_)
        refine AW.cons rfl rfl (sp_call1 36 [904] (fun u i => (∃ a c, u = .slice a (whs b j).length c ∧ (whs b j).length ≤ c) ∧ i = slc 3 1 u (whs b j).length ((whs b j).map iv)) (vs := [.slice a0 (WR b j).length (sq b)]) rfl (by rw [WR_len]; rfl) cf_79 (fun F w' hF S => by have h2 := listR a0 (sq b) (WR b j) (by rw [WR_len]; omega) w' (by have h1 := S.star_rd (k := 904) ((hF 904 (by simp)).trans rfl) (pcsF_get (sq b) (WR b) _ 0 j _ hv0) (by omega); rw [Nat.zero_add] at h1; unfold Bools; rw [WR_len]; exact h1); rw [htr] at h2; exact h2) ?_ (fun _ => ⟨.slice none _ _, _, ⟨none, _, rfl, Nat.le_refl _⟩, rfl⟩))
        rintro v36 i36 ⟨⟨a36, c36, rfl, hac⟩, rfl⟩
        refine AW.cons rfl rfl (sp_move (v := .int _ _) rfl ?_)
        refine AW.cons rfl rfl (sp_move (v := .int _ _) rfl ?_)
        refine AW.cons rfl rfl (sp_call [36] rfl rfl cf_87 (fun F w' hF S => shotRF b la lc ca cc hbk.num a36 c36 (whs b j) (fun n hn => whs_bd hn) x y hmm.1 hmm.2 w' (S.slc_rd (k := 36) ((hF 36 (by simp)).trans rfl) (by omega))) ?_)
        refine AW.cons rfl rfl (sp_asg (v := .int _ _) rfl ?_)
        refine AW.nil ?_
        intro _ S
        refine W.seq (W.region S ?_)
        refine AS.cons (sp_move (v := .int _ _) rfl ?_)
        refine AS.cons (sp_geq rfl rfl ?_)
        refine AS.nil ?_
        intro _ S
        refine W.condd rfl (fun c41 => ?_) (fun c41 => ?_)
        · skip
          have hm : soonM b x y = j := fstN_at (p := fun m => decide (0 ≤ shotN b (whs b m) x y)) hj30 (decide_eq_true (by omega)) hnn
          have he : soonE b x y = 0 := by unfold soonE; rw [if_pos c0, if_pos (by omega)]
          have hv : soonV b x y = j := by unfold soonV; rw [if_pos he, hm]
          have hs : soonS b x y = shotN b (whs b j) x y := by unfold soonS; rw [if_pos he, hm, Int.toNat_natCast]
          refine W.seq (W.region S ?_)
          refine AS.cons (sp_move (v := .int _ _) rfl ?_)
          refine AS.cons (sp_move (v := .int _ _) rfl ?_)
          refine AS.cons (sp_asg (v := .int _ _) rfl ?_)
          refine AS.cons (sp_asg (v := .int _ _) rfl ?_)
          refine AS.cons (sp_asg rfl ?_)
          refine AS.nil ?_
          intro _ S
          refine W.ret ?_
          exact ret3 rfl rfl rfl rfl S fun w' S' => ⟨by rw [he, hv, hs]; rfl, S'.mod⟩
        · skip
          refine W.skip ?_
          refine W.region S ?_
          refine AS.cons (sp_move (v := .int _ _) rfl ?_)
          refine AS.cons (sp_add rfl rfl (by first | omega | (simp only [decide_eq_true_eq, decide_eq_false_iff_not] at *; omega)) ?_)
          refine AS.cons (sp_asg (v := .int _ _) rfl ?_)
          refine AS.nil ?_
          intro _ S
          exact ⟨j + 1, _, ⟨by omega, snoc_lt hnn (decide_eq_false (by omega))⟩, by omega, ⟨by simp [upd], trivial⟩, trivial, by repeat (first | exact Agr.refl _ _ | exact Agr.msk _ _ _ | refine Agr.upd ?_ _ rfl | refine Agr.upds ?_ rfl | refine Agr.mskIn ?_ rfl), by repeat (first | exact Agr.refl _ _ | exact Agr.msk _ _ _ | refine Agr.upd ?_ _ rfl | refine Agr.upds ?_ rfl | refine Agr.mskIn ?_ rfl), rfl, S⟩
      · skip
        have hm : soonM b x y = -1 := fstN_none (fun i hi => hnn i (by omega))
        have he : soonE b x y = 4 := by unfold soonE; rw [if_pos c0, if_neg (by omega)]
        have hv : soonV b x y = 0 := by unfold soonV; rw [he]; rfl
        have hs : soonS b x y = 0 := by unfold soonS; rw [he]; rfl
        refine W.exit ?_
        refine W.seq (W.region S ?_)
        refine AS.cons (sp_asg rfl ?_)
        refine AS.cons (sp_asg rfl ?_)
        refine AS.cons (sp_asg rfl ?_)
        refine AS.nil ?_
        intro _ S
        refine W.ret ?_
        exact ret3 rfl rfl rfl rfl S fun w' S' => ⟨by rw [he, hv, hs]; rfl, S'.mod⟩
end
end Go.Proofs.YtmpclgepoemneaaDoor

/-
  Sets of small numbers; which list is the better one.
-/
namespace Go.Proofs.YtmpclgepoemneaaDoor
set_option maxRecDepth 100000
open Go.Hu Go.RowKit
section
theorem bitF (s n : Nat) (hs : s ≤ 1000000) (hn : n ≤ 60) (w : World) : Ct Tryd.prog 96 #[iv s, iv n] w (fun u w' => u = .bool (s.testBit n) ∧ Ext w w') := by
  refine fn_intro (args := [iv s, iv n]) Tryd.func96 rfl rfl (by kernel_rfl) ?_
  have S := St.start no w
  have e : ((s : Int) / 2 ^ ((n : Int)).toNat) = ((s / 2 ^ n : Nat) : Int) := by rw [Int.toNat_natCast, Int.natCast_ediv, Int.natCast_pow]; rfl
  have hb : 0 ≤ ((s : Int) / 2 ^ ((n : Int)).toNat) ∧ ((s : Int) / 2 ^ ((n : Int)).toNat) ≤ 9223372036854775807 := by
    rw [e]
    exact ⟨Int.natCast_nonneg _, Int.le_trans (Int.ofNat_le.2 (Nat.div_le_self _ _)) (by omega)⟩
  have hv : s.testBit n = decide (((s : Int) / 2 ^ ((n : Int)).toNat) % 2 = 1) := by
    rw [e, Nat.testBit_eq_decide_div_mod_eq]
    exact decide_eq_decide.2 (by omega)
  refine W.seq (W.region S ?_)
  refine AS.cons (sp_asg rfl ?_)
  refine AS.nil ?_
  intro _ S
  refine W.seq (W.region S ?_)
  refine AS.cons (sp_move (v := .int _ _) rfl ?_)
  refine AS.cons (sp_move (v := .int _ _) rfl ?_)
  refine AS.cons (sp_shr rfl rfl (by omega) ?_)
  refine AS.cons (sp_rem rfl rfl hb.1 (by omega) ?_)
  refine AS.cons (sp_eql rfl rfl ?_)
  refine AS.cons (sp_asg (v := .bool _) rfl ?_)
  refine AS.nil ?_
  intro _ S
  refine W.ret ?_
  exact ret1 rfl rfl S fun w' S' => ⟨congrArg Value.bool hv.symm, S'.mod⟩
theorem bitsF (s N : Nat) (hs : s ≤ 1000000) (hN : N ≤ 60) (w : World) : Ct Tryd.prog 53 #[iv s, iv N] w
    (fun u w' => ∃ i, ((∃ a c, u = .slice a (btU s N).length c ∧ (btU s N).length ≤ c) ∧ i = slc 3 1 u (btU s N).length ((btU s N).map iv)) ∧ St no w w' (upd eL 0 i) []) := by
  refine fn_intro (args := [iv s, iv N]) Tryd.func53 rfl rfl (by kernel_rfl) ?_
  have S := St.start no w
  refine W.seq (W.region S ?_)
  refine AS.cons (sp_asg rfl ?_)
  refine AS.nil ?_
  intro _ S
  refine W.seq (W.region S ?_)
  refine AS.cons (sp_bsS0 901 sl_22_3_1 (fun b7 => ?_))
  refine AS.cons (sp_asg rfl ?_)
  refine AS.nil ?_
  intro _ S
  refine W.seq (W.seq (W.region S ?_))
  refine AS.cons (sp_asg rfl ?_)
  refine AS.nil ?_
  intro _ S
  refine W.block ?_
  refine W.loopS S [5, 6, 8, 9, 10, 11, 12, 13, 14, 15, 16, 17, 18, 19] [18, 19, 901] (fun (z : Nat × Value) => [(6, iv z.1), (5, z.2)]) (fun z => [(901, slc 3 1 z.2 (btU s z.1).length ((btU s z.1).map iv))]) (fun z => z.1 ≤ N ∧ ∃ a c, z.2 = .slice a (btU s z.1).length c) (fun z => N - z.1) (0, _) ⟨by omega, _, 0, rfl⟩ ⟨rfl, rfl, trivial⟩ ⟨rfl, trivial⟩ ?_
  rintro ⟨j, v⟩ σ M w1 ⟨hj, a, c, hva⟩ S
  replace hj : j ≤ N := hj
  replace hva : v = .slice a (btU s j).length c := hva
  subst hva
  have hbl := btU_len s j
  refine W.seq (W.seq (W.region S ?_))
  refine AS.cons (sp_move (v := .int _ _) rfl ?_)
  refine AS.cons (sp_move (v := .int _ _) rfl ?_)
  refine AS.cons (sp_lss rfl rfl ?_)
  refine AS.nil ?_
  intro _ S
  refine W.condd rfl (fun c10 => ?_) (fun c10 => ?_)
  · skip
    have hlt : j < N := by omega
    refine W.skip ?_
    refine W.seq (W.block ?_)
    refine W.seq (W.region S ?_)
    refine AS.cons (sp_move (v := .int _ _) rfl ?_)
    refine AS.cons (sp_move (v := .int _ _) rfl ?_)
    refine AS.cons (sp_call [] rfl rfl cf_96 (fun F w _ S => bitF _ _ (by omega) (by omega) w) ?_)
    refine AS.nil ?_
    intro _ S
    refine W.cond rfl (fun c15 => ?_) (fun c15 => ?_)
    · skip
      have hw : btU s (j + 1) = btU s j ++ [(j : Int)] := by rw [btU_succ, if_pos c15]
      refine W.region S ?_
      refine AS.cons (sp_move rfl ?_)
      refine AS.cons (sp_move (v := .int _ _) rfl ?_)
      refine AS.cons (sp_bs 18 [.tmp 17] _ sl_22_3_1 zs_3_1 rfl rfl rfl rfl rfl rfl (fun b18 => ?_))
      refine AS.cons (sp_app 901 [18] rfl rfl sl_22_3_1 zs_3_1 rfl (fun F w hF S => rd_pt (S.get ((hF 18 (by simp)).trans rfl)).1 rfl (by omega) (by omega)) rfl (by first | omega | (simp only [] at *; omega)) (fun a19 c19 => ?_))
      refine AS.cons (sp_asg rfl ?_)
      refine AS.nil ?_
      intro _ S
      refine W.region S ?_
      refine AS.cons (sp_move (v := .int _ _) rfl ?_)
      refine AS.cons (sp_add rfl rfl (by first | omega | (simp only [decide_eq_true_eq, decide_eq_false_iff_not] at *; omega)) ?_)
      refine AS.cons (sp_asg (v := .int _ _) rfl ?_)
      refine AS.nil ?_
      intro _ S
      first | exact ⟨(j + 1, .slice a19 ((btU s j).length + 1) c19), _, ⟨by show j + 1 ≤ N; omega, a19, c19, by show _ = Value.slice a19 (btU s (j + 1)).length c19; rw [hw, List.length_append]; rfl⟩, by show N - (j + 1) < N - j; omega, ⟨by simp [upd], rfl, trivial⟩, ⟨by show slc 3 1 _ _ _ = slc 3 1 _ _ _; rw [hw, List.length_append, List.map_append]; rfl, trivial⟩, by repeat (first | exact Agr.refl _ _ | exact Agr.msk _ _ _ | refine Agr.upd ?_ _ rfl | refine Agr.upds ?_ rfl | refine Agr.mskIn ?_ rfl), by repeat (first | exact Agr.refl _ _ | exact Agr.msk _ _ _ | refine Agr.upd ?_ _ rfl | refine Agr.upds ?_ rfl | refine Agr.mskIn ?_ rfl), rfl, S⟩ | exact ⟨(j + 1, .slice a (btU s j).length c), _, ⟨by show j + 1 ≤ N; omega, a, c, by rw [hw]⟩, by show N - (j + 1) < N - j; omega, ⟨by simp [upd], rfl, trivial⟩, ⟨by show slc 3 1 _ _ _ = slc 3 1 _ _ _; rw [hw], trivial⟩, by repeat (first | exact Agr.refl _ _ | exact Agr.msk _ _ _ | refine Agr.upd ?_ _ rfl | refine Agr.upds ?_ rfl | refine Agr.mskIn ?_ rfl), by repeat (first | exact Agr.refl _ _ | exact Agr.msk _ _ _ | refine Agr.upd ?_ _ rfl | refine Agr.upds ?_ rfl | refine Agr.mskIn ?_ rfl), rfl, S⟩
    · skip
      have hw : btU s (j + 1) = btU s j := by rw [btU_succ, c15]; rfl
      refine W.skip ?_
      refine W.region S ?_
      refine AS.cons (sp_move (v := .int _ _) rfl ?_)
      refine AS.cons (sp_add rfl rfl (by first | omega | (simp only [decide_eq_true_eq, decide_eq_false_iff_not] at *; omega)) ?_)
      refine AS.cons (sp_asg (v := .int _ _) rfl ?_)
      refine AS.nil ?_
      intro _ S
      first | exact ⟨(j + 1, .slice a19 ((btU s j).length + 1) c19), _, ⟨by show j + 1 ≤ N; omega, a19, c19, by show _ = Value.slice a19 (btU s (j + 1)).length c19; rw [hw, List.length_append]; rfl⟩, by show N - (j + 1) < N - j; omega, ⟨by simp [upd], rfl, trivial⟩, ⟨by show slc 3 1 _ _ _ = slc 3 1 _ _ _; rw [hw, List.length_append, List.map_append]; rfl, trivial⟩, by repeat (first | exact Agr.refl _ _ | exact Agr.msk _ _ _ | refine Agr.upd ?_ _ rfl | refine Agr.upds ?_ rfl | refine Agr.mskIn ?_ rfl), by repeat (first | exact Agr.refl _ _ | exact Agr.msk _ _ _ | refine Agr.upd ?_ _ rfl | refine Agr.upds ?_ rfl | refine Agr.mskIn ?_ rfl), rfl, S⟩ | exact ⟨(j + 1, .slice a (btU s j).length c), _, ⟨by show j + 1 ≤ N; omega, a, c, by rw [hw]⟩, by show N - (j + 1) < N - j; omega, ⟨by simp [upd], rfl, trivial⟩, ⟨by show slc 3 1 _ _ _ = slc 3 1 _ _ _; rw [hw], trivial⟩, by repeat (first | exact Agr.refl _ _ | exact Agr.msk _ _ _ | refine Agr.upd ?_ _ rfl | refine Agr.upds ?_ rfl | refine Agr.mskIn ?_ rfl), by repeat (first | exact Agr.refl _ _ | exact Agr.msk _ _ _ | refine Agr.upd ?_ _ rfl | refine Agr.upds ?_ rfl | refine Agr.mskIn ?_ rfl), rfl, S⟩
  · skip
    obtain rfl : j = N := by omega
    refine W.exit ?_
    refine W.seq (W.region S ?_)
    refine AS.cons (sp_move rfl ?_)
    refine AS.cons (sp_asg rfl ?_)
    refine AS.nil ?_
    intro _ S
    refine W.ret ?_
    exact ret1 rfl rfl S fun w' S' => let ⟨_, a1, c1, hv1, hv2, _⟩ := S'.slc_form (k := 901) rfl; ⟨_, ⟨⟨a1, c1, hv1, hv2⟩, rfl⟩, S'.only 901⟩
theorem ltL_drop : ∀ {k : Nat} {l m : List Int}, k ≤ l.length → k ≤ m.length → (∀ i, i < k → l[i]? = m[i]?) → ltL l m = ltL (l.drop k) (m.drop k)
  | 0, _, _, _, _, _ => rfl
  | k + 1, [], _, h, _, _ => by simp at h
  | k + 1, _ :: _, [], _, h, _ => by simp at h
  | k + 1, x :: l, y :: m, h1, h2, h => by
    have h0 := h 0 (by omega)
    simp at h0
    subst h0
    rw [List.drop_succ_cons, List.drop_succ_cons, ← ltL_drop (by simpa using h1) (by simpa using h2) (fun i hi => by have := h (i + 1) (by omega); simpa using this)]
    simp [ltL]
theorem ltL_no {k : Nat} {l m : List Int} (h1 : k ≤ l.length) (h2 : k = m.length) (h : ∀ i, i < k → l[i]? = m[i]?) : ltL l m = false := by
  rw [ltL_drop h1 (by omega) h, h2, List.drop_length]
  cases List.drop m.length l <;> rfl
theorem ltL_yes {k : Nat} {l m : List Int} (h1 : k = l.length) (h2 : k < m.length) (h : ∀ i, i < k → l[i]? = m[i]?) : ltL l m = true := by
  rw [ltL_drop (by omega) (by omega) h, h1, List.drop_length]
  rw [h1] at h2
  obtain ⟨y, hy⟩ := get_some h2
  rw [List.drop_eq_getElem_cons h2]; rfl
theorem ltL_here {k : Nat} {l m : List Int} {x y : Int} (hx : l[k]? = some x) (hy : m[k]? = some y) (hne : ¬ x = y) (h : ∀ i, i < k → l[i]? = m[i]?) : ltL l m = decide (x < y) := by
  obtain ⟨h1, rfl⟩ := List.getElem?_eq_some_iff.1 hx
  obtain ⟨h2, rfl⟩ := List.getElem?_eq_some_iff.1 hy
  rw [ltL_drop (by omega) (by omega) h, List.drop_eq_getElem_cons h1, List.drop_eq_getElem_cons h2]
  simp [ltL, hne]
theorem soonerF (la : Option Addr) (lc : Nat) (l : List Int) (ma : Option Addr) (mc : Nat) (m : List Int) (w : World) (hl : Ints w la lc l) (hm : Ints w ma mc m) : Ct Tryd.prog 97 #[.slice la l.length lc, .slice ma m.length mc] w (fun u w' => u = .bool (ltL l m) ∧ Ext w w') := by
  refine fn_intro (args := [.slice la l.length lc, .slice ma m.length mc]) Tryd.func97 rfl rfl (by kernel_rfl) ?_
  have S := St.start no w
  have hln : l.length ≤ 9223372036854775807 := hl.2.1
  have hmn : m.length ≤ 9223372036854775807 := hm.2.1
  refine W.seq (W.region S ?_)
  refine AS.cons (sp_asg rfl ?_)
  refine AS.nil ?_
  intro _ S
  refine W.seq (W.region S ?_)
  refine AS.cons (sp_asg rfl ?_)
  refine AS.nil ?_
  intro _ S
  refine W.seq (W.block ?_)
  refine W.loopS S [5, 6, 7, 8, 9, 10, 11, 12, 13, 14, 15, 16, 17, 18, 19, 20, 21, 22, 23, 24, 25, 26, 27, 28] [] (fun (k : Nat) => [(5, iv k)]) (fun _ => []) (fun k => k ≤ l.length ∧ k ≤ m.length ∧ ∀ i, i < k → l[i]? = m[i]?) (fun k => l.length - k) 0 ⟨by omega, by omega, fun i hi => absurd hi (by omega)⟩ ⟨rfl, trivial⟩ trivial ?_
  rintro k σ M w1 ⟨hk, hkm, hag⟩ S
  refine W.seq (W.seq (W.draw S mixed (fun i => ([KD.q [], KD.q [], KD.q [], KD.q [], KD.q [], KD.q [], KD.q [], KD.q [], KD.q [], KD.q [], KD.q [], KD.q [], KD.q [], KD.q [], KD.q [], KD.q [], KD.q [], KD.q [], KD.q [], KD.q [], KD.q []] : List KD)[i]?) [] [0, 1, 2, 3, 4, 5, 6, 7, 8, 9, 10, 11, 12, 13, 14, 15, 16, 17, 18, 19, 20] (by kernel_rfl) ?_))
  refine AW.cons rfl rfl (sp_move (v := .int _ _) rfl ?_)
  refine AW.cons rfl rfl (sp_move rfl ?_)
  refine AW.cons rfl rfl (sp_len rfl sl_22_3_1 ?_)
  refine AW.cons rfl rfl (sp_lss rfl rfl ?_)
  refine AW.cons rfl rfl (sp_move (v := .bool _) rfl ?_)
  refine AW.split 10 rfl (fun g10 => ?_) (fun g10 => ?_)
  · skip
    refine AW.cons rfl rfl (sp_move (v := .int _ _) rfl ?_)
    refine AW.cons rfl rfl (sp_move rfl ?_)
    refine AW.cons rfl rfl (sp_len rfl sl_22_3_1 ?_)
    refine AW.cons rfl rfl (sp_lss rfl rfl ?_)
    refine AW.cons rfl rfl (sp_pick_t rfl (v := .bool _) rfl ?_)
    refine AW.cons rfl rfl (sp_move (v := .bool _) rfl ?_)
    refine AW.split 16 rfl (fun g16 => ?_) (fun g16 => ?_)
    · skip
      have hk1 : k < l.length := by have := of_decide_eq_true g10; omega
      have hk2 : k < m.length := by have := of_decide_eq_true g16; omega
      obtain ⟨x, hx⟩ := get_some hk1
      obtain ⟨y, hy⟩ := get_some hk2
      refine AW.cons rfl rfl (sp_move rfl ?_)
      refine AW.cons rfl rfl (sp_move (v := .int _ _) rfl ?_)
      refine AW.cons rfl rfl (sp_iaR hl rfl rfl sl_22_3_1 (by omega) ?_)
      refine AW.cons rfl rfl (sp_ldR 0 hl (fun _ h => h) rfl sc_3 (ints_at hx) (by omega) ?_)
      refine AW.cons rfl rfl (sp_move rfl ?_)
      refine AW.cons rfl rfl (sp_move (v := .int _ _) rfl ?_)
      refine AW.cons rfl rfl (sp_iaR hm rfl rfl sl_22_3_1 (by omega) ?_)
      refine AW.cons rfl rfl (sp_ldR 0 hm (fun _ h => h) rfl sc_3 (ints_at hy) (by omega) ?_)
      refine AW.cons rfl rfl (sp_eql rfl rfl ?_)
      refine AW.cons rfl rfl (sp_pick_t rfl (v := .bool _) rfl ?_)
      refine AW.nil ?_
      intro _ S
      refine W.cond rfl (fun c26 => ?_) (fun c26 => ?_)
      · skip
        refine W.skip ?_
        refine W.block ?_
        refine W.region S ?_
        refine AS.cons (sp_move (v := .int _ _) rfl ?_)
        refine AS.cons (sp_add rfl rfl (by first | omega | (simp only [decide_eq_true_eq, decide_eq_false_iff_not] at *; omega)) ?_)
        refine AS.cons (sp_asg (v := .int _ _) rfl ?_)
        refine AS.nil ?_
        intro _ S
        exact ⟨k + 1, _, ⟨by omega, by omega, snoc_lt hag (by rw [hx, hy, of_decide_eq_true c26])⟩, by omega, ⟨by simp [upd], trivial⟩, trivial, by repeat (first | exact Agr.refl _ _ | exact Agr.msk _ _ _ | refine Agr.upd ?_ _ rfl | refine Agr.upds ?_ rfl | refine Agr.mskIn ?_ rfl), by repeat (first | exact Agr.refl _ _ | exact Agr.msk _ _ _ | refine Agr.upd ?_ _ rfl | refine Agr.upds ?_ rfl | refine Agr.mskIn ?_ rfl), rfl, S⟩
      · skip
        refine W.exit ?_
        refine W.seq (W.draw S mixed (fun i => ([KD.q [], KD.q [], KD.q [], KD.q [], KD.q [], KD.q [], KD.q [], KD.q [], KD.q [], KD.q [], KD.q [], KD.q [], KD.q [], KD.q [], KD.q [], KD.q [], KD.q [], KD.q [], KD.q [], KD.q [], KD.q [], KD.q []] : List KD)[i]?) [] [0, 1, 2, 3, 4, 5, 6, 7, 8, 9, 10, 11, 12, 13, 14, 15, 16, 17, 18, 19, 20, 21] (by kernel_rfl) ?_)
        refine AW.cons rfl rfl (sp_move (v := .int _ _) rfl ?_)
        refine AW.cons rfl rfl (sp_move rfl ?_)
        refine AW.cons rfl rfl (sp_len rfl sl_22_3_1 ?_)
        refine AW.cons rfl rfl (sp_lss rfl rfl ?_)
        refine AW.cons rfl rfl (sp_move (v := .bool _) rfl ?_)
        refine AW.split 33 rfl (fun g33 => ?_) (fun g33 => ?_)
        · skip
          refine AW.cons rfl rfl (sp_move (v := .int _ _) rfl ?_)
          refine AW.cons rfl rfl (sp_move rfl ?_)
          refine AW.cons rfl rfl (sp_len rfl sl_22_3_1 ?_)
          refine AW.cons rfl rfl (sp_eql rfl rfl ?_)
          refine AW.cons rfl rfl (sp_move (v := .bool _) rfl ?_)
          refine AW.split 38 rfl (fun g38 => ?_) (fun g38 => ?_)
          · skip
            refine AW.cons rfl rfl (sp_skip rfl ?_)
            refine AW.cons rfl rfl (sp_skip rfl ?_)
            refine AW.cons rfl rfl (sp_skip rfl ?_)
            refine AW.cons rfl rfl (sp_skip rfl ?_)
            refine AW.cons rfl rfl (sp_skip rfl ?_)
            refine AW.cons rfl rfl (sp_skip rfl ?_)
            refine AW.cons rfl rfl (sp_skip rfl ?_)
            refine AW.cons rfl rfl (sp_skip rfl ?_)
            refine AW.cons rfl rfl (sp_skip rfl ?_)
            refine AW.cons rfl rfl (sp_pick_t rfl (v := .bool _) rfl ?_)
            refine AW.cons rfl rfl (sp_pick_t rfl (v := .bool _) rfl ?_)
            refine AW.cons rfl rfl (sp_asg (v := .bool _) rfl ?_)
            refine AW.nil ?_
            intro _ S
            refine W.ret ?_
            first | exact ret1 rfl rfl S fun w' S' => ⟨congrArg Value.bool (ltL_no hk (by have := of_decide_eq_false g33; omega) hag).symm, S'.mod⟩ | exact ret1 rfl rfl S fun w' S' => ⟨congrArg Value.bool (ltL_yes (by have := of_decide_eq_true g38; omega) (by have := of_decide_eq_true g33; omega) hag).symm, S'.mod⟩ | exact ret1 rfl rfl S fun w' S' => ⟨congrArg Value.bool (ltL_here hx' hy' (by rw [hx] at hx'; rw [hy] at hy'; cases hx'; cases hy'; exact of_decide_eq_false c26) hag).symm, S'.mod⟩ | (exfalso; have h1 := of_decide_eq_false g10; omega) | (exfalso; have h1 := of_decide_eq_false g16; omega)
          · skip
            have hk3 : k < l.length := by have := of_decide_eq_false g38; omega
            have hk4 : k < m.length := by have := of_decide_eq_true g33; omega
            obtain ⟨x', hx'⟩ := get_some hk3
            obtain ⟨y', hy'⟩ := get_some hk4
            refine AW.cons rfl rfl (sp_move rfl ?_)
            refine AW.cons rfl rfl (sp_move (v := .int _ _) rfl ?_)
            refine AW.cons rfl rfl (sp_iaR hl rfl rfl sl_22_3_1 (by omega) ?_)
            refine AW.cons rfl rfl (sp_ldR 0 hl (fun _ h => h) rfl sc_3 (ints_at hx') (by omega) ?_)
            refine AW.cons rfl rfl (sp_move rfl ?_)
            refine AW.cons rfl rfl (sp_move (v := .int _ _) rfl ?_)
            refine AW.cons rfl rfl (sp_iaR hm rfl rfl sl_22_3_1 (by omega) ?_)
            refine AW.cons rfl rfl (sp_ldR 0 hm (fun _ h => h) rfl sc_3 (ints_at hy') (by omega) ?_)
            refine AW.cons rfl rfl (sp_lss rfl rfl ?_)
            refine AW.cons rfl rfl (sp_pick_f rfl (v := .bool _) rfl ?_)
            refine AW.cons rfl rfl (sp_pick_t rfl (v := .bool _) rfl ?_)
            refine AW.cons rfl rfl (sp_asg (v := .bool _) rfl ?_)
            refine AW.nil ?_
            intro _ S
            refine W.ret ?_
            first | exact ret1 rfl rfl S fun w' S' => ⟨congrArg Value.bool (ltL_no hk (by have := of_decide_eq_false g33; omega) hag).symm, S'.mod⟩ | exact ret1 rfl rfl S fun w' S' => ⟨congrArg Value.bool (ltL_yes (by have := of_decide_eq_true g38; omega) (by have := of_decide_eq_true g33; omega) hag).symm, S'.mod⟩ | exact ret1 rfl rfl S fun w' S' => ⟨congrArg Value.bool (ltL_here hx' hy' (by rw [hx] at hx'; rw [hy] at hy'; cases hx'; cases hy'; exact of_decide_eq_false c26) hag).symm, S'.mod⟩ | (exfalso; have h1 := of_decide_eq_false g10; omega) | (exfalso; have h1 := of_decide_eq_false g16; omega)
        · skip
          refine AW.cons rfl rfl (sp_skip rfl ?_)
          refine AW.cons rfl rfl (sp_skip rfl ?_)
          refine AW.cons rfl rfl (sp_skip rfl ?_)
          refine AW.cons rfl rfl (sp_skip rfl ?_)
          refine AW.cons rfl rfl (sp_skip rfl ?_)
          refine AW.cons rfl rfl (sp_skip rfl ?_)
          refine AW.cons rfl rfl (sp_skip rfl ?_)
          refine AW.cons rfl rfl (sp_skip rfl ?_)
          refine AW.cons rfl rfl (sp_skip rfl ?_)
          refine AW.cons rfl rfl (sp_skip rfl ?_)
          refine AW.cons rfl rfl (sp_skip rfl ?_)
          refine AW.cons rfl rfl (sp_skip rfl ?_)
          refine AW.cons rfl rfl (sp_skip rfl ?_)
          refine AW.cons rfl rfl (sp_skip rfl ?_)
          refine AW.cons rfl rfl (sp_skip rfl ?_)
          refine AW.cons rfl rfl (sp_pick_f rfl (v := .bool _) rfl ?_)
          refine AW.cons rfl rfl (sp_asg (v := .bool _) rfl ?_)
          refine AW.nil ?_
          intro _ S
          refine W.ret ?_
          first | exact ret1 rfl rfl S fun w' S' => ⟨congrArg Value.bool (ltL_no hk (by have := of_decide_eq_false g33; omega) hag).symm, S'.mod⟩ | exact ret1 rfl rfl S fun w' S' => ⟨congrArg Value.bool (ltL_yes (by have := of_decide_eq_true g38; omega) (by have := of_decide_eq_true g33; omega) hag).symm, S'.mod⟩ | exact ret1 rfl rfl S fun w' S' => ⟨congrArg Value.bool (ltL_here hx' hy' (by rw [hx] at hx'; rw [hy] at hy'; cases hx'; cases hy'; exact of_decide_eq_false c26) hag).symm, S'.mod⟩ | (exfalso; have h1 := of_decide_eq_false g10; omega) | (exfalso; have h1 := of_decide_eq_false g16; omega)
    · skip
      refine AW.cons rfl rfl (sp_skip rfl ?_)
      refine AW.cons rfl rfl (sp_skip rfl ?_)
      refine AW.cons rfl rfl (sp_skip rfl ?_)
      refine AW.cons rfl rfl (sp_skip rfl ?_)
      refine AW.cons rfl rfl (sp_skip rfl ?_)
      refine AW.cons rfl rfl (sp_skip rfl ?_)
      refine AW.cons rfl rfl (sp_skip rfl ?_)
      refine AW.cons rfl rfl (sp_skip rfl ?_)
      refine AW.cons rfl rfl (sp_skip rfl ?_)
      refine AW.cons rfl rfl (sp_pick_f rfl (v := .bool _) rfl ?_)
      refine AW.nil ?_
      intro _ S
      refine W.cond (b := false) rfl (fun h => nomatch h) (fun _ => ?_)
      refine W.exit ?_
      refine W.seq (W.draw S mixed (fun i => ([KD.q [], KD.q [], KD.q [], KD.q [], KD.q [], KD.q [], KD.q [], KD.q [], KD.q [], KD.q [], KD.q [], KD.q [], KD.q [], KD.q [], KD.q [], KD.q [], KD.q [], KD.q [], KD.q [], KD.q [], KD.q [], KD.q []] : List KD)[i]?) [] [0, 1, 2, 3, 4, 5, 6, 7, 8, 9, 10, 11, 12, 13, 14, 15, 16, 17, 18, 19, 20, 21] (by kernel_rfl) ?_)
      refine AW.cons rfl rfl (sp_move (v := .int _ _) rfl ?_)
      refine AW.cons rfl rfl (sp_move rfl ?_)
      refine AW.cons rfl rfl (sp_len rfl sl_22_3_1 ?_)
      refine AW.cons rfl rfl (sp_lss rfl rfl ?_)
      refine AW.cons rfl rfl (sp_move (v := .bool _) rfl ?_)
      refine AW.split 33 rfl (fun g33 => ?_) (fun g33 => ?_)
      · skip
        refine AW.cons rfl rfl (sp_move (v := .int _ _) rfl ?_)
        refine AW.cons rfl rfl (sp_move rfl ?_)
        refine AW.cons rfl rfl (sp_len rfl sl_22_3_1 ?_)
        refine AW.cons rfl rfl (sp_eql rfl rfl ?_)
        refine AW.cons rfl rfl (sp_move (v := .bool _) rfl ?_)
        refine AW.split 38 rfl (fun g38 => ?_) (fun g38 => ?_)
        · skip
          refine AW.cons rfl rfl (sp_skip rfl ?_)
          refine AW.cons rfl rfl (sp_skip rfl ?_)
          refine AW.cons rfl rfl (sp_skip rfl ?_)
          refine AW.cons rfl rfl (sp_skip rfl ?_)
          refine AW.cons rfl rfl (sp_skip rfl ?_)
          refine AW.cons rfl rfl (sp_skip rfl ?_)
          refine AW.cons rfl rfl (sp_skip rfl ?_)
          refine AW.cons rfl rfl (sp_skip rfl ?_)
          refine AW.cons rfl rfl (sp_skip rfl ?_)
          refine AW.cons rfl rfl (sp_pick_t rfl (v := .bool _) rfl ?_)
          refine AW.cons rfl rfl (sp_pick_t rfl (v := .bool _) rfl ?_)
          refine AW.cons rfl rfl (sp_asg (v := .bool _) rfl ?_)
          refine AW.nil ?_
          intro _ S
          refine W.ret ?_
          first | exact ret1 rfl rfl S fun w' S' => ⟨congrArg Value.bool (ltL_no hk (by have := of_decide_eq_false g33; omega) hag).symm, S'.mod⟩ | exact ret1 rfl rfl S fun w' S' => ⟨congrArg Value.bool (ltL_yes (by have := of_decide_eq_true g38; omega) (by have := of_decide_eq_true g33; omega) hag).symm, S'.mod⟩ | exact ret1 rfl rfl S fun w' S' => ⟨congrArg Value.bool (ltL_here hx' hy' (by rw [hx] at hx'; rw [hy] at hy'; cases hx'; cases hy'; exact of_decide_eq_false c26) hag).symm, S'.mod⟩ | (exfalso; have h1 := of_decide_eq_false g10; omega) | (exfalso; have h1 := of_decide_eq_false g16; omega)
        · skip
          have hk3 : k < l.length := by have := of_decide_eq_false g38; omega
          have hk4 : k < m.length := by have := of_decide_eq_true g33; omega
          obtain ⟨x', hx'⟩ := get_some hk3
          obtain ⟨y', hy'⟩ := get_some hk4
          refine AW.cons rfl rfl (sp_move rfl ?_)
          refine AW.cons rfl rfl (sp_move (v := .int _ _) rfl ?_)
          refine AW.cons rfl rfl (sp_iaR hl rfl rfl sl_22_3_1 (by omega) ?_)
          refine AW.cons rfl rfl (sp_ldR 0 hl (fun _ h => h) rfl sc_3 (ints_at hx') (by omega) ?_)
          refine AW.cons rfl rfl (sp_move rfl ?_)
          refine AW.cons rfl rfl (sp_move (v := .int _ _) rfl ?_)
          refine AW.cons rfl rfl (sp_iaR hm rfl rfl sl_22_3_1 (by omega) ?_)
          refine AW.cons rfl rfl (sp_ldR 0 hm (fun _ h => h) rfl sc_3 (ints_at hy') (by omega) ?_)
          refine AW.cons rfl rfl (sp_lss rfl rfl ?_)
          refine AW.cons rfl rfl (sp_pick_f rfl (v := .bool _) rfl ?_)
          refine AW.cons rfl rfl (sp_pick_t rfl (v := .bool _) rfl ?_)
          refine AW.cons rfl rfl (sp_asg (v := .bool _) rfl ?_)
          refine AW.nil ?_
          intro _ S
          refine W.ret ?_
          first | exact ret1 rfl rfl S fun w' S' => ⟨congrArg Value.bool (ltL_no hk (by have := of_decide_eq_false g33; omega) hag).symm, S'.mod⟩ | exact ret1 rfl rfl S fun w' S' => ⟨congrArg Value.bool (ltL_yes (by have := of_decide_eq_true g38; omega) (by have := of_decide_eq_true g33; omega) hag).symm, S'.mod⟩ | exact ret1 rfl rfl S fun w' S' => ⟨congrArg Value.bool (ltL_here hx' hy' (by rw [hx] at hx'; rw [hy] at hy'; cases hx'; cases hy'; exact of_decide_eq_false c26) hag).symm, S'.mod⟩ | (exfalso; have h1 := of_decide_eq_false g10; omega) | (exfalso; have h1 := of_decide_eq_false g16; omega)
      · skip
        refine AW.cons rfl rfl (sp_skip rfl ?_)
        refine AW.cons rfl rfl (sp_skip rfl ?_)
        refine AW.cons rfl rfl (sp_skip rfl ?_)
        refine AW.cons rfl rfl (sp_skip rfl ?_)
        refine AW.cons rfl rfl (sp_skip rfl ?_)
        refine AW.cons rfl rfl (sp_skip rfl ?_)
        refine AW.cons rfl rfl (sp_skip rfl ?_)
        refine AW.cons rfl rfl (sp_skip rfl ?_)
        refine AW.cons rfl rfl (sp_skip rfl ?_)
        refine AW.cons rfl rfl (sp_skip rfl ?_)
        refine AW.cons rfl rfl (sp_skip rfl ?_)
        refine AW.cons rfl rfl (sp_skip rfl ?_)
        refine AW.cons rfl rfl (sp_skip rfl ?_)
        refine AW.cons rfl rfl (sp_skip rfl ?_)
        refine AW.cons rfl rfl (sp_skip rfl ?_)
        refine AW.cons rfl rfl (sp_pick_f rfl (v := .bool _) rfl ?_)
        refine AW.cons rfl rfl (sp_asg (v := .bool _) rfl ?_)
        refine AW.nil ?_
        intro _ S
        refine W.ret ?_
        first | exact ret1 rfl rfl S fun w' S' => ⟨congrArg Value.bool (ltL_no hk (by have := of_decide_eq_false g33; omega) hag).symm, S'.mod⟩ | exact ret1 rfl rfl S fun w' S' => ⟨congrArg Value.bool (ltL_yes (by have := of_decide_eq_true g38; omega) (by have := of_decide_eq_true g33; omega) hag).symm, S'.mod⟩ | exact ret1 rfl rfl S fun w' S' => ⟨congrArg Value.bool (ltL_here hx' hy' (by rw [hx] at hx'; rw [hy] at hy'; cases hx'; cases hy'; exact of_decide_eq_false c26) hag).symm, S'.mod⟩ | (exfalso; have h1 := of_decide_eq_false g10; omega) | (exfalso; have h1 := of_decide_eq_false g16; omega)
  · skip
    refine AW.cons rfl rfl (sp_skip rfl ?_)
    refine AW.cons rfl rfl (sp_skip rfl ?_)
    refine AW.cons rfl rfl (sp_skip rfl ?_)
    refine AW.cons rfl rfl (sp_skip rfl ?_)
    refine AW.cons rfl rfl (sp_pick_f rfl (v := .bool _) rfl ?_)
    refine AW.cons rfl rfl (sp_move (v := .bool _) rfl ?_)
    refine AW.cons rfl rfl (sp_skip rfl ?_)
    refine AW.cons rfl rfl (sp_skip rfl ?_)
    refine AW.cons rfl rfl (sp_skip rfl ?_)
    refine AW.cons rfl rfl (sp_skip rfl ?_)
    refine AW.cons rfl rfl (sp_skip rfl ?_)
    refine AW.cons rfl rfl (sp_skip rfl ?_)
    refine AW.cons rfl rfl (sp_skip rfl ?_)
    refine AW.cons rfl rfl (sp_skip rfl ?_)
    refine AW.cons rfl rfl (sp_skip rfl ?_)
    refine AW.cons rfl rfl (sp_pick_f rfl (v := .bool _) rfl ?_)
    refine AW.nil ?_
    intro _ S
    refine W.cond (b := false) rfl (fun h => nomatch h) (fun _ => ?_)
    refine W.exit ?_
    refine W.seq (W.draw S mixed (fun i => ([KD.q [], KD.q [], KD.q [], KD.q [], KD.q [], KD.q [], KD.q [], KD.q [], KD.q [], KD.q [], KD.q [], KD.q [], KD.q [], KD.q [], KD.q [], KD.q [], KD.q [], KD.q [], KD.q [], KD.q [], KD.q [], KD.q []] : List KD)[i]?) [] [0, 1, 2, 3, 4, 5, 6, 7, 8, 9, 10, 11, 12, 13, 14, 15, 16, 17, 18, 19, 20, 21] (by kernel_rfl) ?_)
    refine AW.cons rfl rfl (sp_move (v := .int _ _) rfl ?_)
    refine AW.cons rfl rfl (sp_move rfl ?_)
    refine AW.cons rfl rfl (sp_len rfl sl_22_3_1 ?_)
    refine AW.cons rfl rfl (sp_lss rfl rfl ?_)
    refine AW.cons rfl rfl (sp_move (v := .bool _) rfl ?_)
    refine AW.split 33 rfl (fun g33 => ?_) (fun g33 => ?_)
    · skip
      refine AW.cons rfl rfl (sp_move (v := .int _ _) rfl ?_)
      refine AW.cons rfl rfl (sp_move rfl ?_)
      refine AW.cons rfl rfl (sp_len rfl sl_22_3_1 ?_)
      refine AW.cons rfl rfl (sp_eql rfl rfl ?_)
      refine AW.cons rfl rfl (sp_move (v := .bool _) rfl ?_)
      refine AW.split 38 rfl (fun g38 => ?_) (fun g38 => ?_)
      · skip
        refine AW.cons rfl rfl (sp_skip rfl ?_)
        refine AW.cons rfl rfl (sp_skip rfl ?_)
        refine AW.cons rfl rfl (sp_skip rfl ?_)
        refine AW.cons rfl rfl (sp_skip rfl ?_)
        refine AW.cons rfl rfl (sp_skip rfl ?_)
        refine AW.cons rfl rfl (sp_skip rfl ?_)
        refine AW.cons rfl rfl (sp_skip rfl ?_)
        refine AW.cons rfl rfl (sp_skip rfl ?_)
        refine AW.cons rfl rfl (sp_skip rfl ?_)
        refine AW.cons rfl rfl (sp_pick_t rfl (v := .bool _) rfl ?_)
        refine AW.cons rfl rfl (sp_pick_t rfl (v := .bool _) rfl ?_)
        refine AW.cons rfl rfl (sp_asg (v := .bool _) rfl ?_)
        refine AW.nil ?_
        intro _ S
        refine W.ret ?_
        first | exact ret1 rfl rfl S fun w' S' => ⟨congrArg Value.bool (ltL_no hk (by have := of_decide_eq_false g33; omega) hag).symm, S'.mod⟩ | exact ret1 rfl rfl S fun w' S' => ⟨congrArg Value.bool (ltL_yes (by have := of_decide_eq_true g38; omega) (by have := of_decide_eq_true g33; omega) hag).symm, S'.mod⟩ | exact ret1 rfl rfl S fun w' S' => ⟨congrArg Value.bool (ltL_here hx' hy' (by rw [hx] at hx'; rw [hy] at hy'; cases hx'; cases hy'; exact of_decide_eq_false c26) hag).symm, S'.mod⟩ | (exfalso; have h1 := of_decide_eq_false g10; omega) | (exfalso; have h1 := of_decide_eq_false g16; omega)
      · skip
        have hk3 : k < l.length := by have := of_decide_eq_false g38; omega
        have hk4 : k < m.length := by have := of_decide_eq_true g33; omega
        obtain ⟨x', hx'⟩ := get_some hk3
        obtain ⟨y', hy'⟩ := get_some hk4
        refine AW.cons rfl rfl (sp_move rfl ?_)
        refine AW.cons rfl rfl (sp_move (v := .int _ _) rfl ?_)
        refine AW.cons rfl rfl (sp_iaR hl rfl rfl sl_22_3_1 (by omega) ?_)
        refine AW.cons rfl rfl (sp_ldR 0 hl (fun _ h => h) rfl sc_3 (ints_at hx') (by omega) ?_)
        refine AW.cons rfl rfl (sp_move rfl ?_)
        refine AW.cons rfl rfl (sp_move (v := .int _ _) rfl ?_)
        refine AW.cons rfl rfl (sp_iaR hm rfl rfl sl_22_3_1 (by omega) ?_)
        refine AW.cons rfl rfl (sp_ldR 0 hm (fun _ h => h) rfl sc_3 (ints_at hy') (by omega) ?_)
        refine AW.cons rfl rfl (sp_lss rfl rfl ?_)
        refine AW.cons rfl rfl (sp_pick_f rfl (v := .bool _) rfl ?_)
        refine AW.cons rfl rfl (sp_pick_t rfl (v := .bool _) rfl ?_)
        refine AW.cons rfl rfl (sp_asg (v := .bool _) rfl ?_)
        refine AW.nil ?_
        intro _ S
        refine W.ret ?_
        first | exact ret1 rfl rfl S fun w' S' => ⟨congrArg Value.bool (ltL_no hk (by have := of_decide_eq_false g33; omega) hag).symm, S'.mod⟩ | exact ret1 rfl rfl S fun w' S' => ⟨congrArg Value.bool (ltL_yes (by have := of_decide_eq_true g38; omega) (by have := of_decide_eq_true g33; omega) hag).symm, S'.mod⟩ | exact ret1 rfl rfl S fun w' S' => ⟨congrArg Value.bool (ltL_here hx' hy' (by rw [hx] at hx'; rw [hy] at hy'; cases hx'; cases hy'; exact of_decide_eq_false c26) hag).symm, S'.mod⟩ | (exfalso; have h1 := of_decide_eq_false g10; omega) | (exfalso; have h1 := of_decide_eq_false g16; omega)
    · skip
      refine AW.cons rfl rfl (sp_skip rfl ?_)
      refine AW.cons rfl rfl (sp_skip rfl ?_)
      refine AW.cons rfl rfl (sp_skip rfl ?_)
      refine AW.cons rfl rfl (sp_skip rfl ?_)
      refine AW.cons rfl rfl (sp_skip rfl ?_)
      refine AW.cons rfl rfl (sp_skip rfl ?_)
      refine AW.cons rfl rfl (sp_skip rfl ?_)
      refine AW.cons rfl rfl (sp_skip rfl ?_)
      refine AW.cons rfl rfl (sp_skip rfl ?_)
      refine AW.cons rfl rfl (sp_skip rfl ?_)
      refine AW.cons rfl rfl (sp_skip rfl ?_)
      refine AW.cons rfl rfl (sp_skip rfl ?_)
      refine AW.cons rfl rfl (sp_skip rfl ?_)
      refine AW.cons rfl rfl (sp_skip rfl ?_)
      refine AW.cons rfl rfl (sp_skip rfl ?_)
      refine AW.cons rfl rfl (sp_pick_f rfl (v := .bool _) rfl ?_)
      refine AW.cons rfl rfl (sp_asg (v := .bool _) rfl ?_)
      refine AW.nil ?_
      intro _ S
      refine W.ret ?_
      first | exact ret1 rfl rfl S fun w' S' => ⟨congrArg Value.bool (ltL_no hk (by have := of_decide_eq_false g33; omega) hag).symm, S'.mod⟩ | exact ret1 rfl rfl S fun w' S' => ⟨congrArg Value.bool (ltL_yes (by have := of_decide_eq_true g38; omega) (by have := of_decide_eq_true g33; omega) hag).symm, S'.mod⟩ | exact ret1 rfl rfl S fun w' S' => ⟨congrArg Value.bool (ltL_here hx' hy' (by rw [hx] at hx'; rw [hy] at hy'; cases hx'; cases hy'; exact of_decide_eq_false c26) hag).symm, S'.mod⟩ | (exfalso; have h1 := of_decide_eq_false g10; omega) | (exfalso; have h1 := of_decide_eq_false g16; omega)
theorem fewerF (la : Option Addr) (lc : Nat) (l : List Int) (ma : Option Addr) (mc : Nat) (m : List Int) (w : World) (hl : Ints w la lc l) (hm : Ints w ma mc m) : Ct Tryd.prog 54 #[.slice la l.length lc, .slice ma m.length mc] w (fun u w' => u = .bool (fewL l m) ∧ Ext w w') := by
  refine fn_intro (args := [.slice la l.length lc, .slice ma m.length mc]) Tryd.func54 rfl rfl (by kernel_rfl) ?_
  have S := St.start no w
  have d1 : decide (l.length < m.length) = decide ((l.length : Int) < m.length) := decide_eq_decide.2 (by omega)
  have d2 : decide (l.length = m.length) = decide ((l.length : Int) = m.length) := decide_eq_decide.2 (by omega)
  refine W.seq (W.region S ?_)
  refine AS.cons (sp_asg rfl ?_)
  refine AS.nil ?_
  intro _ S
  refine W.seq (W.region S ?_)
  refine AS.cons (sp_move rfl ?_)
  refine AS.cons (sp_len rfl sl_22_3_1 ?_)
  refine AS.cons (sp_move rfl ?_)
  refine AS.cons (sp_len rfl sl_22_3_1 ?_)
  refine AS.cons (sp_lss rfl rfl ?_)
  refine AS.cons (sp_move (v := .bool _) rfl ?_)
  refine AS.split 10 rfl (fun g10 => ?_) (fun g10 => ?_)
  · skip
    refine AS.cons (sp_skip rfl ?_)
    refine AS.cons (sp_skip rfl ?_)
    refine AS.cons (sp_skip rfl ?_)
    refine AS.cons (sp_skip rfl ?_)
    refine AS.cons (sp_skip rfl ?_)
    refine AS.cons (sp_skip rfl ?_)
    refine AS.cons (sp_skip rfl ?_)
    refine AS.cons (sp_skip rfl ?_)
    refine AS.cons (sp_skip rfl ?_)
    refine AS.cons (sp_skip rfl ?_)
    refine AS.cons (sp_pick_t rfl (v := .bool _) rfl ?_)
    refine AS.cons (sp_asg (v := .bool _) rfl ?_)
    refine AS.nil ?_
    intro _ S
    refine W.ret ?_
    exact ret1 rfl rfl S fun w' S' => ⟨congrArg Value.bool (by unfold fewL; first | (rw [d1, d2, g10]; rfl) | (rw [d1, d2, g10, g16]; rfl)), S'.mod⟩
  · skip
    refine AS.cons (sp_move rfl ?_)
    refine AS.cons (sp_len rfl sl_22_3_1 ?_)
    refine AS.cons (sp_move rfl ?_)
    refine AS.cons (sp_len rfl sl_22_3_1 ?_)
    refine AS.cons (sp_eql rfl rfl ?_)
    refine AS.cons (sp_move (v := .bool _) rfl ?_)
    refine AS.split 16 rfl (fun g16 => ?_) (fun g16 => ?_)
    · skip
      refine AS.cons (sp_move rfl ?_)
      refine AS.cons (sp_move rfl ?_)
      refine AS.cons (sp_call [] rfl rfl cf_97 (fun F w _ S => soonerF la lc l ma mc m w (hl.ext S.mod) (hm.ext S.mod)) ?_)
      refine AS.cons (sp_pick_t rfl (v := .bool _) rfl ?_)
      refine AS.cons (sp_pick_f rfl (v := .bool _) rfl ?_)
      refine AS.cons (sp_asg (v := .bool _) rfl ?_)
      refine AS.nil ?_
      intro _ S
      refine W.ret ?_
      exact ret1 rfl rfl S fun w' S' => ⟨congrArg Value.bool (by unfold fewL; first | (rw [d1, d2, g10]; rfl) | (rw [d1, d2, g10, g16]; rfl)), S'.mod⟩
    · skip
      refine AS.cons (sp_skip rfl ?_)
      refine AS.cons (sp_skip rfl ?_)
      refine AS.cons (sp_skip rfl ?_)
      refine AS.cons (sp_pick_f rfl (v := .bool _) rfl ?_)
      refine AS.cons (sp_pick_f rfl (v := .bool _) rfl ?_)
      refine AS.cons (sp_asg (v := .bool _) rfl ?_)
      refine AS.nil ?_
      intro _ S
      refine W.ret ?_
      exact ret1 rfl rfl S fun w' S' => ⟨congrArg Value.bool (by unfold fewL; first | (rw [d1, d2, g10]; rfl) | (rw [d1, d2, g10, g16]; rfl)), S'.mod⟩
end
end Go.Proofs.YtmpclgepoemneaaDoor

/-
  The other side: a book with a cry more, or without some; Fits.
-/
namespace Go.Proofs.YtmpclgepoemneaaDoor
set_option maxRecDepth 100000
open Go.Hu Go.RowKit
section
variable (b : Bk) (la : Option Addr) (lc : Nat) (ca : Option Addr) (cc : Nat) (mp : Nat)
theorem rightG (hb : Num b) (hc : ∀ c ∈ b.cries, CryOk c) (hcl : b.cries.length ≤ 1000000) (hll : b.land.length ≤ 1000000) (w : World) (hl : Ints w la lc b.land) (hC : Cries w ca cc b.cries) : Ct Tryd.prog 72 #[.agg (bkL b la lc ca cc).toArray] w (fun u w' => u = .bool (canB b) ∧ Ext w w') := by
  refine fn_intro (args := [.agg (bkL b la lc ca cc).toArray]) Tryd.func72 rfl rfl (by kernel_rfl) ?_
  have S := St.start no w
  have hsq := sq_le hb
  refine W.seq (W.region S ?_)
  refine AS.cons (sp_boxa 1 rfl (fun b1 => ?_))
  refine AS.cons (sp_asg rfl ?_)
  refine AS.nil ?_
  intro _ S
  refine W.seq (W.region S ?_)
  refine AS.cons (sp_ldw 1 rfl rfl ag_26_7 ?_)
  refine AS.cons (sp_call1s 4 904 [] _ (by decide) rfl rfl cf_104 (fun F w' _ S => wholeS b la lc ca cc hb hc (by omega) (by omega) w' (hl.ext S.mod) (hC.ext S.mod)) ?_ (by simp))
  rintro v4 i4 j4 ⟨a, c, vs, rfl, hvl, hvs, rfl, rfl⟩
  obtain ⟨v0, hv0⟩ := get_some (l := vs) (j := 0) (by omega)
  obtain ⟨a0, rfl⟩ := hvs v0 (List.mem_of_getElem? hv0)
  refine AS.cons (sp_iaS 4 rfl rfl rfl sl_90_94_1 (by omega) ?_)
  refine AS.cons (sp_ldS 4 rfl rfl sc_94 hv0 (by omega) ?_)
  refine AS.cons (sp_call1 7 [904] _ (vs := [.slice a0 (WR b 0).length (sq b)]) rfl (by rw [WR_len]; rfl) cf_79 (fun F w' hF S => listR _ _ _ (by rw [WR_len]; omega) w' (by have h1 := S.star_rd (k := 904) ((hF 904 (by simp)).trans rfl) (pcsF_get (sq b) (WR b) _ 0 0 _ hv0) (by omega); unfold Bools; rw [WR_len]; exact h1)) ?_ (by simp))
  rintro v7 i7 ⟨⟨a7, c7, rfl, _⟩, rfl⟩
  refine AS.cons (sp_len rfl sl_22_3_1 ?_)
  refine AS.cons (sp_gtr rfl rfl ?_)
  refine AS.cons (sp_asg (v := .bool _) rfl ?_)
  refine AS.nil ?_
  intro _ S
  refine W.ret ?_
  exact ret1 rfl rfl S fun w' S' => ⟨congrArg Value.bool (by rw [can_len b hb (Nat.zero_le 30), trL_WR hb (Nat.zero_le 30)]; exact decide_eq_decide.2 (by omega)), S'.mod⟩
theorem withF (x : Cry) (hn : b.cries.length ≤ 1000000) (w : World) (hC : Cries w ca cc b.cries) : Ct Tryd.prog 90 #[.agg (bkL b la lc ca cc).toArray, .agg (cyL x).toArray] w
    (fun u w' => ∃ i, CrR (wi b x) la lc u i ∧ St no w w' (upd eL 0 i) []) := by
  refine fn_intro (args := [.agg (bkL b la lc ca cc).toArray, .agg (cyL x).toArray]) Tryd.func90 rfl rfl (by kernel_rfl) ?_
  have S := St.start no w
  refine W.seq (W.region S ?_)
  refine AS.cons (sp_boxa 2 rfl (fun b2 => ?_))
  refine AS.cons (sp_boxa 3 rfl (fun b3 => ?_))
  refine AS.cons (sp_alloc 4 zv_26 rfl (fun b4 => ?_))
  refine AS.nil ?_
  intro _ S
  refine W.seq (W.region S ?_)
  refine AS.cons (sp_ldw 2 rfl rfl ag_26_7 ?_)
  refine AS.cons (sp_alloc 5 zv_26 rfl (fun b5 => ?_))
  refine AS.cons (sp_st 5 rfl rfl rfl rfl sz_26_7 rfl rfl ?_)
  refine AS.nil ?_
  intro _ S
  refine W.seq (W.draw S mixed (fun i => ([KD.e [] [7], KD.q [], KD.q [2], KD.e [7] [7], KD.q [3], KD.a 12, KD.e [7, 12] [7], KD.q [], KD.e [5] [5]] : List KD)[i]?) [3] [0, 1, 2, 3, 4, 5, 6, 7, 8] (by kernel_rfl) ?_)
  refine AW.cons rfl rfl (sp_bsS0 7 sl_24_46_7 (fun b7 => ?_))
  refine AW.cons rfl rfl (sp_fa rfl fo_26_5_6 ?_)
  refine AW.cons rfl rfl (sp_ld 2 rfl rfl sc_24 rfl ?_)
  refine AW.cons rfl rfl (sp_app 7 [] rfl rfl sl_24_46_7 zs_46_7 rfl (fun F w hF S => hC.ext S.mod) (cries_one _) (by omega) (fun a10 c10 => ?_))
  refine AW.cons rfl rfl (sp_ldw 3 rfl rfl ag_46_7 ?_)
  refine AW.cons rfl rfl (sp_bs 12 [.tmp 11] _ sl_24_46_7 zs_46_7 rfl rfl rfl rfl rfl rfl (fun b12 => ?_))
  refine AW.cons rfl rfl (sp_app 7 [12] rfl rfl sl_24_46_7 zs_46_7 rfl (fun F w hF S => rd_pt (S.get ((hF 12 (by simp)).trans rfl)).1 rfl (by omega) (by omega)) rfl (by first | omega | (simp only [decide_eq_true_eq, decide_eq_false_iff_not] at *; omega)) (fun a13 c13 => ?_))
  refine AW.cons rfl rfl (sp_fa rfl fo_26_5_6 ?_)
  refine AW.cons rfl rfl (sp_st 5 rfl rfl rfl rfl sz_24_1 rfl rfl ?_)
  refine AW.nil ?_
  intro _ S
  refine W.seq (W.region S ?_)
  refine AS.cons (sp_ldw 5 rfl rfl ag_26_7 ?_)
  refine AS.cons (sp_st 4 rfl rfl rfl rfl sz_26_7 rfl rfl ?_)
  refine AS.nil ?_
  intro _ S
  refine W.ret ?_
  have e0 : 0 + b.cries.length + 1 = b.cries.length + 1 := by omega
  refine retc (E := 26) (fr := (0, 0)) (b := b4) (l := bkL (wi b x) la lc a13 c13) 4 ag_26_7 rfl rfl rfl ?_ rfl S fun w' S' => ?_
  · show pt b4 (.cells [iv b.wide, iv b.high, .slice la b.land.length lc, iv b.h0, iv b.h1, iv b.swim, .slice a13 (0 + b.cries.length + 1) c13].toArray 26 (0, 0)) = _
    rw [e0, bkL_wi]
  · have hle := St.slc_le S' 7 rfl
    refine ⟨_, ⟨a13, c13, rfl, by rw [wi_len]; omega, ?_⟩, S'.only 7⟩
    show slc 46 7 (.slice a13 (0 + b.cries.length + 1) c13) (0 + b.cries.length + 1) ([] ++ b.cries.flatMap cyL ++ cyL x) = _
    rw [e0, List.nil_append]
    exact CrS_wi
/-- The cells of a book whose cries, as far as j, are left out or kept. -/
abbrev woU (q : Nat → Bool) (j : Nat) : Bk := { b with cries := kpU b.cries q j }
theorem withoutF (s : Nat) (hs : s ≤ 1000000) (hn : b.cries.length ≤ 60) (w : World) (hC : Cries w ca cc b.cries) : Ct Tryd.prog 92 #[.agg (bkL b la lc ca cc).toArray, iv s] w
    (fun u w' => ∃ i, CrR (wo b (fun i => s.testBit i)) la lc u i ∧ St no w w' (upd eL 0 i) []) := by
  refine fn_intro (args := [.agg (bkL b la lc ca cc).toArray, iv s]) Tryd.func92 rfl rfl (by kernel_rfl) ?_
  have S := St.start no w
  refine W.seq (W.region S ?_)
  refine AS.cons (sp_boxa 2 rfl (fun b2 => ?_))
  refine AS.cons (sp_alloc 4 zv_26 rfl (fun b4 => ?_))
  refine AS.nil ?_
  intro _ S
  refine W.seq (W.region S ?_)
  refine AS.cons (sp_ldw 2 rfl rfl ag_26_7 ?_)
  refine AS.cons (sp_alloc 5 zv_26 rfl (fun b5 => ?_))
  refine AS.cons (sp_st 5 rfl rfl rfl rfl sz_26_7 rfl rfl ?_)
  refine AS.nil ?_
  intro _ S
  refine W.seq (W.region S ?_)
  refine AS.cons (sp_fa rfl fo_26_5_6 ?_)
  refine AS.cons (sp_st 5 rfl rfl rfl rfl sz_24_1 rfl rfl ?_)
  refine AS.nil ?_
  intro _ S
  refine W.seq (W.seq (W.region S ?_))
  refine AS.cons (sp_asg rfl ?_)
  refine AS.nil ?_
  intro _ S
  have S := (S.drop 901).weak (k := 901) (i := slc 46 7 nilS 0 []) (fun f hf => by rw [upd_same] at hf; exact slc_nil 46 7 f hf)
  refine W.block ?_
  refine W.loopS S [6, 9, 10, 11, 12, 13, 14, 15, 16, 17, 18, 19, 20, 21, 22, 23, 24, 25, 26, 27, 28, 29] [5, 27, 28, 901] (fun (z : Nat × Option Addr × Nat) => [(6, iv z.1)]) (fun z => [(5, pt b5 (.cells (bkL (woU b (fun i => s.testBit i) z.1) la lc z.2.1 z.2.2).toArray 26 (0, 0))), (901, CrS (woU b (fun i => s.testBit i) z.1) z.2.1 z.2.2)]) (fun z => z.1 ≤ b.cries.length) (fun z => b.cries.length - z.1) (0, none, 0) (Nat.zero_le _) ⟨rfl, trivial⟩ ⟨rfl, rfl, trivial⟩ ?_
  rintro ⟨j, a, c⟩ σ M w1 hj S
  replace hj : j ≤ b.cries.length := hj
  have hkl := kpU_len b.cries (fun i => s.testBit i) j
  refine W.seq (W.seq (W.region S ?_))
  refine AS.cons (sp_move (v := .int _ _) rfl ?_)
  refine AS.cons (sp_fa rfl fo_26_5_6 ?_)
  refine AS.cons (sp_ld 2 rfl rfl sc_24 rfl ?_)
  refine AS.cons (sp_len rfl sl_24_46_7 ?_)
  refine AS.cons (sp_lss rfl rfl ?_)
  refine AS.nil ?_
  intro _ S
  refine W.condd rfl (fun c13 => ?_) (fun c13 => ?_)
  · skip
    have hlt : j < b.cries.length := by omega
    obtain ⟨x, hx⟩ := get_some hlt
    refine W.skip ?_
    refine W.seq (W.block ?_)
    refine W.seq (W.region S ?_)
    refine AS.cons (sp_move (v := .int _ _) rfl ?_)
    refine AS.cons (sp_move (v := .int _ _) rfl ?_)
    refine AS.cons (sp_call [] rfl rfl cf_96 (fun F w _ S => bitF _ _ (by omega) (by omega) w) ?_)
    refine AS.cons (sp_not rfl ?_)
    refine AS.nil ?_
    intro _ S
    refine W.cond rfl (fun c19 => ?_) (fun c19 => ?_)
    · skip
      have hq : s.testBit j = false := by simpa using c19
      have hw : kpU b.cries (fun i => s.testBit i) (j + 1) = kpU b.cries (fun i => s.testBit i) j ++ [x] := by rw [kpU_succ hx, if_neg (by simp [hq])]
      refine W.draw S mixed (fun i => ([KD.q [], KD.q [5], KD.q [], KD.q [2], KD.q [], KD.q [], KD.q [], KD.a 27, KD.e [901, 27] [901], KD.q [], KD.e [5] [5]] : List KD)[i]?) [] [0, 1, 2, 3, 4, 5, 6, 7, 8, 9, 10] (by kernel_rfl) ?_
      refine AW.cons rfl rfl (sp_fa rfl fo_26_5_6 ?_)
      refine AW.cons rfl rfl (sp_ld 5 rfl rfl sc_24 rfl ?_)
      refine AW.cons rfl rfl (sp_fa rfl fo_26_5_6 ?_)
      refine AW.cons rfl rfl (sp_ld 2 rfl rfl sc_24 rfl ?_)
      refine AW.cons rfl rfl (sp_move (v := .int _ _) rfl ?_)
      refine AW.cons rfl rfl (sp_iaR hC rfl rfl sl_24_46_7 (by first | omega | (simp only [decide_eq_true_eq, decide_eq_false_iff_not] at *; omega)) ?_)
      refine AW.cons rfl rfl (sp_ldaR 0 hC (fun _ h => h) rfl ag_46_7 (cries_at hx) (by first | omega | (simp only [decide_eq_true_eq, decide_eq_false_iff_not] at *; omega)) ?_)
      refine AW.cons rfl rfl (sp_bs 27 [.tmp 26] _ sl_24_46_7 zs_46_7 rfl rfl rfl rfl rfl rfl (fun b27 => ?_))
      refine AW.cons rfl rfl (sp_app 901 [27] rfl rfl sl_24_46_7 zs_46_7 rfl (fun F w hF S => rd_pt (S.get ((hF 27 (by simp)).trans rfl)).1 rfl (by omega) (by omega)) rfl (by first | omega | (simp only [] at *; omega)) (fun a28 c28 => ?_))
      refine AW.cons rfl rfl (sp_fa rfl fo_26_5_6 ?_)
      refine AW.cons rfl rfl (sp_st 5 rfl rfl rfl rfl sz_24_1 rfl rfl ?_)
      refine AW.nil ?_
      intro _ S
      refine W.region S ?_
      refine AS.cons (sp_move (v := .int _ _) rfl ?_)
      refine AS.cons (sp_add rfl rfl (by first | omega | (simp only [decide_eq_true_eq, decide_eq_false_iff_not] at *; omega)) ?_)
      refine AS.cons (sp_asg (v := .int _ _) rfl ?_)
      refine AS.nil ?_
      intro _ S
      first | exact ⟨(j + 1, a28, c28), _, hlt, by show b.cries.length - (j + 1) < b.cries.length - j; omega, ⟨by simp [upd], trivial⟩, ⟨by show pt b5 _ = pt b5 (.cells [iv b.wide, iv b.high, .slice la b.land.length lc, iv b.h0, iv b.h1, iv b.swim, .slice a28 (kpU b.cries (fun i => s.testBit i) (j + 1)).length c28].toArray 26 (0, 0)); rw [hw, List.length_append]; rfl, by show slc 46 7 _ _ _ = slc 46 7 (.slice a28 (kpU b.cries (fun i => s.testBit i) (j + 1)).length c28) (kpU b.cries (fun i => s.testBit i) (j + 1)).length ((kpU b.cries (fun i => s.testBit i) (j + 1)).flatMap cyL); rw [hw, List.length_append, List.flatMap_append]; rfl, trivial⟩, by repeat (first | exact Agr.refl _ _ | exact Agr.msk _ _ _ | refine Agr.upd ?_ _ rfl | refine Agr.upds ?_ rfl | refine Agr.mskIn ?_ rfl), by repeat (first | exact Agr.refl _ _ | exact Agr.msk _ _ _ | refine Agr.upd ?_ _ rfl | refine Agr.upds ?_ rfl | refine Agr.mskIn ?_ rfl), rfl, S⟩ | exact ⟨(j + 1, a, c), _, hlt, by show b.cries.length - (j + 1) < b.cries.length - j; omega, ⟨by simp [upd], trivial⟩, ⟨by show pt b5 _ = pt b5 (.cells [iv b.wide, iv b.high, .slice la b.land.length lc, iv b.h0, iv b.h1, iv b.swim, .slice a (kpU b.cries (fun i => s.testBit i) (j + 1)).length c].toArray 26 (0, 0)); rw [hw], by show slc 46 7 _ _ _ = slc 46 7 (.slice a (kpU b.cries (fun i => s.testBit i) (j + 1)).length c) (kpU b.cries (fun i => s.testBit i) (j + 1)).length ((kpU b.cries (fun i => s.testBit i) (j + 1)).flatMap cyL); rw [hw], trivial⟩, by repeat (first | exact Agr.refl _ _ | exact Agr.msk _ _ _ | refine Agr.upd ?_ _ rfl | refine Agr.upds ?_ rfl | refine Agr.mskIn ?_ rfl), by repeat (first | exact Agr.refl _ _ | exact Agr.msk _ _ _ | refine Agr.upd ?_ _ rfl | refine Agr.upds ?_ rfl | refine Agr.mskIn ?_ rfl), rfl, S⟩
    · skip
      have hq : s.testBit j = true := by simpa using c19
      have hw : kpU b.cries (fun i => s.testBit i) (j + 1) = kpU b.cries (fun i => s.testBit i) j := by rw [kpU_succ hx, if_pos hq]
      refine W.skip ?_
      refine W.region S ?_
      refine AS.cons (sp_move (v := .int _ _) rfl ?_)
      refine AS.cons (sp_add rfl rfl (by first | omega | (simp only [decide_eq_true_eq, decide_eq_false_iff_not] at *; omega)) ?_)
      refine AS.cons (sp_asg (v := .int _ _) rfl ?_)
      refine AS.nil ?_
      intro _ S
      first | exact ⟨(j + 1, a28, c28), _, hlt, by show b.cries.length - (j + 1) < b.cries.length - j; omega, ⟨by simp [upd], trivial⟩, ⟨by show pt b5 _ = pt b5 (.cells [iv b.wide, iv b.high, .slice la b.land.length lc, iv b.h0, iv b.h1, iv b.swim, .slice a28 (kpU b.cries (fun i => s.testBit i) (j + 1)).length c28].toArray 26 (0, 0)); rw [hw, List.length_append]; rfl, by show slc 46 7 _ _ _ = slc 46 7 (.slice a28 (kpU b.cries (fun i => s.testBit i) (j + 1)).length c28) (kpU b.cries (fun i => s.testBit i) (j + 1)).length ((kpU b.cries (fun i => s.testBit i) (j + 1)).flatMap cyL); rw [hw, List.length_append, List.flatMap_append]; rfl, trivial⟩, by repeat (first | exact Agr.refl _ _ | exact Agr.msk _ _ _ | refine Agr.upd ?_ _ rfl | refine Agr.upds ?_ rfl | refine Agr.mskIn ?_ rfl), by repeat (first | exact Agr.refl _ _ | exact Agr.msk _ _ _ | refine Agr.upd ?_ _ rfl | refine Agr.upds ?_ rfl | refine Agr.mskIn ?_ rfl), rfl, S⟩ | exact ⟨(j + 1, a, c), _, hlt, by show b.cries.length - (j + 1) < b.cries.length - j; omega, ⟨by simp [upd], trivial⟩, ⟨by show pt b5 _ = pt b5 (.cells [iv b.wide, iv b.high, .slice la b.land.length lc, iv b.h0, iv b.h1, iv b.swim, .slice a (kpU b.cries (fun i => s.testBit i) (j + 1)).length c].toArray 26 (0, 0)); rw [hw], by show slc 46 7 _ _ _ = slc 46 7 (.slice a (kpU b.cries (fun i => s.testBit i) (j + 1)).length c) (kpU b.cries (fun i => s.testBit i) (j + 1)).length ((kpU b.cries (fun i => s.testBit i) (j + 1)).flatMap cyL); rw [hw], trivial⟩, by repeat (first | exact Agr.refl _ _ | exact Agr.msk _ _ _ | refine Agr.upd ?_ _ rfl | refine Agr.upds ?_ rfl | refine Agr.mskIn ?_ rfl), by repeat (first | exact Agr.refl _ _ | exact Agr.msk _ _ _ | refine Agr.upd ?_ _ rfl | refine Agr.upds ?_ rfl | refine Agr.mskIn ?_ rfl), rfl, S⟩
  · skip
    obtain rfl : j = b.cries.length := by omega
    refine W.exit ?_
    refine W.seq (W.region S ?_)
    refine AS.cons (sp_ldw 5 rfl rfl ag_26_7 ?_)
    refine AS.cons (sp_st 4 rfl rfl rfl rfl sz_26_7 rfl rfl ?_)
    refine AS.nil ?_
    intro _ S
    refine W.ret ?_
    refine retc (l := bkL (wo b (fun i => s.testBit i)) la lc a c) 4 ag_26_7 rfl rfl rfl rfl rfl S fun w' S' => ?_
    exact ⟨_, ⟨a, c, rfl, St.slc_le S' 901 rfl, rfl⟩, S'.only 901⟩
theorem fitsR (x : Cry) (w : World) (hl : Ints w la lc b.land) (hC : Cries w ca cc b.cries) : Ct Tryd.prog 34 #[.agg (bkL b la lc ca cc).toArray, .agg (cyL x).toArray] w (fun u w' => u = .tuple #[.bool (fitsV b x), iv (fitsE b x)] ∧ Ext w w') := by
  refine fn_intro (args := [.agg (bkL b la lc ca cc).toArray, .agg (cyL x).toArray]) Tryd.func34 rfl rfl (by kernel_rfl) ?_
  have S := St.start no w
  refine W.seq (W.region S ?_)
  refine AS.cons (sp_boxa 2 rfl (fun b2 => ?_))
  refine AS.cons (sp_boxa 3 rfl (fun b3 => ?_))
  refine AS.cons (sp_asg rfl ?_)
  refine AS.cons (sp_asg rfl ?_)
  refine AS.nil ?_
  intro _ S
  refine W.seq (W.seq (W.region S ?_))
  refine AS.cons (sp_ldw 2 rfl rfl ag_26_7 ?_)
  refine AS.cons (sp_call [] rfl rfl cf_19 (fun F w _ S => checkR _ _ _ _ _ w (hl.ext S.mod) (hC.ext S.mod)) ?_)
  refine AS.cons (sp_asg (v := .int _ _) rfl ?_)
  refine AS.nil ?_
  intro _ S
  refine W.seq (W.region S ?_)
  refine AS.cons (sp_move (v := .int _ _) rfl ?_)
  refine AS.cons (sp_neq rfl rfl ?_)
  refine AS.nil ?_
  intro _ S
  refine W.condd rfl (fun c10 => ?_) (fun c10 => ?_)
  · skip
    have hv : fitsV b x = false := by unfold fitsV; rw [chk_no c10]; rfl
    have he : fitsE b x = chkV b := by unfold fitsE chkV; rw [chk_no c10]; rfl
    refine W.seq (W.region S ?_)
    refine AS.cons (sp_move (v := .int _ _) rfl ?_)
    refine AS.cons (sp_asg rfl ?_)
    refine AS.cons (sp_asg (v := .int _ _) rfl ?_)
    refine AS.nil ?_
    intro _ S
    refine W.ret ?_
    first | exact ret2 rfl rfl rfl S fun w' S' => ⟨by rw [hv, he]; rfl, S'.mod⟩
  · skip
    have hok := chk_ok c10
    have hbk := okAll_ok hok
    have hcl := hbk.lc
    have hll := hbk.ll
    refine W.skip ?_
    refine W.seq (W.seq (W.region S ?_))
    refine AS.cons (sp_ldw 3 rfl rfl ag_46_7 ?_)
    refine AS.cons (sp_call [] rfl rfl cf_70 (fun F w _ S => valid _ w) ?_)
    refine AS.cons (sp_not rfl ?_)
    refine AS.nil ?_
    intro _ S
    refine W.cond rfl (fun c14 => ?_) (fun c14 => ?_)
    · skip
      have hcx : ¬ CryOk x := of_decide_eq_false (by rw [Bool.not_eq_true'] at c14; exact c14)
      have hv : fitsV b x = false := by unfold fitsV; rw [decide_eq_false hcx]; simp
      have he : fitsE b x = 11 := by unfold fitsE; rw [if_pos hok, if_neg hcx]
      refine W.seq (W.region S ?_)
      refine AS.cons (sp_asg rfl ?_)
      refine AS.cons (sp_asg rfl ?_)
      refine AS.nil ?_
      intro _ S
      refine W.ret ?_
      first | exact ret2 rfl rfl rfl S fun w' S' => ⟨by rw [hv, he]; rfl, S'.mod⟩
    · skip
      have hcx : CryOk x := of_decide_eq_true (by rw [Bool.not_eq_false'] at c14; exact c14)
      have hv : fitsV b x = canB (wi b x) := by unfold fitsV; rw [hok, decide_eq_true hcx]; rfl
      have he : fitsE b x = 0 := by unfold fitsE; rw [if_pos hok, if_pos hcx]
      have hwl := wi_len b x
      refine W.skip ?_
      refine W.seq (W.region S ?_)
      refine AS.cons (sp_ldw 2 rfl rfl ag_26_7 ?_)
      refine AS.cons (sp_ldw 3 rfl rfl ag_46_7 ?_)
      refine AS.cons (sp_call1 17 [] _ rfl rfl cf_90 (fun F w _ S => withF _ _ _ _ _ _ (by omega) w (hC.ext S.mod)) ?_ (by simp))
      rintro v17 i17 ⟨a17, c17, rfl, hac, rfl⟩
      refine AS.cons (sp_call [17] rfl rfl cf_72 (fun F w' hF S => rightG (wi b x) la lc a17 c17 hbk.num (wi_cry hbk.cry hcx) (by omega) (show b.land.length ≤ 1000000 by omega) w' (hl.ext S.mod) (S.slc_rd (k := 17) ((hF 17 (by simp)).trans rfl) (by omega))) ?_)
      refine AS.cons (sp_asg (v := .bool _) rfl ?_)
      refine AS.cons (sp_asg rfl ?_)
      refine AS.nil ?_
      intro _ S
      refine W.ret ?_
      first | exact ret2 rfl rfl rfl S fun w' S' => ⟨by rw [hv, he]; rfl, S'.mod⟩
end
end Go.Proofs.YtmpclgepoemneaaDoor

/-
  Wrong, on the other side.
-/
namespace Go.Proofs.YtmpclgepoemneaaDoor
set_option maxRecDepth 100000
open Go.Hu Go.RowKit
section
variable (b : Bk) (la : Option Addr) (lc : Nat) (ca : Option Addr) (cc : Nat) (mp : Nat)
theorem canB_bt (s : Nat) : canB (wo b fun i => s.testBit i) = Pw b (btU s b.cries.length) := by unfold Pw; rw [inQ_bt]
theorem wrongR (w : World) (hl : Ints w la lc b.land) (hC : Cries w ca cc b.cries) : Ct Tryd.prog 36 #[.agg (bkL b la lc ca cc).toArray] w (fun u w' => ∃ i, ListR (wrongL b) (wrongE b) u i ∧ St no w w' (upd eL 0 i) []) := by
  refine fn_intro (args := [.agg (bkL b la lc ca cc).toArray]) Tryd.func36 rfl rfl (by kernel_rfl) ?_
  have S := St.start no w
  refine W.seq (W.region S ?_)
  refine AS.cons (sp_boxa 1 rfl (fun b1 => ?_))
  refine AS.cons (sp_asg rfl ?_)
  refine AS.cons (sp_asg rfl ?_)
  refine AS.nil ?_
  intro _ S
  refine W.seq (W.seq (W.region S ?_))
  refine AS.cons (sp_ldw 1 rfl rfl ag_26_7 ?_)
  refine AS.cons (sp_call [] rfl rfl cf_19 (fun F w _ S => checkR _ _ _ _ _ w (hl.ext S.mod) (hC.ext S.mod)) ?_)
  refine AS.cons (sp_asg (v := .int _ _) rfl ?_)
  refine AS.nil ?_
  intro _ S
  refine W.seq (W.region S ?_)
  refine AS.cons (sp_move (v := .int _ _) rfl ?_)
  refine AS.cons (sp_neq rfl rfl ?_)
  refine AS.nil ?_
  intro _ S
  refine W.condd rfl (fun c12 => ?_) (fun c12 => ?_)
  · skip
    have hv : wrongE b = chkV b := by unfold wrongE chkV; rw [chk_no c12]; rfl
    have hwl : wrongL b = [] := by unfold wrongL; rw [chk_no c12]; rfl
    refine W.seq (W.region S ?_)
    refine AS.cons (sp_move (v := .int _ _) rfl ?_)
    refine AS.cons (sp_asg rfl ?_)
    refine AS.cons (sp_asg (v := .int _ _) rfl ?_)
    refine AS.nil ?_
    intro _ S
    refine W.ret ?_
    first | exact ret2 rfl rfl rfl S fun w' S' => ⟨_, ⟨none, 0, by rw [hwl]; exact Nat.le_refl _, by rw [hwl, hv]; rfl, by rw [hwl]; rfl⟩, St.noneS S'⟩ | exact ret2 rfl rfl rfl S fun w' S' => ⟨_, ⟨a, c, by rw [hwl]; exact St.slc_le S' 900 rfl, by rw [hwl, hv]; rfl, by rw [hwl]; rfl⟩, S'.only 900⟩
  · skip
    have hok := chk_ok c12
    have hbk := okAll_ok hok
    have hcl := hbk.lc
    have hll := hbk.ll
    obtain ⟨N, hN⟩ : ∃ N, b.cries.length = N := ⟨_, rfl⟩
    obtain ⟨M, hM⟩ : ∃ M, 2 ^ N = M := ⟨_, rfl⟩
    have hp : (1 : Int) * 2 ^ ((b.cries.length : Int)).toNat = (M : Int) := by rw [hN, Int.toNat_natCast, Int.one_mul, ← hM, Int.natCast_pow]; rfl
    have hM1 : 1 ≤ M ∧ M ≤ 256 := by
      rw [← hM]
      exact ⟨Nat.one_le_two_pow, Nat.le_trans (Nat.pow_le_pow_right (by omega) (show N ≤ 8 by omega)) (by decide)⟩
    have hq : (M : Int) - 1 = ((M - 1 : Nat) : Int) := by omega
    have hwq : ∀ s : Nat, (wo b fun i => Nat.testBit s i).cries.length ≤ 8 := fun s => Nat.le_trans (kpU_len _ _ _) hcl
    refine W.skip ?_
    refine W.seq (W.region S ?_)
    refine AS.cons (sp_fa rfl fo_26_5_6 ?_)
    refine AS.cons (sp_ld 1 rfl rfl sc_24 rfl ?_)
    refine AS.cons (sp_len rfl sl_24_46_7 ?_)
    refine AS.cons (sp_asg (v := .int _ _) rfl ?_)
    refine AS.nil ?_
    intro _ S
    refine W.seq (W.region S ?_)
    refine AS.cons (sp_move (v := .int _ _) rfl ?_)
    refine AS.cons (sp_shl rfl rfl (by omega) (by rw [hp]; omega) ?_)
    refine AS.cons (sp_sub rfl rfl (by rw [hp]; omega) ?_)
    refine AS.cons (sp_move (v := .int _ _) rfl ?_)
    refine AS.cons (sp_call1 21 [] _ (vs := [iv ((M - 1 : Nat) : Int), iv (b.cries.length : Int)]) rfl (by rw [← hq, ← hp]; rfl) cf_53 (fun F w _ S => bitsF (M - 1) b.cries.length (by omega) (by omega) w) ?_ (by simp))
    rintro v21 i21 ⟨⟨a21, c21, rfl, hac⟩, rfl⟩
    refine AS.cons (sp_asg rfl ?_)
    refine AS.nil ?_
    intro _ S
    refine W.seq (W.seq (W.draw S mixed (fun i => ([KD.q [1], KD.q [], KD.q [], KD.q [], KD.e [] [26], KD.e [26] [], KD.q []] : List KD)[i]?) [] [0, 1, 2, 3, 4, 5, 6] (by kernel_rfl) ?_))
    refine AW.cons rfl rfl (sp_ldw 1 rfl rfl ag_26_7 ?_)
    refine AW.cons rfl rfl (sp_move (v := .int _ _) rfl ?_)
    refine AW.cons rfl rfl (sp_shl rfl rfl (by omega) (by rw [hp]; omega) ?_)
    refine AW.cons rfl rfl (sp_sub rfl rfl (by rw [hp]; omega) ?_)
    refine AW.cons rfl rfl (sp_call1 26 [] _ (vs := [.agg (bkL b la lc ca cc).toArray, iv ((M - 1 : Nat) : Int)]) rfl (by rw [← hq, ← hp]; rfl) cf_92 (fun F w _ S => withoutF b la lc ca cc (M - 1) (by omega) (by omega) w (hC.ext S.mod)) ?_ (fun _ => ⟨_, _, none, _, rfl, Nat.le_refl _, rfl⟩))
    rintro v26 i26 ⟨a26, c26, rfl, hac26, rfl⟩
    refine AW.cons rfl rfl (sp_call [26] rfl rfl cf_72 (fun F w' hF S => rightG (wo b fun i => (M - 1).testBit i) la lc a26 c26 hbk.num (wo_ok hbk _).cry (by have := hwq (M - 1); omega) (show b.land.length ≤ 1000000 by omega) w' (hl.ext S.mod) (S.slc_rd (k := 26) ((hF 26 (by simp)).trans rfl) (by have := hwq (M - 1); omega))) ?_)
    refine AW.cons rfl rfl (sp_not rfl ?_)
    refine AW.nil ?_
    intro _ S
    refine W.cond rfl (fun c28 => ?_) (fun c28 => ?_)
    · skip
      have hall : Pw b (btU (2 ^ b.cries.length - 1) b.cries.length) = false := by rw [hN, hM, ← hN, ← canB_bt]; simpa using c28
      have hno := wrO_all hall (fun m hu h => Pw_all hu h)
      have hv : wrongE b = 12 := by unfold wrongE wrongO; rw [if_pos hok, hno]; rfl
      have hwl : wrongL b = [] := by unfold wrongL wrongO; rw [if_pos hok, hno]; rfl
      refine W.seq (W.region S ?_)
      refine AS.cons (sp_asg rfl ?_)
      refine AS.cons (sp_asg rfl ?_)
      refine AS.nil ?_
      intro _ S
      refine W.ret ?_
      first | exact ret2 rfl rfl rfl S fun w' S' => ⟨_, ⟨none, 0, by rw [hwl]; exact Nat.le_refl _, by rw [hwl, hv]; rfl, by rw [hwl]; rfl⟩, St.noneS S'⟩ | exact ret2 rfl rfl rfl S fun w' S' => ⟨_, ⟨a, c, by rw [hwl]; exact St.slc_le S' 900 rfl, by rw [hwl, hv]; rfl, by rw [hwl]; rfl⟩, S'.only 900⟩
    · skip
      refine W.skip ?_
      have hall : Pw b (btU (2 ^ b.cries.length - 1) b.cries.length) = true := by rw [hN, hM, ← hN, ← canB_bt]; simpa using c28
      have hyes := rfU_wrO hall
      rw [hN, hM] at hyes
      have hv : wrongE b = 0 := by unfold wrongE wrongO; rw [if_pos hok, hN, hyes]; rfl
      have hwl : wrongL b = rfU N (Pw b) M := by unfold wrongL wrongO; rw [if_pos hok, hN, hyes]; rfl
      have hrl : ∀ j, (rfU N (Pw b) j).length ≤ N := fun j => by
        have := Up.len (Int.le_refl 0) (by omega) (rfU_best (N := N) (P := Pw b) (by rw [← hN]; exact hall) j).1
        omega
      have S := S.mv (k := 900) (k' := 21) (by decide)
      refine W.seq (W.seq (W.region S ?_))
      refine AS.cons (sp_asg rfl ?_)
      refine AS.nil ?_
      intro _ S
      refine W.block ?_
      refine W.loopS S [6, 7, 8, 29, 30, 31, 32, 33, 34, 35, 36, 37, 38, 39, 40, 41, 42, 43, 44, 45, 46, 47] [37, 44, 900] (fun (z : Nat × Option Addr × Nat) => [(7, iv z.1), (6, .slice z.2.1 (rfU N (Pw b) z.1).length z.2.2)]) (fun z => [(900, slc 3 1 (.slice z.2.1 (rfU N (Pw b) z.1).length z.2.2) (rfU N (Pw b) z.1).length ((rfU N (Pw b) z.1).map iv))]) (fun z => z.1 ≤ M) (fun z => M - z.1) (0, a21, c21) (Nat.zero_le _) ⟨rfl, by show Value.slice a21 (btU (M - 1) b.cries.length).length c21 = .slice a21 (btU (2 ^ N - 1) N).length c21; rw [hN, hM], trivial⟩ ⟨by show slc 3 1 (.slice a21 (btU (M - 1) b.cries.length).length c21) (btU (M - 1) b.cries.length).length ((btU (M - 1) b.cries.length).map iv) = slc 3 1 (.slice a21 (btU (2 ^ N - 1) N).length c21) (btU (2 ^ N - 1) N).length ((btU (2 ^ N - 1) N).map iv); rw [hN, hM], trivial⟩ ?_
      rintro ⟨j, a, c⟩ σ M' w1 hj S
      replace hj : j ≤ M := hj
      have hrj := hrl j
      refine W.seq (W.seq (W.region S ?_))
      refine AS.cons (sp_move (v := .int _ _) rfl ?_)
      refine AS.cons (sp_move (v := .int _ _) rfl ?_)
      refine AS.cons (sp_shl rfl rfl (by omega) (by rw [hp]; omega) ?_)
      refine AS.cons (sp_lss rfl rfl ?_)
      refine AS.nil ?_
      intro _ S
      refine W.condd rfl (fun c32 => ?_) (fun c32 => ?_)
      · skip
        rw [hp] at c32
        have hlt : j < M := by omega
        refine W.skip ?_
        refine W.seq (W.block ?_)
        refine W.seq (W.region S ?_)
        refine AS.cons (sp_move (v := .int _ _) rfl ?_)
        refine AS.cons (sp_move (v := .int _ _) rfl ?_)
        refine AS.cons (sp_call1 37 [] _ rfl rfl cf_53 (fun F w _ S => bitsF _ _ (by omega) (by omega) w) ?_ (by simp))
        rintro v37 i37 ⟨⟨a37, c37, rfl, hac37⟩, rfl⟩
        have hbl := btU_len j b.cries.length
        refine AS.cons (sp_asg rfl ?_)
        refine AS.nil ?_
        intro _ S
        refine W.seq (W.region S ?_)
        refine AS.cons (sp_move rfl ?_)
        refine AS.cons (sp_move rfl ?_)
        refine AS.cons (sp_call [37, 900] rfl rfl cf_54 (fun F w' hF S => fewerF a37 c37 (btU j b.cries.length) a c (rfU N (Pw b) j) w' (S.slc_rd (k := 37) ((hF 37 (by simp)).trans rfl) (by omega)) (S.slc_rd (k := 900) ((hF 900 (by simp)).trans rfl) (by omega))) ?_)
        refine AS.cons (sp_move (v := .bool _) rfl ?_)
        refine AS.split 41 rfl (fun g41 => ?_) (fun g41 => ?_)
        · skip
          refine AS.cons (sp_ldw 1 rfl rfl ag_26_7 ?_)
          refine AS.cons (sp_move (v := .int _ _) rfl ?_)
          refine AS.cons (sp_call1 44 [] _ rfl rfl cf_92 (fun F w _ S => withoutF b la lc ca cc j (by omega) (by omega) w (hC.ext S.mod)) ?_ (by simp))
          rintro v44 i44 ⟨a44, c44, rfl, hac44, rfl⟩
          refine AS.cons (sp_call [44] rfl rfl cf_72 (fun F w' hF S => rightG (wo b fun i => j.testBit i) la lc a44 c44 hbk.num (wo_ok hbk _).cry (by have := hwq j; omega) (show b.land.length ≤ 1000000 by omega) w' (hl.ext S.mod) (S.slc_rd (k := 44) ((hF 44 (by simp)).trans rfl) (by have := hwq j; omega))) ?_)
          refine AS.cons (sp_pick_t rfl (v := .bool _) rfl ?_)
          refine AS.nil ?_
          intro _ S
          refine W.cond rfl (fun c46 => ?_) (fun c46 => ?_)
          · skip
            have hst : rfU N (Pw b) (j + 1) = btU j N := by rw [rfU, if_pos]; rw [← hN, ← canB_bt]; exact ⟨by rw [hN] at g41; rw [hN]; exact g41, c46⟩
            have S := S.mv (k := 900) (k' := 37) (by decide)
            refine W.region S ?_
            refine AS.cons (sp_move rfl ?_)
            refine AS.cons (sp_asg rfl ?_)
            refine AS.nil ?_
            intro _ S
            refine W.region S ?_
            refine AS.cons (sp_move (v := .int _ _) rfl ?_)
            refine AS.cons (sp_add rfl rfl (by first | omega | (simp only [decide_eq_true_eq, decide_eq_false_iff_not] at *; omega)) ?_)
            refine AS.cons (sp_asg (v := .int _ _) rfl ?_)
            refine AS.nil ?_
            intro _ S
            first | exact ⟨(j + 1, a37, c37), _, hlt, by show M - (j + 1) < M - j; omega, ⟨by simp [upd], by show Value.slice a37 (btU j b.cries.length).length c37 = .slice a37 (rfU N (Pw b) (j + 1)).length c37; rw [hst, hN], trivial⟩, ⟨by show slc 3 1 (.slice a37 (btU j b.cries.length).length c37) (btU j b.cries.length).length ((btU j b.cries.length).map iv) = slc 3 1 (.slice a37 (rfU N (Pw b) (j + 1)).length c37) (rfU N (Pw b) (j + 1)).length ((rfU N (Pw b) (j + 1)).map iv); rw [hst, hN], trivial⟩, by repeat (first | exact Agr.refl _ _ | exact Agr.msk _ _ _ | refine Agr.upd ?_ _ rfl | refine Agr.upds ?_ rfl | refine Agr.mskIn ?_ rfl), by repeat (first | exact Agr.refl _ _ | exact Agr.msk _ _ _ | refine Agr.upd ?_ _ rfl | refine Agr.upds ?_ rfl | refine Agr.mskIn ?_ rfl), rfl, S⟩ | exact ⟨(j + 1, a, c), _, hlt, by show M - (j + 1) < M - j; omega, ⟨by simp [upd], by show Value.slice a (rfU N (Pw b) j).length c = .slice a (rfU N (Pw b) (j + 1)).length c; first | rw [hst] | (rw [rfU, if_neg]; rintro ⟨h1, _⟩; rw [hN, h1] at g41; cases g41), trivial⟩, ⟨by show slc 3 1 (.slice a (rfU N (Pw b) j).length c) (rfU N (Pw b) j).length ((rfU N (Pw b) j).map iv) = slc 3 1 (.slice a (rfU N (Pw b) (j + 1)).length c) (rfU N (Pw b) (j + 1)).length ((rfU N (Pw b) (j + 1)).map iv); first | rw [hst] | (rw [rfU, if_neg]; rintro ⟨h1, _⟩; rw [hN, h1] at g41; cases g41), trivial⟩, by repeat (first | exact Agr.refl _ _ | exact Agr.msk _ _ _ | refine Agr.upd ?_ _ rfl | refine Agr.upds ?_ rfl | refine Agr.mskIn ?_ rfl), by repeat (first | exact Agr.refl _ _ | exact Agr.msk _ _ _ | refine Agr.upd ?_ _ rfl | refine Agr.upds ?_ rfl | refine Agr.mskIn ?_ rfl), rfl, S⟩
          · skip
            have hst : rfU N (Pw b) (j + 1) = rfU N (Pw b) j := by rw [rfU, if_neg]; rw [← hN, ← canB_bt]; rintro ⟨_, h2⟩; rw [c46] at h2; cases h2
            refine W.skip ?_
            refine W.region S ?_
            refine AS.cons (sp_move (v := .int _ _) rfl ?_)
            refine AS.cons (sp_add rfl rfl (by first | omega | (simp only [decide_eq_true_eq, decide_eq_false_iff_not] at *; omega)) ?_)
            refine AS.cons (sp_asg (v := .int _ _) rfl ?_)
            refine AS.nil ?_
            intro _ S
            first | exact ⟨(j + 1, a37, c37), _, hlt, by show M - (j + 1) < M - j; omega, ⟨by simp [upd], by show Value.slice a37 (btU j b.cries.length).length c37 = .slice a37 (rfU N (Pw b) (j + 1)).length c37; rw [hst, hN], trivial⟩, ⟨by show slc 3 1 (.slice a37 (btU j b.cries.length).length c37) (btU j b.cries.length).length ((btU j b.cries.length).map iv) = slc 3 1 (.slice a37 (rfU N (Pw b) (j + 1)).length c37) (rfU N (Pw b) (j + 1)).length ((rfU N (Pw b) (j + 1)).map iv); rw [hst, hN], trivial⟩, by repeat (first | exact Agr.refl _ _ | exact Agr.msk _ _ _ | refine Agr.upd ?_ _ rfl | refine Agr.upds ?_ rfl | refine Agr.mskIn ?_ rfl), by repeat (first | exact Agr.refl _ _ | exact Agr.msk _ _ _ | refine Agr.upd ?_ _ rfl | refine Agr.upds ?_ rfl | refine Agr.mskIn ?_ rfl), rfl, S⟩ | exact ⟨(j + 1, a, c), _, hlt, by show M - (j + 1) < M - j; omega, ⟨by simp [upd], by show Value.slice a (rfU N (Pw b) j).length c = .slice a (rfU N (Pw b) (j + 1)).length c; first | rw [hst] | (rw [rfU, if_neg]; rintro ⟨h1, _⟩; rw [hN, h1] at g41; cases g41), trivial⟩, ⟨by show slc 3 1 (.slice a (rfU N (Pw b) j).length c) (rfU N (Pw b) j).length ((rfU N (Pw b) j).map iv) = slc 3 1 (.slice a (rfU N (Pw b) (j + 1)).length c) (rfU N (Pw b) (j + 1)).length ((rfU N (Pw b) (j + 1)).map iv); first | rw [hst] | (rw [rfU, if_neg]; rintro ⟨h1, _⟩; rw [hN, h1] at g41; cases g41), trivial⟩, by repeat (first | exact Agr.refl _ _ | exact Agr.msk _ _ _ | refine Agr.upd ?_ _ rfl | refine Agr.upds ?_ rfl | refine Agr.mskIn ?_ rfl), by repeat (first | exact Agr.refl _ _ | exact Agr.msk _ _ _ | refine Agr.upd ?_ _ rfl | refine Agr.upds ?_ rfl | refine Agr.mskIn ?_ rfl), rfl, S⟩
        · skip
          refine AS.cons (sp_skip rfl ?_)
          refine AS.cons (sp_skip rfl ?_)
          refine AS.cons (sp_skip rfl ?_)
          refine AS.cons (sp_skip rfl ?_)
          refine AS.cons (sp_pick_f rfl (v := .bool _) rfl ?_)
          refine AS.nil ?_
          intro _ S
          refine W.cond (b := false) rfl (fun h => nomatch h) (fun _ => ?_)
          refine W.skip ?_
          refine W.region S ?_
          refine AS.cons (sp_move (v := .int _ _) rfl ?_)
          refine AS.cons (sp_add rfl rfl (by first | omega | (simp only [decide_eq_true_eq, decide_eq_false_iff_not] at *; omega)) ?_)
          refine AS.cons (sp_asg (v := .int _ _) rfl ?_)
          refine AS.nil ?_
          intro _ S
          first | exact ⟨(j + 1, a37, c37), _, hlt, by show M - (j + 1) < M - j; omega, ⟨by simp [upd], by show Value.slice a37 (btU j b.cries.length).length c37 = .slice a37 (rfU N (Pw b) (j + 1)).length c37; rw [hst, hN], trivial⟩, ⟨by show slc 3 1 (.slice a37 (btU j b.cries.length).length c37) (btU j b.cries.length).length ((btU j b.cries.length).map iv) = slc 3 1 (.slice a37 (rfU N (Pw b) (j + 1)).length c37) (rfU N (Pw b) (j + 1)).length ((rfU N (Pw b) (j + 1)).map iv); rw [hst, hN], trivial⟩, by repeat (first | exact Agr.refl _ _ | exact Agr.msk _ _ _ | refine Agr.upd ?_ _ rfl | refine Agr.upds ?_ rfl | refine Agr.mskIn ?_ rfl), by repeat (first | exact Agr.refl _ _ | exact Agr.msk _ _ _ | refine Agr.upd ?_ _ rfl | refine Agr.upds ?_ rfl | refine Agr.mskIn ?_ rfl), rfl, S⟩ | exact ⟨(j + 1, a, c), _, hlt, by show M - (j + 1) < M - j; omega, ⟨by simp [upd], by show Value.slice a (rfU N (Pw b) j).length c = .slice a (rfU N (Pw b) (j + 1)).length c; first | rw [hst] | (rw [rfU, if_neg]; rintro ⟨h1, _⟩; rw [hN, h1] at g41; cases g41), trivial⟩, ⟨by show slc 3 1 (.slice a (rfU N (Pw b) j).length c) (rfU N (Pw b) j).length ((rfU N (Pw b) j).map iv) = slc 3 1 (.slice a (rfU N (Pw b) (j + 1)).length c) (rfU N (Pw b) (j + 1)).length ((rfU N (Pw b) (j + 1)).map iv); first | rw [hst] | (rw [rfU, if_neg]; rintro ⟨h1, _⟩; rw [hN, h1] at g41; cases g41), trivial⟩, by repeat (first | exact Agr.refl _ _ | exact Agr.msk _ _ _ | refine Agr.upd ?_ _ rfl | refine Agr.upds ?_ rfl | refine Agr.mskIn ?_ rfl), by repeat (first | exact Agr.refl _ _ | exact Agr.msk _ _ _ | refine Agr.upd ?_ _ rfl | refine Agr.upds ?_ rfl | refine Agr.mskIn ?_ rfl), rfl, S⟩
      · skip
        rw [hp] at c32
        obtain rfl : j = M := by omega
        refine W.exit ?_
        refine W.seq (W.region S ?_)
        refine AS.cons (sp_move rfl ?_)
        refine AS.cons (sp_asg rfl ?_)
        refine AS.cons (sp_asg rfl ?_)
        refine AS.nil ?_
        intro _ S
        refine W.ret ?_
        first | exact ret2 rfl rfl rfl S fun w' S' => ⟨_, ⟨none, 0, by rw [hwl]; exact Nat.le_refl _, by rw [hwl, hv]; rfl, by rw [hwl]; rfl⟩, St.noneS S'⟩ | exact ret2 rfl rfl rfl S fun w' S' => ⟨_, ⟨a, c, by rw [hwl]; exact St.slc_le S' 900 rfl, by rw [hwl, hv]; rfl, by rw [hwl]; rfl⟩, S'.only 900⟩
end
end Go.Proofs.YtmpclgepoemneaaDoor
