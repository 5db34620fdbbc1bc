/-
  Lemmas of this proof, several texts one behind the other; no condition beyond what each says.
-/
import Derived.Test.YtmpclgepoemneaaDoorMe
import Derived.Test.YtmpclgepoemneaaDoorRows
import Derived.ProofKit
import Derived.LaidMore
import Derived.Stop.Joined
import Derived.OpenShut
import Derived.Deep.Slices
/-
  Fits and Wrong, in the program.
-/
namespace Go.Proofs.YtmpclgepoemneaaDoor
set_option maxRecDepth 100000
open Go.Hu Go.RowKit
section
variable (b : Bk) (la : Option Addr) (lc : Nat) (ca : Option Addr) (cc : Nat) (mp : Nat)
theorem fitsP (x : Cry) (w : World) (hK : Kinds w) (hl : Ints w la lc b.land) (hC : Cries w ca cc b.cries) : Ct Tryd.prog 33 #[.agg (bkL b la lc ca cc).toArray, .agg (cyL x).toArray] w (fun u w' => u = .tuple #[.bool (fitsV b x), iv (fitsE b x)] ∧ Ext w w') := by
  refine fn_intro (args := [.agg (bkL b la lc ca cc).toArray, .agg (cyL x).toArray]) Tryd.func33 rfl rfl (by kernel_rfl) ?_
  have S := St.start no w
  have hle : b.cries.length ≤ cc := Rd.le hC
  refine W.seq (W.region S ?_)
  refine AS.cons (sp_boxa 2 rfl (fun b2 => ?_))
  refine AS.cons (sp_boxa 3 rfl (fun b3 => ?_))
  refine AS.cons (sp_asg rfl ?_)
  refine AS.cons (sp_asg rfl ?_)
  refine AS.nil ?_
  intro _ S
  refine W.seq (W.seq (W.region S ?_))
  refine AS.cons (sp_ldw 2 rfl rfl ag_26_7 ?_)
  refine AS.cons (sp_call [] rfl rfl cf_18 (fun F w _ S => check _ _ _ _ _ w (hl.ext S.mod) (hC.ext S.mod)) ?_)
  refine AS.cons (sp_asg (v := .int _ _) rfl ?_)
  refine AS.nil ?_
  intro _ S
  refine W.seq (W.region S ?_)
  refine AS.cons (sp_move (v := .int _ _) rfl ?_)
  refine AS.cons (sp_neq rfl rfl ?_)
  refine AS.nil ?_
  intro _ S
  refine W.condd rfl (fun c11 => ?_) (fun c11 => ?_)
  · skip
    have hv : fitsV b x = false := by unfold fitsV; rw [chk_no c11]; rfl
    have he : fitsE b x = chkV b := by unfold fitsE chkV; rw [chk_no c11]; rfl
    refine W.seq (W.region S ?_)
    refine AS.cons (sp_move (v := .int _ _) rfl ?_)
    refine AS.cons (sp_asg rfl ?_)
    refine AS.cons (sp_asg (v := .int _ _) rfl ?_)
    refine AS.nil ?_
    intro _ S
    refine W.ret ?_
    first | exact ret2 rfl rfl rfl S fun w' S' => ⟨by rw [hv, he]; rfl, S'.mod⟩
  · skip
    have hok := chk_ok c11
    have hbk := okAll_ok hok
    have hcl := hbk.lc
    have hll := hbk.ll
    refine W.skip ?_
    refine W.seq (W.seq (W.region S ?_))
    refine AS.cons (sp_ldw 3 rfl rfl ag_46_7 ?_)
    refine AS.cons (sp_call [] rfl rfl cf_69 (fun F w _ S => isCry _ w) ?_)
    refine AS.cons (sp_not rfl ?_)
    refine AS.nil ?_
    intro _ S
    refine W.cond rfl (fun c15 => ?_) (fun c15 => ?_)
    · skip
      have hcx : ¬ CryOk x := of_decide_eq_false (by rw [Bool.not_eq_true'] at c15; exact c15)
      have hv : fitsV b x = false := by unfold fitsV; rw [decide_eq_false hcx]; simp
      have he : fitsE b x = 11 := by unfold fitsE; rw [if_pos hok, if_neg hcx]
      refine W.seq (W.region S ?_)
      refine AS.cons (sp_asg rfl ?_)
      refine AS.cons (sp_asg rfl ?_)
      refine AS.nil ?_
      intro _ S
      refine W.ret ?_
      first | exact ret2 rfl rfl rfl S fun w' S' => ⟨by rw [hv, he]; rfl, S'.mod⟩
    · skip
      have hcx : CryOk x := of_decide_eq_true (by rw [Bool.not_eq_false'] at c15; exact c15)
      have hv : fitsV b x = canB (wi b x) := by unfold fitsV; rw [hok, decide_eq_true hcx]; rfl
      have he : fitsE b x = 0 := by unfold fitsE; rw [if_pos hok, if_pos hcx]
      have hwl := wi_len b x
      have hb := hbk.num
      refine W.skip ?_
      refine W.seq (W.region S ?_)
      refine AS.cons (sp_ldw 2 rfl rfl ag_26_7 ?_)
      refine AS.cons (sp_alloc 7 zv_26 rfl (fun b7 => ?_))
      refine AS.cons (sp_st 7 rfl rfl rfl rfl sz_26_7 rfl rfl ?_)
      refine AS.nil ?_
      intro _ S
      refine W.seq (W.draw S mixed (fun i => ([KD.q [], KD.q [2], KD.q [], KD.q [2], KD.q [], KD.q [], KD.q [2], KD.q [], KD.q [], KD.q [3], KD.a 27, KD.e [27] [28], KD.q [], KD.e [7] [7]] : List KD)[i]?) [] [0, 1, 2, 3, 4, 5, 6, 7, 8, 9, 10, 11, 12, 13] (by kernel_rfl) ?_)
      refine AW.cons rfl rfl (sp_fa rfl fo_26_5_6 ?_)
      refine AW.cons rfl rfl (sp_ld 2 rfl rfl sc_24 rfl ?_)
      refine AW.cons rfl rfl (sp_fa rfl fo_26_5_6 ?_)
      refine AW.cons rfl rfl (sp_ld 2 rfl rfl sc_24 rfl ?_)
      refine AW.cons rfl rfl (sp_len rfl sl_24_46_7 ?_)
      refine AW.cons rfl rfl (sp_fa rfl fo_26_5_6 ?_)
      refine AW.cons rfl rfl (sp_ld 2 rfl rfl sc_24 rfl ?_)
      refine AW.cons rfl rfl (sp_len rfl sl_24_46_7 ?_)
      refine AW.cons rfl rfl (sp_sl3 rfl rfl rfl sl_24_46_7 (by first | omega | (simp only [decide_eq_true_eq, decide_eq_false_iff_not] at *; omega)) ?_)
      refine AW.cons rfl rfl (sp_ldw 3 rfl rfl ag_46_7 ?_)
      refine AW.cons rfl rfl (sp_bs 27 [.tmp 26] _ sl_24_46_7 zs_46_7 rfl rfl rfl rfl rfl rfl (fun b27 => ?_))
      refine AW.cons rfl rfl (sp_appN (n := b.cries.length) 28 [27] rfl rfl sl_24_46_7 zs_46_7 (fun F w _ S => Rd.cap (hC.ext S.mod)) (fun F w hF S => rd_pt (S.get ((hF 27 (by simp)).trans rfl)).1 rfl (by omega) (by omega)) (by omega) (by omega) (fun a28 c28 => ?_))
      refine AW.cons rfl rfl (sp_fa rfl fo_26_5_6 ?_)
      refine AW.cons rfl rfl (sp_st 7 rfl rfl rfl rfl sz_24_1 rfl rfl ?_)
      refine AW.nil ?_
      intro _ S
      refine W.seq (W.region S ?_)
      refine AS.cons (sp_ldw (l := bkL (wi b x) la lc a28 c28) 7 rfl (by rw [← bkL_wi]; rfl) ag_26_7 ?_)
      refine AS.cons (sp_call1 31 [] _ rfl rfl cf_63 (fun F w _ S => opened (wi b x) la lc a28 c28 hb (show b.land.length ≤ 1000000 by omega) w (hl.ext S.mod)) ?_ (by simp))
      rintro v31 i31 ⟨mp, rfl, rfl⟩
      refine AS.cons (sp_call [31, 28] rfl rfl cf_71 (fun F w' hF S => can (wi b x) la lc a28 c28 mp hb (wi_cry hbk.cry hcx) (by omega) w' (hK.ext S.mod) (S.slc_rd (k := 28) ((hF 28 (by simp)).trans (show slc 46 7 (.slice a28 (b.cries.length + 1) c28) (b.cries.length + 1) (b.cries.flatMap cyL ++ cyL x) = CrS (wi b x) a28 c28 from CrS_wi)) (by omega)) (mapAt S ((hF 31 (by simp)).trans rfl))) ?_)
      refine AS.cons (sp_asg (v := .bool _) rfl ?_)
      refine AS.cons (sp_asg rfl ?_)
      refine AS.nil ?_
      intro _ S
      refine W.ret ?_
      first | exact ret2 rfl rfl rfl S fun w' S' => ⟨by rw [hv, he]; rfl, S'.mod⟩
/-- What a search hands back. -/
def ChR (O : Option (List Int)) (s : List Int) (sa : Option Addr) (sc : Nat) (u : Value) (i : HP) : Prop :=
  ∃ v, u = .tuple #[v, .bool O.isSome] ∧ ∀ l, O = some l → ∃ a c, v = .slice a l.length c ∧ l.length ≤ c ∧ (i = slc 3 1 (.slice a l.length c) l.length (l.map iv) ∨ (l = s ∧ a = sa ∧ c = sc))
theorem ChR_ne (O : Option (List Int)) (s : List Int) (sa : Option Addr) (sc : Nat) : ∃ u i, ChR O s sa sc u i := by
  cases O with
  | none => exact ⟨_, emp, nilS, rfl, fun l h => by cases h⟩
  | some l => exact ⟨_, _, .slice none l.length l.length, rfl, fun l' h => by cases h; exact ⟨none, l.length, rfl, Nat.le_refl _, .inl rfl⟩⟩
/-- What the search has captured. -/
structure ChAt (w : World) (xb xx xc : Nat) : Prop where
  hb : At w xb (bayL b la lc ca cc mp) 77
  hx : At w xx (bkL b la lc ca cc) 26
  hc : At w xc [.func (.func 91) #[] #[oP xb, oP xx, oP xc]] 104
theorem ChAt.ext {w w' : World} {xb xx xc : Nat} (h : ChAt b la lc ca cc mp w xb xx xc) (E : Ext w w') : ChAt b la lc ca cc mp w' xb xx xc := ⟨h.hb.ext E, h.hx.ext E, h.hc.ext E⟩
theorem chooseF (hbk : BookOk b) (xb xx xc : Nat) : ∀ (r : Nat) (s : List Int) (sa : Option Addr) (sc : Nat) (w : World), Kinds w → Cries w ca cc b.cries → MapAt w mp b → ChAt b la lc ca cc mp w xb xx xc → Ints w sa sc s → (∀ x ∈ s, 0 ≤ x ∧ x < 8) → s.length + r ≤ 8 →
    Ct Tryd.prog 91 #[.slice sa s.length sc, iv ((s.length + r : Nat) : Int), oP xb, oP xx, oP xc] w (fun u w' => ∃ i, ChR (chL b.cries.length (Pw b) r s) s sa sc u i ∧ St no w w' (upd eL 0 i) []) := by
  intro r
  induction r with
  | zero =>
    intro s sa sc w hK hC hM hA hs hbd hr
    refine fn_intro (args := [.slice sa s.length sc, iv ((s.length + 0 : Nat) : Int), oP xb, oP xx, oP xc]) Tryd.func91 rfl rfl (by kernel_rfl) ?_
    have S := St.start no w
    have hcl := hbk.lc
    have hb := hbk.num
    have hcs : Cs w xb 0 (bayL b la lc ca cc mp) := fun u v hv => by rw [cell_of_block hA.hb]; simpa using hv
    refine W.seq (W.region S ?_)
    refine AS.cons (sp_asg rfl ?_)
    refine AS.cons (sp_asg rfl ?_)
    refine AS.nil ?_
    intro _ S
    refine W.seq (W.region S ?_)
    refine AS.cons (sp_move rfl ?_)
    refine AS.cons (sp_len rfl sl_22_3_1 ?_)
    refine AS.cons (sp_asg (v := .int _ _) rfl ?_)
    refine AS.nil ?_
    intro _ S
    refine W.seq (W.seq (W.region S ?_))
    refine AS.cons (sp_move (v := .int _ _) rfl ?_)
    refine AS.cons (sp_move (v := .int _ _) rfl ?_)
    refine AS.cons (sp_eql rfl rfl ?_)
    refine AS.nil ?_
    intro _ S
    refine W.condd rfl (fun c21 => ?_) (fun c21 => ?_)
    · skip
      refine W.seq (W.region S ?_)
      refine AS.cons (sp_ldoa (vs := bayL b la lc ca cc mp) rfl ag_77_8 hcs (fun h => h) ?_)
      refine AS.cons (sp_alloc 10 zv_77 rfl (fun b10 => ?_))
      refine AS.cons (sp_st 10 rfl rfl rfl rfl sz_77_8 rfl rfl ?_)
      refine AS.nil ?_
      intro _ S
      refine W.seq (W.region S ?_)
      refine AS.cons (sp_fa rfl fo_77_0_0 ?_)
      refine AS.cons (sp_fa rfl fo_26_5_6 ?_)
      refine AS.cons (sp_st 10 rfl rfl rfl rfl sz_24_1 rfl rfl ?_)
      refine AS.nil ?_
      intro _ S
      refine W.seq (W.seq (W.region S ?_))
      refine AS.cons (sp_fa rfl fo_26_5_6 ?_)
      refine AS.cons (sp_ldo (v := .slice ca b.cries.length cc) rfl sc_24 (hA.hx.ld rfl) (fun h => h) ?_)
      refine AS.cons (sp_len rfl sl_24_46_7 ?_)
      refine AS.cons (sp_move rfl ?_)
      refine AS.nil ?_
      intro _ S
      have S := (S.drop 901).weak (k := 901) (i := slc 46 7 nilS 0 []) (fun f hf => by rw [upd_same] at hf; exact slc_nil 46 7 f hf)
      refine W.block ?_
      refine W.loopS S [11, 12, 28, 29, 30, 31, 32, 33, 34, 35, 36, 37, 38, 39, 40, 41, 42, 43, 44, 45] [10, 12, 41, 42, 901] (fun (z : Nat × Option Addr × Nat) => [(28, iv z.1)]) (fun z => [(10, pt b10 (.cells (bayL (woU b (inQ s) z.1) la lc z.2.1 z.2.2 mp).toArray 77 (0, 0))), (901, CrS (woU b (inQ s) z.1) z.2.1 z.2.2)]) (fun z => z.1 ≤ b.cries.length) (fun z => b.cries.length - z.1) (0, none, 0) (Nat.zero_le _) ⟨rfl, trivial⟩ ⟨rfl, rfl, trivial⟩ ?_
      rintro ⟨j, a, c⟩ σ M w1 hj S
      replace hj : j ≤ b.cries.length := hj
      have hkl := kpU_len b.cries (inQ s) j
      refine W.seq (W.region S ?_)
      refine AS.cons (sp_lss rfl rfl ?_)
      refine AS.nil ?_
      intro _ S
      refine W.seq (W.condd rfl (fun c29 => ?_) (fun c29 => ?_))
      · skip
        have hlt : j < b.cries.length := by omega
        obtain ⟨x, hx⟩ := get_some hlt
        refine W.skip ?_
        refine W.seq (W.block ?_)
        refine W.seq (W.region S ?_)
        refine AS.cons (sp_move (v := .int _ _) rfl ?_)
        refine AS.cons (sp_iaR hC rfl rfl sl_24_46_7 (by first | omega | (simp only [decide_eq_true_eq, decide_eq_false_iff_not] at *; omega)) ?_)
        refine AS.cons (sp_ldaR 0 hC (fun _ h => h) rfl ag_46_7 (cries_at hx) (by first | omega | (simp only [decide_eq_true_eq, decide_eq_false_iff_not] at *; omega)) ?_)
        refine AS.cons (sp_alloc 12 zv_46 rfl (fun b12 => ?_))
        refine AS.cons (sp_asg (v := .int _ _) rfl ?_)
        refine AS.cons (sp_st 12 rfl rfl rfl rfl sz_46_7 rfl rfl ?_)
        refine AS.nil ?_
        intro _ S
        refine W.seq (W.region S ?_)
        refine AS.cons (sp_move rfl ?_)
        refine AS.cons (sp_move (v := .int _ _) rfl ?_)
        refine AS.cons (sp_call [] rfl rfl cf_68 (fun F w _ S => contains sa sc s j (by omega) w (hs.ext S.mod)) ?_)
        refine AS.cons (sp_not rfl ?_)
        refine AS.nil ?_
        intro _ S
        refine W.cond rfl (fun c36 => ?_) (fun c36 => ?_)
        · skip
          have hq : inQ s j = false := by rw [Bool.not_eq_true'] at c36; exact c36
          have hw : kpU b.cries (inQ s) (j + 1) = kpU b.cries (inQ s) j ++ [x] := by rw [kpU_succ hx, if_neg (by simp [hq])]
          refine W.region S ?_
          refine AS.cons (sp_fa rfl fo_77_0_0 ?_)
          refine AS.cons (sp_fa rfl fo_26_5_6 ?_)
          refine AS.cons (sp_ld 10 rfl rfl sc_24 rfl ?_)
          refine AS.cons (sp_ldw 12 rfl rfl ag_46_7 ?_)
          refine AS.cons (sp_bs 41 [.tmp 40] _ sl_24_46_7 zs_46_7 rfl rfl rfl rfl rfl rfl (fun b41 => ?_))
          refine AS.cons (sp_app 901 [41] rfl rfl sl_24_46_7 zs_46_7 rfl (fun F w hF S => rd_pt (S.get ((hF 41 (by simp)).trans rfl)).1 rfl (by omega) (by omega)) rfl (by first | omega | (simp only [] at *; omega)) (fun a42 c42 => ?_))
          refine AS.cons (sp_fa rfl fo_77_0_0 ?_)
          refine AS.cons (sp_fa rfl fo_26_5_6 ?_)
          refine AS.cons (sp_st 10 rfl rfl rfl rfl sz_24_1 rfl rfl ?_)
          refine AS.nil ?_
          intro _ S
          refine W.region S ?_
          refine AS.cons (sp_add rfl rfl (by first | omega | (simp only [decide_eq_true_eq, decide_eq_false_iff_not] at *; omega)) ?_)
          refine AS.cons (sp_move (v := .int _ _) rfl ?_)
          refine AS.nil ?_
          intro _ S
          first | exact ⟨(j + 1, a42, c42), _, hlt, by show b.cries.length - (j + 1) < b.cries.length - j; omega, ⟨by simp [upd], trivial⟩, ⟨by show pt b10 _ = pt b10 (.cells [iv b.wide, iv b.high, .slice la b.land.length lc, iv b.h0, iv b.h1, iv b.swim, .slice a42 (kpU b.cries (inQ s) (j + 1)).length c42, .map (some mp)].toArray 77 (0, 0)); rw [hw, List.length_append]; rfl, by show slc 46 7 _ _ _ = slc 46 7 (.slice a42 (kpU b.cries (inQ s) (j + 1)).length c42) (kpU b.cries (inQ s) (j + 1)).length ((kpU b.cries (inQ s) (j + 1)).flatMap cyL); rw [hw, List.length_append, List.flatMap_append]; rfl, trivial⟩, by repeat (first | exact Agr.refl _ _ | exact Agr.msk _ _ _ | refine Agr.upd ?_ _ rfl | refine Agr.upds ?_ rfl | refine Agr.mskIn ?_ rfl), by repeat (first | exact Agr.refl _ _ | exact Agr.msk _ _ _ | refine Agr.upd ?_ _ rfl | refine Agr.upds ?_ rfl | refine Agr.mskIn ?_ rfl), rfl, S⟩ | exact ⟨(j + 1, a, c), _, hlt, by show b.cries.length - (j + 1) < b.cries.length - j; omega, ⟨by simp [upd], trivial⟩, ⟨by show pt b10 _ = pt b10 (.cells [iv b.wide, iv b.high, .slice la b.land.length lc, iv b.h0, iv b.h1, iv b.swim, .slice a (kpU b.cries (inQ s) (j + 1)).length c, .map (some mp)].toArray 77 (0, 0)); rw [hw], by show slc 46 7 _ _ _ = slc 46 7 (.slice a (kpU b.cries (inQ s) (j + 1)).length c) (kpU b.cries (inQ s) (j + 1)).length ((kpU b.cries (inQ s) (j + 1)).flatMap cyL); rw [hw], trivial⟩, by repeat (first | exact Agr.refl _ _ | exact Agr.msk _ _ _ | refine Agr.upd ?_ _ rfl | refine Agr.upds ?_ rfl | refine Agr.mskIn ?_ rfl), by repeat (first | exact Agr.refl _ _ | exact Agr.msk _ _ _ | refine Agr.upd ?_ _ rfl | refine Agr.upds ?_ rfl | refine Agr.mskIn ?_ rfl), rfl, S⟩
        · skip
          have hq : inQ s j = true := by rw [Bool.not_eq_false'] at c36; exact c36
          have hw : kpU b.cries (inQ s) (j + 1) = kpU b.cries (inQ s) j := by rw [kpU_succ hx, if_pos hq]
          refine W.skip ?_
          refine W.region S ?_
          refine AS.cons (sp_add rfl rfl (by first | omega | (simp only [decide_eq_true_eq, decide_eq_false_iff_not] at *; omega)) ?_)
          refine AS.cons (sp_move (v := .int _ _) rfl ?_)
          refine AS.nil ?_
          intro _ S
          first | exact ⟨(j + 1, a42, c42), _, hlt, by show b.cries.length - (j + 1) < b.cries.length - j; omega, ⟨by simp [upd], trivial⟩, ⟨by show pt b10 _ = pt b10 (.cells [iv b.wide, iv b.high, .slice la b.land.length lc, iv b.h0, iv b.h1, iv b.swim, .slice a42 (kpU b.cries (inQ s) (j + 1)).length c42, .map (some mp)].toArray 77 (0, 0)); rw [hw, List.length_append]; rfl, by show slc 46 7 _ _ _ = slc 46 7 (.slice a42 (kpU b.cries (inQ s) (j + 1)).length c42) (kpU b.cries (inQ s) (j + 1)).length ((kpU b.cries (inQ s) (j + 1)).flatMap cyL); rw [hw, List.length_append, List.flatMap_append]; rfl, trivial⟩, by repeat (first | exact Agr.refl _ _ | exact Agr.msk _ _ _ | refine Agr.upd ?_ _ rfl | refine Agr.upds ?_ rfl | refine Agr.mskIn ?_ rfl), by repeat (first | exact Agr.refl _ _ | exact Agr.msk _ _ _ | refine Agr.upd ?_ _ rfl | refine Agr.upds ?_ rfl | refine Agr.mskIn ?_ rfl), rfl, S⟩ | exact ⟨(j + 1, a, c), _, hlt, by show b.cries.length - (j + 1) < b.cries.length - j; omega, ⟨by simp [upd], trivial⟩, ⟨by show pt b10 _ = pt b10 (.cells [iv b.wide, iv b.high, .slice la b.land.length lc, iv b.h0, iv b.h1, iv b.swim, .slice a (kpU b.cries (inQ s) (j + 1)).length c, .map (some mp)].toArray 77 (0, 0)); rw [hw], by show slc 46 7 _ _ _ = slc 46 7 (.slice a (kpU b.cries (inQ s) (j + 1)).length c) (kpU b.cries (inQ s) (j + 1)).length ((kpU b.cries (inQ s) (j + 1)).flatMap cyL); rw [hw], trivial⟩, by repeat (first | exact Agr.refl _ _ | exact Agr.msk _ _ _ | refine Agr.upd ?_ _ rfl | refine Agr.upds ?_ rfl | refine Agr.mskIn ?_ rfl), by repeat (first | exact Agr.refl _ _ | exact Agr.msk _ _ _ | refine Agr.upd ?_ _ rfl | refine Agr.upds ?_ rfl | refine Agr.mskIn ?_ rfl), rfl, S⟩
      · skip
        obtain rfl : j = b.cries.length := by omega
        refine W.exit ?_
        refine W.seq (W.region S ?_)
        refine AS.cons (sp_move rfl ?_)
        refine AS.cons (sp_ldw (l := bayL (wo b (inQ s)) la lc a c mp) 10 rfl rfl ag_77_8 ?_)
        refine AS.cons (sp_call [901] rfl rfl cf_71 (fun F w' hF S => can (wo b (inQ s)) la lc a c mp hb (wo_ok hbk _).cry (by have := (wo_ok hbk (inQ s)).lc; omega) w' (hK.ext S.mod) (S.slc_rd (k := 901) ((hF 901 (by simp)).trans rfl) (by have := (wo_ok hbk (inQ s)).lc; exact Nat.le_trans this (by decide))) (show MapAt w' mp b from hM.ext S.mod)) ?_)
        refine AS.cons (sp_asg rfl ?_)
        refine AS.cons (sp_asg (v := .bool _) rfl ?_)
        refine AS.nil ?_
        intro _ S
        refine W.ret ?_
        refine ret2 rfl rfl rfl S fun w' S' => ⟨emp, ⟨.slice sa s.length sc, ?_, fun l hlo => ?_⟩, (S'.drop 999).only 999⟩
        · show Value.tuple #[_, .bool (Pw b s)] = Value.tuple #[_, .bool (if Pw b s = true then some s else none).isSome]
          cases Pw b s <;> rfl
        · unfold chL at hlo
          split at hlo
          · cases hlo; exact ⟨sa, sc, rfl, Rd.le hs, .inr ⟨rfl, rfl, rfl⟩⟩
          · cases hlo
    · exact absurd (show ((s.length : Nat) : Int) = ((s.length + 0 : Nat) : Int) from rfl) c21
  | succ r ih =>
    intro s sa sc w hK hC hM hA hs hbd hr
    refine fn_intro (args := [.slice sa s.length sc, iv ((s.length + (r + 1) : Nat) : Int), oP xb, oP xx, oP xc]) Tryd.func91 rfl rfl (by kernel_rfl) ?_
    have S := St.start no w
    have hcl := hbk.lc
    have hle : s.length ≤ sc := Rd.le hs
    obtain ⟨f0, hf0⟩ : ∃ f0 : Nat → Option (List Int), f0 = fun (k : Nat) => if lst s ≤ (k : Int) then chL b.cries.length (Pw b) r (s ++ [(k : Int)]) else none := ⟨_, rfl⟩
    have hch : chL b.cries.length (Pw b) (r + 1) s = fsU f0 b.cries.length := by rw [hf0]; rfl
    refine W.seq (W.region S ?_)
    refine AS.cons (sp_asg rfl ?_)
    refine AS.cons (sp_asg rfl ?_)
    refine AS.nil ?_
    intro _ S
    refine W.seq (W.region S ?_)
    refine AS.cons (sp_move rfl ?_)
    refine AS.cons (sp_len rfl sl_22_3_1 ?_)
    refine AS.cons (sp_asg (v := .int _ _) rfl ?_)
    refine AS.nil ?_
    intro _ S
    refine W.seq (W.seq (W.region S ?_))
    refine AS.cons (sp_move (v := .int _ _) rfl ?_)
    refine AS.cons (sp_move (v := .int _ _) rfl ?_)
    refine AS.cons (sp_eql rfl rfl ?_)
    refine AS.nil ?_
    intro _ S
    refine W.condd rfl (fun c21 => ?_) (fun c21 => ?_)
    · exact absurd (show ((s.length : Nat) : Int) = ((s.length + (r + 1) : Nat) : Int) from c21) (by omega)
    · skip
      refine W.skip ?_
      refine W.seq (W.region S ?_)
      refine AS.cons (sp_asg rfl ?_)
      refine AS.nil ?_
      intro _ S
      refine W.seq (W.seq (W.region S ?_))
      refine AS.cons (sp_move (v := .int _ _) rfl ?_)
      refine AS.cons (sp_gtr rfl rfl ?_)
      refine AS.nil ?_
      intro _ S
      refine W.condd rfl (fun c50 => ?_) (fun c50 => ?_)
      · skip
        obtain ⟨x, hx⟩ := get_some (l := s) (j := s.length - 1) (by omega)
        have hxb := hbd x (List.mem_of_getElem? hx)
        have hlst : lst s = x + 1 := by unfold lst; rw [List.getLast?_eq_getElem?, hx]
        have hn1 : ((s.length : Nat) : Int) - 1 = ((s.length - 1 : Nat) : Int) := by omega
        refine W.region S ?_
        refine AS.cons (sp_move rfl ?_)
        refine AS.cons (sp_move (v := .int _ _) rfl ?_)
        refine AS.cons (sp_sub rfl rfl (by first | omega | (simp only [decide_eq_true_eq, decide_eq_false_iff_not] at *; omega)) ?_)
        refine AS.cons (sp_iaR hs rfl rfl sl_22_3_1 (by omega) ?_)
        refine AS.cons (sp_ldR 0 hs (fun _ h => h) rfl sc_3 (v := iv x) (by rw [hn1]; exact ints_at hx) (by omega) ?_)
        refine AS.cons (sp_add rfl rfl (by first | omega | (simp only [decide_eq_true_eq, decide_eq_false_iff_not] at *; omega)) ?_)
        refine AS.cons (sp_asg (v := .int _ _) rfl ?_)
        refine AS.nil ?_
        intro _ S
        have hl0 : 0 ≤ lst s ∧ lst s ≤ 8 := by first | omega | (have h0 : s = [] := List.eq_nil_of_length_eq_zero (by omega); subst h0; decide)
        refine W.seq (W.seq (W.region S ?_))
        refine AS.cons (sp_move (v := .int _ _) rfl ?_)
        refine AS.cons (sp_asg (v := .int _ _) rfl ?_)
        refine AS.nil ?_
        intro _ S
        refine W.block ?_
        refine W.loopS S [7, 8, 14, 15, 16, 58, 59, 60, 61, 62, 63, 64, 65, 66, 67, 68, 69, 70, 71, 72, 73, 74, 75, 76, 77, 78, 79] [72, 73, 75] (fun (n : Nat) => [(14, iv n)]) (fun _ => []) (fun n => lst s ≤ (n : Int) ∧ ∀ i, i < n → f0 i = none) (fun n => b.cries.length - n) (lst s).toNat ⟨by omega, fun i hi => by rw [hf0]; exact if_neg (by omega)⟩ ⟨by first | (show iv (x + 1) = iv (((lst s).toNat : Nat) : Int); rw [Int.toNat_of_nonneg hl0.1, hlst]) | (have h0 : s = [] := List.eq_nil_of_length_eq_zero (by omega); subst h0; rfl), trivial⟩ trivial ?_
        rintro n σ M w1 ⟨hn, hnn⟩ S
        refine W.seq (W.seq (W.region S ?_))
        refine AS.cons (sp_move (v := .int _ _) rfl ?_)
        refine AS.cons (sp_fa rfl fo_26_5_6 ?_)
        refine AS.cons (sp_ldo (v := .slice ca b.cries.length cc) rfl sc_24 (hA.hx.ld rfl) (fun h => h) ?_)
        refine AS.cons (sp_len rfl sl_24_46_7 ?_)
        refine AS.cons (sp_lss rfl rfl ?_)
        refine AS.nil ?_
        intro _ S
        refine W.condd rfl (fun c62 => ?_) (fun c62 => ?_)
        · skip
          have hlt : n < b.cries.length := by omega
          have hlr : (s ++ [(n : Int)]).length + r = s.length + (r + 1) := by simp only [List.length_append, List.length_cons, List.length_nil]; omega
          refine W.skip ?_
          refine W.seq (W.block ?_)
          refine W.seq (W.draw S mixed (fun i => ([KD.q [], KD.q [], KD.q [], KD.q [], KD.q [], KD.q [], KD.a 72, KD.e [72] [73], KD.q [], KD.e [73] [75], KD.q [], KD.q [], KD.q [], KD.q [], KD.q []] : List KD)[i]?) [7] [0, 1, 2, 3, 4, 5, 8, 6, 7, 9, 10, 11, 12, 13, 14] (by kernel_rfl) ?_)
          refine AW.cons rfl rfl (sp_ldo (v := .func (.func 91) #[] #[oP xb, oP xx, oP xc]) rfl sc_104 (hA.hc.ld rfl) (fun h => h) ?_)
          refine AW.cons rfl rfl (sp_move rfl ?_)
          refine AW.cons rfl rfl (sp_move (v := .int _ _) rfl ?_)
          refine AW.cons rfl rfl (sp_move (v := .int _ _) rfl ?_)
          refine AW.cons rfl rfl (sp_sl3 rfl rfl rfl sl_22_3_1 (by omega) ?_)
          refine AW.cons rfl rfl (sp_move (v := .int _ _) rfl ?_)
          refine AW.cons rfl rfl (sp_move (v := .int _ _) rfl ?_)
          refine AW.cons rfl rfl (sp_bs 72 [.tmp 71] _ sl_22_3_1 zs_3_1 rfl rfl rfl rfl rfl rfl (fun b72 => ?_))
          refine AW.cons rfl rfl (sp_appN (n := s.length) 73 [72] rfl rfl sl_22_3_1 zs_3_1 (fun F w _ S => Rd.cap (hs.ext S.mod)) (fun F w hF S => rd_pt (S.get ((hF 72 (by simp)).trans rfl)).1 rfl (by omega) (by omega)) (by omega) (by omega) (fun a73 c73 => ?_))
          refine AW.cons rfl rfl (sp_call1 75 [73] _ (fs := []) (cs := [oP xb, oP xx, oP xc]) (vs := [.slice a73 (s ++ [(n : Int)]).length c73, iv (((s ++ [(n : Int)]).length + r : Nat) : Int), oP xb, oP xx, oP xc]) rfl (by rw [hlr, List.length_append]; rfl) cf_91 (fun F w' hF S => ih (s ++ [(n : Int)]) a73 c73 w' (hK.ext S.mod) (hC.ext S.mod) (hM.ext S.mod) (ChAt.ext _ _ _ _ _ _ hA S.mod) (by have h1 := S.slc_rd (k := 73) ((hF 73 (by simp)).trans rfl) (by omega); unfold Ints; rw [List.length_append, List.map_append]; exact h1) (mem_snoc hbd ⟨by omega, by omega⟩) (by rw [List.length_append]; simp only [List.length_cons, List.length_nil]; omega)) ?_ (fun _ => ChR_ne _ _ _ _))
          rintro v75 i75 ⟨v, rfl, hO⟩
          refine AW.cons rfl rfl (sp_move rfl ?_)
          refine AW.cons rfl rfl (sp_ext rfl rfl ?_)
          refine AW.cons rfl rfl (sp_ext rfl rfl ?_)
          refine AW.cons rfl rfl (sp_asg rfl ?_)
          refine AW.cons rfl rfl (sp_asg (v := .bool _) rfl ?_)
          refine AW.nil ?_
          intro _ S
          refine W.seq (W.region S ?_)
          refine AS.cons (sp_move (v := .bool _) rfl ?_)
          refine AS.nil ?_
          intro _ S
          refine W.cond rfl (fun c78 => ?_) (fun c78 => ?_)
          · skip
            obtain ⟨l, hl⟩ := Option.isSome_iff_exists.1 c78
            have hfn : f0 n = some l := by rw [hf0]; show (if lst s ≤ (n : Int) then _ else none) = some l; rw [if_pos hn]; exact hl
            have hres : chL b.cries.length (Pw b) (r + 1) s = some l := hch.trans (fsU_at hnn hfn hlt)
            obtain ⟨a, c, rfl, hac, hor⟩ := hO l hl
            refine W.seq (W.region S ?_)
            refine AS.cons (sp_move rfl ?_)
            refine AS.cons (sp_asg rfl ?_)
            refine AS.cons (sp_asg rfl ?_)
            refine AS.nil ?_
            intro _ S
            refine W.ret ?_
            first
            | exact ret2 rfl rfl rfl S fun w' S' => ⟨emp, ⟨nilS, by rw [hres]; rfl, fun l hlo => by rw [hres] at hlo; cases hlo⟩, (S'.drop 999).only 999⟩
            | (rcases hor with rfl | ⟨rfl, rfl, rfl⟩
               · exact ret2 rfl rfl rfl S fun w' S' => ⟨_, ⟨_, by rw [hres]; rfl, fun l' hlo => by rw [hres] at hlo; cases hlo; exact ⟨a, c, rfl, hac, .inl rfl⟩⟩, S'.only 75⟩
               · exact ret2 rfl rfl rfl S fun w' S' => ⟨_, ⟨_, by rw [hres]; rfl, fun l' hlo => by rw [hres] at hlo; cases hlo; exact ⟨a, c, rfl, hac, .inl (by rw [List.length_append, List.map_append]; rfl)⟩⟩, S'.only 73⟩)
          · skip
            have hfn : f0 n = none := by rw [hf0]; show (if lst s ≤ (n : Int) then _ else none) = none; rw [if_pos hn]; exact Option.not_isSome_iff_eq_none.1 (by rw [c78]; simp)
            refine W.skip ?_
            refine W.region S ?_
            refine AS.cons (sp_move (v := .int _ _) rfl ?_)
            refine AS.cons (sp_add rfl rfl (by first | omega | (simp only [decide_eq_true_eq, decide_eq_false_iff_not] at *; omega)) ?_)
            refine AS.cons (sp_asg (v := .int _ _) rfl ?_)
            refine AS.nil ?_
            intro _ S
            exact ⟨n + 1, _, ⟨by omega, snoc_lt hnn hfn⟩, by omega, ⟨by simp [upd], trivial⟩, trivial, by repeat (first | exact Agr.refl _ _ | exact Agr.msk _ _ _ | refine Agr.upd ?_ _ rfl | refine Agr.upds ?_ rfl | refine Agr.mskIn ?_ rfl), by repeat (first | exact Agr.refl _ _ | exact Agr.msk _ _ _ | refine Agr.upd ?_ _ rfl | refine Agr.upds ?_ rfl | refine Agr.mskIn ?_ rfl), rfl, S⟩
        · skip
          have hres : chL b.cries.length (Pw b) (r + 1) s = none := hch.trans (fsU_none.2 fun i hi => hnn i (by omega))
          refine W.exit ?_
          refine W.seq (W.region S ?_)
          refine AS.cons (sp_asg rfl ?_)
          refine AS.cons (sp_asg rfl ?_)
          refine AS.nil ?_
          intro _ S
          refine W.ret ?_
          first
          | exact ret2 rfl rfl rfl S fun w' S' => ⟨emp, ⟨nilS, by rw [hres]; rfl, fun l hlo => by rw [hres] at hlo; cases hlo⟩, (S'.drop 999).only 999⟩
          | (rcases hor with rfl | ⟨rfl, rfl, rfl⟩
             · exact ret2 rfl rfl rfl S fun w' S' => ⟨_, ⟨_, by rw [hres]; rfl, fun l' hlo => by rw [hres] at hlo; cases hlo; exact ⟨a, c, rfl, hac, .inl rfl⟩⟩, S'.only 75⟩
             · exact ret2 rfl rfl rfl S fun w' S' => ⟨_, ⟨_, by rw [hres]; rfl, fun l' hlo => by rw [hres] at hlo; cases hlo; exact ⟨a, c, rfl, hac, .inl (by rw [List.length_append, List.map_append]; rfl)⟩⟩, S'.only 73⟩)
      · skip
        refine W.skip ?_
        have hl0 : 0 ≤ lst s ∧ lst s ≤ 8 := by first | omega | (have h0 : s = [] := List.eq_nil_of_length_eq_zero (by omega); subst h0; decide)
        refine W.seq (W.seq (W.region S ?_))
        refine AS.cons (sp_move (v := .int _ _) rfl ?_)
        refine AS.cons (sp_asg (v := .int _ _) rfl ?_)
        refine AS.nil ?_
        intro _ S
        refine W.block ?_
        refine W.loopS S [7, 8, 14, 15, 16, 58, 59, 60, 61, 62, 63, 64, 65, 66, 67, 68, 69, 70, 71, 72, 73, 74, 75, 76, 77, 78, 79] [72, 73, 75] (fun (n : Nat) => [(14, iv n)]) (fun _ => []) (fun n => lst s ≤ (n : Int) ∧ ∀ i, i < n → f0 i = none) (fun n => b.cries.length - n) (lst s).toNat ⟨by omega, fun i hi => by rw [hf0]; exact if_neg (by omega)⟩ ⟨by first | (show iv (x + 1) = iv (((lst s).toNat : Nat) : Int); rw [Int.toNat_of_nonneg hl0.1, hlst]) | (have h0 : s = [] := List.eq_nil_of_length_eq_zero (by omega); subst h0; rfl), trivial⟩ trivial ?_
        rintro n σ M w1 ⟨hn, hnn⟩ S
        refine W.seq (W.seq (W.region S ?_))
        refine AS.cons (sp_move (v := .int _ _) rfl ?_)
        refine AS.cons (sp_fa rfl fo_26_5_6 ?_)
        refine AS.cons (sp_ldo (v := .slice ca b.cries.length cc) rfl sc_24 (hA.hx.ld rfl) (fun h => h) ?_)
        refine AS.cons (sp_len rfl sl_24_46_7 ?_)
        refine AS.cons (sp_lss rfl rfl ?_)
        refine AS.nil ?_
        intro _ S
        refine W.condd rfl (fun c62 => ?_) (fun c62 => ?_)
        · skip
          have hlt : n < b.cries.length := by omega
          have hlr : (s ++ [(n : Int)]).length + r = s.length + (r + 1) := by simp only [List.length_append, List.length_cons, List.length_nil]; omega
          refine W.skip ?_
          refine W.seq (W.block ?_)
          refine W.seq (W.draw S mixed (fun i => ([KD.q [], KD.q [], KD.q [], KD.q [], KD.q [], KD.q [], KD.a 72, KD.e [72] [73], KD.q [], KD.e [73] [75], KD.q [], KD.q [], KD.q [], KD.q [], KD.q []] : List KD)[i]?) [7] [0, 1, 2, 3, 4, 5, 8, 6, 7, 9, 10, 11, 12, 13, 14] (by kernel_rfl) ?_)
          refine AW.cons rfl rfl (sp_ldo (v := .func (.func 91) #[] #[oP xb, oP xx, oP xc]) rfl sc_104 (hA.hc.ld rfl) (fun h => h) ?_)
          refine AW.cons rfl rfl (sp_move rfl ?_)
          refine AW.cons rfl rfl (sp_move (v := .int _ _) rfl ?_)
          refine AW.cons rfl rfl (sp_move (v := .int _ _) rfl ?_)
          refine AW.cons rfl rfl (sp_sl3 rfl rfl rfl sl_22_3_1 (by omega) ?_)
          refine AW.cons rfl rfl (sp_move (v := .int _ _) rfl ?_)
          refine AW.cons rfl rfl (sp_move (v := .int _ _) rfl ?_)
          refine AW.cons rfl rfl (sp_bs 72 [.tmp 71] _ sl_22_3_1 zs_3_1 rfl rfl rfl rfl rfl rfl (fun b72 => ?_))
          refine AW.cons rfl rfl (sp_appN (n := s.length) 73 [72] rfl rfl sl_22_3_1 zs_3_1 (fun F w _ S => Rd.cap (hs.ext S.mod)) (fun F w hF S => rd_pt (S.get ((hF 72 (by simp)).trans rfl)).1 rfl (by omega) (by omega)) (by omega) (by omega) (fun a73 c73 => ?_))
          refine AW.cons rfl rfl (sp_call1 75 [73] _ (fs := []) (cs := [oP xb, oP xx, oP xc]) (vs := [.slice a73 (s ++ [(n : Int)]).length c73, iv (((s ++ [(n : Int)]).length + r : Nat) : Int), oP xb, oP xx, oP xc]) rfl (by rw [hlr, List.length_append]; rfl) cf_91 (fun F w' hF S => ih (s ++ [(n : Int)]) a73 c73 w' (hK.ext S.mod) (hC.ext S.mod) (hM.ext S.mod) (ChAt.ext _ _ _ _ _ _ hA S.mod) (by have h1 := S.slc_rd (k := 73) ((hF 73 (by simp)).trans rfl) (by omega); unfold Ints; rw [List.length_append, List.map_append]; exact h1) (mem_snoc hbd ⟨by omega, by omega⟩) (by rw [List.length_append]; simp only [List.length_cons, List.length_nil]; omega)) ?_ (fun _ => ChR_ne _ _ _ _))
          rintro v75 i75 ⟨v, rfl, hO⟩
          refine AW.cons rfl rfl (sp_move rfl ?_)
          refine AW.cons rfl rfl (sp_ext rfl rfl ?_)
          refine AW.cons rfl rfl (sp_ext rfl rfl ?_)
          refine AW.cons rfl rfl (sp_asg rfl ?_)
          refine AW.cons rfl rfl (sp_asg (v := .bool _) rfl ?_)
          refine AW.nil ?_
          intro _ S
          refine W.seq (W.region S ?_)
          refine AS.cons (sp_move (v := .bool _) rfl ?_)
          refine AS.nil ?_
          intro _ S
          refine W.cond rfl (fun c78 => ?_) (fun c78 => ?_)
          · skip
            obtain ⟨l, hl⟩ := Option.isSome_iff_exists.1 c78
            have hfn : f0 n = some l := by rw [hf0]; show (if lst s ≤ (n : Int) then _ else none) = some l; rw [if_pos hn]; exact hl
            have hres : chL b.cries.length (Pw b) (r + 1) s = some l := hch.trans (fsU_at hnn hfn hlt)
            obtain ⟨a, c, rfl, hac, hor⟩ := hO l hl
            refine W.seq (W.region S ?_)
            refine AS.cons (sp_move rfl ?_)
            refine AS.cons (sp_asg rfl ?_)
            refine AS.cons (sp_asg rfl ?_)
            refine AS.nil ?_
            intro _ S
            refine W.ret ?_
            first
            | exact ret2 rfl rfl rfl S fun w' S' => ⟨emp, ⟨nilS, by rw [hres]; rfl, fun l hlo => by rw [hres] at hlo; cases hlo⟩, (S'.drop 999).only 999⟩
            | (rcases hor with rfl | ⟨rfl, rfl, rfl⟩
               · exact ret2 rfl rfl rfl S fun w' S' => ⟨_, ⟨_, by rw [hres]; rfl, fun l' hlo => by rw [hres] at hlo; cases hlo; exact ⟨a, c, rfl, hac, .inl rfl⟩⟩, S'.only 75⟩
               · exact ret2 rfl rfl rfl S fun w' S' => ⟨_, ⟨_, by rw [hres]; rfl, fun l' hlo => by rw [hres] at hlo; cases hlo; exact ⟨a, c, rfl, hac, .inl (by rw [List.length_append, List.map_append]; rfl)⟩⟩, S'.only 73⟩)
          · skip
            have hfn : f0 n = none := by rw [hf0]; show (if lst s ≤ (n : Int) then _ else none) = none; rw [if_pos hn]; exact Option.not_isSome_iff_eq_none.1 (by rw [c78]; simp)
            refine W.skip ?_
            refine W.region S ?_
            refine AS.cons (sp_move (v := .int _ _) rfl ?_)
            refine AS.cons (sp_add rfl rfl (by first | omega | (simp only [decide_eq_true_eq, decide_eq_false_iff_not] at *; omega)) ?_)
            refine AS.cons (sp_asg (v := .int _ _) rfl ?_)
            refine AS.nil ?_
            intro _ S
            exact ⟨n + 1, _, ⟨by omega, snoc_lt hnn hfn⟩, by omega, ⟨by simp [upd], trivial⟩, trivial, by repeat (first | exact Agr.refl _ _ | exact Agr.msk _ _ _ | refine Agr.upd ?_ _ rfl | refine Agr.upds ?_ rfl | refine Agr.mskIn ?_ rfl), by repeat (first | exact Agr.refl _ _ | exact Agr.msk _ _ _ | refine Agr.upd ?_ _ rfl | refine Agr.upds ?_ rfl | refine Agr.mskIn ?_ rfl), rfl, S⟩
        · skip
          have hres : chL b.cries.length (Pw b) (r + 1) s = none := hch.trans (fsU_none.2 fun i hi => hnn i (by omega))
          refine W.exit ?_
          refine W.seq (W.region S ?_)
          refine AS.cons (sp_asg rfl ?_)
          refine AS.cons (sp_asg rfl ?_)
          refine AS.nil ?_
          intro _ S
          refine W.ret ?_
          first
          | exact ret2 rfl rfl rfl S fun w' S' => ⟨emp, ⟨nilS, by rw [hres]; rfl, fun l hlo => by rw [hres] at hlo; cases hlo⟩, (S'.drop 999).only 999⟩
          | (rcases hor with rfl | ⟨rfl, rfl, rfl⟩
             · exact ret2 rfl rfl rfl S fun w' S' => ⟨_, ⟨_, by rw [hres]; rfl, fun l' hlo => by rw [hres] at hlo; cases hlo; exact ⟨a, c, rfl, hac, .inl rfl⟩⟩, S'.only 75⟩
             · exact ret2 rfl rfl rfl S fun w' S' => ⟨_, ⟨_, by rw [hres]; rfl, fun l' hlo => by rw [hres] at hlo; cases hlo; exact ⟨a, c, rfl, hac, .inl (by rw [List.length_append, List.map_append]; rfl)⟩⟩, S'.only 73⟩)
end
end Go.Proofs.YtmpclgepoemneaaDoor

/-
  Wrong, in the program.
-/
namespace Go.Proofs.YtmpclgepoemneaaDoor
set_option maxRecDepth 100000
open Go.Hu Go.RowKit
section
variable (b : Bk) (la : Option Addr) (lc : Nat) (ca : Option Addr) (cc : Nat) (mp : Nat)
theorem ints_nil (w : World) : Ints w none 0 [] := ⟨rfl, by decide, .inl ⟨rfl, none, 0, rfl⟩⟩
theorem wrongP (w : World) (hK : Kinds w) (hl : Ints w la lc b.land) (hC : Cries w ca cc b.cries) : Ct Tryd.prog 35 #[.agg (bkL b la lc ca cc).toArray] w (fun u w' => ∃ i, ListR (wrongL b) (wrongE b) u i ∧ St no w w' (upd eL 0 i) []) := by
  refine fn_intro (args := [.agg (bkL b la lc ca cc).toArray]) Tryd.func35 rfl rfl (by kernel_rfl) ?_
  have S := St.start no w
  refine W.seq (W.region S ?_)
  refine AS.cons (sp_boxa 1 rfl (fun b1 => ?_))
  refine AS.cons (sp_asg rfl ?_)
  refine AS.cons (sp_asg rfl ?_)
  refine AS.nil ?_
  intro _ S
  refine W.seq (W.seq (W.region S ?_))
  refine AS.cons (sp_ldw 1 rfl rfl ag_26_7 ?_)
  refine AS.cons (sp_call [] rfl rfl cf_18 (fun F w _ S => check _ _ _ _ _ w (hl.ext S.mod) (hC.ext S.mod)) ?_)
  refine AS.cons (sp_asg (v := .int _ _) rfl ?_)
  refine AS.nil ?_
  intro _ S
  refine W.seq (W.region S ?_)
  refine AS.cons (sp_move (v := .int _ _) rfl ?_)
  refine AS.cons (sp_neq rfl rfl ?_)
  refine AS.nil ?_
  intro _ S
  refine W.condd rfl (fun c13 => ?_) (fun c13 => ?_)
  · skip
    have hv : wrongE b = chkV b := by unfold wrongE chkV; rw [chk_no c13]; rfl
    have hwl : wrongL b = [] := by unfold wrongL; rw [chk_no c13]; rfl
    refine W.seq (W.region S ?_)
    refine AS.cons (sp_move (v := .int _ _) rfl ?_)
    refine AS.cons (sp_asg rfl ?_)
    refine AS.cons (sp_asg (v := .int _ _) rfl ?_)
    refine AS.nil ?_
    intro _ S
    refine W.ret ?_
    first
    | exact ret2 rfl rfl rfl S fun w' S' => ⟨_, ⟨none, 0, by rw [hwl]; exact Nat.le_refl _, by rw [hwl, hv]; rfl, by rw [hwl]; rfl⟩, St.noneS S'⟩
    | (rcases hor with rfl | ⟨rfl, rfl, rfl⟩
       · exact ret2 rfl rfl rfl S fun w' S' => ⟨_, ⟨a, l.length, by rw [hwl]; exact Nat.le_refl _, by rw [hwl, hv]; rfl, by rw [hwl]⟩, St.capS S' 28 rfl⟩
       · exact ret2 rfl rfl rfl S fun w' S' => ⟨_, ⟨none, 0, by rw [hwl]; exact Nat.le_refl _, by rw [hwl, hv]; rfl, by rw [hwl]; rfl⟩, St.noneS S'⟩)
  · skip
    have hok := chk_ok c13
    have hbk := okAll_ok hok
    have hcl := hbk.lc
    have hll := hbk.ll
    have hb := hbk.num
    refine W.skip ?_
    refine W.seq (W.region S ?_)
    refine AS.cons (sp_ldw 1 rfl rfl ag_26_7 ?_)
    refine AS.cons (sp_call1 16 [] _ rfl rfl cf_63 (fun F w _ S => opened _ _ _ _ _ (by assumption) (by omega) w (hl.ext S.mod)) ?_ (by simp))
    rintro v16 i16 ⟨mp, rfl, rfl⟩
    refine AS.cons (sp_alloc 5 zv_77 rfl (fun b5 => ?_))
    refine AS.cons (sp_st 5 rfl rfl rfl rfl sz_77_8 rfl rfl ?_)
    refine AS.nil ?_
    intro _ S
    refine W.seq (W.region S ?_)
    refine AS.cons (sp_alloc 6 zv_104 rfl (fun b6 => ?_))
    refine AS.nil ?_
    intro _ S
    refine W.seq (W.region S ?_)
    refine AS.cons (sp_mf ?_)
    refine AS.cons (sp_st 6 rfl rfl rfl rfl sz_104_1 rfl rfl ?_)
    refine AS.nil ?_
    intro _ S
    refine W.seq (W.seq (W.region S ?_))
    refine AS.cons (sp_fa rfl fo_26_5_6 ?_)
    refine AS.cons (sp_ld 1 rfl rfl sc_24 rfl ?_)
    refine AS.cons (sp_len rfl sl_24_46_7 ?_)
    refine AS.cons (sp_add rfl rfl (by first | omega | (simp only [decide_eq_true_eq, decide_eq_false_iff_not] at *; omega)) ?_)
    refine AS.cons (sp_move rfl ?_)
    refine AS.nil ?_
    intro _ S
    refine W.block ?_
    refine W.loopS S [2, 3, 7, 8, 9, 22, 23, 24, 25, 26, 27, 28, 29, 30, 31, 32, 33, 34, 35, 36, 37, 38] [28] (fun (m : Nat) => [(22, iv m)]) (fun _ => []) (fun m => m ≤ b.cries.length + 1 ∧ ∀ i, i < m → chL b.cries.length (Pw b) i [] = none) (fun m => b.cries.length + 1 - m) 0 ⟨by omega, fun i hi => absurd hi (by omega)⟩ ⟨rfl, trivial⟩ trivial ?_
    rintro m σ M w1 ⟨hm, hnn⟩ S
    refine W.seq (W.region S ?_)
    refine AS.cons (sp_lss rfl rfl ?_)
    refine AS.nil ?_
    intro _ S
    refine W.seq (W.condd rfl (fun c23 => ?_) (fun c23 => ?_))
    · skip
      have hlt : m < b.cries.length + 1 := by omega
      refine W.skip ?_
      refine W.seq (W.block ?_)
      refine W.seq (W.region S ?_)
      refine AS.cons (sp_move (v := .int _ _) rfl ?_)
      refine AS.cons (sp_asg (v := .int _ _) rfl ?_)
      refine AS.nil ?_
      intro _ S
      refine W.seq (W.region S ?_)
      refine AS.cons (sp_ld 6 rfl rfl sc_104 rfl ?_)
      refine AS.cons (sp_move (v := .int _ _) rfl ?_)
      refine AS.cons (sp_call1 28 [1, 5, 6, 16] _ (fs := []) (cs := [oP b5, oP b1, oP b6]) (vs := [.slice none ([] : List Int).length 0, iv ((([] : List Int).length + m : Nat) : Int), oP b5, oP b1, oP b6]) rfl (by rw [show ([] : List Int).length + m = m from Nat.zero_add m]; rfl) cf_91 (fun F w' hF S => chooseF b la lc ca cc mp hbk b5 b1 b6 m [] none 0 w' (hK.ext S.mod) (hC.ext S.mod) (mapAt S ((hF 16 (by simp)).trans rfl)) ⟨(S.get ((hF 5 (by simp)).trans rfl)).1, (S.get ((hF 1 (by simp)).trans rfl)).1, (S.get ((hF 6 (by simp)).trans rfl)).1⟩ (ints_nil w') (by simp) (by simp only [List.length_nil]; omega)) ?_ (by simp))
      rintro v28 i28 ⟨v, rfl, hO⟩
      refine AS.cons (sp_move rfl ?_)
      refine AS.cons (sp_ext rfl rfl ?_)
      refine AS.cons (sp_ext rfl rfl ?_)
      refine AS.cons (sp_asg rfl ?_)
      refine AS.cons (sp_asg (v := .bool _) rfl ?_)
      refine AS.nil ?_
      intro _ S
      refine W.seq (W.region S ?_)
      refine AS.cons (sp_move (v := .bool _) rfl ?_)
      refine AS.nil ?_
      intro _ S
      refine W.cond rfl (fun c31 => ?_) (fun c31 => ?_)
      · skip
        obtain ⟨l, hll⟩ := Option.isSome_iff_exists.1 c31
        have hres : wrongO b = some l := fsU_at (f := fun m => chL b.cries.length (Pw b) m []) hnn hll hlt
        have hv : wrongE b = 0 := by unfold wrongE; rw [if_pos hok, hres]; rfl
        have hwl : wrongL b = l := by unfold wrongL; rw [if_pos hok, hres]; rfl
        obtain ⟨a, c, rfl, hac, hor⟩ := hO l hll
        refine W.seq (W.region S ?_)
        refine AS.cons (sp_move rfl ?_)
        refine AS.cons (sp_move rfl ?_)
        refine AS.cons (sp_len rfl sl_22_3_1 ?_)
        refine AS.cons (sp_move rfl ?_)
        refine AS.cons (sp_len rfl sl_22_3_1 ?_)
        refine AS.cons (sp_sl3 rfl rfl rfl sl_22_3_1 (by first | omega | (simp only [decide_eq_true_eq, decide_eq_false_iff_not] at *; omega)) ?_)
        refine AS.cons (sp_asg rfl ?_)
        refine AS.cons (sp_asg rfl ?_)
        refine AS.nil ?_
        intro _ S
        refine W.ret ?_
        first
        | exact ret2 rfl rfl rfl S fun w' S' => ⟨_, ⟨none, 0, by rw [hwl]; exact Nat.le_refl _, by rw [hwl, hv]; rfl, by rw [hwl]; rfl⟩, St.noneS S'⟩
        | (rcases hor with rfl | ⟨rfl, rfl, rfl⟩
           · exact ret2 rfl rfl rfl S fun w' S' => ⟨_, ⟨a, l.length, by rw [hwl]; exact Nat.le_refl _, by rw [hwl, hv]; rfl, by rw [hwl]⟩, St.capS S' 28 rfl⟩
           · exact ret2 rfl rfl rfl S fun w' S' => ⟨_, ⟨none, 0, by rw [hwl]; exact Nat.le_refl _, by rw [hwl, hv]; rfl, by rw [hwl]; rfl⟩, St.noneS S'⟩)
      · skip
        have hnl : chL b.cries.length (Pw b) m [] = none := Option.not_isSome_iff_eq_none.1 (by rw [c31]; simp)
        refine W.skip ?_
        refine W.region S ?_
        refine AS.cons (sp_add rfl rfl (by first | omega | (simp only [decide_eq_true_eq, decide_eq_false_iff_not] at *; omega)) ?_)
        refine AS.cons (sp_move (v := .int _ _) rfl ?_)
        refine AS.nil ?_
        intro _ S
        exact ⟨m + 1, _, ⟨by omega, snoc_lt hnn hnl⟩, by omega, ⟨by simp [upd], trivial⟩, trivial, by repeat (first | exact Agr.refl _ _ | exact Agr.msk _ _ _ | refine Agr.upd ?_ _ rfl | refine Agr.upds ?_ rfl | refine Agr.mskIn ?_ rfl), by repeat (first | exact Agr.refl _ _ | exact Agr.msk _ _ _ | refine Agr.upd ?_ _ rfl | refine Agr.upds ?_ rfl | refine Agr.mskIn ?_ rfl), rfl, S⟩
    · skip
      have hres : wrongO b = none := fsU_none.2 fun i hi => hnn i (by omega)
      have hv : wrongE b = 12 := by unfold wrongE; rw [if_pos hok, hres]; rfl
      have hwl : wrongL b = [] := by unfold wrongL; rw [if_pos hok, hres]; rfl
      refine W.exit ?_
      refine W.seq (W.region S ?_)
      refine AS.cons (sp_asg rfl ?_)
      refine AS.cons (sp_asg rfl ?_)
      refine AS.nil ?_
      intro _ S
      refine W.ret ?_
      first
      | exact ret2 rfl rfl rfl S fun w' S' => ⟨_, ⟨none, 0, by rw [hwl]; exact Nat.le_refl _, by rw [hwl, hv]; rfl, by rw [hwl]; rfl⟩, St.noneS S'⟩
      | (rcases hor with rfl | ⟨rfl, rfl, rfl⟩
         · exact ret2 rfl rfl rfl S fun w' S' => ⟨_, ⟨a, l.length, by rw [hwl]; exact Nat.le_refl _, by rw [hwl, hv]; rfl, by rw [hwl]⟩, St.capS S' 28 rfl⟩
         · exact ret2 rfl rfl rfl S fun w' S' => ⟨_, ⟨none, 0, by rw [hwl]; exact Nat.le_refl _, by rw [hwl, hv]; rfl, by rw [hwl]; rfl⟩, St.noneS S'⟩)
end
end Go.Proofs.YtmpclgepoemneaaDoor

/-
  The chapter's books.
-/
namespace Go.Proofs.YtmpclgepoemneaaDoor
set_option maxRecDepth 100000
open Go.Hu Go.RowKit
section
def cry1 : Cry := ⟨0, 0, 0, 1, 1, 1, 2⟩
def cry2 : Cry := ⟨1, 1, 0, -1, 1, -2, 1⟩
def cry3 : Cry := ⟨0, 9, 1, 1, 1, 1, 2⟩
def cry4 : Cry := ⟨0, 1, 1, 1, 1, 1, 2⟩
def bookB (swim : Int) (l : List Cry) : Bk := ⟨6, 4, [], 0, 5, swim, [cry1, cry2] ++ l⟩
def ownB : Bk := bookB 1 []
def stillB : Bk := bookB 0 []
def tornB : Bk := bookB 0 [cry3]
def landB : Bk := ⟨2, 1, [1, 0], 0, 0, 0, []⟩
theorem bookF (swim : Int) (ma : Option Addr) (mc : Nat) (l : List Cry) (hn : l.length ≤ 1000000) (w : World) (hm : Cries w ma mc l) : Ct Tryd.prog 56 #[iv swim, .slice ma l.length mc] w
    (fun u w' => ∃ i, CrR (bookB swim l) none 0 u i ∧ St no w w' (upd eL 0 i) []) := by
  refine fn_intro (args := [iv swim, .slice ma l.length mc]) Tryd.func56 rfl rfl (by kernel_rfl) ?_
  have S := St.start no w
  refine W.seq (W.region S ?_)
  refine AS.cons (sp_alloc 4 zv_26 rfl (fun b4 => ?_))
  refine AS.nil ?_
  intro _ S
  refine W.seq (W.region S ?_)
  refine AS.cons (sp_build [iv 0, iv 5] (by kernel_rfl) ?_)
  refine AS.cons (sp_move (v := .int _ _) rfl ?_)
  refine AS.cons (sp_call [] rfl rfl cf_57 (fun F w _ S => point _ _ w) ?_)
  refine AS.cons (sp_call [] rfl rfl cf_57 (fun F w _ S => point _ _ w) ?_)
  refine AS.cons (sp_call [] rfl rfl cf_59 (fun F w _ S => criesF _ _ _ _ _ _ _ w) ?_)
  refine AS.cons (sp_call [] rfl rfl cf_57 (fun F w _ S => point _ _ w) ?_)
  refine AS.cons (sp_call [] rfl rfl cf_57 (fun F w _ S => point _ _ w) ?_)
  refine AS.cons (sp_call [] rfl rfl cf_59 (fun F w _ S => criesF _ _ _ _ _ _ _ w) ?_)
  refine AS.cons (sp_bsS 13 [.tmp 9, .tmp 12] _ sl_24_46_7 zs_46_7 rfl rfl rfl rfl rfl rfl (fun b13 => ?_))
  refine AS.cons (sp_move rfl ?_)
  refine AS.cons (sp_app (n := 2) (xs := [cry1, cry2].flatMap cyL) 13 [] rfl rfl sl_24_46_7 zs_46_7 rfl (fun F w hF S => hm.ext S.mod) (cries_one _) (by omega) (fun a15 c15 => ?_))
  refine AS.cons (sp_build [iv 6, iv 4, nilS, iv 0, iv 5, iv swim, .slice a15 (2 + l.length) c15] (by kernel_rfl) ?_)
  refine AS.cons (sp_st 4 rfl rfl rfl rfl sz_26_7 rfl rfl ?_)
  refine AS.nil ?_
  intro _ S
  refine W.ret ?_
  have e0 : (bookB swim l).cries.length = 2 + l.length := by simp only [bookB, List.length_append, List.length_cons, List.length_nil]
  refine retc (E := 26) (fr := (0, 0)) (b := b4) (l := bkL (bookB swim l) none 0 a15 c15) 4 ag_26_7 rfl rfl rfl ?_ rfl S fun w' S' => ?_
  · show pt b4 (.cells [iv 6, iv 4, nilS, iv 0, iv 5, iv swim, .slice a15 (2 + l.length) c15].toArray 26 (0, 0)) = pt b4 (.cells [iv 6, iv 4, nilS, iv 0, iv 5, iv swim, .slice a15 (bookB swim l).cries.length c15].toArray 26 (0, 0))
    rw [e0]
  · have hle := St.slc_le S' 13 rfl
    refine ⟨_, ⟨a15, c15, rfl, by rw [e0]; exact hle, ?_⟩, S'.only 13⟩
    show slc 46 7 (.slice a15 (2 + l.length) c15) (2 + l.length) ([cry1, cry2].flatMap cyL ++ l.flatMap cyL) = CrS (bookB swim l) a15 c15
    unfold CrS
    rw [e0]
    congr 1
theorem cries_nil (w : World) : Cries w none 0 [] := ⟨rfl, by decide, .inl ⟨rfl, none, 0, rfl⟩⟩
theorem ownF (w : World) : Ct Tryd.prog 55 #[] w (fun u w' => ∃ i, CrR ownB none 0 u i ∧ St no w w' (upd eL 0 i) []) := by
  refine fn_intro (args := []) Tryd.func55 rfl rfl (by kernel_rfl) ?_
  have S := St.start no w
  refine W.seq (W.region S ?_)
  refine AS.cons (sp_alloc 0 zv_26 rfl (fun b0 => ?_))
  refine AS.nil ?_
  intro _ S
  refine W.seq (W.region S ?_)
  refine AS.cons (sp_call1 1 [] _ rfl rfl cf_56 (fun F w _ S => bookF _ none 0 [] (by decide) w (cries_nil w)) ?_ (by simp))
  rintro v1 i1 ⟨a, c, rfl, hac, rfl⟩
  refine AS.cons (sp_st 0 rfl rfl rfl rfl sz_26_7 rfl rfl ?_)
  refine AS.nil ?_
  intro _ S
  refine W.ret ?_
  exact retc (E := 26) (fr := (0, 0)) (b := b0) (l := bkL (bookB 1 []) none 0 a c) 0 ag_26_7 rfl rfl rfl rfl rfl S fun w' S' => ⟨_, ⟨a, c, rfl, hac, rfl⟩, S'.only 1⟩
theorem stillF (w : World) : Ct Tryd.prog 61 #[] w (fun u w' => ∃ i, CrR stillB none 0 u i ∧ St no w w' (upd eL 0 i) []) := by
  refine fn_intro (args := []) Tryd.func61 rfl rfl (by kernel_rfl) ?_
  have S := St.start no w
  refine W.seq (W.region S ?_)
  refine AS.cons (sp_alloc 0 zv_26 rfl (fun b0 => ?_))
  refine AS.nil ?_
  intro _ S
  refine W.seq (W.region S ?_)
  refine AS.cons (sp_call1 1 [] _ rfl rfl cf_56 (fun F w _ S => bookF _ none 0 [] (by decide) w (cries_nil w)) ?_ (by simp))
  rintro v1 i1 ⟨a, c, rfl, hac, rfl⟩
  refine AS.cons (sp_st 0 rfl rfl rfl rfl sz_26_7 rfl rfl ?_)
  refine AS.nil ?_
  intro _ S
  refine W.ret ?_
  exact retc (E := 26) (fr := (0, 0)) (b := b0) (l := bkL (bookB 0 []) none 0 a c) 0 ag_26_7 rfl rfl rfl rfl rfl S fun w' S' => ⟨_, ⟨a, c, rfl, hac, rfl⟩, S'.only 1⟩
theorem tornF (w : World) : Ct Tryd.prog 58 #[] w (fun u w' => ∃ i, CrR tornB none 0 u i ∧ St no w w' (upd eL 0 i) []) := by
  refine fn_intro (args := []) Tryd.func58 rfl rfl (by kernel_rfl) ?_
  have S := St.start no w
  refine W.seq (W.region S ?_)
  refine AS.cons (sp_alloc 0 zv_26 rfl (fun b0 => ?_))
  refine AS.nil ?_
  intro _ S
  refine W.seq (W.region S ?_)
  refine AS.cons (sp_call [] rfl rfl cf_57 (fun F w _ S => point _ _ w) ?_)
  refine AS.cons (sp_call [] rfl rfl cf_57 (fun F w _ S => point _ _ w) ?_)
  refine AS.cons (sp_call [] rfl rfl cf_59 (fun F w _ S => criesF _ _ _ _ _ _ _ w) ?_)
  refine AS.cons (sp_bs 4 [.tmp 3] _ sl_24_46_7 zs_46_7 rfl rfl rfl rfl rfl rfl (fun b4 => ?_))
  refine AS.cons (sp_call1 5 [4] _ rfl rfl cf_56 (fun F w hF S => bookF 0 _ 1 [cry3] (by decide) w (rd_pt (S.get ((hF 4 (by simp)).trans rfl)).1 rfl (by decide) (by decide))) ?_ (by simp))
  rintro v5 i5 ⟨a, c, rfl, hac, rfl⟩
  refine AS.cons (sp_st 0 rfl rfl rfl rfl sz_26_7 rfl rfl ?_)
  refine AS.nil ?_
  intro _ S
  refine W.ret ?_
  exact retc (E := 26) (fr := (0, 0)) (b := b0) (l := bkL (bookB 0 [cry3]) none 0 a c) 0 ag_26_7 rfl rfl rfl rfl rfl S fun w' S' => ⟨_, ⟨a, c, rfl, hac, rfl⟩, S'.only 5⟩
/-- A book with land and no cries. -/
def LnR (b : Bk) (u : Value) (i : HP) : Prop := ∃ a c, u = .agg (bkL b a c none 0).toArray ∧ b.land.length ≤ c ∧ i = slc 3 1 (.slice a b.land.length c) b.land.length (b.land.map iv)
theorem landF (w : World) : Ct Tryd.prog 60 #[] w (fun u w' => ∃ i, LnR landB u i ∧ St no w w' (upd eL 0 i) []) := by
  refine fn_intro (args := []) Tryd.func60 rfl rfl (by kernel_rfl) ?_
  have S := St.start no w
  refine W.seq (W.region S ?_)
  refine AS.cons (sp_alloc 0 zv_26 rfl (fun b0 => ?_))
  refine AS.nil ?_
  intro _ S
  refine W.seq (W.region S ?_)
  refine AS.cons (sp_bsS 1 [.const (.int .i64 1), .const (.int .i64 0)] _ sl_22_3_1 zs_3_1 rfl rfl rfl rfl rfl rfl (fun b1 => ?_))
  refine AS.cons (sp_build [iv 2, iv 1, .slice (some ⟨b1, 0, none⟩) 2 2, iv 0, iv 0, iv 0, nilS] (by kernel_rfl) ?_)
  refine AS.cons (sp_st 0 rfl rfl rfl rfl sz_26_7 rfl rfl ?_)
  refine AS.nil ?_
  intro _ S
  refine W.ret ?_
  exact retc (E := 26) (fr := (0, 0)) (b := b0) (l := bkL landB (some ⟨b1, 0, none⟩) 2 none 0) 0 ag_26_7 rfl rfl rfl rfl rfl S fun w' S' => ⟨_, ⟨_, 2, rfl, Nat.le_refl _, rfl⟩, S'.only 1⟩
end
end Go.Proofs.YtmpclgepoemneaaDoor

/-
  Where the shoal can be in the chapter's books, minute by minute; what is answered of them. Printed by wip/tools/rows.py.
-/
namespace Go.Proofs.YtmpclgepoemneaaDoor
set_option maxRecDepth 100000
open Go.Hu Go.RowKit
def cry5 : Cry := ⟨1, 0, 0, -9, 1, -9, 1⟩
/-- The squares that are the binary digits of a number. -/
def mk (M : Nat) : List Bool := (List.range 80).map fun t => M.testBit t
def lsM (M : Nat) : List Int := ((List.range 80).filter fun t => M.testBit t).map fun (n : Nat) => (n : Int)
theorem mk_get (M : Nat) {t : Nat} (ht : t < 80) : (mk M).getD t false = M.testBit t := by unfold mk; rw [List.getD_eq_getElem?_getD, List.getElem?_map, List.getElem?_range ht]; rfl
theorem Gs {b : Bk} {on : Bool} {k M M' : Nat} (h : G b on k = mk M) (h' : row b (ordI on (k + 1)) false (mk M) = mk M') : G b on (k + 1) = mk M' := by rw [G, h]; exact h'
theorem canM {b : Bk} {M : Nat} {x : Bool} (h : G b true 30 = mk M) (hx : (!(mk M == fls)) = x) : canB b = x := by unfold canB; rw [h]; exact hx
theorem whsM {b : Bk} {m A B : Nat} (hm : m ≤ 30) (h1 : G b true m = mk A) (h2 : G b false (30 - m) = mk B) : whs b m = lsM (A &&& B) := by
  unfold whs whU whN lsM
  congr 1
  refine List.filter_congr fun t ht => ?_
  rw [cnd_G b hm, h1, h2, mk_get A (List.mem_range.1 ht), mk_get B (List.mem_range.1 ht), Nat.testBit_and]
theorem own_t0 : G ownB true 0 = mk 7389570 := by kernel_rfl
theorem own_t1 : G ownB true 1 = mk 553864 := Gs own_t0 (by kernel_rfl)
theorem own_t2 : G ownB true 2 = mk 4061151 := Gs own_t1 (by kernel_rfl)
theorem own_t3 : G ownB true 3 = mk 16777215 := Gs own_t2 (by kernel_rfl)
theorem own_t4 : G ownB true 4 = mk 16777215 := Gs own_t3 (by kernel_rfl)
theorem own_t5 : G ownB true 5 = mk 16777215 := Gs own_t4 (by kernel_rfl)
theorem own_t6 : G ownB true 6 = mk 16777215 := Gs own_t5 (by kernel_rfl)
theorem own_t7 : G ownB true 7 = mk 16777215 := Gs own_t6 (by kernel_rfl)
theorem own_t8 : G ownB true 8 = mk 16777215 := Gs own_t7 (by kernel_rfl)
theorem own_t9 : G ownB true 9 = mk 16777215 := Gs own_t8 (by kernel_rfl)
theorem own_t10 : G ownB true 10 = mk 16777215 := Gs own_t9 (by kernel_rfl)
theorem own_t11 : G ownB true 11 = mk 16777215 := Gs own_t10 (by kernel_rfl)
theorem own_t12 : G ownB true 12 = mk 16777215 := Gs own_t11 (by kernel_rfl)
theorem own_t13 : G ownB true 13 = mk 16777215 := Gs own_t12 (by kernel_rfl)
theorem own_t14 : G ownB true 14 = mk 16777215 := Gs own_t13 (by kernel_rfl)
theorem own_t15 : G ownB true 15 = mk 16777215 := Gs own_t14 (by kernel_rfl)
theorem own_t16 : G ownB true 16 = mk 16777215 := Gs own_t15 (by kernel_rfl)
theorem own_t17 : G ownB true 17 = mk 16777215 := Gs own_t16 (by kernel_rfl)
theorem own_t18 : G ownB true 18 = mk 16777215 := Gs own_t17 (by kernel_rfl)
theorem own_t19 : G ownB true 19 = mk 16777215 := Gs own_t18 (by kernel_rfl)
theorem own_t20 : G ownB true 20 = mk 16777215 := Gs own_t19 (by kernel_rfl)
theorem own_t21 : G ownB true 21 = mk 16777215 := Gs own_t20 (by kernel_rfl)
theorem own_t22 : G ownB true 22 = mk 16777215 := Gs own_t21 (by kernel_rfl)
theorem own_t23 : G ownB true 23 = mk 16777215 := Gs own_t22 (by kernel_rfl)
theorem own_t24 : G ownB true 24 = mk 16777215 := Gs own_t23 (by kernel_rfl)
theorem own_t25 : G ownB true 25 = mk 16777215 := Gs own_t24 (by kernel_rfl)
theorem own_t26 : G ownB true 26 = mk 16777215 := Gs own_t25 (by kernel_rfl)
theorem own_t27 : G ownB true 27 = mk 16777215 := Gs own_t26 (by kernel_rfl)
theorem own_t28 : G ownB true 28 = mk 16777215 := Gs own_t27 (by kernel_rfl)
theorem own_t29 : G ownB true 29 = mk 16777215 := Gs own_t28 (by kernel_rfl)
theorem own_t30 : G ownB true 30 = mk 16777215 := Gs own_t29 (by kernel_rfl)
theorem own_f0 : G ownB false 0 = mk 16777215 := by kernel_rfl
theorem own_f1 : G ownB false 1 = mk 16777215 := Gs own_f0 (by kernel_rfl)
theorem own_f2 : G ownB false 2 = mk 16777215 := Gs own_f1 (by kernel_rfl)
theorem own_f3 : G ownB false 3 = mk 16777215 := Gs own_f2 (by kernel_rfl)
theorem own_f4 : G ownB false 4 = mk 16777215 := Gs own_f3 (by kernel_rfl)
theorem own_f5 : G ownB false 5 = mk 16777215 := Gs own_f4 (by kernel_rfl)
theorem own_f6 : G ownB false 6 = mk 16777215 := Gs own_f5 (by kernel_rfl)
theorem own_f7 : G ownB false 7 = mk 16777215 := Gs own_f6 (by kernel_rfl)
theorem own_f8 : G ownB false 8 = mk 16777215 := Gs own_f7 (by kernel_rfl)
theorem own_f9 : G ownB false 9 = mk 16777215 := Gs own_f8 (by kernel_rfl)
theorem own_f10 : G ownB false 10 = mk 16777215 := Gs own_f9 (by kernel_rfl)
theorem own_f11 : G ownB false 11 = mk 16777215 := Gs own_f10 (by kernel_rfl)
theorem own_f12 : G ownB false 12 = mk 16777215 := Gs own_f11 (by kernel_rfl)
theorem own_f13 : G ownB false 13 = mk 16777215 := Gs own_f12 (by kernel_rfl)
theorem own_f14 : G ownB false 14 = mk 16777215 := Gs own_f13 (by kernel_rfl)
theorem own_f15 : G ownB false 15 = mk 16777215 := Gs own_f14 (by kernel_rfl)
theorem own_f16 : G ownB false 16 = mk 16777215 := Gs own_f15 (by kernel_rfl)
theorem own_f17 : G ownB false 17 = mk 16777215 := Gs own_f16 (by kernel_rfl)
theorem own_f18 : G ownB false 18 = mk 16777215 := Gs own_f17 (by kernel_rfl)
theorem own_f19 : G ownB false 19 = mk 16777215 := Gs own_f18 (by kernel_rfl)
theorem own_f20 : G ownB false 20 = mk 16777215 := Gs own_f19 (by kernel_rfl)
theorem own_f21 : G ownB false 21 = mk 16777215 := Gs own_f20 (by kernel_rfl)
theorem own_f22 : G ownB false 22 = mk 16777215 := Gs own_f21 (by kernel_rfl)
theorem own_f23 : G ownB false 23 = mk 16777215 := Gs own_f22 (by kernel_rfl)
theorem own_f24 : G ownB false 24 = mk 16777215 := Gs own_f23 (by kernel_rfl)
theorem own_f25 : G ownB false 25 = mk 16777215 := Gs own_f24 (by kernel_rfl)
theorem own_f26 : G ownB false 26 = mk 16777215 := Gs own_f25 (by kernel_rfl)
theorem own_f27 : G ownB false 27 = mk 16777215 := Gs own_f26 (by kernel_rfl)
theorem own_f28 : G ownB false 28 = mk 16777215 := Gs own_f27 (by kernel_rfl)
theorem own_f29 : G ownB false 29 = mk 816024 := Gs own_f28 (by kernel_rfl)
theorem own_f30 : G ownB false 30 = mk 3195266 := Gs own_f29 (by kernel_rfl)
theorem can_own : canB ownB = true := canM own_t30 (by kernel_rfl)
theorem still_t0 : G stillB true 0 = mk 7389570 := by kernel_rfl
theorem still_t1 : G stillB true 1 = mk 16768 := Gs still_t0 (by kernel_rfl)
theorem still_t2 : G stillB true 2 = mk 16768 := Gs still_t1 (by kernel_rfl)
theorem still_t3 : G stillB true 3 = mk 16768 := Gs still_t2 (by kernel_rfl)
theorem still_t4 : G stillB true 4 = mk 16768 := Gs still_t3 (by kernel_rfl)
theorem still_t5 : G stillB true 5 = mk 16768 := Gs still_t4 (by kernel_rfl)
theorem still_t6 : G stillB true 6 = mk 16768 := Gs still_t5 (by kernel_rfl)
theorem still_t7 : G stillB true 7 = mk 16768 := Gs still_t6 (by kernel_rfl)
theorem still_t8 : G stillB true 8 = mk 16768 := Gs still_t7 (by kernel_rfl)
theorem still_t9 : G stillB true 9 = mk 16768 := Gs still_t8 (by kernel_rfl)
theorem still_t10 : G stillB true 10 = mk 16768 := Gs still_t9 (by kernel_rfl)
theorem still_t11 : G stillB true 11 = mk 16768 := Gs still_t10 (by kernel_rfl)
theorem still_t12 : G stillB true 12 = mk 16768 := Gs still_t11 (by kernel_rfl)
theorem still_t13 : G stillB true 13 = mk 16768 := Gs still_t12 (by kernel_rfl)
theorem still_t14 : G stillB true 14 = mk 16768 := Gs still_t13 (by kernel_rfl)
theorem still_t15 : G stillB true 15 = mk 16768 := Gs still_t14 (by kernel_rfl)
theorem still_t16 : G stillB true 16 = mk 16768 := Gs still_t15 (by kernel_rfl)
theorem still_t17 : G stillB true 17 = mk 16768 := Gs still_t16 (by kernel_rfl)
theorem still_t18 : G stillB true 18 = mk 16768 := Gs still_t17 (by kernel_rfl)
theorem still_t19 : G stillB true 19 = mk 16768 := Gs still_t18 (by kernel_rfl)
theorem still_t20 : G stillB true 20 = mk 16768 := Gs still_t19 (by kernel_rfl)
theorem still_t21 : G stillB true 21 = mk 16768 := Gs still_t20 (by kernel_rfl)
theorem still_t22 : G stillB true 22 = mk 16768 := Gs still_t21 (by kernel_rfl)
theorem still_t23 : G stillB true 23 = mk 16768 := Gs still_t22 (by kernel_rfl)
theorem still_t24 : G stillB true 24 = mk 16768 := Gs still_t23 (by kernel_rfl)
theorem still_t25 : G stillB true 25 = mk 16768 := Gs still_t24 (by kernel_rfl)
theorem still_t26 : G stillB true 26 = mk 16768 := Gs still_t25 (by kernel_rfl)
theorem still_t27 : G stillB true 27 = mk 16768 := Gs still_t26 (by kernel_rfl)
theorem still_t28 : G stillB true 28 = mk 16768 := Gs still_t27 (by kernel_rfl)
theorem still_t29 : G stillB true 29 = mk 16768 := Gs still_t28 (by kernel_rfl)
theorem still_t30 : G stillB true 30 = mk 16768 := Gs still_t29 (by kernel_rfl)
theorem still_f0 : G stillB false 0 = mk 16777215 := by kernel_rfl
theorem still_f1 : G stillB false 1 = mk 16777215 := Gs still_f0 (by kernel_rfl)
theorem still_f2 : G stillB false 2 = mk 16777215 := Gs still_f1 (by kernel_rfl)
theorem still_f3 : G stillB false 3 = mk 16777215 := Gs still_f2 (by kernel_rfl)
theorem still_f4 : G stillB false 4 = mk 16777215 := Gs still_f3 (by kernel_rfl)
theorem still_f5 : G stillB false 5 = mk 16777215 := Gs still_f4 (by kernel_rfl)
theorem still_f6 : G stillB false 6 = mk 16777215 := Gs still_f5 (by kernel_rfl)
theorem still_f7 : G stillB false 7 = mk 16777215 := Gs still_f6 (by kernel_rfl)
theorem still_f8 : G stillB false 8 = mk 16777215 := Gs still_f7 (by kernel_rfl)
theorem still_f9 : G stillB false 9 = mk 16777215 := Gs still_f8 (by kernel_rfl)
theorem still_f10 : G stillB false 10 = mk 16777215 := Gs still_f9 (by kernel_rfl)
theorem still_f11 : G stillB false 11 = mk 16777215 := Gs still_f10 (by kernel_rfl)
theorem still_f12 : G stillB false 12 = mk 16777215 := Gs still_f11 (by kernel_rfl)
theorem still_f13 : G stillB false 13 = mk 16777215 := Gs still_f12 (by kernel_rfl)
theorem still_f14 : G stillB false 14 = mk 16777215 := Gs still_f13 (by kernel_rfl)
theorem still_f15 : G stillB false 15 = mk 16777215 := Gs still_f14 (by kernel_rfl)
theorem still_f16 : G stillB false 16 = mk 16777215 := Gs still_f15 (by kernel_rfl)
theorem still_f17 : G stillB false 17 = mk 16777215 := Gs still_f16 (by kernel_rfl)
theorem still_f18 : G stillB false 18 = mk 16777215 := Gs still_f17 (by kernel_rfl)
theorem still_f19 : G stillB false 19 = mk 16777215 := Gs still_f18 (by kernel_rfl)
theorem still_f20 : G stillB false 20 = mk 16777215 := Gs still_f19 (by kernel_rfl)
theorem still_f21 : G stillB false 21 = mk 16777215 := Gs still_f20 (by kernel_rfl)
theorem still_f22 : G stillB false 22 = mk 16777215 := Gs still_f21 (by kernel_rfl)
theorem still_f23 : G stillB false 23 = mk 16777215 := Gs still_f22 (by kernel_rfl)
theorem still_f24 : G stillB false 24 = mk 16777215 := Gs still_f23 (by kernel_rfl)
theorem still_f25 : G stillB false 25 = mk 16777215 := Gs still_f24 (by kernel_rfl)
theorem still_f26 : G stillB false 26 = mk 16777215 := Gs still_f25 (by kernel_rfl)
theorem still_f27 : G stillB false 27 = mk 16777215 := Gs still_f26 (by kernel_rfl)
theorem still_f28 : G stillB false 28 = mk 16777215 := Gs still_f27 (by kernel_rfl)
theorem still_f29 : G stillB false 29 = mk 816024 := Gs still_f28 (by kernel_rfl)
theorem still_f30 : G stillB false 30 = mk 16768 := Gs still_f29 (by kernel_rfl)
theorem can_still : canB stillB = true := canM still_t30 (by kernel_rfl)
theorem torn_t0 : G tornB true 0 = mk 7389570 := by kernel_rfl
theorem torn_t1 : G tornB true 1 = mk 16768 := Gs torn_t0 (by kernel_rfl)
theorem torn_t2 : G tornB true 2 = mk 16768 := Gs torn_t1 (by kernel_rfl)
theorem torn_t3 : G tornB true 3 = mk 16768 := Gs torn_t2 (by kernel_rfl)
theorem torn_t4 : G tornB true 4 = mk 16768 := Gs torn_t3 (by kernel_rfl)
theorem torn_t5 : G tornB true 5 = mk 16768 := Gs torn_t4 (by kernel_rfl)
theorem torn_t6 : G tornB true 6 = mk 16768 := Gs torn_t5 (by kernel_rfl)
theorem torn_t7 : G tornB true 7 = mk 16768 := Gs torn_t6 (by kernel_rfl)
theorem torn_t8 : G tornB true 8 = mk 16768 := Gs torn_t7 (by kernel_rfl)
theorem torn_t9 : G tornB true 9 = mk 0 := Gs torn_t8 (by kernel_rfl)
theorem torn_t10 : G tornB true 10 = mk 0 := Gs torn_t9 (by kernel_rfl)
theorem torn_t11 : G tornB true 11 = mk 0 := Gs torn_t10 (by kernel_rfl)
theorem torn_t12 : G tornB true 12 = mk 0 := Gs torn_t11 (by kernel_rfl)
theorem torn_t13 : G tornB true 13 = mk 0 := Gs torn_t12 (by kernel_rfl)
theorem torn_t14 : G tornB true 14 = mk 0 := Gs torn_t13 (by kernel_rfl)
theorem torn_t15 : G tornB true 15 = mk 0 := Gs torn_t14 (by kernel_rfl)
theorem torn_t16 : G tornB true 16 = mk 0 := Gs torn_t15 (by kernel_rfl)
theorem torn_t17 : G tornB true 17 = mk 0 := Gs torn_t16 (by kernel_rfl)
theorem torn_t18 : G tornB true 18 = mk 0 := Gs torn_t17 (by kernel_rfl)
theorem torn_t19 : G tornB true 19 = mk 0 := Gs torn_t18 (by kernel_rfl)
theorem torn_t20 : G tornB true 20 = mk 0 := Gs torn_t19 (by kernel_rfl)
theorem torn_t21 : G tornB true 21 = mk 0 := Gs torn_t20 (by kernel_rfl)
theorem torn_t22 : G tornB true 22 = mk 0 := Gs torn_t21 (by kernel_rfl)
theorem torn_t23 : G tornB true 23 = mk 0 := Gs torn_t22 (by kernel_rfl)
theorem torn_t24 : G tornB true 24 = mk 0 := Gs torn_t23 (by kernel_rfl)
theorem torn_t25 : G tornB true 25 = mk 0 := Gs torn_t24 (by kernel_rfl)
theorem torn_t26 : G tornB true 26 = mk 0 := Gs torn_t25 (by kernel_rfl)
theorem torn_t27 : G tornB true 27 = mk 0 := Gs torn_t26 (by kernel_rfl)
theorem torn_t28 : G tornB true 28 = mk 0 := Gs torn_t27 (by kernel_rfl)
theorem torn_t29 : G tornB true 29 = mk 0 := Gs torn_t28 (by kernel_rfl)
theorem torn_t30 : G tornB true 30 = mk 0 := Gs torn_t29 (by kernel_rfl)
theorem can_torn : canB tornB = false := canM torn_t30 (by kernel_rfl)
theorem torn0_t0 : G (wo tornB (inQ [0])) true 0 = mk 16777215 := by kernel_rfl
theorem torn0_t1 : G (wo tornB (inQ [0])) true 1 = mk 816024 := Gs torn0_t0 (by kernel_rfl)
theorem torn0_t2 : G (wo tornB (inQ [0])) true 2 = mk 816024 := Gs torn0_t1 (by kernel_rfl)
theorem torn0_t3 : G (wo tornB (inQ [0])) true 3 = mk 816024 := Gs torn0_t2 (by kernel_rfl)
theorem torn0_t4 : G (wo tornB (inQ [0])) true 4 = mk 816024 := Gs torn0_t3 (by kernel_rfl)
theorem torn0_t5 : G (wo tornB (inQ [0])) true 5 = mk 816024 := Gs torn0_t4 (by kernel_rfl)
theorem torn0_t6 : G (wo tornB (inQ [0])) true 6 = mk 816024 := Gs torn0_t5 (by kernel_rfl)
theorem torn0_t7 : G (wo tornB (inQ [0])) true 7 = mk 816024 := Gs torn0_t6 (by kernel_rfl)
theorem torn0_t8 : G (wo tornB (inQ [0])) true 8 = mk 816024 := Gs torn0_t7 (by kernel_rfl)
theorem torn0_t9 : G (wo tornB (inQ [0])) true 9 = mk 799256 := Gs torn0_t8 (by kernel_rfl)
theorem torn0_t10 : G (wo tornB (inQ [0])) true 10 = mk 799256 := Gs torn0_t9 (by kernel_rfl)
theorem torn0_t11 : G (wo tornB (inQ [0])) true 11 = mk 799256 := Gs torn0_t10 (by kernel_rfl)
theorem torn0_t12 : G (wo tornB (inQ [0])) true 12 = mk 799256 := Gs torn0_t11 (by kernel_rfl)
theorem torn0_t13 : G (wo tornB (inQ [0])) true 13 = mk 799256 := Gs torn0_t12 (by kernel_rfl)
theorem torn0_t14 : G (wo tornB (inQ [0])) true 14 = mk 799256 := Gs torn0_t13 (by kernel_rfl)
theorem torn0_t15 : G (wo tornB (inQ [0])) true 15 = mk 799256 := Gs torn0_t14 (by kernel_rfl)
theorem torn0_t16 : G (wo tornB (inQ [0])) true 16 = mk 799256 := Gs torn0_t15 (by kernel_rfl)
theorem torn0_t17 : G (wo tornB (inQ [0])) true 17 = mk 799256 := Gs torn0_t16 (by kernel_rfl)
theorem torn0_t18 : G (wo tornB (inQ [0])) true 18 = mk 799256 := Gs torn0_t17 (by kernel_rfl)
theorem torn0_t19 : G (wo tornB (inQ [0])) true 19 = mk 799256 := Gs torn0_t18 (by kernel_rfl)
theorem torn0_t20 : G (wo tornB (inQ [0])) true 20 = mk 799256 := Gs torn0_t19 (by kernel_rfl)
theorem torn0_t21 : G (wo tornB (inQ [0])) true 21 = mk 799256 := Gs torn0_t20 (by kernel_rfl)
theorem torn0_t22 : G (wo tornB (inQ [0])) true 22 = mk 799256 := Gs torn0_t21 (by kernel_rfl)
theorem torn0_t23 : G (wo tornB (inQ [0])) true 23 = mk 799256 := Gs torn0_t22 (by kernel_rfl)
theorem torn0_t24 : G (wo tornB (inQ [0])) true 24 = mk 799256 := Gs torn0_t23 (by kernel_rfl)
theorem torn0_t25 : G (wo tornB (inQ [0])) true 25 = mk 799256 := Gs torn0_t24 (by kernel_rfl)
theorem torn0_t26 : G (wo tornB (inQ [0])) true 26 = mk 799256 := Gs torn0_t25 (by kernel_rfl)
theorem torn0_t27 : G (wo tornB (inQ [0])) true 27 = mk 799256 := Gs torn0_t26 (by kernel_rfl)
theorem torn0_t28 : G (wo tornB (inQ [0])) true 28 = mk 799256 := Gs torn0_t27 (by kernel_rfl)
theorem torn0_t29 : G (wo tornB (inQ [0])) true 29 = mk 799256 := Gs torn0_t28 (by kernel_rfl)
theorem torn0_t30 : G (wo tornB (inQ [0])) true 30 = mk 799256 := Gs torn0_t29 (by kernel_rfl)
theorem can_torn0 : canB (wo tornB (inQ [0])) = true := canM torn0_t30 (by kernel_rfl)
theorem own4_t0 : G (wi ownB cry4) true 0 = mk 7389570 := by kernel_rfl
theorem own4_t1 : G (wi ownB cry4) true 1 = mk 537096 := Gs own4_t0 (by kernel_rfl)
theorem own4_t2 : G (wi ownB cry4) true 2 = mk 1963996 := Gs own4_t1 (by kernel_rfl)
theorem own4_t3 : G (wi ownB cry4) true 3 = mk 16777215 := Gs own4_t2 (by kernel_rfl)
theorem own4_t4 : G (wi ownB cry4) true 4 = mk 16777215 := Gs own4_t3 (by kernel_rfl)
theorem own4_t5 : G (wi ownB cry4) true 5 = mk 16777215 := Gs own4_t4 (by kernel_rfl)
theorem own4_t6 : G (wi ownB cry4) true 6 = mk 16777215 := Gs own4_t5 (by kernel_rfl)
theorem own4_t7 : G (wi ownB cry4) true 7 = mk 16777215 := Gs own4_t6 (by kernel_rfl)
theorem own4_t8 : G (wi ownB cry4) true 8 = mk 16777215 := Gs own4_t7 (by kernel_rfl)
theorem own4_t9 : G (wi ownB cry4) true 9 = mk 16777215 := Gs own4_t8 (by kernel_rfl)
theorem own4_t10 : G (wi ownB cry4) true 10 = mk 16777215 := Gs own4_t9 (by kernel_rfl)
theorem own4_t11 : G (wi ownB cry4) true 11 = mk 16777215 := Gs own4_t10 (by kernel_rfl)
theorem own4_t12 : G (wi ownB cry4) true 12 = mk 16777215 := Gs own4_t11 (by kernel_rfl)
theorem own4_t13 : G (wi ownB cry4) true 13 = mk 16777215 := Gs own4_t12 (by kernel_rfl)
theorem own4_t14 : G (wi ownB cry4) true 14 = mk 16777215 := Gs own4_t13 (by kernel_rfl)
theorem own4_t15 : G (wi ownB cry4) true 15 = mk 16777215 := Gs own4_t14 (by kernel_rfl)
theorem own4_t16 : G (wi ownB cry4) true 16 = mk 16777215 := Gs own4_t15 (by kernel_rfl)
theorem own4_t17 : G (wi ownB cry4) true 17 = mk 16777215 := Gs own4_t16 (by kernel_rfl)
theorem own4_t18 : G (wi ownB cry4) true 18 = mk 16777215 := Gs own4_t17 (by kernel_rfl)
theorem own4_t19 : G (wi ownB cry4) true 19 = mk 16777215 := Gs own4_t18 (by kernel_rfl)
theorem own4_t20 : G (wi ownB cry4) true 20 = mk 16777215 := Gs own4_t19 (by kernel_rfl)
theorem own4_t21 : G (wi ownB cry4) true 21 = mk 16777215 := Gs own4_t20 (by kernel_rfl)
theorem own4_t22 : G (wi ownB cry4) true 22 = mk 16777215 := Gs own4_t21 (by kernel_rfl)
theorem own4_t23 : G (wi ownB cry4) true 23 = mk 16777215 := Gs own4_t22 (by kernel_rfl)
theorem own4_t24 : G (wi ownB cry4) true 24 = mk 16777215 := Gs own4_t23 (by kernel_rfl)
theorem own4_t25 : G (wi ownB cry4) true 25 = mk 16777215 := Gs own4_t24 (by kernel_rfl)
theorem own4_t26 : G (wi ownB cry4) true 26 = mk 16777215 := Gs own4_t25 (by kernel_rfl)
theorem own4_t27 : G (wi ownB cry4) true 27 = mk 16777215 := Gs own4_t26 (by kernel_rfl)
theorem own4_t28 : G (wi ownB cry4) true 28 = mk 16777215 := Gs own4_t27 (by kernel_rfl)
theorem own4_t29 : G (wi ownB cry4) true 29 = mk 16777215 := Gs own4_t28 (by kernel_rfl)
theorem own4_t30 : G (wi ownB cry4) true 30 = mk 16777215 := Gs own4_t29 (by kernel_rfl)
theorem can_own4 : canB (wi ownB cry4) = true := canM own4_t30 (by kernel_rfl)
theorem own5_t0 : G (wi ownB cry5) true 0 = mk 0 := by kernel_rfl
theorem own5_t1 : G (wi ownB cry5) true 1 = mk 0 := Gs own5_t0 (by kernel_rfl)
theorem own5_t2 : G (wi ownB cry5) true 2 = mk 0 := Gs own5_t1 (by kernel_rfl)
theorem own5_t3 : G (wi ownB cry5) true 3 = mk 0 := Gs own5_t2 (by kernel_rfl)
theorem own5_t4 : G (wi ownB cry5) true 4 = mk 0 := Gs own5_t3 (by kernel_rfl)
theorem own5_t5 : G (wi ownB cry5) true 5 = mk 0 := Gs own5_t4 (by kernel_rfl)
theorem own5_t6 : G (wi ownB cry5) true 6 = mk 0 := Gs own5_t5 (by kernel_rfl)
theorem own5_t7 : G (wi ownB cry5) true 7 = mk 0 := Gs own5_t6 (by kernel_rfl)
theorem own5_t8 : G (wi ownB cry5) true 8 = mk 0 := Gs own5_t7 (by kernel_rfl)
theorem own5_t9 : G (wi ownB cry5) true 9 = mk 0 := Gs own5_t8 (by kernel_rfl)
theorem own5_t10 : G (wi ownB cry5) true 10 = mk 0 := Gs own5_t9 (by kernel_rfl)
theorem own5_t11 : G (wi ownB cry5) true 11 = mk 0 := Gs own5_t10 (by kernel_rfl)
theorem own5_t12 : G (wi ownB cry5) true 12 = mk 0 := Gs own5_t11 (by kernel_rfl)
theorem own5_t13 : G (wi ownB cry5) true 13 = mk 0 := Gs own5_t12 (by kernel_rfl)
theorem own5_t14 : G (wi ownB cry5) true 14 = mk 0 := Gs own5_t13 (by kernel_rfl)
theorem own5_t15 : G (wi ownB cry5) true 15 = mk 0 := Gs own5_t14 (by kernel_rfl)
theorem own5_t16 : G (wi ownB cry5) true 16 = mk 0 := Gs own5_t15 (by kernel_rfl)
theorem own5_t17 : G (wi ownB cry5) true 17 = mk 0 := Gs own5_t16 (by kernel_rfl)
theorem own5_t18 : G (wi ownB cry5) true 18 = mk 0 := Gs own5_t17 (by kernel_rfl)
theorem own5_t19 : G (wi ownB cry5) true 19 = mk 0 := Gs own5_t18 (by kernel_rfl)
theorem own5_t20 : G (wi ownB cry5) true 20 = mk 0 := Gs own5_t19 (by kernel_rfl)
theorem own5_t21 : G (wi ownB cry5) true 21 = mk 0 := Gs own5_t20 (by kernel_rfl)
theorem own5_t22 : G (wi ownB cry5) true 22 = mk 0 := Gs own5_t21 (by kernel_rfl)
theorem own5_t23 : G (wi ownB cry5) true 23 = mk 0 := Gs own5_t22 (by kernel_rfl)
theorem own5_t24 : G (wi ownB cry5) true 24 = mk 0 := Gs own5_t23 (by kernel_rfl)
theorem own5_t25 : G (wi ownB cry5) true 25 = mk 0 := Gs own5_t24 (by kernel_rfl)
theorem own5_t26 : G (wi ownB cry5) true 26 = mk 0 := Gs own5_t25 (by kernel_rfl)
theorem own5_t27 : G (wi ownB cry5) true 27 = mk 0 := Gs own5_t26 (by kernel_rfl)
theorem own5_t28 : G (wi ownB cry5) true 28 = mk 0 := Gs own5_t27 (by kernel_rfl)
theorem own5_t29 : G (wi ownB cry5) true 29 = mk 0 := Gs own5_t28 (by kernel_rfl)
theorem own5_t30 : G (wi ownB cry5) true 30 = mk 0 := Gs own5_t29 (by kernel_rfl)
theorem can_own5 : canB (wi ownB cry5) = false := canM own5_t30 (by kernel_rfl)
theorem land_t0 : G landB true 0 = mk 0 := by kernel_rfl
theorem land_t1 : G landB true 1 = mk 0 := Gs land_t0 (by kernel_rfl)
theorem land_t2 : G landB true 2 = mk 0 := Gs land_t1 (by kernel_rfl)
theorem land_t3 : G landB true 3 = mk 0 := Gs land_t2 (by kernel_rfl)
theorem land_t4 : G landB true 4 = mk 0 := Gs land_t3 (by kernel_rfl)
theorem land_t5 : G landB true 5 = mk 0 := Gs land_t4 (by kernel_rfl)
theorem land_t6 : G landB true 6 = mk 0 := Gs land_t5 (by kernel_rfl)
theorem land_t7 : G landB true 7 = mk 0 := Gs land_t6 (by kernel_rfl)
theorem land_t8 : G landB true 8 = mk 0 := Gs land_t7 (by kernel_rfl)
theorem land_t9 : G landB true 9 = mk 0 := Gs land_t8 (by kernel_rfl)
theorem land_t10 : G landB true 10 = mk 0 := Gs land_t9 (by kernel_rfl)
theorem land_t11 : G landB true 11 = mk 0 := Gs land_t10 (by kernel_rfl)
theorem land_t12 : G landB true 12 = mk 0 := Gs land_t11 (by kernel_rfl)
theorem land_t13 : G landB true 13 = mk 0 := Gs land_t12 (by kernel_rfl)
theorem land_t14 : G landB true 14 = mk 0 := Gs land_t13 (by kernel_rfl)
theorem land_t15 : G landB true 15 = mk 0 := Gs land_t14 (by kernel_rfl)
theorem land_t16 : G landB true 16 = mk 0 := Gs land_t15 (by kernel_rfl)
theorem land_t17 : G landB true 17 = mk 0 := Gs land_t16 (by kernel_rfl)
theorem land_t18 : G landB true 18 = mk 0 := Gs land_t17 (by kernel_rfl)
theorem land_t19 : G landB true 19 = mk 0 := Gs land_t18 (by kernel_rfl)
theorem land_t20 : G landB true 20 = mk 0 := Gs land_t19 (by kernel_rfl)
theorem land_t21 : G landB true 21 = mk 0 := Gs land_t20 (by kernel_rfl)
theorem land_t22 : G landB true 22 = mk 0 := Gs land_t21 (by kernel_rfl)
theorem land_t23 : G landB true 23 = mk 0 := Gs land_t22 (by kernel_rfl)
theorem land_t24 : G landB true 24 = mk 0 := Gs land_t23 (by kernel_rfl)
theorem land_t25 : G landB true 25 = mk 0 := Gs land_t24 (by kernel_rfl)
theorem land_t26 : G landB true 26 = mk 0 := Gs land_t25 (by kernel_rfl)
theorem land_t27 : G landB true 27 = mk 0 := Gs land_t26 (by kernel_rfl)
theorem land_t28 : G landB true 28 = mk 0 := Gs land_t27 (by kernel_rfl)
theorem land_t29 : G landB true 29 = mk 0 := Gs land_t28 (by kernel_rfl)
theorem land_t30 : G landB true 30 = mk 0 := Gs land_t29 (by kernel_rfl)
theorem can_land : canB landB = false := canM land_t30 (by kernel_rfl)
theorem whs_own0 : whs ownB 0 = [1, 7, 8, 14, 15, 20, 21] := (whsM (by decide) own_t0 own_f30).trans (by kernel_rfl)
theorem whs_own1 : whs ownB 1 = [3, 7, 8, 9, 12, 13, 14, 19] := (whsM (by decide) own_t1 own_f29).trans (by kernel_rfl)
theorem whs_own2 : whs ownB 2 = [0, 1, 2, 3, 4, 6, 7, 8, 9, 10, 12, 13, 14, 15, 16, 18, 19, 20, 21] := (whsM (by decide) own_t2 own_f28).trans (by kernel_rfl)
theorem whs_own3 : whs ownB 3 = [0, 1, 2, 3, 4, 5, 6, 7, 8, 9, 10, 11, 12, 13, 14, 15, 16, 17, 18, 19, 20, 21, 22, 23] := (whsM (by decide) own_t3 own_f27).trans (by kernel_rfl)
theorem whs_own4 : whs ownB 4 = [0, 1, 2, 3, 4, 5, 6, 7, 8, 9, 10, 11, 12, 13, 14, 15, 16, 17, 18, 19, 20, 21, 22, 23] := (whsM (by decide) own_t4 own_f26).trans (by kernel_rfl)
theorem whs_own5 : whs ownB 5 = [0, 1, 2, 3, 4, 5, 6, 7, 8, 9, 10, 11, 12, 13, 14, 15, 16, 17, 18, 19, 20, 21, 22, 23] := (whsM (by decide) own_t5 own_f25).trans (by kernel_rfl)
theorem whs_own6 : whs ownB 6 = [0, 1, 2, 3, 4, 5, 6, 7, 8, 9, 10, 11, 12, 13, 14, 15, 16, 17, 18, 19, 20, 21, 22, 23] := (whsM (by decide) own_t6 own_f24).trans (by kernel_rfl)
theorem whs_own7 : whs ownB 7 = [0, 1, 2, 3, 4, 5, 6, 7, 8, 9, 10, 11, 12, 13, 14, 15, 16, 17, 18, 19, 20, 21, 22, 23] := (whsM (by decide) own_t7 own_f23).trans (by kernel_rfl)
theorem whs_own8 : whs ownB 8 = [0, 1, 2, 3, 4, 5, 6, 7, 8, 9, 10, 11, 12, 13, 14, 15, 16, 17, 18, 19, 20, 21, 22, 23] := (whsM (by decide) own_t8 own_f22).trans (by kernel_rfl)
theorem whs_own9 : whs ownB 9 = [0, 1, 2, 3, 4, 5, 6, 7, 8, 9, 10, 11, 12, 13, 14, 15, 16, 17, 18, 19, 20, 21, 22, 23] := (whsM (by decide) own_t9 own_f21).trans (by kernel_rfl)
theorem whs_own10 : whs ownB 10 = [0, 1, 2, 3, 4, 5, 6, 7, 8, 9, 10, 11, 12, 13, 14, 15, 16, 17, 18, 19, 20, 21, 22, 23] := (whsM (by decide) own_t10 own_f20).trans (by kernel_rfl)
theorem whs_own11 : whs ownB 11 = [0, 1, 2, 3, 4, 5, 6, 7, 8, 9, 10, 11, 12, 13, 14, 15, 16, 17, 18, 19, 20, 21, 22, 23] := (whsM (by decide) own_t11 own_f19).trans (by kernel_rfl)
theorem whs_own12 : whs ownB 12 = [0, 1, 2, 3, 4, 5, 6, 7, 8, 9, 10, 11, 12, 13, 14, 15, 16, 17, 18, 19, 20, 21, 22, 23] := (whsM (by decide) own_t12 own_f18).trans (by kernel_rfl)
theorem whs_own13 : whs ownB 13 = [0, 1, 2, 3, 4, 5, 6, 7, 8, 9, 10, 11, 12, 13, 14, 15, 16, 17, 18, 19, 20, 21, 22, 23] := (whsM (by decide) own_t13 own_f17).trans (by kernel_rfl)
theorem whs_own14 : whs ownB 14 = [0, 1, 2, 3, 4, 5, 6, 7, 8, 9, 10, 11, 12, 13, 14, 15, 16, 17, 18, 19, 20, 21, 22, 23] := (whsM (by decide) own_t14 own_f16).trans (by kernel_rfl)
theorem whs_own15 : whs ownB 15 = [0, 1, 2, 3, 4, 5, 6, 7, 8, 9, 10, 11, 12, 13, 14, 15, 16, 17, 18, 19, 20, 21, 22, 23] := (whsM (by decide) own_t15 own_f15).trans (by kernel_rfl)
theorem whs_own16 : whs ownB 16 = [0, 1, 2, 3, 4, 5, 6, 7, 8, 9, 10, 11, 12, 13, 14, 15, 16, 17, 18, 19, 20, 21, 22, 23] := (whsM (by decide) own_t16 own_f14).trans (by kernel_rfl)
theorem whs_own17 : whs ownB 17 = [0, 1, 2, 3, 4, 5, 6, 7, 8, 9, 10, 11, 12, 13, 14, 15, 16, 17, 18, 19, 20, 21, 22, 23] := (whsM (by decide) own_t17 own_f13).trans (by kernel_rfl)
theorem whs_own18 : whs ownB 18 = [0, 1, 2, 3, 4, 5, 6, 7, 8, 9, 10, 11, 12, 13, 14, 15, 16, 17, 18, 19, 20, 21, 22, 23] := (whsM (by decide) own_t18 own_f12).trans (by kernel_rfl)
theorem whs_own19 : whs ownB 19 = [0, 1, 2, 3, 4, 5, 6, 7, 8, 9, 10, 11, 12, 13, 14, 15, 16, 17, 18, 19, 20, 21, 22, 23] := (whsM (by decide) own_t19 own_f11).trans (by kernel_rfl)
theorem whs_own20 : whs ownB 20 = [0, 1, 2, 3, 4, 5, 6, 7, 8, 9, 10, 11, 12, 13, 14, 15, 16, 17, 18, 19, 20, 21, 22, 23] := (whsM (by decide) own_t20 own_f10).trans (by kernel_rfl)
theorem whs_own21 : whs ownB 21 = [0, 1, 2, 3, 4, 5, 6, 7, 8, 9, 10, 11, 12, 13, 14, 15, 16, 17, 18, 19, 20, 21, 22, 23] := (whsM (by decide) own_t21 own_f9).trans (by kernel_rfl)
theorem whs_own22 : whs ownB 22 = [0, 1, 2, 3, 4, 5, 6, 7, 8, 9, 10, 11, 12, 13, 14, 15, 16, 17, 18, 19, 20, 21, 22, 23] := (whsM (by decide) own_t22 own_f8).trans (by kernel_rfl)
theorem whs_own23 : whs ownB 23 = [0, 1, 2, 3, 4, 5, 6, 7, 8, 9, 10, 11, 12, 13, 14, 15, 16, 17, 18, 19, 20, 21, 22, 23] := (whsM (by decide) own_t23 own_f7).trans (by kernel_rfl)
theorem whs_own24 : whs ownB 24 = [0, 1, 2, 3, 4, 5, 6, 7, 8, 9, 10, 11, 12, 13, 14, 15, 16, 17, 18, 19, 20, 21, 22, 23] := (whsM (by decide) own_t24 own_f6).trans (by kernel_rfl)
theorem whs_own25 : whs ownB 25 = [0, 1, 2, 3, 4, 5, 6, 7, 8, 9, 10, 11, 12, 13, 14, 15, 16, 17, 18, 19, 20, 21, 22, 23] := (whsM (by decide) own_t25 own_f5).trans (by kernel_rfl)
theorem whs_own26 : whs ownB 26 = [0, 1, 2, 3, 4, 5, 6, 7, 8, 9, 10, 11, 12, 13, 14, 15, 16, 17, 18, 19, 20, 21, 22, 23] := (whsM (by decide) own_t26 own_f4).trans (by kernel_rfl)
theorem whs_own27 : whs ownB 27 = [0, 1, 2, 3, 4, 5, 6, 7, 8, 9, 10, 11, 12, 13, 14, 15, 16, 17, 18, 19, 20, 21, 22, 23] := (whsM (by decide) own_t27 own_f3).trans (by kernel_rfl)
theorem whs_own28 : whs ownB 28 = [0, 1, 2, 3, 4, 5, 6, 7, 8, 9, 10, 11, 12, 13, 14, 15, 16, 17, 18, 19, 20, 21, 22, 23] := (whsM (by decide) own_t28 own_f2).trans (by kernel_rfl)
theorem whs_own29 : whs ownB 29 = [0, 1, 2, 3, 4, 5, 6, 7, 8, 9, 10, 11, 12, 13, 14, 15, 16, 17, 18, 19, 20, 21, 22, 23] := (whsM (by decide) own_t29 own_f1).trans (by kernel_rfl)
theorem whs_own30 : whs ownB 30 = [0, 1, 2, 3, 4, 5, 6, 7, 8, 9, 10, 11, 12, 13, 14, 15, 16, 17, 18, 19, 20, 21, 22, 23] := (whsM (by decide) own_t30 own_f0).trans (by kernel_rfl)
theorem whs_still0 : whs stillB 0 = [7, 8, 14] := (whsM (by decide) still_t0 still_f30).trans (by kernel_rfl)
theorem whs_still1 : whs stillB 1 = [7, 8, 14] := (whsM (by decide) still_t1 still_f29).trans (by kernel_rfl)
theorem whs_still2 : whs stillB 2 = [7, 8, 14] := (whsM (by decide) still_t2 still_f28).trans (by kernel_rfl)
theorem whs_still3 : whs stillB 3 = [7, 8, 14] := (whsM (by decide) still_t3 still_f27).trans (by kernel_rfl)
theorem whs_still4 : whs stillB 4 = [7, 8, 14] := (whsM (by decide) still_t4 still_f26).trans (by kernel_rfl)
theorem whs_still5 : whs stillB 5 = [7, 8, 14] := (whsM (by decide) still_t5 still_f25).trans (by kernel_rfl)
theorem whs_still6 : whs stillB 6 = [7, 8, 14] := (whsM (by decide) still_t6 still_f24).trans (by kernel_rfl)
theorem whs_still7 : whs stillB 7 = [7, 8, 14] := (whsM (by decide) still_t7 still_f23).trans (by kernel_rfl)
theorem whs_still8 : whs stillB 8 = [7, 8, 14] := (whsM (by decide) still_t8 still_f22).trans (by kernel_rfl)
theorem whs_still9 : whs stillB 9 = [7, 8, 14] := (whsM (by decide) still_t9 still_f21).trans (by kernel_rfl)
theorem whs_still10 : whs stillB 10 = [7, 8, 14] := (whsM (by decide) still_t10 still_f20).trans (by kernel_rfl)
theorem whs_still11 : whs stillB 11 = [7, 8, 14] := (whsM (by decide) still_t11 still_f19).trans (by kernel_rfl)
theorem whs_still12 : whs stillB 12 = [7, 8, 14] := (whsM (by decide) still_t12 still_f18).trans (by kernel_rfl)
theorem whs_still13 : whs stillB 13 = [7, 8, 14] := (whsM (by decide) still_t13 still_f17).trans (by kernel_rfl)
theorem whs_still14 : whs stillB 14 = [7, 8, 14] := (whsM (by decide) still_t14 still_f16).trans (by kernel_rfl)
theorem whs_still15 : whs stillB 15 = [7, 8, 14] := (whsM (by decide) still_t15 still_f15).trans (by kernel_rfl)
theorem whs_still16 : whs stillB 16 = [7, 8, 14] := (whsM (by decide) still_t16 still_f14).trans (by kernel_rfl)
theorem whs_still17 : whs stillB 17 = [7, 8, 14] := (whsM (by decide) still_t17 still_f13).trans (by kernel_rfl)
theorem whs_still18 : whs stillB 18 = [7, 8, 14] := (whsM (by decide) still_t18 still_f12).trans (by kernel_rfl)
theorem whs_still19 : whs stillB 19 = [7, 8, 14] := (whsM (by decide) still_t19 still_f11).trans (by kernel_rfl)
theorem whs_still20 : whs stillB 20 = [7, 8, 14] := (whsM (by decide) still_t20 still_f10).trans (by kernel_rfl)
theorem whs_still21 : whs stillB 21 = [7, 8, 14] := (whsM (by decide) still_t21 still_f9).trans (by kernel_rfl)
theorem whs_still22 : whs stillB 22 = [7, 8, 14] := (whsM (by decide) still_t22 still_f8).trans (by kernel_rfl)
theorem whs_still23 : whs stillB 23 = [7, 8, 14] := (whsM (by decide) still_t23 still_f7).trans (by kernel_rfl)
theorem whs_still24 : whs stillB 24 = [7, 8, 14] := (whsM (by decide) still_t24 still_f6).trans (by kernel_rfl)
theorem whs_still25 : whs stillB 25 = [7, 8, 14] := (whsM (by decide) still_t25 still_f5).trans (by kernel_rfl)
theorem whs_still26 : whs stillB 26 = [7, 8, 14] := (whsM (by decide) still_t26 still_f4).trans (by kernel_rfl)
theorem whs_still27 : whs stillB 27 = [7, 8, 14] := (whsM (by decide) still_t27 still_f3).trans (by kernel_rfl)
theorem whs_still28 : whs stillB 28 = [7, 8, 14] := (whsM (by decide) still_t28 still_f2).trans (by kernel_rfl)
theorem whs_still29 : whs stillB 29 = [7, 8, 14] := (whsM (by decide) still_t29 still_f1).trans (by kernel_rfl)
theorem whs_still30 : whs stillB 30 = [7, 8, 14] := (whsM (by decide) still_t30 still_f0).trans (by kernel_rfl)
end Go.Proofs.YtmpclgepoemneaaDoor

/-
  The chapter's examples.
-/
namespace Go.Proofs.YtmpclgepoemneaaDoor
set_option maxRecDepth 100000
open Go.Hu Go.RowKit
section
theorem ok_own : okAll ownB = true := by kernel_rfl
theorem ok_still : okAll stillB = true := by kernel_rfl
theorem ok_torn : okAll tornB = true := by kernel_rfl
theorem ask_of {b : Bk} (h1 : okAll b = true) (h2 : canB b = true) {p : Bool} (hp : p = true) : askV b p = 0 := by unfold askV; rw [h1, h2, hp]; rfl
theorem cv_seen : seenL ownB 0 = [1, 7, 8, 14, 15, 20, 21, 22] := by kernel_rfl
theorem cv_seenE : seenE ownB 0 = 0 := by kernel_rfl
theorem ask_own {p : Bool} (hp : p = true) : askV ownB p = 0 := ask_of ok_own can_own hp
theorem ask_still {p : Bool} (hp : p = true) : askV stillB p = 0 := ask_of ok_still can_still hp
theorem cv_where : whereL ownB 0 = [1, 7, 8, 14, 15, 20, 21] := by unfold whereL; rw [ask_own (by decide), if_pos rfl]; exact whs_own0
theorem cv_apart : apartV ownB 1 = 3 := by unfold apartV; rw [ask_own (by decide), if_pos rfl, show (1 : Int).toNat = 1 from rfl, whs_own1]; kernel_rfl
theorem cv_can : canL ownB 2 0 = true := by unfold canL; rw [ask_own (by decide), show (2 : Int).toNat = 2 from rfl, whs_own2]; decide
theorem cv_shotN : shotN ownB (whs ownB 0) 3 4 = 1 := by rw [whs_own0]; kernel_rfl
theorem cv_shotE : shotE ownB 0 3 4 = 0 := by unfold shotE; rw [ask_own (by decide), if_pos rfl, show (0 : Int).toNat = 0 from rfl, cv_shotN]; rfl
theorem cv_shotV : shotV ownB 0 3 4 = 1 := by unfold shotV; rw [cv_shotE, if_pos rfl]; exact cv_shotN
theorem cv_soonN : shotN stillB (whs stillB 0) 2 2 = 7 := by rw [whs_still0]; kernel_rfl
theorem cv_soonM : soonM stillB 2 2 = 0 := fstN_at (p := fun m => decide (0 ≤ shotN stillB (whs stillB m) 2 2)) (n := 0) (by decide) (by show decide (0 ≤ shotN stillB (whs stillB 0) 2 2) = true; rw [cv_soonN]; rfl) (fun i hi => absurd hi (by omega))
theorem cv_soonE : soonE stillB 2 2 = 0 := by unfold soonE; rw [ask_still (by decide), if_pos rfl, cv_soonM]; rfl
theorem cv_soonV : soonV stillB 2 2 = 0 := by unfold soonV; rw [cv_soonE, if_pos rfl]; exact cv_soonM
theorem cv_soonS : soonS stillB 2 2 = 7 := by unfold soonS; rw [cv_soonE, if_pos rfl, cv_soonM]; exact cv_soonN
theorem cv_fitsV : fitsV ownB cry4 = true := by unfold fitsV; rw [ok_own, can_own4, decide_eq_true (show CryOk cry4 by decide)]; rfl
theorem cv_fitsE : fitsE ownB cry4 = 0 := by unfold fitsE; rw [if_pos ok_own, if_pos (by decide)]
theorem Best.one {N : Nat} {P : List Int → Bool} (hN : 0 < N) (h0 : P [] = false) (h1 : P [0] = true) : Best N P [0] := by
  refine ⟨⟨Int.le_refl 0, by omega, trivial⟩, h1, fun m hm hl => ?_⟩
  cases m with
  | nil => exact h0
  | cons x t =>
    cases t with
    | nil =>
      have hx := hm.1
      exfalso
      simp only [fewL, ltL, List.length_cons, List.length_nil, Bool.or_eq_true, Bool.and_eq_true, decide_eq_true_eq] at hl
      rcases hl with hl | ⟨_, hl | ⟨_, hl⟩⟩
      · omega
      · omega
      · cases hl
    | cons y t => simp [fewL] at hl
theorem cv_wrongO : wrongO tornB = some [0] := wrO_best (Best.one (by decide) (by unfold Pw; rw [show wo tornB (inQ []) = tornB from by kernel_rfl]; exact can_torn) can_torn0)
theorem cv_wrongL : wrongL tornB = [0] := by unfold wrongL; rw [if_pos ok_torn, cv_wrongO]; rfl
theorem cv_wrongE : wrongE tornB = 0 := by unfold wrongE; rw [if_pos ok_torn, cv_wrongO]; rfl
theorem cv_right : (okAll ownB && canB ownB) = true := by rw [ok_own, can_own]; rfl
theorem cv_chk : chkV ownB = 0 := by unfold chkV; rw [if_pos ok_own]
theorem cried (w : World) (hK : Kinds w) : Ct Tryd.prog 28 #[] w (fun u w' => u = .bool true ∧ Ext w w') := by
  refine fn_intro (args := []) Tryd.func28 rfl rfl (by kernel_rfl) ?_
  have S := St.start no w
  refine W.seq (W.region S ?_)
  refine AS.cons (sp_asg rfl ?_)
  refine AS.nil ?_
  intro _ S
  refine W.seq (W.region S ?_)
  refine AS.cons (sp_call1 17 [] _ rfl rfl cf_55 (fun F w _ S => ownF w) ?_ (by simp))
  rintro v17 i17 ⟨a17, c17, rfl, h17, rfl⟩
  refine AS.cons (sp_call1 18 [17] _ rfl rfl cf_15 (fun F w hF S => by have h := seenP ownB none 0 a17 c17 0 w (ints_nil w) (S.slc_rd (k := 17) ((hF 17 (by simp)).trans rfl) (by decide)); rw [cv_seen, cv_seenE] at h; exact h) ?_ (by simp))
  rintro v18 i18 ⟨a18, c18, h18, rfl, rfl⟩
  refine AS.cons (sp_move rfl ?_)
  refine AS.cons (sp_ext rfl rfl ?_)
  refine AS.cons (sp_ext rfl rfl ?_)
  refine AS.cons (sp_asg rfl ?_)
  refine AS.cons (sp_asg (v := .int _ _) rfl ?_)
  refine AS.nil ?_
  intro _ S
  refine W.seq (W.region S ?_)
  refine AS.cons (sp_call1 22 [] _ rfl rfl cf_55 (fun F w _ S => ownF w) ?_ (by simp))
  rintro v22 i22 ⟨a22, c22, rfl, h22, rfl⟩
  refine AS.cons (sp_call1 23 [22] _ rfl rfl cf_22 (fun F w hF S => by have h := whereP ownB none 0 a22 c22 0 w (hK.ext S.mod) (ints_nil w) (S.slc_rd (k := 22) ((hF 22 (by simp)).trans rfl) (by decide)); rw [cv_where, ask_own (by decide)] at h; exact h) ?_ (by simp))
  rintro v23 i23 ⟨a23, c23, h23, rfl, rfl⟩
  refine AS.cons (sp_move rfl ?_)
  refine AS.cons (sp_ext rfl rfl ?_)
  refine AS.cons (sp_ext rfl rfl ?_)
  refine AS.cons (sp_asg rfl ?_)
  refine AS.cons (sp_asg (v := .int _ _) rfl ?_)
  refine AS.nil ?_
  intro _ S
  refine W.seq (W.region S ?_)
  refine AS.cons (sp_call1 27 [] _ rfl rfl cf_55 (fun F w _ S => ownF w) ?_ (by simp))
  rintro v27 i27 ⟨a27, c27, rfl, h27, rfl⟩
  refine AS.cons (sp_call [27] rfl rfl cf_26 (fun F w hF S => by have h := apartP ownB none 0 a27 c27 1 w (hK.ext S.mod) (ints_nil w) (S.slc_rd (k := 27) ((hF 27 (by simp)).trans rfl) (by decide)); rw [cv_apart, ask_own (by decide)] at h; exact h) ?_)
  refine AS.cons (sp_move rfl ?_)
  refine AS.cons (sp_ext rfl rfl ?_)
  refine AS.cons (sp_ext rfl rfl ?_)
  refine AS.cons (sp_asg (v := .int _ _) rfl ?_)
  refine AS.cons (sp_asg (v := .int _ _) rfl ?_)
  refine AS.nil ?_
  intro _ S
  refine W.seq (W.region S ?_)
  refine AS.cons (sp_call1 32 [] _ rfl rfl cf_55 (fun F w _ S => ownF w) ?_ (by simp))
  rintro v32 i32 ⟨a32, c32, rfl, h32, rfl⟩
  refine AS.cons (sp_call [32] rfl rfl cf_24 (fun F w hF S => by have h := canP ownB none 0 a32 c32 2 0 w (hK.ext S.mod) (ints_nil w) (S.slc_rd (k := 32) ((hF 32 (by simp)).trans rfl) (by decide)); rw [cv_can, ask_own (by decide)] at h; exact h) ?_)
  refine AS.cons (sp_move rfl ?_)
  refine AS.cons (sp_ext rfl rfl ?_)
  refine AS.cons (sp_ext rfl rfl ?_)
  refine AS.cons (sp_asg (v := .bool _) rfl ?_)
  refine AS.cons (sp_asg (v := .int _ _) rfl ?_)
  refine AS.nil ?_
  intro _ S
  refine W.seq (W.region S ?_)
  refine AS.cons (sp_call1 37 [] _ rfl rfl cf_55 (fun F w _ S => ownF w) ?_ (by simp))
  rintro v37 i37 ⟨a37, c37, rfl, h37, rfl⟩
  refine AS.cons (sp_call [37] rfl rfl cf_29 (fun F w hF S => by have h := shotP ownB none 0 a37 c37 0 3 4 w (hK.ext S.mod) (ints_nil w) (S.slc_rd (k := 37) ((hF 37 (by simp)).trans rfl) (by decide)); rw [cv_shotV, cv_shotE] at h; exact h) ?_)
  refine AS.cons (sp_move rfl ?_)
  refine AS.cons (sp_ext rfl rfl ?_)
  refine AS.cons (sp_ext rfl rfl ?_)
  refine AS.cons (sp_asg (v := .int _ _) rfl ?_)
  refine AS.cons (sp_asg (v := .int _ _) rfl ?_)
  refine AS.nil ?_
  intro _ S
  refine W.seq (W.seq (W.region S ?_))
  refine AS.cons (sp_move (v := .int _ _) rfl ?_)
  refine AS.cons (sp_neq rfl rfl ?_)
  refine AS.cons (sp_move (v := .bool _) rfl ?_)
  refine AS.split 43 rfl (fun g43 => ?_) (fun g43 => ?_)
  · exact absurd g43 (by decide)
  · skip
    refine AS.cons (sp_move (v := .int _ _) rfl ?_)
    refine AS.cons (sp_neq rfl rfl ?_)
    refine AS.cons (sp_pick_f rfl (v := .bool _) rfl ?_)
    refine AS.cons (sp_move (v := .bool _) rfl ?_)
    refine AS.split 47 rfl (fun g47 => ?_) (fun g47 => ?_)
    · exact absurd g47 (by decide)
    · skip
      refine AS.cons (sp_move (v := .int _ _) rfl ?_)
      refine AS.cons (sp_neq rfl rfl ?_)
      refine AS.cons (sp_pick_f rfl (v := .bool _) rfl ?_)
      refine AS.cons (sp_move (v := .bool _) rfl ?_)
      refine AS.split 51 rfl (fun g51 => ?_) (fun g51 => ?_)
      · exact absurd g51 (by decide)
      · skip
        refine AS.cons (sp_move (v := .int _ _) rfl ?_)
        refine AS.cons (sp_neq rfl rfl ?_)
        refine AS.cons (sp_pick_f rfl (v := .bool _) rfl ?_)
        refine AS.cons (sp_move (v := .bool _) rfl ?_)
        refine AS.split 55 rfl (fun g55 => ?_) (fun g55 => ?_)
        · exact absurd g55 (by decide)
        · skip
          refine AS.cons (sp_move (v := .int _ _) rfl ?_)
          refine AS.cons (sp_neq rfl rfl ?_)
          refine AS.cons (sp_pick_f rfl (v := .bool _) rfl ?_)
          refine AS.cons (sp_move (v := .bool _) rfl ?_)
          refine AS.split 59 rfl (fun g59 => ?_) (fun g59 => ?_)
          · exact absurd g59 (by decide)
          · skip
            refine AS.cons (sp_move rfl ?_)
            refine AS.cons (sp_bs 61 [.const (.int .i64 1), .const (.int .i64 7), .const (.int .i64 8), .const (.int .i64 14), .const (.int .i64 15), .const (.int .i64 20), .const (.int .i64 21), .const (.int .i64 22)] _ sl_22_3_1 zs_3_1 rfl rfl rfl rfl rfl rfl (fun b61 => ?_))
            refine AS.cons (sp_call [18, 61] rfl rfl cf_17 (fun F w hF S => same a18 c18 [1, 7, 8, 14, 15, 20, 21, 22] _ 8 [1, 7, 8, 14, 15, 20, 21, 22] w (S.slc_rd (k := 18) ((hF 18 (by simp)).trans rfl) (by decide)) (rd_pt (S.get ((hF 61 (by simp)).trans rfl)).1 rfl (by decide) (by decide))) ?_)
            refine AS.cons (sp_not rfl ?_)
            refine AS.cons (sp_pick_f rfl (v := .bool _) rfl ?_)
            refine AS.cons (sp_move (v := .bool _) rfl ?_)
            refine AS.split 65 rfl (fun g65 => ?_) (fun g65 => ?_)
            · exact absurd g65 (by decide)
            · skip
              refine AS.cons (sp_move rfl ?_)
              refine AS.cons (sp_bs 67 [.const (.int .i64 1), .const (.int .i64 7), .const (.int .i64 8), .const (.int .i64 14), .const (.int .i64 15), .const (.int .i64 20), .const (.int .i64 21)] _ sl_22_3_1 zs_3_1 rfl rfl rfl rfl rfl rfl (fun b67 => ?_))
              refine AS.cons (sp_call [23, 67] rfl rfl cf_17 (fun F w hF S => same a23 c23 [1, 7, 8, 14, 15, 20, 21] _ 7 [1, 7, 8, 14, 15, 20, 21] w (S.slc_rd (k := 23) ((hF 23 (by simp)).trans rfl) (by decide)) (rd_pt (S.get ((hF 67 (by simp)).trans rfl)).1 rfl (by decide) (by decide))) ?_)
              refine AS.cons (sp_not rfl ?_)
              refine AS.cons (sp_pick_f rfl (v := .bool _) rfl ?_)
              refine AS.cons (sp_move (v := .bool _) rfl ?_)
              refine AS.split 71 rfl (fun g71 => ?_) (fun g71 => ?_)
              · exact absurd g71 (by decide)
              · skip
                refine AS.cons (sp_move (v := .int _ _) rfl ?_)
                refine AS.cons (sp_neq rfl rfl ?_)
                refine AS.cons (sp_pick_f rfl (v := .bool _) rfl ?_)
                refine AS.cons (sp_move (v := .bool _) rfl ?_)
                refine AS.split 75 rfl (fun g75 => ?_) (fun g75 => ?_)
                · exact absurd g75 (by decide)
                · skip
                  refine AS.cons (sp_move (v := .bool _) rfl ?_)
                  refine AS.cons (sp_not rfl ?_)
                  refine AS.cons (sp_pick_f rfl (v := .bool _) rfl ?_)
                  refine AS.cons (sp_move (v := .bool _) rfl ?_)
                  refine AS.split 79 rfl (fun g79 => ?_) (fun g79 => ?_)
                  · exact absurd g79 (by decide)
                  · skip
                    refine AS.cons (sp_move (v := .int _ _) rfl ?_)
                    refine AS.cons (sp_neq rfl rfl ?_)
                    refine AS.cons (sp_pick_f rfl (v := .bool _) rfl ?_)
                    refine AS.nil ?_
                    intro _ S
                    refine W.cond rfl (fun c82 => ?_) (fun c82 => ?_)
                    · exact absurd c82 (by decide)
                    · skip
                      refine W.skip ?_
                      refine W.seq (W.region S ?_)
                      refine AS.cons (sp_call1 84 [] _ rfl rfl cf_61 (fun F w _ S => stillF w) ?_ (by simp))
                      rintro v84 i84 ⟨a84, c84, rfl, h84, rfl⟩
                      refine AS.cons (sp_call [84] rfl rfl cf_31 (fun F w hF S => by have h := soonP stillB none 0 a84 c84 2 2 w (hK.ext S.mod) (ints_nil w) (S.slc_rd (k := 84) ((hF 84 (by simp)).trans rfl) (by decide)); rw [cv_soonV, cv_soonS, cv_soonE] at h; exact h) ?_)
                      refine AS.cons (sp_move rfl ?_)
                      refine AS.cons (sp_ext rfl rfl ?_)
                      refine AS.cons (sp_ext rfl rfl ?_)
                      refine AS.cons (sp_ext rfl rfl ?_)
                      refine AS.cons (sp_asg (v := .int _ _) rfl ?_)
                      refine AS.cons (sp_asg (v := .int _ _) rfl ?_)
                      refine AS.cons (sp_asg (v := .int _ _) rfl ?_)
                      refine AS.nil ?_
                      intro _ S
                      refine W.seq (W.region S ?_)
                      refine AS.cons (sp_call1 90 [] _ rfl rfl cf_55 (fun F w _ S => ownF w) ?_ (by simp))
                      rintro v90 i90 ⟨a90, c90, rfl, h90, rfl⟩
                      refine AS.cons (sp_call [] rfl rfl cf_57 (fun F w _ S => point _ _ w) ?_)
                      refine AS.cons (sp_call [] rfl rfl cf_57 (fun F w _ S => point _ _ w) ?_)
                      refine AS.cons (sp_call [] rfl rfl cf_59 (fun F w _ S => criesF _ _ _ _ _ _ _ w) ?_)
                      refine AS.cons (sp_call [90] rfl rfl cf_33 (fun F w hF S => by have h := fitsP ownB none 0 a90 c90 cry4 w (hK.ext S.mod) (ints_nil w) (S.slc_rd (k := 90) ((hF 90 (by simp)).trans rfl) (by decide)); rw [cv_fitsV, cv_fitsE] at h; exact h) ?_)
                      refine AS.cons (sp_move rfl ?_)
                      refine AS.cons (sp_ext rfl rfl ?_)
                      refine AS.cons (sp_ext rfl rfl ?_)
                      refine AS.cons (sp_asg (v := .bool _) rfl ?_)
                      refine AS.cons (sp_asg (v := .int _ _) rfl ?_)
                      refine AS.nil ?_
                      intro _ S
                      refine W.seq (W.region S ?_)
                      refine AS.cons (sp_call1 98 [] _ rfl rfl cf_58 (fun F w _ S => tornF w) ?_ (by simp))
                      rintro v98 i98 ⟨a98, c98, rfl, h98, rfl⟩
                      refine AS.cons (sp_call1 99 [98] _ rfl rfl cf_35 (fun F w hF S => by have h := wrongP tornB none 0 a98 c98 w (hK.ext S.mod) (ints_nil w) (S.slc_rd (k := 98) ((hF 98 (by simp)).trans rfl) (by decide)); rw [cv_wrongL, cv_wrongE] at h; exact h) ?_ (by simp))
                      rintro v99 i99 ⟨a99, c99, h99, rfl, rfl⟩
                      refine AS.cons (sp_move rfl ?_)
                      refine AS.cons (sp_ext rfl rfl ?_)
                      refine AS.cons (sp_ext rfl rfl ?_)
                      refine AS.cons (sp_asg rfl ?_)
                      refine AS.cons (sp_asg (v := .int _ _) rfl ?_)
                      refine AS.nil ?_
                      intro _ S
                      refine W.seq (W.region S ?_)
                      refine AS.cons (sp_call1 103 [] _ rfl rfl cf_55 (fun F w _ S => ownF w) ?_ (by simp))
                      rintro v103 i103 ⟨a103, c103, rfl, h103, rfl⟩
                      refine AS.cons (sp_call [103] rfl rfl cf_20 (fun F w hF S => by have h := right ownB none 0 a103 c103 w (hK.ext S.mod) (ints_nil w) (S.slc_rd (k := 103) ((hF 103 (by simp)).trans rfl) (by decide)); rw [cv_right, cv_chk] at h; exact h) ?_)
                      refine AS.cons (sp_move rfl ?_)
                      refine AS.cons (sp_ext rfl rfl ?_)
                      refine AS.cons (sp_ext rfl rfl ?_)
                      refine AS.cons (sp_asg (v := .bool _) rfl ?_)
                      refine AS.cons (sp_asg (v := .int _ _) rfl ?_)
                      refine AS.nil ?_
                      intro _ S
                      refine W.seq (W.region S ?_)
                      refine AS.cons (sp_move (v := .int _ _) rfl ?_)
                      refine AS.cons (sp_eql rfl rfl ?_)
                      refine AS.cons (sp_move (v := .bool _) rfl ?_)
                      refine AS.split 109 rfl (fun g109 => ?_) (fun g109 => ?_)
                      · skip
                        refine AS.cons (sp_move (v := .int _ _) rfl ?_)
                        refine AS.cons (sp_eql rfl rfl ?_)
                        refine AS.cons (sp_pick_t rfl (v := .bool _) rfl ?_)
                        refine AS.cons (sp_move (v := .bool _) rfl ?_)
                        refine AS.split 113 rfl (fun g113 => ?_) (fun g113 => ?_)
                        · skip
                          refine AS.cons (sp_move (v := .int _ _) rfl ?_)
                          refine AS.cons (sp_eql rfl rfl ?_)
                          refine AS.cons (sp_pick_t rfl (v := .bool _) rfl ?_)
                          refine AS.cons (sp_move (v := .bool _) rfl ?_)
                          refine AS.split 117 rfl (fun g117 => ?_) (fun g117 => ?_)
                          · skip
                            refine AS.cons (sp_move (v := .int _ _) rfl ?_)
                            refine AS.cons (sp_eql rfl rfl ?_)
                            refine AS.cons (sp_pick_t rfl (v := .bool _) rfl ?_)
                            refine AS.cons (sp_move (v := .bool _) rfl ?_)
                            refine AS.split 121 rfl (fun g121 => ?_) (fun g121 => ?_)
                            · skip
                              refine AS.cons (sp_move (v := .int _ _) rfl ?_)
                              refine AS.cons (sp_eql rfl rfl ?_)
                              refine AS.cons (sp_pick_t rfl (v := .bool _) rfl ?_)
                              refine AS.cons (sp_move (v := .bool _) rfl ?_)
                              refine AS.split 125 rfl (fun g125 => ?_) (fun g125 => ?_)
                              · skip
                                refine AS.cons (sp_move (v := .int _ _) rfl ?_)
                                refine AS.cons (sp_eql rfl rfl ?_)
                                refine AS.cons (sp_pick_t rfl (v := .bool _) rfl ?_)
                                refine AS.cons (sp_move (v := .bool _) rfl ?_)
                                refine AS.split 129 rfl (fun g129 => ?_) (fun g129 => ?_)
                                · skip
                                  refine AS.cons (sp_move (v := .bool _) rfl ?_)
                                  refine AS.cons (sp_pick_t rfl (v := .bool _) rfl ?_)
                                  refine AS.cons (sp_move (v := .bool _) rfl ?_)
                                  refine AS.split 132 rfl (fun g132 => ?_) (fun g132 => ?_)
                                  · skip
                                    refine AS.cons (sp_move rfl ?_)
                                    refine AS.cons (sp_bs 134 [.const (.int .i64 0)] _ sl_22_3_1 zs_3_1 rfl rfl rfl rfl rfl rfl (fun b134 => ?_))
                                    refine AS.cons (sp_call [99, 134] rfl rfl cf_17 (fun F w hF S => same a99 c99 [0] _ 1 [0] w (S.slc_rd (k := 99) ((hF 99 (by simp)).trans rfl) (by decide)) (rd_pt (S.get ((hF 134 (by simp)).trans rfl)).1 rfl (by decide) (by decide))) ?_)
                                    refine AS.cons (sp_pick_t rfl (v := .bool _) rfl ?_)
                                    refine AS.cons (sp_move (v := .bool _) rfl ?_)
                                    refine AS.split 137 rfl (fun g137 => ?_) (fun g137 => ?_)
                                    · skip
                                      refine AS.cons (sp_move (v := .bool _) rfl ?_)
                                      refine AS.cons (sp_pick_t rfl (v := .bool _) rfl ?_)
                                      refine AS.cons (sp_asg (v := .bool _) rfl ?_)
                                      refine AS.nil ?_
                                      intro _ S
                                      refine W.ret ?_
                                      exact ret1 rfl rfl S fun w' S' => ⟨rfl, S'.mod⟩
                                    · exact absurd g137 (by decide)
                                  · exact absurd g132 (by decide)
                                · exact absurd g129 (by decide)
                              · exact absurd g125 (by decide)
                            · exact absurd g121 (by decide)
                          · exact absurd g117 (by decide)
                        · exact absurd g113 (by decide)
                      · exact absurd g109 (by decide)
end
end Go.Proofs.YtmpclgepoemneaaDoor

/-
  The first three laws, walked.
-/
namespace Go.Proofs.YtmpclgepoemneaaDoor
set_option maxRecDepth 100000
open Go.Hu Go.RowKit
section
variable (b : Bk) (la : Option Addr) (lc : Nat) (ca : Option Addr) (cc : Nat)
theorem no_neq {α : Type} [DecidableEq α] {x : α} (h : decide (¬ x = x) = true) : False := by simp at h
theorem no_eq {α : Type} [DecidableEq α] {x : α} (h : decide (x = x) = false) : False := by simp at h
theorem no_same {α : Type} [DecidableEq α] {x : α} (h : (!decide (x = x)) = true) : False := by simp at h
theorem whereL_len (m : Int) : (whereL b m).length ≤ 80 := by
  unfold whereL; split
  · exact whU_len b m.toNat 80
  · simp
theorem seenL_len (k : Int) : (seenL b k).length ≤ sq b := by
  unfold seenL; split
  · exact seenU_len b _ _
  · simp
theorem seenL_80 (k : Int) : (seenL b k).length ≤ 80 := by
  by_cases h : seenE b k = 0
  · have hok : okAll b = true := by
      cases e : okAll b with
      | true => rfl
      | false => unfold seenE at h; rw [e] at h; simp at h
    exact Nat.le_trans (seenL_len b k) (sq_le (okAll_ok hok).num).1
  · unfold seenL; rw [if_neg h]; simp
theorem wrongL_len : (wrongL b).length ≤ 8 := by
  unfold wrongL; split
  · next hok =>
    cases e : wrongO b with
    | none => simp
    | some l =>
      have hb := wrO_some e
      have := Up.len (Int.le_refl 0) (by omega) hb.up
      have := (okAll_ok hok).lc
      simp only [Option.getD_some]; omega
  · simp
theorem wheresL (n0 n1 n2 : Int) (w : World) (hK : Kinds w) (hl : Ints w la lc b.land) (hC : Cries w ca cc b.cries) : Ct Tryd.prog 3 #[.agg (bkL b la lc ca cc).toArray, .agg [iv n0, iv n1, iv n2].toArray] w (fun u w' => u = .bool true ∧ Ext w w') := by
  refine fn_intro (args := [.agg (bkL b la lc ca cc).toArray, .agg [iv n0, iv n1, iv n2].toArray]) Tryd.func3 rfl rfl (by kernel_rfl) ?_
  have S := St.start no w
  have hsl := seenL_80 b n0
  have hwl := whereL_len b n1
  refine W.seq (W.region S ?_)
  refine AS.cons (sp_boxa 2 rfl (fun b2 => ?_))
  refine AS.cons (sp_boxa 3 rfl (fun b3 => ?_))
  refine AS.cons (sp_asg rfl ?_)
  refine AS.nil ?_
  intro _ S
  refine W.seq (W.region S ?_)
  refine AS.cons (sp_ldw 2 rfl rfl ag_26_7 ?_)
  refine AS.cons (sp_iaa rfl rfl ar_27_3_3_1 (by first | omega | (simp only [decide_eq_true_eq, decide_eq_false_iff_not] at *; omega)) ?_)
  refine AS.cons (sp_ld 3 rfl rfl sc_3 rfl ?_)
  refine AS.cons (sp_call1 17 [] _ rfl rfl cf_15 (fun F w _ S => seenP b la lc ca cc n0 w (hl.ext S.mod) (hC.ext S.mod)) ?_ (by simp))
  rintro v17 i17 ⟨a17, c17, h17, rfl, rfl⟩
  refine AS.cons (sp_move rfl ?_)
  refine AS.cons (sp_ext rfl rfl ?_)
  refine AS.cons (sp_ext rfl rfl ?_)
  refine AS.cons (sp_asg rfl ?_)
  refine AS.cons (sp_asg (v := .int _ _) rfl ?_)
  refine AS.nil ?_
  intro _ S
  refine W.seq (W.region S ?_)
  refine AS.cons (sp_ldw 2 rfl rfl ag_26_7 ?_)
  refine AS.cons (sp_iaa rfl rfl ar_27_3_3_1 (by first | omega | (simp only [decide_eq_true_eq, decide_eq_false_iff_not] at *; omega)) ?_)
  refine AS.cons (sp_ld 3 rfl rfl sc_3 rfl ?_)
  refine AS.cons (sp_call1 24 [] _ rfl rfl cf_16 (fun F w _ S => seenRR b la lc ca cc n0 w (hl.ext S.mod) (hC.ext S.mod)) ?_ (by simp))
  rintro v24 i24 ⟨a24, c24, h24, rfl, rfl⟩
  refine AS.cons (sp_move rfl ?_)
  refine AS.cons (sp_ext rfl rfl ?_)
  refine AS.cons (sp_ext rfl rfl ?_)
  refine AS.cons (sp_asg rfl ?_)
  refine AS.cons (sp_asg (v := .int _ _) rfl ?_)
  refine AS.nil ?_
  intro _ S
  refine W.seq (W.seq (W.draw S mixed (fun i => ([KD.q [], KD.q [], KD.e [17, 24] [], KD.q [], KD.q [], KD.q [], KD.q [], KD.q [], KD.q [], KD.q [], KD.q [2], KD.e [] [], KD.q [2], KD.e [] [], KD.q [], KD.q []] : List KD)[i]?) [4, 9] [0, 1, 2, 3, 4, 5, 6, 7, 8, 9, 10, 11, 12, 13, 14, 15] (by kernel_rfl) ?_))
  refine AW.cons rfl rfl (sp_move rfl ?_)
  refine AW.cons rfl rfl (sp_move rfl ?_)
  refine AW.cons rfl rfl (sp_call [17, 24] rfl rfl cf_17 (fun F w hF S => same a17 c17 (seenL b n0) a24 c24 (seenL b n0) w (S.slc_rd (k := 17) ((hF 17 (by simp)).trans rfl) (by omega)) (S.slc_rd (k := 24) ((hF 24 (by simp)).trans rfl) (by omega))) ?_)
  refine AW.cons rfl rfl (sp_not rfl ?_)
  refine AW.cons rfl rfl (sp_move (v := .bool _) rfl ?_)
  refine AW.split 31 rfl (fun g31 => ?_) (fun g31 => ?_)
  · exact (no_same g31).elim
  · skip
    refine AW.cons rfl rfl (sp_move (v := .int _ _) rfl ?_)
    refine AW.cons rfl rfl (sp_move (v := .int _ _) rfl ?_)
    refine AW.cons rfl rfl (sp_neq rfl rfl ?_)
    refine AW.cons rfl rfl (sp_pick_f rfl (v := .bool _) rfl ?_)
    refine AW.cons rfl rfl (sp_move (v := .bool _) rfl ?_)
    refine AW.split 36 rfl (fun g36 => ?_) (fun g36 => ?_)
    · exact (no_neq g36).elim
    · skip
      refine AW.cons rfl rfl (sp_ldw 2 rfl rfl ag_26_7 ?_)
      refine AW.cons rfl rfl (sp_call [] rfl rfl cf_18 (fun F w _ S => check _ _ _ _ _ w (hl.ext S.mod) (hC.ext S.mod)) ?_)
      refine AW.cons rfl rfl (sp_ldw 2 rfl rfl ag_26_7 ?_)
      refine AW.cons rfl rfl (sp_call [] rfl rfl cf_19 (fun F w _ S => checkR _ _ _ _ _ w (hl.ext S.mod) (hC.ext S.mod)) ?_)
      refine AW.cons rfl rfl (sp_neq rfl rfl ?_)
      refine AW.cons rfl rfl (sp_pick_f rfl (v := .bool _) rfl ?_)
      refine AW.nil ?_
      intro _ S
      refine W.cond rfl (fun c42 => ?_) (fun c42 => ?_)
      · exact (no_neq c42).elim
      · skip
        refine W.skip ?_
        refine W.seq (W.region S ?_)
        refine AS.cons (sp_ldw 2 rfl rfl ag_26_7 ?_)
        refine AS.cons (sp_call [] rfl rfl cf_20 (fun F w _ S => right b la lc ca cc w (hK.ext S.mod) (hl.ext S.mod) (hC.ext S.mod)) ?_)
        refine AS.cons (sp_move rfl ?_)
        refine AS.cons (sp_ext rfl rfl ?_)
        refine AS.cons (sp_ext rfl rfl ?_)
        refine AS.cons (sp_asg (v := .bool _) rfl ?_)
        refine AS.cons (sp_asg (v := .int _ _) rfl ?_)
        refine AS.nil ?_
        intro _ S
        refine W.seq (W.region S ?_)
        refine AS.cons (sp_ldw 2 rfl rfl ag_26_7 ?_)
        refine AS.cons (sp_call [] rfl rfl cf_21 (fun F w _ S => rightR b la lc ca cc w (hl.ext S.mod) (hC.ext S.mod)) ?_)
        refine AS.cons (sp_move rfl ?_)
        refine AS.cons (sp_ext rfl rfl ?_)
        refine AS.cons (sp_ext rfl rfl ?_)
        refine AS.cons (sp_asg (v := .bool _) rfl ?_)
        refine AS.cons (sp_asg (v := .int _ _) rfl ?_)
        refine AS.nil ?_
        intro _ S
        refine W.seq (W.seq (W.region S ?_))
        refine AS.cons (sp_move (v := .bool _) rfl ?_)
        refine AS.cons (sp_move (v := .bool _) rfl ?_)
        refine AS.cons (sp_neqb rfl rfl bool_4 ?_)
        refine AS.cons (sp_move (v := .bool _) rfl ?_)
        refine AS.split 56 rfl (fun g56 => ?_) (fun g56 => ?_)
        · exact absurd g56 (by simp)
        · skip
          refine AS.cons (sp_move (v := .int _ _) rfl ?_)
          refine AS.cons (sp_move (v := .int _ _) rfl ?_)
          refine AS.cons (sp_neq rfl rfl ?_)
          refine AS.cons (sp_pick_f rfl (v := .bool _) rfl ?_)
          refine AS.nil ?_
          intro _ S
          refine W.cond rfl (fun c60 => ?_) (fun c60 => ?_)
          · exact (no_neq c60).elim
          · skip
            refine W.skip ?_
            refine W.seq (W.region S ?_)
            refine AS.cons (sp_ldw 2 rfl rfl ag_26_7 ?_)
            refine AS.cons (sp_iaa rfl rfl ar_27_3_3_1 (by first | omega | (simp only [decide_eq_true_eq, decide_eq_false_iff_not] at *; omega)) ?_)
            refine AS.cons (sp_ld 3 rfl rfl sc_3 rfl ?_)
            refine AS.cons (sp_call1 65 [] _ rfl rfl cf_22 (fun F w _ S => whereP b la lc ca cc n1 w (hK.ext S.mod) (hl.ext S.mod) (hC.ext S.mod)) ?_ (by simp))
            rintro v65 i65 ⟨a65, c65, h65, rfl, rfl⟩
            refine AS.cons (sp_move rfl ?_)
            refine AS.cons (sp_ext rfl rfl ?_)
            refine AS.cons (sp_ext rfl rfl ?_)
            refine AS.cons (sp_asg rfl ?_)
            refine AS.cons (sp_asg (v := .int _ _) rfl ?_)
            refine AS.nil ?_
            intro _ S
            refine W.seq (W.region S ?_)
            refine AS.cons (sp_ldw 2 rfl rfl ag_26_7 ?_)
            refine AS.cons (sp_iaa rfl rfl ar_27_3_3_1 (by first | omega | (simp only [decide_eq_true_eq, decide_eq_false_iff_not] at *; omega)) ?_)
            refine AS.cons (sp_ld 3 rfl rfl sc_3 rfl ?_)
            refine AS.cons (sp_call1 72 [] _ rfl rfl cf_23 (fun F w _ S => whereRR b la lc ca cc n1 w (hl.ext S.mod) (hC.ext S.mod)) ?_ (by simp))
            rintro v72 i72 ⟨a72, c72, h72, rfl, rfl⟩
            refine AS.cons (sp_move rfl ?_)
            refine AS.cons (sp_ext rfl rfl ?_)
            refine AS.cons (sp_ext rfl rfl ?_)
            refine AS.cons (sp_asg rfl ?_)
            refine AS.cons (sp_asg (v := .int _ _) rfl ?_)
            refine AS.nil ?_
            intro _ S
            refine W.seq (W.seq (W.region S ?_))
            refine AS.cons (sp_move rfl ?_)
            refine AS.cons (sp_move rfl ?_)
            refine AS.cons (sp_call [65, 72] rfl rfl cf_17 (fun F w hF S => same a65 c65 (whereL b n1) a72 c72 (whereL b n1) w (S.slc_rd (k := 65) ((hF 65 (by simp)).trans rfl) (by omega)) (S.slc_rd (k := 72) ((hF 72 (by simp)).trans rfl) (by omega))) ?_)
            refine AS.cons (sp_not rfl ?_)
            refine AS.cons (sp_move (v := .bool _) rfl ?_)
            refine AS.split 79 rfl (fun g79 => ?_) (fun g79 => ?_)
            · exact (no_same g79).elim
            · skip
              refine AS.cons (sp_move (v := .int _ _) rfl ?_)
              refine AS.cons (sp_move (v := .int _ _) rfl ?_)
              refine AS.cons (sp_neq rfl rfl ?_)
              refine AS.cons (sp_pick_f rfl (v := .bool _) rfl ?_)
              refine AS.nil ?_
              intro _ S
              refine W.cond rfl (fun c83 => ?_) (fun c83 => ?_)
              · exact (no_neq c83).elim
              · skip
                refine W.skip ?_
                refine W.seq (W.region S ?_)
                refine AS.cons (sp_ldw 2 rfl rfl ag_26_7 ?_)
                refine AS.cons (sp_iaa rfl rfl ar_27_3_3_1 (by first | omega | (simp only [decide_eq_true_eq, decide_eq_false_iff_not] at *; omega)) ?_)
                refine AS.cons (sp_ld 3 rfl rfl sc_3 rfl ?_)
                refine AS.cons (sp_iaa rfl rfl ar_27_3_3_1 (by first | omega | (simp only [decide_eq_true_eq, decide_eq_false_iff_not] at *; omega)) ?_)
                refine AS.cons (sp_ld 3 rfl rfl sc_3 rfl ?_)
                refine AS.cons (sp_call [] rfl rfl cf_24 (fun F w _ S => canP b la lc ca cc n1 n2 w (hK.ext S.mod) (hl.ext S.mod) (hC.ext S.mod)) ?_)
                refine AS.cons (sp_move rfl ?_)
                refine AS.cons (sp_ext rfl rfl ?_)
                refine AS.cons (sp_ext rfl rfl ?_)
                refine AS.cons (sp_asg (v := .bool _) rfl ?_)
                refine AS.cons (sp_asg (v := .int _ _) rfl ?_)
                refine AS.nil ?_
                intro _ S
                refine W.seq (W.region S ?_)
                refine AS.cons (sp_ldw 2 rfl rfl ag_26_7 ?_)
                refine AS.cons (sp_iaa rfl rfl ar_27_3_3_1 (by first | omega | (simp only [decide_eq_true_eq, decide_eq_false_iff_not] at *; omega)) ?_)
                refine AS.cons (sp_ld 3 rfl rfl sc_3 rfl ?_)
                refine AS.cons (sp_iaa rfl rfl ar_27_3_3_1 (by first | omega | (simp only [decide_eq_true_eq, decide_eq_false_iff_not] at *; omega)) ?_)
                refine AS.cons (sp_ld 3 rfl rfl sc_3 rfl ?_)
                refine AS.cons (sp_call [] rfl rfl cf_25 (fun F w _ S => canRR b la lc ca cc n1 n2 w (hl.ext S.mod) (hC.ext S.mod)) ?_)
                refine AS.cons (sp_move rfl ?_)
                refine AS.cons (sp_ext rfl rfl ?_)
                refine AS.cons (sp_ext rfl rfl ?_)
                refine AS.cons (sp_asg (v := .bool _) rfl ?_)
                refine AS.cons (sp_asg (v := .int _ _) rfl ?_)
                refine AS.nil ?_
                intro _ S
                refine W.seq (W.seq (W.region S ?_))
                refine AS.cons (sp_move (v := .bool _) rfl ?_)
                refine AS.cons (sp_move (v := .bool _) rfl ?_)
                refine AS.cons (sp_neqb rfl rfl bool_4 ?_)
                refine AS.cons (sp_move (v := .bool _) rfl ?_)
                refine AS.split 105 rfl (fun g105 => ?_) (fun g105 => ?_)
                · exact absurd g105 (by simp)
                · skip
                  refine AS.cons (sp_move (v := .int _ _) rfl ?_)
                  refine AS.cons (sp_move (v := .int _ _) rfl ?_)
                  refine AS.cons (sp_neq rfl rfl ?_)
                  refine AS.cons (sp_pick_f rfl (v := .bool _) rfl ?_)
                  refine AS.nil ?_
                  intro _ S
                  refine W.cond rfl (fun c109 => ?_) (fun c109 => ?_)
                  · exact (no_neq c109).elim
                  · skip
                    refine W.skip ?_
                    refine W.seq (W.region S ?_)
                    refine AS.cons (sp_ldw 2 rfl rfl ag_26_7 ?_)
                    refine AS.cons (sp_iaa rfl rfl ar_27_3_3_1 (by first | omega | (simp only [decide_eq_true_eq, decide_eq_false_iff_not] at *; omega)) ?_)
                    refine AS.cons (sp_ld 3 rfl rfl sc_3 rfl ?_)
                    refine AS.cons (sp_call [] rfl rfl cf_26 (fun F w _ S => apartP b la lc ca cc n1 w (hK.ext S.mod) (hl.ext S.mod) (hC.ext S.mod)) ?_)
                    refine AS.cons (sp_move rfl ?_)
                    refine AS.cons (sp_ext rfl rfl ?_)
                    refine AS.cons (sp_ext rfl rfl ?_)
                    refine AS.cons (sp_asg (v := .int _ _) rfl ?_)
                    refine AS.cons (sp_asg (v := .int _ _) rfl ?_)
                    refine AS.nil ?_
                    intro _ S
                    refine W.seq (W.region S ?_)
                    refine AS.cons (sp_ldw 2 rfl rfl ag_26_7 ?_)
                    refine AS.cons (sp_iaa rfl rfl ar_27_3_3_1 (by first | omega | (simp only [decide_eq_true_eq, decide_eq_false_iff_not] at *; omega)) ?_)
                    refine AS.cons (sp_ld 3 rfl rfl sc_3 rfl ?_)
                    refine AS.cons (sp_call [] rfl rfl cf_27 (fun F w _ S => apartRR b la lc ca cc n1 w (hl.ext S.mod) (hC.ext S.mod)) ?_)
                    refine AS.cons (sp_move rfl ?_)
                    refine AS.cons (sp_ext rfl rfl ?_)
                    refine AS.cons (sp_ext rfl rfl ?_)
                    refine AS.cons (sp_asg (v := .int _ _) rfl ?_)
                    refine AS.cons (sp_asg (v := .int _ _) rfl ?_)
                    refine AS.nil ?_
                    intro _ S
                    refine W.seq (W.region S ?_)
                    refine AS.cons (sp_move (v := .int _ _) rfl ?_)
                    refine AS.cons (sp_move (v := .int _ _) rfl ?_)
                    refine AS.cons (sp_eql rfl rfl ?_)
                    refine AS.cons (sp_move (v := .bool _) rfl ?_)
                    refine AS.split 127 rfl (fun g127 => ?_) (fun g127 => ?_)
                    · skip
                      refine AS.cons (sp_move (v := .int _ _) rfl ?_)
                      refine AS.cons (sp_move (v := .int _ _) rfl ?_)
                      refine AS.cons (sp_eql rfl rfl ?_)
                      refine AS.cons (sp_pick_t rfl (v := .bool _) rfl ?_)
                      refine AS.cons (sp_move (v := .bool _) rfl ?_)
                      refine AS.split 132 rfl (fun g132 => ?_) (fun g132 => ?_)
                      · skip
                        refine AS.cons (sp_call [] rfl rfl cf_28 (fun F w _ S => cried w (hK.ext S.mod)) ?_)
                        refine AS.cons (sp_pick_t rfl (v := .bool _) rfl ?_)
                        refine AS.cons (sp_asg (v := .bool _) rfl ?_)
                        refine AS.nil ?_
                        intro _ S
                        refine W.ret ?_
                        exact ret1 rfl rfl S fun w' S' => ⟨rfl, S'.mod⟩
                      · exact (no_eq g132).elim
                    · exact (no_eq g127).elim
theorem shotsL (n0 n1 n2 : Int) (w : World) (hK : Kinds w) (hl : Ints w la lc b.land) (hC : Cries w ca cc b.cries) : Ct Tryd.prog 4 #[.agg (bkL b la lc ca cc).toArray, .agg [iv n0, iv n1, iv n2].toArray] w (fun u w' => u = .bool true ∧ Ext w w') := by
  refine fn_intro (args := [.agg (bkL b la lc ca cc).toArray, .agg [iv n0, iv n1, iv n2].toArray]) Tryd.func4 rfl rfl (by kernel_rfl) ?_
  have S := St.start no w
  refine W.seq (W.region S ?_)
  refine AS.cons (sp_boxa 2 rfl (fun b2 => ?_))
  refine AS.cons (sp_boxa 3 rfl (fun b3 => ?_))
  refine AS.cons (sp_asg rfl ?_)
  refine AS.nil ?_
  intro _ S
  refine W.seq (W.region S ?_)
  refine AS.cons (sp_ldw 2 rfl rfl ag_26_7 ?_)
  refine AS.cons (sp_iaa rfl rfl ar_27_3_3_1 (by first | omega | (simp only [decide_eq_true_eq, decide_eq_false_iff_not] at *; omega)) ?_)
  refine AS.cons (sp_ld 3 rfl rfl sc_3 rfl ?_)
  refine AS.cons (sp_iaa rfl rfl ar_27_3_3_1 (by first | omega | (simp only [decide_eq_true_eq, decide_eq_false_iff_not] at *; omega)) ?_)
  refine AS.cons (sp_ld 3 rfl rfl sc_3 rfl ?_)
  refine AS.cons (sp_iaa rfl rfl ar_27_3_3_1 (by first | omega | (simp only [decide_eq_true_eq, decide_eq_false_iff_not] at *; omega)) ?_)
  refine AS.cons (sp_ld 3 rfl rfl sc_3 rfl ?_)
  refine AS.cons (sp_call [] rfl rfl cf_29 (fun F w _ S => shotP b la lc ca cc n0 n1 n2 w (hK.ext S.mod) (hl.ext S.mod) (hC.ext S.mod)) ?_)
  refine AS.cons (sp_move rfl ?_)
  refine AS.cons (sp_ext rfl rfl ?_)
  refine AS.cons (sp_ext rfl rfl ?_)
  refine AS.cons (sp_asg (v := .int _ _) rfl ?_)
  refine AS.cons (sp_asg (v := .int _ _) rfl ?_)
  refine AS.nil ?_
  intro _ S
  refine W.seq (W.region S ?_)
  refine AS.cons (sp_ldw 2 rfl rfl ag_26_7 ?_)
  refine AS.cons (sp_iaa rfl rfl ar_27_3_3_1 (by first | omega | (simp only [decide_eq_true_eq, decide_eq_false_iff_not] at *; omega)) ?_)
  refine AS.cons (sp_ld 3 rfl rfl sc_3 rfl ?_)
  refine AS.cons (sp_iaa rfl rfl ar_27_3_3_1 (by first | omega | (simp only [decide_eq_true_eq, decide_eq_false_iff_not] at *; omega)) ?_)
  refine AS.cons (sp_ld 3 rfl rfl sc_3 rfl ?_)
  refine AS.cons (sp_iaa rfl rfl ar_27_3_3_1 (by first | omega | (simp only [decide_eq_true_eq, decide_eq_false_iff_not] at *; omega)) ?_)
  refine AS.cons (sp_ld 3 rfl rfl sc_3 rfl ?_)
  refine AS.cons (sp_call [] rfl rfl cf_30 (fun F w _ S => shotRR b la lc ca cc n0 n1 n2 w (hl.ext S.mod) (hC.ext S.mod)) ?_)
  refine AS.cons (sp_move rfl ?_)
  refine AS.cons (sp_ext rfl rfl ?_)
  refine AS.cons (sp_ext rfl rfl ?_)
  refine AS.cons (sp_asg (v := .int _ _) rfl ?_)
  refine AS.cons (sp_asg (v := .int _ _) rfl ?_)
  refine AS.nil ?_
  intro _ S
  refine W.seq (W.seq (W.region S ?_))
  refine AS.cons (sp_move (v := .int _ _) rfl ?_)
  refine AS.cons (sp_move (v := .int _ _) rfl ?_)
  refine AS.cons (sp_neq rfl rfl ?_)
  refine AS.cons (sp_move (v := .bool _) rfl ?_)
  refine AS.split 36 rfl (fun g36 => ?_) (fun g36 => ?_)
  · exact (no_neq g36).elim
  · skip
    refine AS.cons (sp_move (v := .int _ _) rfl ?_)
    refine AS.cons (sp_move (v := .int _ _) rfl ?_)
    refine AS.cons (sp_neq rfl rfl ?_)
    refine AS.cons (sp_pick_f rfl (v := .bool _) rfl ?_)
    refine AS.nil ?_
    intro _ S
    refine W.cond rfl (fun c40 => ?_) (fun c40 => ?_)
    · exact (no_neq c40).elim
    · skip
      refine W.skip ?_
      refine W.seq (W.region S ?_)
      refine AS.cons (sp_ldw 2 rfl rfl ag_26_7 ?_)
      refine AS.cons (sp_iaa rfl rfl ar_27_3_3_1 (by first | omega | (simp only [decide_eq_true_eq, decide_eq_false_iff_not] at *; omega)) ?_)
      refine AS.cons (sp_ld 3 rfl rfl sc_3 rfl ?_)
      refine AS.cons (sp_iaa rfl rfl ar_27_3_3_1 (by first | omega | (simp only [decide_eq_true_eq, decide_eq_false_iff_not] at *; omega)) ?_)
      refine AS.cons (sp_ld 3 rfl rfl sc_3 rfl ?_)
      refine AS.cons (sp_call [] rfl rfl cf_31 (fun F w _ S => soonP b la lc ca cc n1 n2 w (hK.ext S.mod) (hl.ext S.mod) (hC.ext S.mod)) ?_)
      refine AS.cons (sp_move rfl ?_)
      refine AS.cons (sp_ext rfl rfl ?_)
      refine AS.cons (sp_ext rfl rfl ?_)
      refine AS.cons (sp_ext rfl rfl ?_)
      refine AS.cons (sp_asg (v := .int _ _) rfl ?_)
      refine AS.cons (sp_asg (v := .int _ _) rfl ?_)
      refine AS.cons (sp_asg (v := .int _ _) rfl ?_)
      refine AS.nil ?_
      intro _ S
      refine W.seq (W.region S ?_)
      refine AS.cons (sp_ldw 2 rfl rfl ag_26_7 ?_)
      refine AS.cons (sp_iaa rfl rfl ar_27_3_3_1 (by first | omega | (simp only [decide_eq_true_eq, decide_eq_false_iff_not] at *; omega)) ?_)
      refine AS.cons (sp_ld 3 rfl rfl sc_3 rfl ?_)
      refine AS.cons (sp_iaa rfl rfl ar_27_3_3_1 (by first | omega | (simp only [decide_eq_true_eq, decide_eq_false_iff_not] at *; omega)) ?_)
      refine AS.cons (sp_ld 3 rfl rfl sc_3 rfl ?_)
      refine AS.cons (sp_call [] rfl rfl cf_32 (fun F w _ S => soonRR b la lc ca cc n1 n2 w (hl.ext S.mod) (hC.ext S.mod)) ?_)
      refine AS.cons (sp_move rfl ?_)
      refine AS.cons (sp_ext rfl rfl ?_)
      refine AS.cons (sp_ext rfl rfl ?_)
      refine AS.cons (sp_ext rfl rfl ?_)
      refine AS.cons (sp_asg (v := .int _ _) rfl ?_)
      refine AS.cons (sp_asg (v := .int _ _) rfl ?_)
      refine AS.cons (sp_asg (v := .int _ _) rfl ?_)
      refine AS.nil ?_
      intro _ S
      refine W.seq (W.region S ?_)
      refine AS.cons (sp_move (v := .int _ _) rfl ?_)
      refine AS.cons (sp_move (v := .int _ _) rfl ?_)
      refine AS.cons (sp_eql rfl rfl ?_)
      refine AS.cons (sp_move (v := .bool _) rfl ?_)
      refine AS.split 64 rfl (fun g64 => ?_) (fun g64 => ?_)
      · skip
        refine AS.cons (sp_move (v := .int _ _) rfl ?_)
        refine AS.cons (sp_move (v := .int _ _) rfl ?_)
        refine AS.cons (sp_eql rfl rfl ?_)
        refine AS.cons (sp_pick_t rfl (v := .bool _) rfl ?_)
        refine AS.cons (sp_move (v := .bool _) rfl ?_)
        refine AS.split 69 rfl (fun g69 => ?_) (fun g69 => ?_)
        · skip
          refine AS.cons (sp_move (v := .int _ _) rfl ?_)
          refine AS.cons (sp_move (v := .int _ _) rfl ?_)
          refine AS.cons (sp_eql rfl rfl ?_)
          refine AS.cons (sp_pick_t rfl (v := .bool _) rfl ?_)
          refine AS.cons (sp_move (v := .bool _) rfl ?_)
          refine AS.split 74 rfl (fun g74 => ?_) (fun g74 => ?_)
          · skip
            refine AS.cons (sp_call [] rfl rfl cf_28 (fun F w _ S => cried w (hK.ext S.mod)) ?_)
            refine AS.cons (sp_pick_t rfl (v := .bool _) rfl ?_)
            refine AS.cons (sp_asg (v := .bool _) rfl ?_)
            refine AS.nil ?_
            intro _ S
            refine W.ret ?_
            exact ret1 rfl rfl S fun w' S' => ⟨rfl, S'.mod⟩
          · exact (no_eq g74).elim
        · exact (no_eq g69).elim
      · exact (no_eq g64).elim
theorem wrongsL (x : Cry) (w : World) (hK : Kinds w) (hl : Ints w la lc b.land) (hC : Cries w ca cc b.cries) : Ct Tryd.prog 5 #[.agg (bkL b la lc ca cc).toArray, .agg (cyL x).toArray] w (fun u w' => u = .bool true ∧ Ext w w') := by
  refine fn_intro (args := [.agg (bkL b la lc ca cc).toArray, .agg (cyL x).toArray]) Tryd.func5 rfl rfl (by kernel_rfl) ?_
  have S := St.start no w
  have hwl := wrongL_len b
  refine W.seq (W.region S ?_)
  refine AS.cons (sp_boxa 2 rfl (fun b2 => ?_))
  refine AS.cons (sp_boxa 3 rfl (fun b3 => ?_))
  refine AS.cons (sp_asg rfl ?_)
  refine AS.nil ?_
  intro _ S
  refine W.seq (W.region S ?_)
  refine AS.cons (sp_ldw 2 rfl rfl ag_26_7 ?_)
  refine AS.cons (sp_ldw 3 rfl rfl ag_46_7 ?_)
  refine AS.cons (sp_call [] rfl rfl cf_33 (fun F w _ S => fitsP b la lc ca cc x w (hK.ext S.mod) (hl.ext S.mod) (hC.ext S.mod)) ?_)
  refine AS.cons (sp_move rfl ?_)
  refine AS.cons (sp_ext rfl rfl ?_)
  refine AS.cons (sp_ext rfl rfl ?_)
  refine AS.cons (sp_asg (v := .bool _) rfl ?_)
  refine AS.cons (sp_asg (v := .int _ _) rfl ?_)
  refine AS.nil ?_
  intro _ S
  refine W.seq (W.region S ?_)
  refine AS.cons (sp_ldw 2 rfl rfl ag_26_7 ?_)
  refine AS.cons (sp_ldw 3 rfl rfl ag_46_7 ?_)
  refine AS.cons (sp_call [] rfl rfl cf_34 (fun F w _ S => fitsR b la lc ca cc x w (hl.ext S.mod) (hC.ext S.mod)) ?_)
  refine AS.cons (sp_move rfl ?_)
  refine AS.cons (sp_ext rfl rfl ?_)
  refine AS.cons (sp_ext rfl rfl ?_)
  refine AS.cons (sp_asg (v := .bool _) rfl ?_)
  refine AS.cons (sp_asg (v := .int _ _) rfl ?_)
  refine AS.nil ?_
  intro _ S
  refine W.seq (W.seq (W.region S ?_))
  refine AS.cons (sp_move (v := .bool _) rfl ?_)
  refine AS.cons (sp_move (v := .bool _) rfl ?_)
  refine AS.cons (sp_neqb rfl rfl bool_4 ?_)
  refine AS.cons (sp_move (v := .bool _) rfl ?_)
  refine AS.split 26 rfl (fun g26 => ?_) (fun g26 => ?_)
  · exact absurd g26 (by simp)
  · skip
    refine AS.cons (sp_move (v := .int _ _) rfl ?_)
    refine AS.cons (sp_move (v := .int _ _) rfl ?_)
    refine AS.cons (sp_neq rfl rfl ?_)
    refine AS.cons (sp_pick_f rfl (v := .bool _) rfl ?_)
    refine AS.nil ?_
    intro _ S
    refine W.cond rfl (fun c30 => ?_) (fun c30 => ?_)
    · exact (no_neq c30).elim
    · skip
      refine W.skip ?_
      refine W.seq (W.region S ?_)
      refine AS.cons (sp_ldw 2 rfl rfl ag_26_7 ?_)
      refine AS.cons (sp_call1 33 [] _ rfl rfl cf_35 (fun F w _ S => wrongP b la lc ca cc w (hK.ext S.mod) (hl.ext S.mod) (hC.ext S.mod)) ?_ (by simp))
      rintro v33 i33 ⟨a33, c33, h33, rfl, rfl⟩
      refine AS.cons (sp_move rfl ?_)
      refine AS.cons (sp_ext rfl rfl ?_)
      refine AS.cons (sp_ext rfl rfl ?_)
      refine AS.cons (sp_asg rfl ?_)
      refine AS.cons (sp_asg (v := .int _ _) rfl ?_)
      refine AS.nil ?_
      intro _ S
      refine W.seq (W.region S ?_)
      refine AS.cons (sp_ldw 2 rfl rfl ag_26_7 ?_)
      refine AS.cons (sp_call1 38 [] _ rfl rfl cf_36 (fun F w _ S => wrongR b la lc ca cc w (hl.ext S.mod) (hC.ext S.mod)) ?_ (by simp))
      rintro v38 i38 ⟨a38, c38, h38, rfl, rfl⟩
      refine AS.cons (sp_move rfl ?_)
      refine AS.cons (sp_ext rfl rfl ?_)
      refine AS.cons (sp_ext rfl rfl ?_)
      refine AS.cons (sp_asg rfl ?_)
      refine AS.cons (sp_asg (v := .int _ _) rfl ?_)
      refine AS.nil ?_
      intro _ S
      refine W.seq (W.region S ?_)
      refine AS.cons (sp_move rfl ?_)
      refine AS.cons (sp_move rfl ?_)
      refine AS.cons (sp_call [33, 38] rfl rfl cf_17 (fun F w hF S => same a33 c33 (wrongL b) a38 c38 (wrongL b) w (S.slc_rd (k := 33) ((hF 33 (by simp)).trans rfl) (by omega)) (S.slc_rd (k := 38) ((hF 38 (by simp)).trans rfl) (by omega))) ?_)
      refine AS.cons (sp_move (v := .bool _) rfl ?_)
      refine AS.split 44 rfl (fun g44 => ?_) (fun g44 => ?_)
      · skip
        refine AS.cons (sp_move (v := .int _ _) rfl ?_)
        refine AS.cons (sp_move (v := .int _ _) rfl ?_)
        refine AS.cons (sp_eql rfl rfl ?_)
        refine AS.cons (sp_pick_t rfl (v := .bool _) rfl ?_)
        refine AS.cons (sp_move (v := .bool _) rfl ?_)
        refine AS.split 49 rfl (fun g49 => ?_) (fun g49 => ?_)
        · skip
          refine AS.cons (sp_call [] rfl rfl cf_28 (fun F w _ S => cried w (hK.ext S.mod)) ?_)
          refine AS.cons (sp_pick_t rfl (v := .bool _) rfl ?_)
          refine AS.cons (sp_asg (v := .bool _) rfl ?_)
          refine AS.nil ?_
          intro _ S
          refine W.ret ?_
          exact ret1 rfl rfl S fun w' S' => ⟨rfl, S'.mod⟩
        · exact (no_eq g49).elim
      · exact (no_eq g44).elim
end
end Go.Proofs.YtmpclgepoemneaaDoor

/-
  What a law is handed, opened: books, cries, numbers; what the row says of the table of kinds.
-/
namespace Go.Proofs.YtmpclgepoemneaaDoor
set_option maxRecDepth 100000
open Go.Hu Go.ChangeShapes Go.WideShapes Go.ChangeAt Go.RowKit
theorem own : ownKnob Tryd.prog.godebug = none := by kernel_rfl
theorem laidOut : laidOutB Tryd.prog = true := by kernel_rfl
theorem gKinds : Tryd.prog.globalNamed "huer/cry.kinds" = some 0 := by kernel_rfl
theorem tKinds : (Tryd.prog.globals[0]?).map (·.type) = some 126 := by kernel_rfl
abbrev lawLaid : List (String × DataW Unit) := [("huer/cry.kinds", Rows.laid_huer_cry_kinds)]
/-- The door's own heap meets the condition. -/
theorem door_met (os : Os) (args : Array Value) : laidMetH Tryd.prog lawLaid ((World.doorLaid Tryd.prog 600 os).forCall (fun _ _ => 0) ⟨#[], args, []⟩).memory :=
  laidMetH_of_parts3 (fuel := 8) (laidMet_of_run' 8 (by kernel_rfl) (by kernel_rfl)) (by kernel_rfl) (by kernel_rfl)
theorem var_heap {W : World} {n : String} {g : Nat} {cs : Array Value} (hg : Tryd.prog.globalNamed n = some g) (h : W.var? Tryd.prog n = some cs) : ∃ E fr, W.heap[g]? = some (.cells cs E fr) := by
  simp only [World.var?, hg, Option.bind_some] at h
  split at h
  · next c E fr he => injection h with h; subst h; exact ⟨E, fr, he⟩
  · cases h
theorem kinds_of {W : World} (h : laidMetH Tryd.prog lawLaid W) : Kinds W := by
  obtain ⟨g, t, cs, fuel, p, hg, ht, hv, hd⟩ := h.funcs (List.mem_singleton.2 rfl)
  obtain rfl := Option.some.inj (gKinds.symm.trans hg)
  obtain rfl := Option.some.inj (tKinds.symm.trans ht)
  have hd' : DataW.trod (funcToken Tryd.prog) Tryd.prog W 0 (fun _ => true) true fuel 126 cs.toList = some (.agg [.held [40, 104, 117, 101, 114, 47, 99, 114, 121, 46, 98, 97, 121, 41, 46, 115, 101, 101, 115], .held [40, 104, 117, 101, 114, 47, 99, 114, 121, 46, 98, 97, 121, 41, 46, 110, 111, 116]], p) := hd
  obtain ⟨xs, m, rfl, hx, hlen, hxl, hel⟩ := DataW.trod_array Tryd.underlying126 hd'
  have c1 : Tryd.prog.cellsOf 125 = 1 := by kernel_rfl
  have c2 : Tryd.prog.cellsOf 126 = 2 := by kernel_rfl
  rw [c2] at hlen
  obtain ⟨l⟩ := cs
  match l, hlen, xs, hxl, hx, hel with
  | [v0, v1], _, [x0, x1], _, hx, hel =>
    have h0 := hel 0 (by decide)
    have h1 := hel 1 (by decide)
    rw [c1] at h0 h1
    simp only [List.map_cons, List.map_nil, Prod.mk.injEq, DataW.agg.injEq, List.cons.injEq] at hx
    obtain ⟨⟨e0, e1, _⟩, _⟩ := hx
    have h0' : DataW.trod (funcToken Tryd.prog) Tryd.prog W 0 (fun _ => true) true m 125 [v0] = some (.held (40 :: [104, 117, 101, 114, 47, 99, 114, 121, 46, 98, 97, 121, 41, 46, 115, 101, 101, 115]), x0.2) := by rw [e0]; simpa using h0
    have h1' : DataW.trod (funcToken Tryd.prog) Tryd.prog W 0 (fun _ => true) true m 125 [v1] = some (.held (40 :: [104, 117, 101, 114, 47, 99, 114, 121, 46, 98, 97, 121, 41, 46, 110, 111, 116]), x1.2) := by rw [e1]; simpa using h1
    obtain rfl := func_of_trod (f0 := 132) Tryd.underlying125 (by kernel_rfl) h0'
    obtain rfl := func_of_trod (f0 := 133) Tryd.underlying125 (by kernel_rfl) h1'
    obtain ⟨E, fr, hh⟩ := var_heap gKinds hv
    exact ⟨E, fr, hh⟩

section
variable {H : Type} {enc : TypeId × Value → H} {W : World} {sp : Nat → Bool} {held : Bool} {n : Nat} {cs : List Value} {y : DataW H × List MemPlace}
theorem list7 {α : Type} {l : List α} (h : l.length = 7) : ∃ a b c d e f g, l = [a, b, c, d, e, f, g] := by
  match l, h with
  | [a, b, c, d, e, f, g], _ => exact ⟨a, b, c, d, e, f, g, rfl⟩
theorem trod3 {v : Value} (h : DataW.trod enc Tryd.prog W 0 sp held n 3 [v] = some y) : ∃ k, v = iv k := by
  obtain ⟨k, e, _⟩ := DataW.trod_int Tryd.underlying3 h
  injection e with e _
  exact ⟨k, e⟩
theorem c3 : Tryd.prog.cellsOf 3 = 1 := by kernel_rfl
theorem c22 : Tryd.prog.cellsOf 22 = 1 := by kernel_rfl
theorem c24 : Tryd.prog.cellsOf 24 = 1 := by kernel_rfl
theorem c23 : Tryd.prog.cellsOf 23 = 2 := by kernel_rfl
theorem c44 : Tryd.prog.cellsOf 44 = 2 := by kernel_rfl
theorem c46 : Tryd.prog.cellsOf 46 = 7 := by kernel_rfl
theorem c26 : Tryd.prog.cellsOf 26 = 7 := by kernel_rfl
theorem c27 : Tryd.prog.cellsOf 27 = 3 := by kernel_rfl
theorem c62 : Tryd.prog.cellsOf 62 = 4 := by kernel_rfl
theorem trod44 {u v : Value} (h : DataW.trod enc Tryd.prog W 0 sp held n 44 [u, v] = some y) : ∃ a o, u = iv a ∧ v = iv o := by
  obtain ⟨xs, m, _, _, _, hl, hf⟩ := DataW.trod_struct Tryd.underlying44 h
  have h0 : DataW.trod enc Tryd.prog W 0 sp held m 3 (([u, v].drop 0).take (Tryd.prog.cellsOf 3)) = xs[0]? := hf 0 _ rfl
  have h1 : DataW.trod enc Tryd.prog W 0 sp held m 3 (([u, v].drop 1).take (Tryd.prog.cellsOf 3)) = xs[1]? := hf 1 _ rfl
  obtain ⟨y0, hy0⟩ := get_some (l := xs) (j := 0) (by rw [hl]; decide)
  obtain ⟨y1, hy1⟩ := get_some (l := xs) (j := 1) (by rw [hl]; decide)
  rw [hy0, c3] at h0
  rw [hy1, c3] at h1
  obtain ⟨a, rfl⟩ := trod3 (v := u) h0
  obtain ⟨o, rfl⟩ := trod3 (v := v) h1
  exact ⟨a, o, rfl, rfl⟩
theorem trod46 (h : DataW.trod enc Tryd.prog W 0 sp held n 46 cs = some y) : ∃ c : Cry, cs = cyL c := by
  obtain ⟨xs, m, _, _, hc, hl, hf⟩ := DataW.trod_struct Tryd.underlying46 h
  rw [c46] at hc
  obtain ⟨v0, v1, v2, v3, v4, v5, v6, rfl⟩ := list7 hc
  have gs : ∀ j, j < 5 → ∃ z, xs[j]? = some z := fun j hj => get_some (by rw [hl]; exact hj)
  obtain ⟨y0, hy0⟩ := gs 0 (by decide)
  obtain ⟨y1, hy1⟩ := gs 1 (by decide)
  obtain ⟨y2, hy2⟩ := gs 2 (by decide)
  obtain ⟨y3, hy3⟩ := gs 3 (by decide)
  obtain ⟨y4, hy4⟩ := gs 4 (by decide)
  have h0 : DataW.trod enc Tryd.prog W 0 sp held m 3 (([v0, v1, v2, v3, v4, v5, v6].drop 0).take (Tryd.prog.cellsOf 3)) = xs[0]? := hf 0 _ rfl
  have h1 : DataW.trod enc Tryd.prog W 0 sp held m 3 (([v0, v1, v2, v3, v4, v5, v6].drop 1).take (Tryd.prog.cellsOf 3)) = xs[1]? := hf 1 _ rfl
  have h2 : DataW.trod enc Tryd.prog W 0 sp held m 3 (([v0, v1, v2, v3, v4, v5, v6].drop 2).take (Tryd.prog.cellsOf 3)) = xs[2]? := hf 2 _ rfl
  have h3 : DataW.trod enc Tryd.prog W 0 sp held m 44 (([v0, v1, v2, v3, v4, v5, v6].drop 3).take (Tryd.prog.cellsOf 44)) = xs[3]? := hf 3 _ rfl
  have h4 : DataW.trod enc Tryd.prog W 0 sp held m 44 (([v0, v1, v2, v3, v4, v5, v6].drop 5).take (Tryd.prog.cellsOf 44)) = xs[4]? := hf 4 _ rfl
  rw [hy0, c3] at h0
  rw [hy1, c3] at h1
  rw [hy2, c3] at h2
  rw [hy3, c44] at h3
  rw [hy4, c44] at h4
  obtain ⟨a0, rfl⟩ := trod3 (v := v0) h0
  obtain ⟨a1, rfl⟩ := trod3 (v := v1) h1
  obtain ⟨a2, rfl⟩ := trod3 (v := v2) h2
  obtain ⟨a3, a4, rfl, rfl⟩ := trod44 (u := v3) (v := v4) h3
  obtain ⟨a5, a6, rfl, rfl⟩ := trod44 (u := v5) (v := v6) h4
  exact ⟨⟨a0, a1, a2, a3, a4, a5, a6⟩, rfl⟩
theorem trod22 {v : Value} (h : DataW.trod enc Tryd.prog W 0 sp held n 22 [v] = some y) : ∃ a c l, v = .slice a (List.length l) c ∧ Ints W a c l := by
  rcases open_ints Tryd.underlying22 Tryd.underlying3 c3 h with ⟨hcs, _⟩ | ⟨x, len, cap, zs, hcs, _, hl, hm, hz, _, hcell, _⟩
  · injection hcs with e _
    subst e
    exact ⟨none, 0, [], rfl, rfl, by decide, .inl ⟨rfl, none, 0, rfl⟩⟩
  · injection hcs with e _
    subst e
    have hzl : len ≤ zs.length := by rw [hz]; split <;> omega
    have htl : (zs.take len).length = len := by rw [List.length_take]; omega
    have hmx : len ≤ 9223372036854775807 := Nat.le_trans hl (Nat.le_trans hm (by decide))
    refine ⟨some x, cap, zs.take len, by rw [htl], ?_⟩
    unfold Ints
    rw [htl]
    refine ⟨by rw [List.length_map, htl, Nat.mul_one], hmx, ?_⟩
    by_cases h0 : len = 0
    · exact .inl ⟨h0, some x, cap, by rw [h0]⟩
    · obtain ⟨b, off, spot⟩ := x
      have hc0 := hcell 0 (by omega)
      have hspot : spot = none := by simpa [Addr.add] using World.cell?_spot hc0
      subst hspot
      refine .inr ⟨b, off, cap, rfl, hl, fun j u hu => ?_⟩
      rw [List.getElem?_map] at hu
      cases hj : (zs.take len)[j]? with
      | none => rw [hj] at hu; cases hu
      | some z =>
        rw [hj] at hu
        cases hu
        have hjl : j < len := by have := (List.getElem?_eq_some_iff.1 hj).1; omega
        have hzj : zs[j]? = some z := by rw [List.getElem?_take] at hj; simpa [hjl] using hj
        have := hcell j (by omega)
        rw [Go.Hu.add_plain] at this
        rw [this, List.getD_eq_getElem?_getD, hzj]; rfl
theorem trod24 {v : Value} (h : DataW.trod enc Tryd.prog W 0 sp held n 24 [v] = some y) : ∃ a c l, v = .slice a (List.length l) c ∧ Cries W a c l := by
  rcases Deep.open_slice Tryd.underlying24 h with ⟨hcs, _⟩ | ⟨x, len, cap, m, n', D, Pl, hcs, _, hl, hm, hmm, _, hx⟩
  · injection hcs with e _
    subst e
    exact ⟨none, 0, [], rfl, rfl, by decide, .inl ⟨rfl, none, 0, rfl⟩⟩
  · injection hcs with e _
    subst e
    have hml : len ≤ m := by rw [hmm]; split <;> omega
    rw [c46] at hx
    obtain ⟨f, hf⟩ := Deep.choose_lt (α := Int × Int × Int × Int × Int × Int × Int) (n := len) (p := fun i c => W.cells? 0 (x.add (i * 7)) 7 = some (cyL ⟨c.1, c.2.1, c.2.2.1, c.2.2.2.1, c.2.2.2.2.1, c.2.2.2.2.2.1, c.2.2.2.2.2.2⟩)) (fun i hi => by
      obtain ⟨cs', h1, h2⟩ := hx i (by omega)
      obtain ⟨c, rfl⟩ := trod46 h2
      exact ⟨(c.h, c.m, c.k, c.fa, c.fo, c.ta, c.tO), h1⟩)
    obtain ⟨g, hg⟩ : ∃ g : Nat → Cry, g = fun i => ⟨(f i).1, (f i).2.1, (f i).2.2.1, (f i).2.2.2.1, (f i).2.2.2.2.1, (f i).2.2.2.2.2.1, (f i).2.2.2.2.2.2⟩ := ⟨_, rfl⟩
    have hcell : ∀ i, i < len → ∀ j u, (cyL (g i))[j]? = some u → W.cell? (x.add (i * 7 + j)) = some u := fun i hi j u hu => by
      have h1 := hf i hi
      obtain ⟨_, hlen, hat⟩ := World.cells?_some h1
      have hj : j < 7 := (List.getElem?_eq_some_iff.1 hu).1
      have h2 := hat j hj
      rw [Deep.add_add] at h2
      rw [h2, ← hu, hg]
    have hll : ((List.range len).map g).length = len := by simp
    have hmx : len ≤ 9223372036854775807 := Nat.le_trans hl (Nat.le_trans hm (by decide))
    refine ⟨some x, cap, (List.range len).map g, by rw [hll], ?_⟩
    unfold Cries
    rw [hll]
    refine ⟨by rw [cries_len, hll], hmx, ?_⟩
    by_cases h0 : len = 0
    · exact .inl ⟨h0, some x, cap, by rw [h0]⟩
    · obtain ⟨b, off, spot⟩ := x
      have hc0 := hcell 0 (by omega) 0 _ rfl
      have hspot : spot = none := by simpa [Addr.add] using World.cell?_spot hc0
      subst hspot
      refine .inr ⟨b, off, cap, rfl, hl, fun j u hu => ?_⟩
      have hjl : j < len * 7 := by have := (List.getElem?_eq_some_iff.1 hu).1; rw [cries_len, hll] at this; exact this
      have hq : j / 7 < len := Nat.div_lt_of_lt_mul (by omega)
      have hr := Nat.mod_lt j (show 0 < 7 by decide)
      have hj : j = (j / 7) * 7 + j % 7 := by omega
      have hrow := rdL_flat (f := cyL) (s := 7) (fun _ => rfl) (l := (List.range len).map g) (i := j / 7) (x := g (j / 7)) (by rw [List.getElem?_map, List.getElem?_range hq]; rfl)
      have hu' : (cyL (g (j / 7)))[j % 7]? = some u := by
        have h1 := (rdL_spec hrow).2 (j % 7) hr
        rw [← hj, hu] at h1
        exact h1.symm
      have := hcell (j / 7) hq (j % 7) u hu'
      rw [← hj, Go.Hu.add_plain] at this
      exact this
theorem trod23 {u v : Value} (h : DataW.trod enc Tryd.prog W 0 sp held n 23 [u, v] = some y) : ∃ a o, u = iv a ∧ v = iv o := by
  obtain ⟨xs, m, rfl, _, _, hl, hf⟩ := DataW.trod_array Tryd.underlying23 h
  have h0 := hf 0 (by decide)
  have h1 := hf 1 (by decide)
  obtain ⟨y0, hy0⟩ := get_some (l := xs) (j := 0) (by rw [hl]; decide)
  obtain ⟨y1, hy1⟩ := get_some (l := xs) (j := 1) (by rw [hl]; decide)
  rw [hy0] at h0
  rw [hy1] at h1
  simp only [c3] at h0 h1
  obtain ⟨a, rfl⟩ := trod3 (v := u) h0
  obtain ⟨o, rfl⟩ := trod3 (v := v) h1
  exact ⟨a, o, rfl, rfl⟩
theorem trod26 (h : DataW.trod enc Tryd.prog W 0 sp held n 26 cs = some y) : ∃ b la lc ca cc, cs = bkL b la lc ca cc ∧ Ints W la lc b.land ∧ Cries W ca cc b.cries := by
  obtain ⟨xs, m, _, _, hc, hl, hf⟩ := DataW.trod_struct Tryd.underlying26 h
  rw [c26] at hc
  obtain ⟨v0, v1, v2, v3, v4, v5, v6, rfl⟩ := list7 hc
  have gs : ∀ j, j < 6 → ∃ z, xs[j]? = some z := fun j hj => get_some (by rw [hl]; exact hj)
  obtain ⟨y0, hy0⟩ := gs 0 (by decide)
  obtain ⟨y1, hy1⟩ := gs 1 (by decide)
  obtain ⟨y2, hy2⟩ := gs 2 (by decide)
  obtain ⟨y3, hy3⟩ := gs 3 (by decide)
  obtain ⟨y4, hy4⟩ := gs 4 (by decide)
  obtain ⟨y5, hy5⟩ := gs 5 (by decide)
  have h0 : DataW.trod enc Tryd.prog W 0 sp held m 3 (([v0, v1, v2, v3, v4, v5, v6].drop 0).take (Tryd.prog.cellsOf 3)) = xs[0]? := hf 0 _ rfl
  have h1 : DataW.trod enc Tryd.prog W 0 sp held m 3 (([v0, v1, v2, v3, v4, v5, v6].drop 1).take (Tryd.prog.cellsOf 3)) = xs[1]? := hf 1 _ rfl
  have h2 : DataW.trod enc Tryd.prog W 0 sp held m 22 (([v0, v1, v2, v3, v4, v5, v6].drop 2).take (Tryd.prog.cellsOf 22)) = xs[2]? := hf 2 _ rfl
  have h3 : DataW.trod enc Tryd.prog W 0 sp held m 23 (([v0, v1, v2, v3, v4, v5, v6].drop 3).take (Tryd.prog.cellsOf 23)) = xs[3]? := hf 3 _ rfl
  have h4 : DataW.trod enc Tryd.prog W 0 sp held m 3 (([v0, v1, v2, v3, v4, v5, v6].drop 5).take (Tryd.prog.cellsOf 3)) = xs[4]? := hf 4 _ rfl
  have h5 : DataW.trod enc Tryd.prog W 0 sp held m 24 (([v0, v1, v2, v3, v4, v5, v6].drop 6).take (Tryd.prog.cellsOf 24)) = xs[5]? := hf 5 _ rfl
  rw [hy0, c3] at h0
  rw [hy1, c3] at h1
  rw [hy2, c22] at h2
  rw [hy3, c23] at h3
  rw [hy4, c3] at h4
  rw [hy5, c24] at h5
  obtain ⟨a0, rfl⟩ := trod3 (v := v0) h0
  obtain ⟨a1, rfl⟩ := trod3 (v := v1) h1
  obtain ⟨la, lc, l, rfl, hl2⟩ := trod22 (v := v2) h2
  obtain ⟨a3, a4, rfl, rfl⟩ := trod23 (u := v3) (v := v4) h3
  obtain ⟨a5, rfl⟩ := trod3 (v := v5) h4
  obtain ⟨ca, cc, l', rfl, hl6⟩ := trod24 (v := v6) h5
  exact ⟨⟨a0, a1, l, a3, a4, a5, l'⟩, la, lc, ca, cc, rfl, hl2, hl6⟩
variable {r : Reach} {b0 : Nat} {v : Value} {d : DataW H} {p : List MemPlace}
theorem open26 (hv : Value.okWide Tryd.prog W r b0 26 v) (h : DataW.Trod enc Tryd.prog W 0 sp held 26 v d p) : ∃ b la lc ca cc, v = .agg (bkL b la lc ca cc).toArray ∧ Ints W la lc b.land ∧ Cries W ca cc b.cries := by
  obtain ⟨⟨l⟩, rfl, hsz⟩ := okWide_struct Tryd.underlying26 hv
  obtain ⟨fuel, hf⟩ := h
  obtain ⟨b, la, lc, ca, cc, e, h1, h2⟩ := trod26 (cs := l) hf
  exact ⟨b, la, lc, ca, cc, by rw [e], h1, h2⟩
theorem open46 (hv : Value.okWide Tryd.prog W r b0 46 v) (h : DataW.Trod enc Tryd.prog W 0 sp held 46 v d p) : ∃ c, v = .agg (cyL c).toArray := by
  obtain ⟨⟨l⟩, rfl, hsz⟩ := okWide_struct Tryd.underlying46 hv
  obtain ⟨fuel, hf⟩ := h
  obtain ⟨c, e⟩ := trod46 (cs := l) hf
  exact ⟨c, by rw [e]⟩
theorem okWide_array {t e k : Nat} (ht : Tryd.prog.underlying t = some (.array k e)) (hv : Value.okWide Tryd.prog W r b0 t v) : ∃ cs, v = .agg cs ∧ cs.size = Tryd.prog.cellsOf t := by
  unfold Value.okWide at hv
  rw [ht] at hv
  obtain ⟨cs, h1, h2, _⟩ := hv
  exact ⟨cs, h1, h2⟩
theorem open27 (hv : Value.okWide Tryd.prog W r b0 27 v) (h : DataW.Trod enc Tryd.prog W 0 sp held 27 v d p) : ∃ n0 n1 n2, v = .agg [iv n0, iv n1, iv n2].toArray := by
  obtain ⟨⟨l⟩, rfl, hsz⟩ := okWide_array Tryd.underlying27 hv
  obtain ⟨fuel, hf⟩ := h
  rw [c27] at hsz
  match l, hsz with
  | [u0, u1, u2], _ =>
    obtain ⟨xs, m, rfl, _, _, hl, hf⟩ := DataW.trod_array Tryd.underlying27 hf
    have gs : ∀ j, j < 3 → ∃ z, xs[j]? = some z := fun j hj => get_some (by rw [hl]; exact hj)
    obtain ⟨y0, hy0⟩ := gs 0 (by decide)
    obtain ⟨y1, hy1⟩ := gs 1 (by decide)
    obtain ⟨y2, hy2⟩ := gs 2 (by decide)
    have h0 := hf 0 (by decide)
    have h1 := hf 1 (by decide)
    have h2 := hf 2 (by decide)
    rw [hy0] at h0
    rw [hy1] at h1
    rw [hy2] at h2
    simp only [c3] at h0 h1 h2
    obtain ⟨a0, rfl⟩ := trod3 (v := u0) h0
    obtain ⟨a1, rfl⟩ := trod3 (v := u1) h1
    obtain ⟨a2, rfl⟩ := trod3 (v := u2) h2
    exact ⟨a0, a1, a2, rfl⟩
theorem open62 (hv : Value.okWide Tryd.prog W r b0 62 v) (h : DataW.Trod enc Tryd.prog W 0 sp held 62 v d p) : ∃ n0 n1 n2 n3, v = .agg [iv n0, iv n1, iv n2, iv n3].toArray := by
  obtain ⟨⟨l⟩, rfl, hsz⟩ := okWide_array Tryd.underlying62 hv
  obtain ⟨fuel, hf⟩ := h
  rw [c62] at hsz
  match l, hsz with
  | [u0, u1, u2, u3], _ =>
    obtain ⟨xs, m, rfl, _, _, hl, hf⟩ := DataW.trod_array Tryd.underlying62 hf
    have gs : ∀ j, j < 4 → ∃ z, xs[j]? = some z := fun j hj => get_some (by rw [hl]; exact hj)
    obtain ⟨y0, hy0⟩ := gs 0 (by decide)
    obtain ⟨y1, hy1⟩ := gs 1 (by decide)
    obtain ⟨y2, hy2⟩ := gs 2 (by decide)
    obtain ⟨y3, hy3⟩ := gs 3 (by decide)
    have h0 := hf 0 (by decide)
    have h1 := hf 1 (by decide)
    have h2 := hf 2 (by decide)
    have h3 := hf 3 (by decide)
    rw [hy0] at h0
    rw [hy1] at h1
    rw [hy2] at h2
    rw [hy3] at h3
    simp only [c3] at h0 h1 h2 h3
    obtain ⟨a0, rfl⟩ := trod3 (v := u0) h0
    obtain ⟨a1, rfl⟩ := trod3 (v := u1) h1
    obtain ⟨a2, rfl⟩ := trod3 (v := u2) h2
    obtain ⟨a3, rfl⟩ := trod3 (v := u3) h3
    exact ⟨a0, a1, a2, a3, rfl⟩
theorem open22 (hv : Value.okWide Tryd.prog W r b0 22 v) (h : DataW.Trod enc Tryd.prog W 0 sp held 22 v d p) : ∃ a c l, v = .slice a (List.length l) c ∧ Ints W a c l := by
  obtain ⟨a0, len0, cap0, rfl⟩ := okWide_slice Tryd.underlying22 hv
  obtain ⟨fuel, hf⟩ := h
  exact trod22 (v := .slice a0 len0 cap0) hf
theorem open3 (hv : Value.okWide Tryd.prog W r b0 3 v) (h : DataW.Trod enc Tryd.prog W 0 sp held 3 v d p) : ∃ k, v = iv k := by
  obtain ⟨a, rfl, _⟩ := open_int Tryd.underlying3 hv h
  exact ⟨a, rfl⟩
end
end Go.Proofs.YtmpclgepoemneaaDoor
