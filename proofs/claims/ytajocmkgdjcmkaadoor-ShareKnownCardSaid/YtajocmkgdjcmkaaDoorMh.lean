/-
  Lemmas of this proof, several texts one behind the other; no condition beyond what each says.
-/
import Derived.Test.YtajocmkgdjcmkaaDoorMf
namespace Go.Proofs.YtajocmkgdjcmkaaDoor
open Go.Hu
theorem cf_49 : cfB Tryd.prog 49 = true := by kernel_rfl
theorem cf_52 : cfB Tryd.prog 52 = true := by kernel_rfl
theorem cf_53 : cfB Tryd.prog 53 = true := by kernel_rfl
theorem cf_56 : cfB Tryd.prog 56 = true := by kernel_rfl
end Go.Proofs.YtajocmkgdjcmkaaDoor
/-
  The laws of the draw to ask for, and of the notes that must be false.
-/
namespace Go.Proofs.YtajocmkgdjcmkaaDoor
set_option maxRecDepth 100000
open Go.Hu Go.RowKit
section
variable (b : Sb) (ha : Option Addr) (hc : Nat) (da : Option Addr) (dc : Nat)
theorem soundT {b : Sb} {ha : Option Addr} {hc : Nat} {da : Option Addr} {dc : Nat} {x : Bool} (hok : okS b = x) (w : World) (hK : Kinds w) (hH : Hos w ha hc b.hs) (hD : Ints w da dc b.dr) : Ct Tryd.prog 35 #[.agg (sbL b ha hc da dc).toArray] w (fun u w' => u = .bool x ∧ Ext w w') := by
  have h := soundF b ha hc da dc w hK hH hD; rw [hok] at h; exact h
theorem noL (n : Int) (hok : okS b = false) (w : World) (hK : Kinds w) (hH : Hos w ha hc b.hs) (hD : Ints w da dc b.dr) : Ct Tryd.prog 12 #[.agg (sbL b ha hc da dc).toArray, iv n] w (fun u w' => u = .bool true ∧ Ext w w') := by
  refine fn_intro (args := [.agg (sbL b ha hc da dc).toArray, iv n]) Tryd.func12 rfl rfl (by kernel_rfl) ?_
  have S := St.start no w
  refine W.seq (W.region S ?_)
  refine AS.cons (sp_boxa 2 rfl (fun b2 => ?_))
  refine AS.cons (sp_asg rfl ?_)
  refine AS.nil ?_
  intro _ S
  refine W.seq (W.seq (W.region S ?_))
  refine AS.cons (sp_ldw 2 rfl rfl ag_28_9 ?_)
  refine AS.cons (sp_call [] rfl rfl cf_35 (fun F w _ S => soundT hok w (hK.ext S.mod) (hH.ext S.mod) (hD.ext S.mod)) ?_)
  refine AS.cons (sp_not rfl ?_)
  refine AS.nil ?_
  intro _ S
  refine W.cond rfl (fun c14 => ?_) (fun c14 => ?_)
  · skip
    refine W.seq (W.region S ?_)
    refine AS.cons (sp_call [] rfl rfl cf_26 (fun F w _ S => drawn w (hK.ext S.mod)) ?_)
    refine AS.cons (sp_asg (v := .bool _) rfl ?_)
    refine AS.nil ?_
    intro _ S
    refine W.ret ?_
    exact ret1 rfl rfl S fun w' S' => ⟨rfl, S'.mod⟩
  · exact absurd c14 (by decide)
theorem askA {b : Sb} (hok : okS b = true) (h0 : sdL b [] = []) : asV b = 0 ∧ asE b = 82 := by
  have h1 : askV b true = 82 := by unfold askV; rw [if_pos hok, if_pos rfl, if_pos h0]
  have h2 : asE b = 82 := by unfold asE; rw [h1, if_neg (by decide)]
  exact ⟨by unfold asV; rw [h2, if_neg (by decide)], h2⟩
theorem askB' {b : Sb} (hok : okS b = true) {s : Int} (h0 : sdL b [] = [s]) : asV b = 0 ∧ asE b = 4 := by
  have h1 : askV b true = 0 := by unfold askV; rw [if_pos hok, if_pos rfl, if_neg (by rw [h0]; simp)]
  have h2 : asE b = 4 := by unfold asE; rw [h1, if_pos rfl, if_pos (by rw [h0]; rfl)]
  exact ⟨by unfold asV; rw [h2, if_neg (by decide)], h2⟩
theorem askC {b : Sb} (hok : okS b = true) (h0 : 2 ≤ (sdL b []).length) : asV b = (amU (wstN b (sdL b [])) (allN b).toNat : Int) ∧ asE b = 0 := by
  have h1 : askV b true = 0 := by unfold askV; rw [if_pos hok, if_pos rfl, if_neg (by intro h; rw [h] at h0; simp at h0)]
  have h2 : asE b = 0 := by unfold asE; rw [h1, if_pos rfl, if_neg (by omega)]
  exact ⟨by unfold asV; rw [if_pos h2], h2⟩
theorem askT {b : Sb} {ha : Option Addr} {hc : Nat} {da : Option Addr} {dc : Nat} {k e : Int} (h : asV b = k ∧ asE b = e) (w : World) (hK : Kinds w) (hH : Hos w ha hc b.hs) (hD : Ints w da dc b.dr) : Ct Tryd.prog 31 #[.agg (sbL b ha hc da dc).toArray] w (fun u w' => u = .tuple #[iv k, iv e] ∧ Ext w w') := by
  have h1 := askP b ha hc da dc w hK hH hD; rw [h.1, h.2] at h1; exact h1
theorem seedsT {b : Sb} {ha : Option Addr} {hc : Nat} {da : Option Addr} {dc : Nat} {l : List Int} (hb : Good b) (h : sdL b [] = l) (w : World) (hK : Kinds w) (hH : Hos w ha hc b.hs) (hD : Ints w da dc b.dr) : Ct Tryd.prog 24 #[.agg (sbL b ha hc da dc).toArray] w (fun u w' => ∃ i, LsE l 0 u i ∧ St no w w' (upd eL 0 i) []) := by
  have h1 := seedsG b ha hc da dc hb w hK hH hD; rw [h] at h1; exact h1
set_option maxHeartbeats 8000000 in
theorem askL0 (n : Int) (hb : Good b) (h0 : sdL b [] = []) (w : World) (hK : Kinds w) (hH : Hos w ha hc b.hs) (hD : Ints w da dc b.dr) : Ct Tryd.prog 12 #[.agg (sbL b ha hc da dc).toArray, iv n] w (fun u w' => u = .bool true ∧ Ext w w') := by
  refine fn_intro (args := [.agg (sbL b ha hc da dc).toArray, iv n]) Tryd.func12 rfl rfl (by kernel_rfl) ?_
  have S := St.start no w
  refine W.seq (W.region S ?_)
  refine AS.cons (sp_boxa 2 rfl (fun b2 => ?_))
  refine AS.cons (sp_asg rfl ?_)
  refine AS.nil ?_
  intro _ S
  refine W.seq (W.seq (W.region S ?_))
  refine AS.cons (sp_ldw 2 rfl rfl ag_28_9 ?_)
  refine AS.cons (sp_call [] rfl rfl cf_35 (fun F w _ S => soundT (okS_good.2 hb) w (hK.ext S.mod) (hH.ext S.mod) (hD.ext S.mod)) ?_)
  refine AS.cons (sp_not rfl ?_)
  refine AS.nil ?_
  intro _ S
  refine W.cond rfl (fun c14 => ?_) (fun c14 => ?_)
  · exact absurd c14 (by decide)
  · skip
    refine W.skip ?_
    refine W.seq (W.region S ?_)
    refine AS.cons (sp_ldw 2 rfl rfl ag_28_9 ?_)
    refine AS.cons (sp_call [] rfl rfl cf_31 (fun F w _ S => askT (askA (okS_good.2 hb) h0) w (hK.ext S.mod) (hH.ext S.mod) (hD.ext S.mod)) ?_)
    refine AS.cons (sp_move rfl ?_)
    refine AS.cons (sp_ext rfl rfl ?_)
    refine AS.cons (sp_ext rfl rfl ?_)
    refine AS.cons (sp_asg (v := .int _ _) rfl ?_)
    refine AS.cons (sp_asg (v := .int _ _) rfl ?_)
    refine AS.nil ?_
    intro _ S
    refine W.seq (W.region S ?_)
    refine AS.cons (sp_ldw 2 rfl rfl ag_28_9 ?_)
    refine AS.cons (sp_call1 23 [] _ rfl rfl cf_24 (fun F w _ S => seedsT hb h0 w (hK.ext S.mod) (hH.ext S.mod) (hD.ext S.mod)) ?_ (by simp))
    rintro v23 i23 ⟨a23, c23, h23, rfl, rfl⟩
    refine AS.cons (sp_move rfl ?_)
    refine AS.cons (sp_ext rfl rfl ?_)
    refine AS.cons (sp_ext rfl rfl ?_)
    refine AS.cons (sp_asg rfl ?_)
    refine AS.cons (sp_asg (v := .int _ _) rfl ?_)
    refine AS.nil ?_
    intro _ S
    refine W.seq (W.seq (W.region S ?_))
    refine AS.cons (sp_move (v := .int _ _) rfl ?_)
    refine AS.cons (sp_neq rfl rfl ?_)
    refine AS.cons (sp_move (v := .bool _) rfl ?_)
    refine AS.split 28 rfl (fun g28 => ?_) (fun g28 => ?_)
    · exact absurd g28 (by decide)
    · skip
      refine AS.cons (sp_move (v := .int _ _) rfl ?_)
      refine AS.cons (sp_eql rfl rfl ?_)
      refine AS.cons (sp_move rfl ?_)
      refine AS.cons (sp_len rfl sl_26_3_1 ?_)
      refine AS.cons (sp_eql rfl rfl ?_)
      refine AS.cons (sp_neqb rfl rfl bool_4 ?_)
      refine AS.cons (sp_pick_f rfl (v := .bool _) rfl ?_)
      refine AS.cons (sp_move (v := .bool _) rfl ?_)
      refine AS.split 36 rfl (fun g36 => ?_) (fun g36 => ?_)
      · exact absurd g36 (by decide)
      · skip
        refine AS.cons (sp_move (v := .int _ _) rfl ?_)
        refine AS.cons (sp_eql rfl rfl ?_)
        refine AS.cons (sp_move rfl ?_)
        refine AS.cons (sp_len rfl sl_26_3_1 ?_)
        refine AS.cons (sp_eql rfl rfl ?_)
        refine AS.cons (sp_neqb rfl rfl bool_4 ?_)
        refine AS.cons (sp_pick_f rfl (v := .bool _) rfl ?_)
        refine AS.cons (sp_move (v := .bool _) rfl ?_)
        refine AS.split 44 rfl (fun g44 => ?_) (fun g44 => ?_)
        · exact absurd g44 (by decide)
        · skip
          refine AS.cons (sp_move (v := .int _ _) rfl ?_)
          refine AS.cons (sp_neq rfl rfl ?_)
          refine AS.cons (sp_move (v := .bool _) rfl ?_)
          refine AS.split 47 rfl (fun g47 => ?_) (fun g47 => ?_)
          · skip
            refine AS.cons (sp_move (v := .int _ _) rfl ?_)
            refine AS.cons (sp_neq rfl rfl ?_)
            refine AS.cons (sp_pick_t rfl (v := .bool _) rfl ?_)
            refine AS.cons (sp_pick_f rfl (v := .bool _) rfl ?_)
            refine AS.nil ?_
            intro _ S
            refine W.cond rfl (fun c51 => ?_) (fun c51 => ?_)
            · exact absurd c51 (by decide)
            · skip
              refine W.skip ?_
              refine W.seq (W.seq (W.region S ?_))
              refine AS.cons (sp_move (v := .int _ _) rfl ?_)
              refine AS.cons (sp_neq rfl rfl ?_)
              refine AS.nil ?_
              intro _ S
              refine W.condd rfl (fun c53 => ?_) (fun c53 => ?_)
              · skip
                refine W.seq (W.region S ?_)
                refine AS.cons (sp_move rfl ?_)
                refine AS.cons (sp_len rfl sl_26_3_1 ?_)
                refine AS.cons (sp_lss rfl rfl ?_)
                refine AS.cons (sp_move (v := .bool _) rfl ?_)
                refine AS.split 57 rfl (fun g57 => ?_) (fun g57 => ?_)
                · skip
                  refine AS.cons (sp_call [] rfl rfl cf_26 (fun F w _ S => drawn w (hK.ext S.mod)) ?_)
                  refine AS.cons (sp_pick_t rfl (v := .bool _) rfl ?_)
                  refine AS.cons (sp_asg (v := .bool _) rfl ?_)
                  refine AS.nil ?_
                  intro _ S
                  refine W.ret ?_
                  exact ret1 rfl rfl S fun w' S' => ⟨rfl, S'.mod⟩
                · exact absurd g57 (by decide)
              · exact absurd c53 (by decide)
          · exact absurd g47 (by decide)
set_option maxHeartbeats 8000000 in
theorem askL1 (n : Int) (hb : Good b) {s : Int} (h0 : sdL b [] = [s]) (w : World) (hK : Kinds w) (hH : Hos w ha hc b.hs) (hD : Ints w da dc b.dr) : Ct Tryd.prog 12 #[.agg (sbL b ha hc da dc).toArray, iv n] w (fun u w' => u = .bool true ∧ Ext w w') := by
  refine fn_intro (args := [.agg (sbL b ha hc da dc).toArray, iv n]) Tryd.func12 rfl rfl (by kernel_rfl) ?_
  have S := St.start no w
  refine W.seq (W.region S ?_)
  refine AS.cons (sp_boxa 2 rfl (fun b2 => ?_))
  refine AS.cons (sp_asg rfl ?_)
  refine AS.nil ?_
  intro _ S
  refine W.seq (W.seq (W.region S ?_))
  refine AS.cons (sp_ldw 2 rfl rfl ag_28_9 ?_)
  refine AS.cons (sp_call [] rfl rfl cf_35 (fun F w _ S => soundT (okS_good.2 hb) w (hK.ext S.mod) (hH.ext S.mod) (hD.ext S.mod)) ?_)
  refine AS.cons (sp_not rfl ?_)
  refine AS.nil ?_
  intro _ S
  refine W.cond rfl (fun c14 => ?_) (fun c14 => ?_)
  · exact absurd c14 (by decide)
  · skip
    refine W.skip ?_
    refine W.seq (W.region S ?_)
    refine AS.cons (sp_ldw 2 rfl rfl ag_28_9 ?_)
    refine AS.cons (sp_call [] rfl rfl cf_31 (fun F w _ S => askT (askB' (okS_good.2 hb) h0) w (hK.ext S.mod) (hH.ext S.mod) (hD.ext S.mod)) ?_)
    refine AS.cons (sp_move rfl ?_)
    refine AS.cons (sp_ext rfl rfl ?_)
    refine AS.cons (sp_ext rfl rfl ?_)
    refine AS.cons (sp_asg (v := .int _ _) rfl ?_)
    refine AS.cons (sp_asg (v := .int _ _) rfl ?_)
    refine AS.nil ?_
    intro _ S
    refine W.seq (W.region S ?_)
    refine AS.cons (sp_ldw 2 rfl rfl ag_28_9 ?_)
    refine AS.cons (sp_call1 23 [] _ rfl rfl cf_24 (fun F w _ S => seedsT hb h0 w (hK.ext S.mod) (hH.ext S.mod) (hD.ext S.mod)) ?_ (by simp))
    rintro v23 i23 ⟨a23, c23, h23, rfl, rfl⟩
    refine AS.cons (sp_move rfl ?_)
    refine AS.cons (sp_ext rfl rfl ?_)
    refine AS.cons (sp_ext rfl rfl ?_)
    refine AS.cons (sp_asg rfl ?_)
    refine AS.cons (sp_asg (v := .int _ _) rfl ?_)
    refine AS.nil ?_
    intro _ S
    refine W.seq (W.seq (W.region S ?_))
    refine AS.cons (sp_move (v := .int _ _) rfl ?_)
    refine AS.cons (sp_neq rfl rfl ?_)
    refine AS.cons (sp_move (v := .bool _) rfl ?_)
    refine AS.split 28 rfl (fun g28 => ?_) (fun g28 => ?_)
    · exact absurd g28 (by decide)
    · skip
      refine AS.cons (sp_move (v := .int _ _) rfl ?_)
      refine AS.cons (sp_eql rfl rfl ?_)
      refine AS.cons (sp_move rfl ?_)
      refine AS.cons (sp_len rfl sl_26_3_1 ?_)
      refine AS.cons (sp_eql rfl rfl ?_)
      refine AS.cons (sp_neqb rfl rfl bool_4 ?_)
      refine AS.cons (sp_pick_f rfl (v := .bool _) rfl ?_)
      refine AS.cons (sp_move (v := .bool _) rfl ?_)
      refine AS.split 36 rfl (fun g36 => ?_) (fun g36 => ?_)
      · exact absurd (show (decide ((4 : Int) = 82) != decide ((1 : Int) = 0)) = true from g36) (by decide)
      · skip
        refine AS.cons (sp_move (v := .int _ _) rfl ?_)
        refine AS.cons (sp_eql rfl rfl ?_)
        refine AS.cons (sp_move rfl ?_)
        refine AS.cons (sp_len rfl sl_26_3_1 ?_)
        refine AS.cons (sp_eql rfl rfl ?_)
        refine AS.cons (sp_neqb rfl rfl bool_4 ?_)
        refine AS.cons (sp_pick_f rfl (v := .bool _) rfl ?_)
        refine AS.cons (sp_move (v := .bool _) rfl ?_)
        refine AS.split 44 rfl (fun g44 => ?_) (fun g44 => ?_)
        · exact absurd (show (decide ((4 : Int) = 4) != decide ((1 : Int) = 1)) = true from g44) (by decide)
        · skip
          refine AS.cons (sp_move (v := .int _ _) rfl ?_)
          refine AS.cons (sp_neq rfl rfl ?_)
          refine AS.cons (sp_move (v := .bool _) rfl ?_)
          refine AS.split 47 rfl (fun g47 => ?_) (fun g47 => ?_)
          · skip
            refine AS.cons (sp_move (v := .int _ _) rfl ?_)
            refine AS.cons (sp_neq rfl rfl ?_)
            refine AS.cons (sp_pick_t rfl (v := .bool _) rfl ?_)
            refine AS.cons (sp_pick_f rfl (v := .bool _) rfl ?_)
            refine AS.nil ?_
            intro _ S
            refine W.cond rfl (fun c51 => ?_) (fun c51 => ?_)
            · exact absurd c51 (by decide)
            · skip
              refine W.skip ?_
              refine W.seq (W.seq (W.region S ?_))
              refine AS.cons (sp_move (v := .int _ _) rfl ?_)
              refine AS.cons (sp_neq rfl rfl ?_)
              refine AS.nil ?_
              intro _ S
              refine W.condd rfl (fun c53 => ?_) (fun c53 => ?_)
              · skip
                refine W.seq (W.region S ?_)
                refine AS.cons (sp_move rfl ?_)
                refine AS.cons (sp_len rfl sl_26_3_1 ?_)
                refine AS.cons (sp_lss rfl rfl ?_)
                refine AS.cons (sp_move (v := .bool _) rfl ?_)
                refine AS.split 57 rfl (fun g57 => ?_) (fun g57 => ?_)
                · skip
                  refine AS.cons (sp_call [] rfl rfl cf_26 (fun F w _ S => drawn w (hK.ext S.mod)) ?_)
                  refine AS.cons (sp_pick_t rfl (v := .bool _) rfl ?_)
                  refine AS.cons (sp_asg (v := .bool _) rfl ?_)
                  refine AS.nil ?_
                  intro _ S
                  refine W.ret ?_
                  exact ret1 rfl rfl S fun w' S' => ⟨rfl, S'.mod⟩
                · exact absurd (show decide ((1 : Int) < 2) = false from g57) (by decide)
              · exact absurd c53 (by decide)
          · exact absurd g47 (by decide)
set_option maxHeartbeats 8000000 in
theorem askL2 (n : Int) (hb : Good b) (hL2 : 2 ≤ (sdL b []).length) (w : World) (hK : Kinds w) (hH : Hos w ha hc b.hs) (hD : Ints w da dc b.dr) : Ct Tryd.prog 12 #[.agg (sbL b ha hc da dc).toArray, iv n] w (fun u w' => u = .bool true ∧ Ext w w') := by
  refine fn_intro (args := [.agg (sbL b ha hc da dc).toArray, iv n]) Tryd.func12 rfl rfl (by kernel_rfl) ?_
  have S := St.start no w
  have hO := hb.own
  have ha1 := hb.a1
  have ha60 := hb.a60
  have hsk := askC (okS_good.2 hb) hL2
  have hl51 := sdL_51 hb []
  have hlx : ∀ s ∈ sdL b [], 0 ≤ s ∧ s ≤ 100000 := fun s hs => by have := sd_bd hb hs; omega
  obtain ⟨l, hl⟩ : ∃ l, l = sdL b [] := ⟨_, rfl⟩
  rw [← hl] at hL2 hsk hl51 hlx
  obtain ⟨f, hf⟩ : ∃ f, f = wstN b l := ⟨_, rfl⟩
  rw [← hf] at hsk
  obtain ⟨kn, hkn⟩ : ∃ kn, kn = amU f (allN b).toNat := ⟨_, rfl⟩
  rw [← hkn] at hsk
  have hkl : (kn : Int) < allN b := by have := amU_lt (f := f) (n := (allN b).toNat) (by omega); omega
  have hwd := whl_bd n ha1
  obtain ⟨d, hd⟩ : ∃ d : Nat, (d : Int) = whlV n (allN b) := ⟨(whlV n (allN b)).toNat, by omega⟩
  have hle := amU_le (f := f) (n := (allN b).toNat) (j := d) (by omega)
  rw [← hkn] at hle
  have hcall : ∀ (j : Nat) (hj : (j : Int) < allN b) (la : Option Addr) (lc : Nat) (w : World), Hos w ha hc b.hs → Ints w la lc l → Ct Tryd.prog 56 #[.agg (sbL b ha hc da dc).toArray, .slice la l.length lc, iv j] w (fun u w' => u = iv (f j) ∧ Ext w w') := fun j hj la lc w h1 h2 => by
    rw [hf]; exact splitF b ha hc da dc hb la lc l (by omega) hlx j hj w h1 h2
  obtain ⟨x0, hx0⟩ : ∃ x0, x0 = f kn := ⟨_, rfl⟩
  obtain ⟨y0, hy0⟩ : ∃ y0, y0 = f d := ⟨_, rfl⟩
  rw [← hx0, ← hy0] at hle
  have hc1 := hcall kn hkl
  have hc2 := hcall d (by omega)
  rw [← hx0] at hc1
  rw [← hy0] at hc2
  have hbt : decide ((0 : Int) ≤ (kn : Int) ∧ (kn : Int) ≤ allN b - 1) = true := decide_eq_true (by omega)
  refine W.seq (W.region S ?_)
  refine AS.cons (sp_boxa 2 rfl (fun b2 => ?_))
  refine AS.cons (sp_asg rfl ?_)
  refine AS.nil ?_
  intro _ S
  refine W.seq (W.seq (W.region S ?_))
  refine AS.cons (sp_ldw 2 rfl rfl ag_28_9 ?_)
  refine AS.cons (sp_call [] rfl rfl cf_35 (fun F w _ S => soundT (okS_good.2 hb) w (hK.ext S.mod) (hH.ext S.mod) (hD.ext S.mod)) ?_)
  refine AS.cons (sp_not rfl ?_)
  refine AS.nil ?_
  intro _ S
  refine W.cond rfl (fun c14 => ?_) (fun c14 => ?_)
  · exact absurd c14 (by decide)
  · skip
    refine W.skip ?_
    refine W.seq (W.region S ?_)
    refine AS.cons (sp_ldw 2 rfl rfl ag_28_9 ?_)
    refine AS.cons (sp_call [] rfl rfl cf_31 (fun F w _ S => askT hsk w (hK.ext S.mod) (hH.ext S.mod) (hD.ext S.mod)) ?_)
    refine AS.cons (sp_move rfl ?_)
    refine AS.cons (sp_ext rfl rfl ?_)
    refine AS.cons (sp_ext rfl rfl ?_)
    refine AS.cons (sp_asg (v := .int _ _) rfl ?_)
    refine AS.cons (sp_asg (v := .int _ _) rfl ?_)
    refine AS.nil ?_
    intro _ S
    refine W.seq (W.region S ?_)
    refine AS.cons (sp_ldw 2 rfl rfl ag_28_9 ?_)
    refine AS.cons (sp_call1 23 [] _ rfl rfl cf_24 (fun F w _ S => seedsT hb hl.symm w (hK.ext S.mod) (hH.ext S.mod) (hD.ext S.mod)) ?_ (by simp))
    rintro v23 i23 ⟨a23, c23, h23, rfl, rfl⟩
    refine AS.cons (sp_move rfl ?_)
    refine AS.cons (sp_ext rfl rfl ?_)
    refine AS.cons (sp_ext rfl rfl ?_)
    refine AS.cons (sp_asg rfl ?_)
    refine AS.cons (sp_asg (v := .int _ _) rfl ?_)
    refine AS.nil ?_
    intro _ S
    refine W.seq (W.seq (W.region S ?_))
    refine AS.cons (sp_move (v := .int _ _) rfl ?_)
    refine AS.cons (sp_neq rfl rfl ?_)
    refine AS.cons (sp_move (v := .bool _) rfl ?_)
    refine AS.split 28 rfl (fun g28 => ?_) (fun g28 => ?_)
    · exact absurd g28 (by decide)
    · skip
      refine AS.cons (sp_move (v := .int _ _) rfl ?_)
      refine AS.cons (sp_eql rfl rfl ?_)
      refine AS.cons (sp_move rfl ?_)
      refine AS.cons (sp_len rfl sl_26_3_1 ?_)
      refine AS.cons (sp_eql rfl rfl ?_)
      refine AS.cons (sp_neqb rfl rfl bool_4 ?_)
      refine AS.cons (sp_pick_f rfl (v := .bool _) rfl ?_)
      refine AS.cons (sp_move (v := .bool _) rfl ?_)
      refine AS.split 36 rfl (fun g36 => ?_) (fun g36 => ?_)
      · exact absurd (show (decide ((0 : Int) = 82) != decide ((l.length : Int) = 0)) = true from g36) (by rw [decide_eq_false (show ¬ (l.length : Int) = 0 by omega)]; decide)
      · skip
        refine AS.cons (sp_move (v := .int _ _) rfl ?_)
        refine AS.cons (sp_eql rfl rfl ?_)
        refine AS.cons (sp_move rfl ?_)
        refine AS.cons (sp_len rfl sl_26_3_1 ?_)
        refine AS.cons (sp_eql rfl rfl ?_)
        refine AS.cons (sp_neqb rfl rfl bool_4 ?_)
        refine AS.cons (sp_pick_f rfl (v := .bool _) rfl ?_)
        refine AS.cons (sp_move (v := .bool _) rfl ?_)
        refine AS.split 44 rfl (fun g44 => ?_) (fun g44 => ?_)
        · exact absurd (show (decide ((0 : Int) = 4) != decide ((l.length : Int) = 1)) = true from g44) (by rw [decide_eq_false (show ¬ (l.length : Int) = 1 by omega)]; decide)
        · skip
          refine AS.cons (sp_move (v := .int _ _) rfl ?_)
          refine AS.cons (sp_neq rfl rfl ?_)
          refine AS.cons (sp_move (v := .bool _) rfl ?_)
          refine AS.split 47 rfl (fun g47 => ?_) (fun g47 => ?_)
          · exact absurd g47 (by decide)
          · skip
            refine AS.cons (sp_skip rfl ?_)
            refine AS.cons (sp_skip rfl ?_)
            refine AS.cons (sp_pick_f rfl (v := .bool _) rfl ?_)
            refine AS.cons (sp_pick_f rfl (v := .bool _) rfl ?_)
            refine AS.nil ?_
            intro _ S
            refine W.cond (b := false) rfl (fun h => nomatch h) (fun _ => ?_)
            refine W.skip ?_
            refine W.seq (W.seq (W.region S ?_))
            refine AS.cons (sp_move (v := .int _ _) rfl ?_)
            refine AS.cons (sp_neq rfl rfl ?_)
            refine AS.nil ?_
            intro _ S
            refine W.condd rfl (fun c53 => ?_) (fun c53 => ?_)
            · exact absurd c53 (by decide)
            · skip
              refine W.skip ?_
              refine W.seq (W.seq (W.region S ?_))
              refine AS.cons (sp_move (v := .int _ _) rfl ?_)
              refine AS.cons (sp_ldw 2 rfl rfl ag_28_9 ?_)
              refine AS.cons (sp_call [] rfl rfl cf_44 (fun F w _ S => allLF _ _ _ _ _ (by assumption) w (hH.ext S.mod)) ?_)
              refine AS.cons (sp_sub rfl rfl (by first | omega | (simp only [decide_eq_true_eq, decide_eq_false_iff_not] at *; omega)) ?_)
              refine AS.cons (sp_call [] rfl rfl cf_45 (fun F w _ S => between _ _ _ w) ?_)
              refine AS.cons (sp_not rfl ?_)
              refine AS.nil ?_
              intro _ S
              refine W.cond rfl (fun c65 => ?_) (fun c65 => ?_)
              · exact absurd (hbt ▸ c65 : (!true) = true) (by decide)
              · skip
                refine W.skip ?_
                refine W.seq (W.region S ?_)
                refine AS.cons (sp_move (v := .int _ _) rfl ?_)
                refine AS.cons (sp_ldw 2 rfl rfl ag_28_9 ?_)
                refine AS.cons (sp_call [] rfl rfl cf_44 (fun F w _ S => allLF _ _ _ _ _ (by assumption) w (hH.ext S.mod)) ?_)
                refine AS.cons (sp_call [] rfl rfl cf_39 (fun F w _ S => by have h := wheelV n (allN b) (by omega) w; rw [← hd] at h; exact h) ?_)
                refine AS.cons (sp_asg (v := .int _ _) rfl ?_)
                refine AS.nil ?_
                intro _ S
                refine W.seq (W.draw S mixed (fun i => ([KD.q [2], KD.q [], KD.q [], KD.e [23] [], KD.q [2], KD.q [], KD.q [], KD.e [23] [], KD.q [], KD.q []] : List KD)[i]?) [] [0, 1, 2, 3, 4, 5, 6, 7, 8, 9] (by kernel_rfl) ?_)
                refine AW.cons rfl rfl (sp_ldw 2 rfl rfl ag_28_9 ?_)
                refine AW.cons rfl rfl (sp_move rfl ?_)
                refine AW.cons rfl rfl (sp_move (v := .int _ _) rfl ?_)
                refine AW.cons rfl rfl (sp_call [23] rfl rfl cf_56 (fun F w hF S => hc1 a23 c23 w (hH.ext S.mod) (S.slc_rd (k := 23) ((hF 23 (by simp)).trans rfl) (by omega))) ?_)
                refine AW.cons rfl rfl (sp_ldw 2 rfl rfl ag_28_9 ?_)
                refine AW.cons rfl rfl (sp_move rfl ?_)
                refine AW.cons rfl rfl (sp_move (v := .int _ _) rfl ?_)
                refine AW.cons rfl rfl (sp_call [23] rfl rfl cf_56 (fun F w hF S => hc2 a23 c23 w (hH.ext S.mod) (S.slc_rd (k := 23) ((hF 23 (by simp)).trans rfl) (by omega))) ?_)
                refine AW.cons rfl rfl (sp_asg (v := .int _ _) rfl ?_)
                refine AW.cons rfl rfl (sp_asg (v := .int _ _) rfl ?_)
                refine AW.nil ?_
                intro _ S
                refine W.seq (W.region S ?_)
                refine AS.cons (sp_move (v := .int _ _) rfl ?_)
                refine AS.cons (sp_move (v := .int _ _) rfl ?_)
                refine AS.cons (sp_lss rfl rfl ?_)
                refine AS.cons (sp_move (v := .bool _) rfl ?_)
                refine AS.split 81 rfl (fun g81 => ?_) (fun g81 => ?_)
                · skip
                  refine AS.cons (sp_skip rfl ?_)
                  refine AS.cons (sp_skip rfl ?_)
                  refine AS.cons (sp_skip rfl ?_)
                  refine AS.cons (sp_skip rfl ?_)
                  refine AS.cons (sp_skip rfl ?_)
                  refine AS.cons (sp_skip rfl ?_)
                  refine AS.cons (sp_skip rfl ?_)
                  refine AS.cons (sp_skip rfl ?_)
                  refine AS.cons (sp_pick_t rfl (v := .bool _) rfl ?_)
                  refine AS.cons (sp_move (v := .bool _) rfl ?_)
                  refine AS.cons (sp_call [] rfl rfl cf_26 (fun F w _ S => drawn w (hK.ext S.mod)) ?_)
                  refine AS.cons (sp_pick_t rfl (v := .bool _) rfl ?_)
                  refine AS.cons (sp_asg (v := .bool _) rfl ?_)
                  refine AS.nil ?_
                  intro _ S
                  refine W.ret ?_
                  exact ret1 rfl rfl S fun w' S' => ⟨rfl, S'.mod⟩
                · skip
                  refine AS.cons (sp_move (v := .int _ _) rfl ?_)
                  refine AS.cons (sp_move (v := .int _ _) rfl ?_)
                  refine AS.cons (sp_eql rfl rfl ?_)
                  refine AS.cons (sp_move (v := .bool _) rfl ?_)
                  refine AS.split 85 rfl (fun g85 => ?_) (fun g85 => ?_)
                  · skip
                    refine AS.cons (sp_move (v := .int _ _) rfl ?_)
                    refine AS.cons (sp_move (v := .int _ _) rfl ?_)
                    refine AS.cons (sp_leq rfl rfl ?_)
                    refine AS.cons (sp_pick_t rfl (v := .bool _) rfl ?_)
                    refine AS.cons (sp_pick_f rfl (v := .bool _) rfl ?_)
                    refine AS.cons (sp_move (v := .bool _) rfl ?_)
                    refine AS.split 91 rfl (fun g91 => ?_) (fun g91 => ?_)
                    · skip
                      refine AS.cons (sp_call [] rfl rfl cf_26 (fun F w _ S => drawn w (hK.ext S.mod)) ?_)
                      refine AS.cons (sp_pick_t rfl (v := .bool _) rfl ?_)
                      refine AS.cons (sp_asg (v := .bool _) rfl ?_)
                      refine AS.nil ?_
                      intro _ S
                      refine W.ret ?_
                      exact ret1 rfl rfl S fun w' S' => ⟨rfl, S'.mod⟩
                    · first | exact absurd g91 (by decide) | exact absurd (by have h1 := of_decide_eq_true g85; have h2 := hle.2 h1.symm; omega) (of_decide_eq_false g91)
                  · exact absurd (by have := of_decide_eq_false g81; omega) (of_decide_eq_false g85)
theorem askLaw (n : Int) (w : World) (hK : Kinds w) (hH : Hos w ha hc b.hs) (hD : Ints w da dc b.dr) : Ct Tryd.prog 12 #[.agg (sbL b ha hc da dc).toArray, iv n] w (fun u w' => u = .bool true ∧ Ext w w') := by
  cases hok : okS b with
  | false => exact noL b ha hc da dc n hok w hK hH hD
  | true =>
    have hb := okS_good.1 hok
    match e : sdL b [] with
    | [] => exact askL0 b ha hc da dc n hb e w hK hH hD
    | [s] => exact askL1 b ha hc da dc n hb e w hK hH hD
    | _ :: _ :: _ => exact askL2 b ha hc da dc n hb (by rw [e]; simp) w hK hH hD
end
end Go.Proofs.YtajocmkgdjcmkaaDoor

/-
  The law of the notes that must be false.
-/
namespace Go.Proofs.YtajocmkgdjcmkaaDoor
set_option maxRecDepth 100000
open Go.Hu Go.RowKit
section
variable (b : Sb) (ha : Option Addr) (hc : Nat) (da : Option Addr) (dc : Nat)
theorem few_nil {l : List Int} (h : ¬ l = []) : fewL [] l = true := by
  cases l with
  | nil => exact absurd rfl h
  | cons x t => unfold fewL; simp
theorem wr_best {b : Sb} (hb : Good b) : Best b.dr.length (wrP b) (wrV b) := by
  rw [wrV_is hb]; exact wrO_some (wrO_is hb)
theorem wr_nil {b : Sb} (hb : Good b) : decide (((wrV b).length : Int) = 0) = !decide (sdL b [] = []) := by
  have hB := wr_best hb
  have h1 : wrP b [] = !decide (sdL b [] = []) := rfl
  rw [← h1]
  by_cases h : wrV b = []
  · have := hB.ok; rw [h] at this; rw [this, h]; rfl
  · rw [hB.no [] trivial (few_nil h)]
    exact decide_eq_false (fun e => h (List.length_eq_zero_iff.1 (by omega)))
theorem wr_noted {b : Sb} (hb : Good b) {x : Int} (hx : x ∈ wrV b) : ∃ xn : Nat, x = xn ∧ xn < b.dr.length ∧ 0 ≤ b.dr.getD xn 0 := by
  have hB := wr_best hb
  have h1 := hB.up.mem x hx
  have h2 := List.all_eq_true.1 (best_nt hB) x hx
  obtain ⟨xn, rfl⟩ : ∃ xn : Nat, x = xn := ⟨x.toNat, by omega⟩
  have hlt : xn < b.dr.length := by omega
  refine ⟨xn, rfl, hlt, ?_⟩
  have h3 : ¬ b.dr.getD xn 0 = -1 := by simpa [ntB] using h2
  have h4 := hb.dn (b.dr.getD xn 0) (by rw [List.getD_eq_getElem?_getD, List.getElem?_eq_getElem hlt]; exact List.getElem_mem hlt)
  omega
theorem wrongT {b : Sb} {ha : Option Addr} {hc : Nat} {da : Option Addr} {dc : Nat} {l : List Int} {e : Int} (h1 : wrV b = l) (h2 : chkV b = e) (w : World) (hK : Kinds w) (hH : Hos w ha hc b.hs) (hD : Ints w da dc b.dr) : Ct Tryd.prog 33 #[.agg (sbL b ha hc da dc).toArray] w (fun u w' => ∃ i, LsE l e u i ∧ St no w w' (upd eL 0 i) []) := by
  have h := wrongP b ha hc da dc w hK hH hD; rw [h1, h2] at h; exact h
theorem rightT {b : Sb} {ha : Option Addr} {hc : Nat} {da : Option Addr} {dc : Nat} {x : Bool} (hb : Good b) (h : (!decide (sdL b [] = [])) = x) (w : World) (hK : Kinds w) (hH : Hos w ha hc b.hs) (hD : Ints w da dc b.dr) : Ct Tryd.prog 15 #[.agg (sbL b ha hc da dc).toArray] w (fun u w' => u = .tuple #[.bool x, iv 0] ∧ Ext w w') := by
  have h1 := rightG b ha hc da dc hb w hK hH hD; rw [h] at h1; exact h1
set_option maxHeartbeats 8000000 in
theorem wrongL0 (n : Int) (hok : okS b = false) (w : World) (hK : Kinds w) (hH : Hos w ha hc b.hs) (hD : Ints w da dc b.dr) : Ct Tryd.prog 11 #[.agg (sbL b ha hc da dc).toArray, iv n] w (fun u w' => u = .bool true ∧ Ext w w') := by
  refine fn_intro (args := [.agg (sbL b ha hc da dc).toArray, iv n]) Tryd.func11 rfl rfl (by kernel_rfl) ?_
  have S := St.start no w
  have hw0 : wrV b = [] := by unfold wrV; rw [hok]; rfl
  refine W.seq (W.region S ?_)
  refine AS.cons (sp_boxa 2 rfl (fun b2 => ?_))
  refine AS.cons (sp_asg rfl ?_)
  refine AS.nil ?_
  intro _ S
  refine W.seq (W.region S ?_)
  refine AS.cons (sp_ldw 2 rfl rfl ag_28_9 ?_)
  refine AS.cons (sp_call1 17 [] _ rfl rfl cf_33 (fun F w _ S => wrongT hw0 (chk_no hok) w (hK.ext S.mod) (hH.ext S.mod) (hD.ext S.mod)) ?_ (by simp))
  rintro v17 i17 ⟨a17, c17, h17, rfl, rfl⟩
  refine AS.cons (sp_move rfl ?_)
  refine AS.cons (sp_ext rfl rfl ?_)
  refine AS.cons (sp_ext rfl rfl ?_)
  refine AS.cons (sp_asg rfl ?_)
  refine AS.cons (sp_asg (v := .int _ _) rfl ?_)
  refine AS.nil ?_
  intro _ S
  refine W.seq (W.seq (W.region S ?_))
  refine AS.cons (sp_ldw 2 rfl rfl ag_28_9 ?_)
  refine AS.cons (sp_call [] rfl rfl cf_35 (fun F w _ S => soundT hok w (hK.ext S.mod) (hH.ext S.mod) (hD.ext S.mod)) ?_)
  refine AS.cons (sp_not rfl ?_)
  refine AS.nil ?_
  intro _ S
  refine W.cond rfl (fun c22 => ?_) (fun c22 => ?_)
  · skip
    refine W.seq (W.region S ?_)
    refine AS.cons (sp_move (v := .int _ _) rfl ?_)
    refine AS.cons (sp_eql rfl rfl ?_)
    refine AS.cons (sp_move (v := .bool _) rfl ?_)
    refine AS.split 25 rfl (fun g25 => ?_) (fun g25 => ?_)
    · skip
      refine AS.cons (sp_move rfl ?_)
      refine AS.cons (sp_len rfl sl_26_3_1 ?_)
      refine AS.cons (sp_eql rfl rfl ?_)
      refine AS.cons (sp_pick_t rfl (v := .bool _) rfl ?_)
      refine AS.cons (sp_move (v := .bool _) rfl ?_)
      refine AS.split 30 rfl (fun g30 => ?_) (fun g30 => ?_)
      · skip
        refine AS.cons (sp_call [] rfl rfl cf_26 (fun F w _ S => drawn w (hK.ext S.mod)) ?_)
        refine AS.cons (sp_pick_t rfl (v := .bool _) rfl ?_)
        refine AS.cons (sp_asg (v := .bool _) rfl ?_)
        refine AS.nil ?_
        intro _ S
        refine W.ret ?_
        exact ret1 rfl rfl S fun w' S' => ⟨rfl, S'.mod⟩
      · exact absurd g30 (by decide)
    · exact absurd g25 (by decide)
  · exact absurd c22 (by decide)
set_option maxHeartbeats 16000000 in
theorem wrongL1 (n : Int) (hb : Good b) (w : World) (hK : Kinds w) (hH : Hos w ha hc b.hs) (hD : Ints w da dc b.dr) : Ct Tryd.prog 11 #[.agg (sbL b ha hc da dc).toArray, iv n] w (fun u w' => u = .bool true ∧ Ext w w') := by
  refine fn_intro (args := [.agg (sbL b ha hc da dc).toArray, iv n]) Tryd.func11 rfl rfl (by kernel_rfl) ?_
  have S := St.start no w
  have hok := okS_good.2 hb
  have hd8 := hb.d8
  have hB := wr_best hb
  have hwn := wr_nil hb
  obtain ⟨x, hx⟩ : ∃ x, x = (!decide (sdL b [] = [])) := ⟨_, rfl⟩
  rw [← hx] at hwn
  have hwl := wrV_len b
  have hpw : (1 : Int) * 2 ^ ((b.dr.length : Int)).toNat = ((2 ^ b.dr.length : Nat) : Int) := by rw [Int.one_mul, Int.toNat_natCast, Int.natCast_pow]; rfl
  have hp8 : 2 ^ b.dr.length ≤ 2 ^ 8 := Nat.pow_le_pow_right (by decide) hd8
  have hp1 : 1 ≤ 2 ^ b.dr.length := Nat.one_le_two_pow
  obtain ⟨P, hP⟩ : ∃ P, P = 2 ^ b.dr.length := ⟨_, rfl⟩
  rw [← hP] at hpw hp8 hp1
  have hwh := whl_bd n (k := (P : Int)) (by omega)
  obtain ⟨set, hset⟩ : ∃ set : Nat, (set : Int) = whlV n (P : Int) := ⟨(whlV n (P : Int)).toNat, by omega⟩
  have hsl : set ≤ 1000000 := by omega
  have hst : stU (wrV b) < 2 ^ b.dr.length := stU_lt (fun y hy => by have := hB.up.mem y hy; omega)
  have hsl2 : stU (wrV b) ≤ 1000000 := by rw [← hP] at hst; omega
  have hr1 : (!decide (sdL (wo b (fun k => (stU (wrV b)).testBit k)) [] = [])) = true := by rw [wo_bt, btU_st hB.up]; exact hB.ok
  have hr2 : (!decide (sdL (wo b (fun k => set.testBit k)) [] = [])) = wrP b (btU set b.dr.length) := by rw [wo_bt]; rfl
  have hfw : fewL (btU set b.dr.length) (wrV b) = true → wrP b (btU set b.dr.length) = false := fun h => hB.no _ (btU_up set (Nat.le_refl _)) h
  obtain ⟨q, hq⟩ : ∃ q, q = wrP b (btU set b.dr.length) := ⟨_, rfl⟩
  rw [← hq] at hr2 hfw
  have hbl := btU_len set b.dr.length
  refine W.seq (W.region S ?_)
  refine AS.cons (sp_boxa 2 rfl (fun b2 => ?_))
  refine AS.cons (sp_asg rfl ?_)
  refine AS.nil ?_
  intro _ S
  refine W.seq (W.region S ?_)
  refine AS.cons (sp_ldw 2 rfl rfl ag_28_9 ?_)
  refine AS.cons (sp_call1 17 [] _ rfl rfl cf_33 (fun F w _ S => wrongT rfl (chk_ok hok) w (hK.ext S.mod) (hH.ext S.mod) (hD.ext S.mod)) ?_ (by simp))
  rintro v17 i17 ⟨a17, c17, h17, rfl, rfl⟩
  refine AS.cons (sp_move rfl ?_)
  refine AS.cons (sp_ext rfl rfl ?_)
  refine AS.cons (sp_ext rfl rfl ?_)
  refine AS.cons (sp_asg rfl ?_)
  refine AS.cons (sp_asg (v := .int _ _) rfl ?_)
  refine AS.nil ?_
  intro _ S
  refine W.seq (W.seq (W.region S ?_))
  refine AS.cons (sp_ldw 2 rfl rfl ag_28_9 ?_)
  refine AS.cons (sp_call [] rfl rfl cf_35 (fun F w _ S => soundT hok w (hK.ext S.mod) (hH.ext S.mod) (hD.ext S.mod)) ?_)
  refine AS.cons (sp_not rfl ?_)
  refine AS.nil ?_
  intro _ S
  refine W.cond rfl (fun c22 => ?_) (fun c22 => ?_)
  · exact absurd c22 (by decide)
  · skip
    refine W.skip ?_
    refine W.seq (W.region S ?_)
    refine AS.cons (sp_ldw 2 rfl rfl ag_28_9 ?_)
    refine AS.cons (sp_call [] rfl rfl cf_15 (fun F w _ S => rightT hb hx.symm w (hK.ext S.mod) (hH.ext S.mod) (hD.ext S.mod)) ?_)
    refine AS.cons (sp_move rfl ?_)
    refine AS.cons (sp_ext rfl rfl ?_)
    refine AS.cons (sp_ext rfl rfl ?_)
    refine AS.cons (sp_asg (v := .bool _) rfl ?_)
    refine AS.cons (sp_asg (v := .int _ _) rfl ?_)
    refine AS.nil ?_
    intro _ S
    refine W.seq (W.seq (W.region S ?_))
    refine AS.cons (sp_move (v := .int _ _) rfl ?_)
    refine AS.cons (sp_neq rfl rfl ?_)
    refine AS.cons (sp_move (v := .bool _) rfl ?_)
    refine AS.split 40 rfl (fun g40 => ?_) (fun g40 => ?_)
    · exact absurd g40 (by decide)
    · skip
      refine AS.cons (sp_move (v := .int _ _) rfl ?_)
      refine AS.cons (sp_neq rfl rfl ?_)
      refine AS.cons (sp_pick_f rfl (v := .bool _) rfl ?_)
      refine AS.cons (sp_move (v := .bool _) rfl ?_)
      refine AS.split 44 rfl (fun g44 => ?_) (fun g44 => ?_)
      · exact absurd g44 (by decide)
      · skip
        refine AS.cons (sp_move rfl ?_)
        refine AS.cons (sp_fa rfl fo_28_4_8 ?_)
        refine AS.cons (sp_ld 2 rfl rfl sc_26 rfl ?_)
        refine AS.cons (sp_len rfl sl_26_3_1 ?_)
        refine AS.cons (sp_call [17] rfl rfl cf_49 (fun F w hF S => risesF a17 c17 (wrV b) b.dr.length (by omega) hB.up w (S.slc_rd (k := 17) ((hF 17 (by simp)).trans rfl) (by omega))) ?_)
        refine AS.cons (sp_not rfl ?_)
        refine AS.cons (sp_pick_f rfl (v := .bool _) rfl ?_)
        refine AS.cons (sp_move (v := .bool _) rfl ?_)
        refine AS.split 52 rfl (fun g52 => ?_) (fun g52 => ?_)
        · exact absurd g52 (by decide)
        · skip
          refine AS.cons (sp_move rfl ?_)
          refine AS.cons (sp_len rfl sl_26_3_1 ?_)
          refine AS.cons (sp_eql rfl rfl ?_)
          refine AS.cons (sp_move (v := .bool _) rfl ?_)
          refine AS.cons (sp_neqb rfl rfl bool_4 ?_)
          refine AS.cons (sp_pick_f rfl (v := .bool _) rfl ?_)
          refine AS.nil ?_
          intro _ S
          refine W.cond rfl (fun c58 => ?_) (fun c58 => ?_)
          · exact absurd (hwn ▸ c58 : (x != x) = true) (by simp)
          · skip
            refine W.skip ?_
            refine W.seq (W.seq (W.region S ?_))
            refine AS.cons (sp_asg rfl ?_)
            refine AS.nil ?_
            intro _ S
            refine W.block ?_
            refine W.loopS S [4, 9, 59, 60, 61, 62, 63, 64, 65, 66, 67, 68, 69, 70, 71, 72, 73] [] (fun (k : Nat) => [(9, iv k)]) (fun _ => []) (fun k => k ≤ (wrV b).length) (fun k => (wrV b).length - k) 0 (by omega) ⟨rfl, trivial⟩ trivial ?_
            rintro k σ M w1 hk S
            refine W.seq (W.seq (W.region S ?_))
            refine AS.cons (sp_move (v := .int _ _) rfl ?_)
            refine AS.cons (sp_move rfl ?_)
            refine AS.cons (sp_len rfl sl_26_3_1 ?_)
            refine AS.cons (sp_lss rfl rfl ?_)
            refine AS.nil ?_
            intro _ S
            refine W.condd rfl (fun c62 => ?_) (fun c62 => ?_)
            · skip
              have hlt : k < (wrV b).length := by omega
              obtain ⟨y, hy⟩ := get_some hlt
              obtain ⟨yn, rfl, hyl, hyz⟩ := wr_noted hb (List.mem_of_getElem? hy)
              obtain ⟨z, hz⟩ := get_some hyl
              rw [List.getD_eq_getElem?_getD, hz] at hyz
              replace hyz : 0 ≤ z := hyz
              refine W.skip ?_
              refine W.seq (W.block ?_)
              refine W.seq (W.draw S mixed (fun i => ([KD.q [], KD.q [2], KD.q [], KD.q [], KD.q [17], KD.q [17], KD.q [], KD.q [], KD.q []] : List KD)[i]?) [] [0, 1, 2, 3, 4, 5, 6, 7, 8] (by kernel_rfl) ?_)
              refine AW.cons rfl rfl (sp_fa rfl fo_28_4_8 ?_)
              refine AW.cons rfl rfl (sp_ld 2 rfl rfl sc_26 rfl ?_)
              refine AW.cons rfl rfl (sp_move rfl ?_)
              refine AW.cons rfl rfl (sp_move (v := .int _ _) rfl ?_)
              refine AW.cons rfl rfl (sp_iaS 17 rfl rfl rfl sl_26_3_1 (by omega) ?_)
              refine AW.cons rfl rfl (sp_ldS 17 rfl rfl sc_3 (v := iv (yn : Int)) (by simp [hy]) (by omega) ?_)
              refine AW.cons rfl rfl (sp_iaR hD rfl rfl sl_26_3_1 (by first | omega | (simp only [decide_eq_true_eq, decide_eq_false_iff_not] at *; omega)) ?_)
              refine AW.cons rfl rfl (sp_ldR 0 hD (fun _ h => h) rfl sc_3 (ints_at hz) (by first | omega | (simp only [decide_eq_true_eq, decide_eq_false_iff_not] at *; omega)) ?_)
              refine AW.cons rfl rfl (sp_lss rfl rfl ?_)
              refine AW.nil ?_
              intro _ S
              refine W.condd rfl (fun c73 => ?_) (fun c73 => ?_)
              · exact absurd c73 (by omega)
              · skip
                refine W.skip ?_
                refine W.region S ?_
                refine AS.cons (sp_move (v := .int _ _) rfl ?_)
                refine AS.cons (sp_add rfl rfl (by first | omega | (simp only [decide_eq_true_eq, decide_eq_false_iff_not] at *; omega)) ?_)
                refine AS.cons (sp_asg (v := .int _ _) rfl ?_)
                refine AS.nil ?_
                intro _ S
                exact ⟨k + 1, _, by omega, by omega, ⟨by simp [upd], trivial⟩, trivial, by repeat (first | exact Agr.refl _ _ | exact Agr.msk _ _ _ | refine Agr.upd ?_ _ rfl | refine Agr.upds ?_ rfl | refine Agr.mskIn ?_ rfl), by repeat (first | exact Agr.refl _ _ | exact Agr.msk _ _ _ | refine Agr.upd ?_ _ rfl | refine Agr.upds ?_ rfl | refine Agr.mskIn ?_ rfl), rfl, S⟩
            · skip
              refine W.exit ?_
              refine W.seq (W.region S ?_)
              refine AS.cons (sp_move (v := .int _ _) rfl ?_)
              refine AS.cons (sp_fa rfl fo_28_4_8 ?_)
              refine AS.cons (sp_ld 2 rfl rfl sc_26 rfl ?_)
              refine AS.cons (sp_len rfl sl_26_3_1 ?_)
              refine AS.cons (sp_shl (x' := 1) rfl rfl (by omega) (by rw [hpw]; omega) ?_)
              refine AS.cons (sp_call [] rfl rfl cf_39 (fun F w _ S => by have h := wheelV n (1 * 2 ^ ((b.dr.length : Int)).toNat) (by rw [hpw]; omega) w; rw [hpw, ← hset] at h; exact hpw ▸ h) ?_)
              refine AS.cons (sp_asg (v := .int _ _) rfl ?_)
              refine AS.nil ?_
              intro _ S
              refine W.seq (W.draw S mixed (fun i => ([KD.q [2], KD.q [], KD.e [17] [], KD.e [] [84], KD.e [84] [], KD.q [], KD.q [], KD.q [], KD.q [], KD.q []] : List KD)[i]?) [3] [0, 1, 2, 3, 4, 5, 6, 7, 8, 9] (by kernel_rfl) ?_)
              refine AW.cons rfl rfl (sp_ldw 2 rfl rfl ag_28_9 ?_)
              refine AW.cons rfl rfl (sp_move rfl ?_)
              refine AW.cons rfl rfl (sp_call [17] rfl rfl cf_53 (fun F w hF S => setF a17 c17 (wrV b) (fun y hy => by have := hB.up.mem y hy; omega) w (S.slc_rd (k := 17) ((hF 17 (by simp)).trans rfl) (by omega))) ?_)
              refine AW.cons rfl rfl (sp_call1 84 [] _ rfl rfl cf_52 (fun F w _ S => withoutF b ha hc da dc (stU (wrV b)) hsl2 (by omega) w (hD.ext S.mod)) ?_ (fun _ => BwR.ne _ _ _ _))
              rintro v84 i84 ⟨a84, c84, h84, rfl, rfl⟩
              refine AW.cons rfl rfl (sp_call [84] rfl rfl cf_15 (fun F w hF S => rightT (b := wo b (fun k => (stU (wrV b)).testBit k)) (wo_good hb _) hr1 w (hK.ext S.mod) (hH.ext S.mod) (S.slc_rd (k := 84) ((hF 84 (by simp)).trans rfl) (by show (woU b _ b.dr.length).length ≤ _; rw [woU_len]; omega))) ?_)
              refine AW.cons rfl rfl (sp_move rfl ?_)
              refine AW.cons rfl rfl (sp_ext rfl rfl ?_)
              refine AW.cons rfl rfl (sp_ext rfl rfl ?_)
              refine AW.cons rfl rfl (sp_asg (v := .bool _) rfl ?_)
              refine AW.cons rfl rfl (sp_asg (v := .int _ _) rfl ?_)
              refine AW.nil ?_
              intro _ S
              refine W.seq (W.region S ?_)
              refine AS.cons (sp_ldw 2 rfl rfl ag_28_9 ?_)
              refine AS.cons (sp_move (v := .int _ _) rfl ?_)
              refine AS.cons (sp_call1 91 [] _ rfl rfl cf_52 (fun F w _ S => withoutF b ha hc da dc set hsl (by omega) w (hD.ext S.mod)) ?_ (by simp))
              rintro v91 i91 ⟨a91, c91, h91, rfl, rfl⟩
              refine AS.cons (sp_call [91] rfl rfl cf_15 (fun F w hF S => rightT (b := wo b (fun k => set.testBit k)) (wo_good hb _) hr2 w (hK.ext S.mod) (hH.ext S.mod) (S.slc_rd (k := 91) ((hF 91 (by simp)).trans rfl) (by show (woU b _ b.dr.length).length ≤ _; rw [woU_len]; omega))) ?_)
              refine AS.cons (sp_move rfl ?_)
              refine AS.cons (sp_ext rfl rfl ?_)
              refine AS.cons (sp_ext rfl rfl ?_)
              refine AS.cons (sp_asg (v := .bool _) rfl ?_)
              refine AS.cons (sp_asg (v := .int _ _) rfl ?_)
              refine AS.nil ?_
              intro _ S
              refine W.seq (W.region S ?_)
              refine AS.cons (sp_move (v := .int _ _) rfl ?_)
              refine AS.cons (sp_eql rfl rfl ?_)
              refine AS.cons (sp_move (v := .bool _) rfl ?_)
              refine AS.split 97 rfl (fun g97 => ?_) (fun g97 => ?_)
              · skip
                refine AS.cons (sp_move (v := .int _ _) rfl ?_)
                refine AS.cons (sp_eql rfl rfl ?_)
                refine AS.cons (sp_pick_t rfl (v := .bool _) rfl ?_)
                refine AS.cons (sp_move (v := .bool _) rfl ?_)
                refine AS.split 101 rfl (fun g101 => ?_) (fun g101 => ?_)
                · skip
                  refine AS.cons (sp_move (v := .bool _) rfl ?_)
                  refine AS.cons (sp_pick_t rfl (v := .bool _) rfl ?_)
                  refine AS.cons (sp_move (v := .bool _) rfl ?_)
                  refine AS.split 104 rfl (fun g104 => ?_) (fun g104 => ?_)
                  · skip
                    refine AS.cons (sp_move (v := .int _ _) rfl ?_)
                    refine AS.cons (sp_fa rfl fo_28_4_8 ?_)
                    refine AS.cons (sp_ld 2 rfl rfl sc_26 rfl ?_)
                    refine AS.cons (sp_len rfl sl_26_3_1 ?_)
                    refine AS.cons (sp_call1 109 [] _ rfl rfl cf_55 (fun F w _ S => bitsF set b.dr.length (by omega) (by omega) w) ?_ (by simp))
                    rintro v109 i109 ⟨⟨a109, c109, rfl, h109⟩, rfl⟩
                    refine AS.cons (sp_move rfl ?_)
                    refine AS.cons (sp_call [109, 17] rfl rfl cf_54 (fun F w hF S => fewerF a109 c109 _ a17 c17 _ w (S.slc_rd (k := 109) ((hF 109 (by simp)).trans rfl) (by omega)) (S.slc_rd (k := 17) ((hF 17 (by simp)).trans rfl) (by omega))) ?_)
                    refine AS.cons (sp_not rfl ?_)
                    refine AS.cons (sp_move (v := .bool _) rfl ?_)
                    refine AS.split 113 rfl (fun g113 => ?_) (fun g113 => ?_)
                    · skip
                      refine AS.cons (sp_skip rfl ?_)
                      refine AS.cons (sp_skip rfl ?_)
                      refine AS.cons (sp_pick_t rfl (v := .bool _) rfl ?_)
                      refine AS.cons (sp_pick_t rfl (v := .bool _) rfl ?_)
                      refine AS.cons (sp_move (v := .bool _) rfl ?_)
                      refine AS.cons (sp_call [] rfl rfl cf_26 (fun F w _ S => drawn w (hK.ext S.mod)) ?_)
                      refine AS.cons (sp_pick_t rfl (v := .bool _) rfl ?_)
                      refine AS.cons (sp_asg (v := .bool _) rfl ?_)
                      refine AS.nil ?_
                      intro _ S
                      refine W.ret ?_
                      exact ret1 rfl rfl S fun w' S' => ⟨rfl, S'.mod⟩
                    · skip
                      refine AS.cons (sp_move (v := .bool _) rfl ?_)
                      refine AS.cons (sp_not rfl ?_)
                      refine AS.cons (sp_pick_f rfl (v := .bool _) rfl ?_)
                      refine AS.cons (sp_pick_t rfl (v := .bool _) rfl ?_)
                      refine AS.cons (sp_move (v := .bool _) rfl ?_)
                      refine AS.split 118 rfl (fun g118 => ?_) (fun g118 => ?_)
                      · skip
                        refine AS.cons (sp_call [] rfl rfl cf_26 (fun F w _ S => drawn w (hK.ext S.mod)) ?_)
                        refine AS.cons (sp_pick_t rfl (v := .bool _) rfl ?_)
                        refine AS.cons (sp_asg (v := .bool _) rfl ?_)
                        refine AS.nil ?_
                        intro _ S
                        refine W.ret ?_
                        exact ret1 rfl rfl S fun w' S' => ⟨rfl, S'.mod⟩
                      · first | exact absurd g118 (by decide) | exact absurd (show (!q) = true by cases e : fewL (btU set b.dr.length) (wrV b) with | true => rw [hfw e]; rfl | false => rw [e] at g113; exact absurd g113 (by decide)) (by rw [show (!q) = false from g118]; decide)
                  · exact absurd g104 (by decide)
                · exact absurd g101 (by decide)
              · exact absurd g97 (by decide)
theorem wrongLaw (n : Int) (w : World) (hK : Kinds w) (hH : Hos w ha hc b.hs) (hD : Ints w da dc b.dr) : Ct Tryd.prog 11 #[.agg (sbL b ha hc da dc).toArray, iv n] w (fun u w' => u = .bool true ∧ Ext w w') := by
  cases hok : okS b with
  | false => exact wrongL0 b ha hc da dc n hok w hK hH hD
  | true => exact wrongL1 b ha hc da dc n (okS_good.1 hok) w hK hH hD
end
end Go.Proofs.YtajocmkgdjcmkaaDoor
