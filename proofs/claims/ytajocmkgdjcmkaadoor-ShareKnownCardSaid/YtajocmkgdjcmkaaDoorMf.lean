/-
  Lemmas of this proof, several texts one behind the other; no condition beyond what each says.
-/
import Derived.Test.YtajocmkgdjcmkaaDoorMa
import Derived.Test.YtajocmkgdjcmkaaDoorMe
namespace Go.Proofs.YtajocmkgdjcmkaaDoor
open Go.Hu
theorem cf_35 : cfB Tryd.prog 35 = true := by kernel_rfl
theorem cf_37 : cfB Tryd.prog 37 = true := by kernel_rfl
theorem cf_44 : cfB Tryd.prog 44 = true := by kernel_rfl
theorem sl_111_4_1 : slB Tryd.prog 111 4 1 = true := by kernel_rfl
theorem zs_4_1 : zsB Tryd.prog 4 1 = true := by kernel_rfl
end Go.Proofs.YtajocmkgdjcmkaaDoor
/-
  The or of two small numbers.
-/
namespace Go.Hu
open Go.RowKit
section
variable {P : Program} {rd : Option Nat} {B : Nat → Prop} {w0 : World} {Ds : List Nat} {ops : Array Oper} {m : Option KD} {ρ : Nat → Value} {L : Nat → HP} {next : (Nat → Value) → (Nat → HP) → Prop}
variable {d : Tmp} {ty : TypeId} {pos : String} {aft : Array Edge} {g : Option (Nat × Bool)}
theorem or_lt {a b : Nat} (ha : a < 2 ^ 62) (hb : b < 2 ^ 62) : a ||| b < 2 ^ 62 := Nat.or_lt_two_pow ha hb
theorem sp_or {x y : Operand} {T T' : TypeId} {x' y' : Nat} (hx : ev ρ x = .int .i64 x') (hy : ev ρ y = .int .i64 y') (hx' : x' < 2 ^ 62) (hy' : y' < 2 ^ 62) (h : next (upd ρ d (.int .i64 ((x' ||| y' : Nat) : Int))) L)
    (hg : gd ops ⟨some d, .binOp .or T x y T', ty, pos, aft, g⟩ ρ = true := by rfl) (hm : okk m (.q []) := by first | exact trivial | exact rfl) : SP P rd B w0 Ds ops m ⟨some d, .binOp .or T x y T', ty, pos, aft, g⟩ ρ L next := by
  refine SP.q [] (.int .i64 ((x' ||| y' : Nat) : Int)) hg hm (fun a F w ho _hF _S => ?_) h
  have e := ho x (by simp [Op.operands])
  have e' := ho y (by simp [Op.operands])
  have hlt := or_lt hx' hy'
  have hb : (BitVec.ofInt 64 (x' : Int) ||| BitVec.ofInt 64 (y' : Int)).toNat = x' ||| y' := by
    rw [BitVec.toNat_or, BitVec.ofInt_natCast, BitVec.ofInt_natCast, BitVec.toNat_ofNat, BitVec.toNat_ofNat, Nat.mod_eq_of_lt (by omega), Nat.mod_eq_of_lt (by omega)]
  have hw := IntWalk.i64_in ((x' ||| y' : Nat) : Int) ⟨by omega, by omega⟩
  have hq : ∀ w, (Op.intBits .or .i64 (x' : Int) (y' : Int)).run P w = .ok (.int .i64 ((x' ||| y' : Nat) : Int)) w := fun w => by
    show Result.ok (Value.int .i64 (IntKind.wrap .i64 ((BitVec.ofInt 64 (x' : Int) ||| BitVec.ofInt 64 (y' : Int)).toNat : Int))) w = _
    rw [hb, hw]
  simp [execOp, e, e', hx, hy, eqGuard, binOp, hq]
/-- make([]T, 0, n) -/
theorem sp_mkC (k : Nat) {x y : Operand} {T E s : Nat} {z : Value} {n : Nat} (hT : slB P T E s = true) (hz : zsB P E s = true) (hzv : zvP P E z) (hx : ev ρ x = .int .i64 0) (hy : ev ρ y = .int .i64 (n : Int)) (hn : n ≤ 1073741824)
    (h : ∀ b, next (upd ρ d (.slice (some ⟨b, 0, none⟩) 0 n)) (upd L k (pt b (.cells (madeCells z.cells (n * s)) E (0, 0)))))
    (hg : gd ops ⟨some d, .makeSlice T x y, ty, pos, aft, g⟩ ρ = true := by rfl) (hm : okk m (.a k) := by first | exact trivial | exact rfl) :
    SP P rd B w0 Ds ops m ⟨some d, .makeSlice T x y, ty, pos, aft, g⟩ ρ L next := by
  refine SP.a k (.slc 0 n) (.cells (madeCells z.cells (n * s)) E (0, 0)) hg hm (fun a w ho => ?_) h
  have e1 := ho x (by simp [Op.operands])
  have e2 := ho y (by simp [Op.operands])
  obtain ⟨i, z', hi, his, hiz, hs0, hby, hzs⟩ := zsB_spec hz
  subst his
  have hzz : z' = z := by
    have := hzv w
    simp [zeroValue, typeInfo, hi, hiz] at this
    exact this
  subst hzz
  have hb : (i.bytes : Int) * (n : Int) ≤ 281474976710656 := by
    have h2 : i.bytes * n ≤ 65536 * 1073741824 := Nat.mul_le_mul hby hn
    have h3 : ((i.bytes * n : Nat) : Int) ≤ 70368744177664 := by omega
    rw [Int.natCast_mul] at h3; omega
  have hrun := run_make (P := P) w T E i z' (slB_und hT) hi hiz .i64 .i64 0 (n : Int) (by omega) (by omega) hb (by omega)
  simp only [Int.toNat_natCast] at hrun
  simp [execOp, e1, e2, hx, hy, hrun, AK.val]
/-- make([]T, 0, n), T a scalar's type -/
theorem sp_mkC1 (k : Nat) {x y : Operand} {T E : Nat} {z : Value} {n : Nat} (hT : slB P T E 1 = true) (hz : zsB P E 1 = true) (hzv : zvP P E z) (hzc : z.cells = #[z]) (hx : ev ρ x = .int .i64 0) (hy : ev ρ y = .int .i64 (n : Int)) (hn : n ≤ 1073741824)
    (h : ∀ b, next (upd ρ d (.slice (some ⟨b, 0, none⟩) 0 n)) (upd L k (pt b (.cells (List.replicate n z).toArray E (0, 0)))))
    (hg : gd ops ⟨some d, .makeSlice T x y, ty, pos, aft, g⟩ ρ = true := by rfl) (hm : okk m (.a k) := by first | exact trivial | exact rfl) :
    SP P rd B w0 Ds ops m ⟨some d, .makeSlice T x y, ty, pos, aft, g⟩ ρ L next :=
  sp_mkC k hT hz hzv hx hy hn (fun b => by have := h b; rw [hzc, Nat.mul_one, made_one]; exact this) hg hm
end
end Go.Hu

/-
  What the laws ask of books: is there one; numbers chosen; pence laid out; books with other notes.
-/
namespace Go.Proofs.YtajocmkgdjcmkaaDoor
set_option maxRecDepth 100000
open Go.Hu Go.RowKit
section
variable (b : Sb) (ha : Option Addr) (hc : Nat) (da : Option Addr) (dc : Nat)
theorem Good.of60 {b : Sb} (hb : Good b) {j : Nat} (hj : j < b.hs.length) : 0 ≤ ofK b j ∧ ofK b j ≤ 60 := by
  have h1 := hb.of j
  have h2 : totU b (j + 1) ≤ allN b := hb.mono (show j + 1 ≤ b.hs.length from hj)
  have h3 := hb.up j
  have h4 := hb.a60
  simp only [totU] at h2
  omega
theorem chk_zero {b : Sb} : chkV b = 0 ↔ okS b = true := ⟨chk_is, chk_ok⟩
set_option maxHeartbeats 4000000 in
theorem soundF (w : World) (hK : Kinds w) (hH : Hos w ha hc b.hs) (hD : Ints w da dc b.dr) : Ct Tryd.prog 35 #[.agg (sbL b ha hc da dc).toArray] w (fun u w' => u = .bool (okS b) ∧ Ext w w') := by
  refine fn_intro (args := [.agg (sbL b ha hc da dc).toArray]) Tryd.func35 rfl rfl (by kernel_rfl) ?_
  have S := St.start no w
  have hhn : b.hs.length ≤ 9223372036854775807 := hH.2.1
  have hdn : b.dr.length ≤ 9223372036854775807 := hD.2.1
  refine W.seq (W.region S ?_)
  refine AS.cons (sp_boxa 1 rfl (fun b1 => ?_))
  refine AS.cons (sp_asg rfl ?_)
  refine AS.nil ?_
  intro _ S
  refine W.seq (W.drawL S mixed (fun i => ([KD.q [1], KD.e [] [], KD.q [], KD.q [], KD.q [], KD.q [1], KD.q [], KD.e [] [], KD.q [], KD.q [], KD.q [], KD.q [1], KD.e [] [], KD.q [], KD.q [], KD.q [], KD.q [], KD.q [1], KD.q [], KD.q [], KD.q [1], KD.q [], KD.q [], KD.q [], KD.q [], KD.q [], KD.q [1], KD.e [] [], KD.q [], KD.q [], KD.q [], KD.q [], KD.q [1], KD.q [], KD.q [], KD.q [1], KD.q [], KD.q [], KD.q [], KD.q [], KD.q [], KD.q [1], KD.q [], KD.q [], KD.q [], KD.q [], KD.q [1], KD.e [] [], KD.e [] [], KD.q [], KD.q [], KD.q [], KD.q [1], KD.q [], KD.q [1], KD.e [] [], KD.q [], KD.q [], KD.q []] : List KD)[i]?) [3, 8, 9, 12, 14, 24, 27, 29, 39, 45, 48, 50] [0, 1, 2, 3, 4, 5, 6, 7, 8, 9, 10, 11, 12, 13, 14, 15, 16, 17, 18, 19, 20, 21, 22, 23, 24, 25, 26, 27, 28, 29, 30, 31, 32, 33, 34, 35, 36, 37, 38, 39, 40, 41, 42, 43, 44, 45, 46, 47, 48, 49, 50, 51, 52, 53, 54, 55, 56, 57, 58] (by kernel_rfl) ?_)
  refine AW.cons rfl rfl (sp_ldw 1 rfl rfl ag_28_9 ?_)
  refine AW.cons rfl rfl (sp_call [] rfl rfl cf_17 (fun F w _ S => checkP b ha hc da dc w (hK.ext S.mod) (hH.ext S.mod) (hD.ext S.mod)) ?_)
  refine AW.cons rfl rfl (sp_eql rfl rfl ?_)
  refine AW.cons rfl rfl (sp_move (v := .bool _) rfl ?_)
  refine AW.split 9 rfl (fun g9 => ?_) (fun g9 => ?_)
  · skip
    have hok : okS b = true := chk_zero.1 (of_decide_eq_true g9)
    have hb := okS_good.1 hok
    have hO := hb.own
    obtain ⟨⟨hm1, hm2⟩, hm3, hm4⟩ := hb.mo
    obtain ⟨⟨hs1, hs2⟩, hs3, hs4⟩ := hb.se
    have hn1 := hb.n1
    have hn6 := hb.n6
    have hd8 := hb.d8
    have ha1 := hb.a1
    have ha60 := hb.a60
    have hda := hb.da
    refine AW.cons rfl rfl (sp_fa rfl fo_28_1_3 ?_)
    refine AW.cons rfl rfl (sp_ld 1 rfl rfl sc_23 rfl ?_)
    refine AW.cons rfl rfl (sp_len rfl sl_23_75_3 ?_)
    refine AW.cons rfl rfl (sp_call [] rfl rfl cf_45 (fun F w _ S => between _ _ _ w) ?_)
    refine AW.cons rfl rfl (sp_pick_t rfl (v := .bool _) rfl ?_)
    refine AW.cons rfl rfl (sp_move (v := .bool _) rfl ?_)
    refine AW.split 15 rfl (fun g15 => ?_) (fun g15 => ?_)
    · skip
      refine AW.cons rfl rfl (sp_fa rfl fo_28_2_4 ?_)
      refine AW.cons rfl rfl (sp_lda 1 2 rfl rfl ag_25_2 rfl ?_)
      refine AW.cons rfl rfl (sp_call [] rfl rfl cf_70 (fun F w _ S => saneF _ _ _ _ w) ?_)
      refine AW.cons rfl rfl (sp_pick_t rfl (v := .bool _) rfl ?_)
      refine AW.cons rfl rfl (sp_move (v := .bool _) rfl ?_)
      refine AW.split 20 rfl (fun g20 => ?_) (fun g20 => ?_)
      · skip
        refine AW.cons rfl rfl (sp_fa rfl fo_28_2_4 ?_)
        refine AW.cons rfl rfl (sp_fa rfl fo_25_1_1 ?_)
        refine AW.cons rfl rfl (sp_ld 1 rfl rfl sc_3 rfl ?_)
        refine AW.cons rfl rfl (sp_fa rfl fo_28_2_4 ?_)
        refine AW.cons rfl rfl (sp_fa rfl fo_25_0_0 ?_)
        refine AW.cons rfl rfl (sp_ld 1 rfl rfl sc_3 rfl ?_)
        refine AW.cons rfl rfl (sp_sub rfl rfl (by first | omega | (simp only [decide_eq_true_eq, decide_eq_false_iff_not] at *; omega)) ?_)
        refine AW.cons rfl rfl (sp_leq rfl rfl ?_)
        refine AW.cons rfl rfl (sp_pick_t rfl (v := .bool _) rfl ?_)
        refine AW.cons rfl rfl (sp_move (v := .bool _) rfl ?_)
        refine AW.split 30 rfl (fun g30 => ?_) (fun g30 => ?_)
        · skip
          refine AW.cons rfl rfl (sp_fa rfl fo_28_3_6 ?_)
          refine AW.cons rfl rfl (sp_lda 1 2 rfl rfl ag_25_2 rfl ?_)
          refine AW.cons rfl rfl (sp_call [] rfl rfl cf_70 (fun F w _ S => saneF _ _ _ _ w) ?_)
          refine AW.cons rfl rfl (sp_pick_t rfl (v := .bool _) rfl ?_)
          refine AW.cons rfl rfl (sp_move (v := .bool _) rfl ?_)
          refine AW.split 35 rfl (fun g35 => ?_) (fun g35 => ?_)
          · skip
            refine AW.cons rfl rfl (sp_fa rfl fo_28_3_6 ?_)
            refine AW.cons rfl rfl (sp_fa rfl fo_25_1_1 ?_)
            refine AW.cons rfl rfl (sp_ld 1 rfl rfl sc_3 rfl ?_)
            refine AW.cons rfl rfl (sp_fa rfl fo_28_3_6 ?_)
            refine AW.cons rfl rfl (sp_fa rfl fo_25_0_0 ?_)
            refine AW.cons rfl rfl (sp_ld 1 rfl rfl sc_3 rfl ?_)
            refine AW.cons rfl rfl (sp_sub rfl rfl (by first | omega | (simp only [decide_eq_true_eq, decide_eq_false_iff_not] at *; omega)) ?_)
            refine AW.cons rfl rfl (sp_leq rfl rfl ?_)
            refine AW.cons rfl rfl (sp_pick_t rfl (v := .bool _) rfl ?_)
            refine AW.cons rfl rfl (sp_move (v := .bool _) rfl ?_)
            refine AW.split 45 rfl (fun g45 => ?_) (fun g45 => ?_)
            · skip
              refine AW.cons rfl rfl (sp_fa rfl fo_28_4_8 ?_)
              refine AW.cons rfl rfl (sp_ld 1 rfl rfl sc_26 rfl ?_)
              refine AW.cons rfl rfl (sp_len rfl sl_26_3_1 ?_)
              refine AW.cons rfl rfl (sp_leq rfl rfl ?_)
              refine AW.cons rfl rfl (sp_pick_t rfl (v := .bool _) rfl ?_)
              refine AW.cons rfl rfl (sp_move (v := .bool _) rfl ?_)
              refine AW.split 51 rfl (fun g51 => ?_) (fun g51 => ?_)
              · skip
                refine AW.cons rfl rfl (sp_ldw 1 rfl rfl ag_28_9 ?_)
                refine AW.cons rfl rfl (sp_call [] rfl rfl cf_44 (fun F w _ S => allLF _ _ _ _ _ (by assumption) w (hH.ext S.mod)) ?_)
                refine AW.cons rfl rfl (sp_call [] rfl rfl cf_45 (fun F w _ S => between _ _ _ w) ?_)
                refine AW.cons rfl rfl (sp_pick_t rfl (v := .bool _) rfl ?_)
                refine AW.cons rfl rfl (sp_move (v := .bool _) rfl ?_)
                refine AW.split 56 rfl (fun g56 => ?_) (fun g56 => ?_)
                · skip
                  refine AW.cons rfl rfl (sp_fa rfl fo_28_4_8 ?_)
                  refine AW.cons rfl rfl (sp_ld 1 rfl rfl sc_26 rfl ?_)
                  refine AW.cons rfl rfl (sp_len rfl sl_26_3_1 ?_)
                  refine AW.cons rfl rfl (sp_ldw 1 rfl rfl ag_28_9 ?_)
                  refine AW.cons rfl rfl (sp_call [] rfl rfl cf_44 (fun F w _ S => allLF _ _ _ _ _ (by assumption) w (hH.ext S.mod)) ?_)
                  refine AW.cons rfl rfl (sp_leq rfl rfl ?_)
                  refine AW.cons rfl rfl (sp_pick_t rfl (v := .bool _) rfl ?_)
                  refine AW.cons rfl rfl (sp_asg (v := .bool _) rfl ?_)
                  refine AW.nil ?_
                  intro _ S
                  refine W.seq (W.seq (W.region S ?_))
                  refine AS.cons (sp_asg rfl ?_)
                  refine AS.nil ?_
                  intro _ S
                  refine W.block ?_
                  refine W.loopS S [3, 4, 64, 65, 66, 67, 68, 69, 70, 71, 72, 73, 74, 75, 76, 77] [] (fun (j : Nat) => [(4, iv j), (3, .bool (okS b))]) (fun _ => []) (fun j => j ≤ b.hs.length) (fun j => b.hs.length - j) 0 (by omega) ⟨rfl, by first | (show Value.bool (decide ((b.dr.length : Int) ≤ allN b)) = Value.bool (okS b); rw [hok, decide_eq_true (by omega)]) | (show Value.bool false = Value.bool (okS b); cases e : okS b with | false => rfl | true => exact absurd (chk_zero.2 e) (of_decide_eq_false g9)), trivial⟩ trivial ?_
                  rintro j σ M w1 hj S
                  refine W.seq (W.seq (W.region S ?_))
                  refine AS.cons (sp_move (v := .bool _) rfl ?_)
                  refine AS.cons (sp_move (v := .bool _) rfl ?_)
                  refine AS.split 65 rfl (fun g65 => ?_) (fun g65 => ?_)
                  · skip
                    refine AS.cons (sp_move (v := .int _ _) rfl ?_)
                    refine AS.cons (sp_fa rfl fo_28_1_3 ?_)
                    refine AS.cons (sp_ld 1 rfl rfl sc_23 rfl ?_)
                    refine AS.cons (sp_len rfl sl_23_75_3 ?_)
                    refine AS.cons (sp_lss rfl rfl ?_)
                    refine AS.cons (sp_pick_t rfl (v := .bool _) rfl ?_)
                    refine AS.nil ?_
                    intro _ S
                    refine W.cond rfl (fun c71 => ?_) (fun c71 => ?_)
                    · skip
                      have hlt : j < b.hs.length := by have := of_decide_eq_true c71; omega
                      have hok' : okS b = true := g65
                      have hb' := okS_good.1 hok'
                      have hO' := hb'.own
                      have hof := hb'.of60 hlt
                      refine W.skip ?_
                      refine W.seq (W.block ?_)
                      refine W.region S ?_
                      refine AS.cons (sp_ldw 1 rfl rfl ag_28_9 ?_)
                      refine AS.cons (sp_move (v := .int _ _) rfl ?_)
                      refine AS.cons (sp_call [] rfl rfl cf_46 (fun F w _ S => heldF _ _ _ _ _ (by assumption) _ (by assumption) w (hH.ext S.mod)) ?_)
                      refine AS.cons (sp_call [] rfl rfl cf_45 (fun F w _ S => between _ _ _ w) ?_)
                      refine AS.cons (sp_asg (v := .bool _) rfl ?_)
                      refine AS.nil ?_
                      intro _ S
                      refine W.region S ?_
                      refine AS.cons (sp_move (v := .int _ _) rfl ?_)
                      refine AS.cons (sp_add rfl rfl (by first | omega | (simp only [decide_eq_true_eq, decide_eq_false_iff_not] at *; omega)) ?_)
                      refine AS.cons (sp_asg (v := .int _ _) rfl ?_)
                      refine AS.nil ?_
                      intro _ S
                      exact ⟨j + 1, _, by omega, by omega, ⟨by simp [upd], by show Value.bool (decide _) = Value.bool (okS b); rw [hok', decide_eq_true hof], trivial⟩, trivial, by repeat (first | exact Agr.refl _ _ | exact Agr.msk _ _ _ | refine Agr.upd ?_ _ rfl | refine Agr.upds ?_ rfl | refine Agr.mskIn ?_ rfl), by repeat (first | exact Agr.refl _ _ | exact Agr.msk _ _ _ | refine Agr.upd ?_ _ rfl | refine Agr.upds ?_ rfl | refine Agr.mskIn ?_ rfl), rfl, S⟩
                    · skip
                      refine W.exit ?_
                      refine W.seq (W.seq (W.region S ?_))
                      refine AS.cons (sp_asg rfl ?_)
                      refine AS.nil ?_
                      intro _ S
                      refine W.block ?_
                      refine W.loopS S [3, 5, 78, 79, 80, 81, 82, 83, 84, 85, 86, 87, 88, 89, 90, 91, 92, 93, 94, 95, 96, 97] [] (fun (j : Nat) => [(5, iv j), (3, .bool (okS b))]) (fun _ => []) (fun j => j ≤ b.dr.length) (fun j => b.dr.length - j) 0 (by omega) ⟨rfl, by first | rfl | exact congrArg Value.bool g65.symm, trivial⟩ trivial ?_
                      rintro i σ M w1 hi S
                      refine W.seq (W.seq (W.region S ?_))
                      refine AS.cons (sp_move (v := .bool _) rfl ?_)
                      refine AS.cons (sp_move (v := .bool _) rfl ?_)
                      refine AS.split 79 rfl (fun g79 => ?_) (fun g79 => ?_)
                      · skip
                        refine AS.cons (sp_move (v := .int _ _) rfl ?_)
                        refine AS.cons (sp_fa rfl fo_28_4_8 ?_)
                        refine AS.cons (sp_ld 1 rfl rfl sc_26 rfl ?_)
                        refine AS.cons (sp_len rfl sl_26_3_1 ?_)
                        refine AS.cons (sp_lss rfl rfl ?_)
                        refine AS.cons (sp_pick_t rfl (v := .bool _) rfl ?_)
                        refine AS.nil ?_
                        intro _ S
                        refine W.cond rfl (fun c85 => ?_) (fun c85 => ?_)
                        · skip
                          have hlt : i < b.dr.length := by have := of_decide_eq_true c85; omega
                          obtain ⟨n, hx⟩ := get_some hlt
                          have hok' : okS b = true := g79
                          have hb' := okS_good.1 hok'
                          have hdn' := hb'.dn n (List.mem_of_getElem? hx)
                          refine W.skip ?_
                          refine W.seq (W.block ?_)
                          refine W.draw S mixed (fun i => ([KD.q [], KD.q [1], KD.q [], KD.q [], KD.q [], KD.q [], KD.q [1], KD.q [], KD.q [], KD.e [] [], KD.q []] : List KD)[i]?) [] [0, 1, 2, 3, 4, 5, 6, 7, 8, 9, 10] (by kernel_rfl) ?_
                          refine AW.cons rfl rfl (sp_fa rfl fo_28_4_8 ?_)
                          refine AW.cons rfl rfl (sp_ld 1 rfl rfl sc_26 rfl ?_)
                          refine AW.cons rfl rfl (sp_move (v := .int _ _) rfl ?_)
                          refine AW.cons rfl rfl (sp_iaR hD rfl rfl sl_26_3_1 (by first | omega | (simp only [decide_eq_true_eq, decide_eq_false_iff_not] at *; omega)) ?_)
                          refine AW.cons rfl rfl (sp_ldR 0 hD (fun _ h => h) rfl sc_3 (ints_at hx) (by first | omega | (simp only [decide_eq_true_eq, decide_eq_false_iff_not] at *; omega)) ?_)
                          refine AW.cons rfl rfl (sp_fa rfl fo_28_1_3 ?_)
                          refine AW.cons rfl rfl (sp_ld 1 rfl rfl sc_23 rfl ?_)
                          refine AW.cons rfl rfl (sp_len rfl sl_23_75_3 ?_)
                          refine AW.cons rfl rfl (sp_sub rfl rfl (by first | omega | (simp only [decide_eq_true_eq, decide_eq_false_iff_not] at *; omega)) ?_)
                          refine AW.cons rfl rfl (sp_call [] rfl rfl cf_45 (fun F w _ S => between _ _ _ w) ?_)
                          refine AW.cons rfl rfl (sp_asg (v := .bool _) rfl ?_)
                          refine AW.nil ?_
                          intro _ S
                          refine W.region S ?_
                          refine AS.cons (sp_move (v := .int _ _) rfl ?_)
                          refine AS.cons (sp_add rfl rfl (by first | omega | (simp only [decide_eq_true_eq, decide_eq_false_iff_not] at *; omega)) ?_)
                          refine AS.cons (sp_asg (v := .int _ _) rfl ?_)
                          refine AS.nil ?_
                          intro _ S
                          exact ⟨i + 1, _, by omega, by omega, ⟨by simp [upd], by show Value.bool (decide _) = Value.bool (okS b); rw [hok', decide_eq_true hdn'], trivial⟩, trivial, by repeat (first | exact Agr.refl _ _ | exact Agr.msk _ _ _ | refine Agr.upd ?_ _ rfl | refine Agr.upds ?_ rfl | refine Agr.mskIn ?_ rfl), by repeat (first | exact Agr.refl _ _ | exact Agr.msk _ _ _ | refine Agr.upd ?_ _ rfl | refine Agr.upds ?_ rfl | refine Agr.mskIn ?_ rfl), rfl, S⟩
                        · skip
                          refine W.exit ?_
                          refine W.seq (W.region S ?_)
                          refine AS.cons (sp_move (v := .bool _) rfl ?_)
                          refine AS.cons (sp_asg (v := .bool _) rfl ?_)
                          refine AS.nil ?_
                          intro _ S
                          refine W.ret ?_
                          exact ret1 rfl rfl S fun w' S' => ⟨by first | rfl | exact congrArg Value.bool g79.symm, S'.mod⟩
                      · skip
                        refine AS.cons (sp_skip rfl ?_)
                        refine AS.cons (sp_skip rfl ?_)
                        refine AS.cons (sp_skip rfl ?_)
                        refine AS.cons (sp_skip rfl ?_)
                        refine AS.cons (sp_skip rfl ?_)
                        refine AS.cons (sp_pick_f rfl (v := .bool _) rfl ?_)
                        refine AS.nil ?_
                        intro _ S
                        refine W.cond (b := false) rfl (fun h => nomatch h) (fun _ => ?_)
                        refine W.exit ?_
                        refine W.seq (W.region S ?_)
                        refine AS.cons (sp_move (v := .bool _) rfl ?_)
                        refine AS.cons (sp_asg (v := .bool _) rfl ?_)
                        refine AS.nil ?_
                        intro _ S
                        refine W.ret ?_
                        exact ret1 rfl rfl S fun w' S' => ⟨by first | rfl | exact congrArg Value.bool g79.symm, S'.mod⟩
                  · skip
                    refine AS.cons (sp_skip rfl ?_)
                    refine AS.cons (sp_skip rfl ?_)
                    refine AS.cons (sp_skip rfl ?_)
                    refine AS.cons (sp_skip rfl ?_)
                    refine AS.cons (sp_skip rfl ?_)
                    refine AS.cons (sp_pick_f rfl (v := .bool _) rfl ?_)
                    refine AS.nil ?_
                    intro _ S
                    refine W.cond (b := false) rfl (fun h => nomatch h) (fun _ => ?_)
                    refine W.exit ?_
                    refine W.seq (W.seq (W.region S ?_))
                    refine AS.cons (sp_asg rfl ?_)
                    refine AS.nil ?_
                    intro _ S
                    refine W.block ?_
                    refine W.loopS S [3, 5, 78, 79, 80, 81, 82, 83, 84, 85, 86, 87, 88, 89, 90, 91, 92, 93, 94, 95, 96, 97] [] (fun (j : Nat) => [(5, iv j), (3, .bool (okS b))]) (fun _ => []) (fun j => j ≤ b.dr.length) (fun j => b.dr.length - j) 0 (by omega) ⟨rfl, by first | rfl | exact congrArg Value.bool g65.symm, trivial⟩ trivial ?_
                    rintro i σ M w1 hi S
                    refine W.seq (W.seq (W.region S ?_))
                    refine AS.cons (sp_move (v := .bool _) rfl ?_)
                    refine AS.cons (sp_move (v := .bool _) rfl ?_)
                    refine AS.split 79 rfl (fun g79 => ?_) (fun g79 => ?_)
                    · skip
                      refine AS.cons (sp_move (v := .int _ _) rfl ?_)
                      refine AS.cons (sp_fa rfl fo_28_4_8 ?_)
                      refine AS.cons (sp_ld 1 rfl rfl sc_26 rfl ?_)
                      refine AS.cons (sp_len rfl sl_26_3_1 ?_)
                      refine AS.cons (sp_lss rfl rfl ?_)
                      refine AS.cons (sp_pick_t rfl (v := .bool _) rfl ?_)
                      refine AS.nil ?_
                      intro _ S
                      refine W.cond rfl (fun c85 => ?_) (fun c85 => ?_)
                      · skip
                        have hlt : i < b.dr.length := by have := of_decide_eq_true c85; omega
                        obtain ⟨n, hx⟩ := get_some hlt
                        have hok' : okS b = true := g79
                        have hb' := okS_good.1 hok'
                        have hdn' := hb'.dn n (List.mem_of_getElem? hx)
                        refine W.skip ?_
                        refine W.seq (W.block ?_)
                        refine W.draw S mixed (fun i => ([KD.q [], KD.q [1], KD.q [], KD.q [], KD.q [], KD.q [], KD.q [1], KD.q [], KD.q [], KD.e [] [], KD.q []] : List KD)[i]?) [] [0, 1, 2, 3, 4, 5, 6, 7, 8, 9, 10] (by kernel_rfl) ?_
                        refine AW.cons rfl rfl (sp_fa rfl fo_28_4_8 ?_)
                        refine AW.cons rfl rfl (sp_ld 1 rfl rfl sc_26 rfl ?_)
                        refine AW.cons rfl rfl (sp_move (v := .int _ _) rfl ?_)
                        refine AW.cons rfl rfl (sp_iaR hD rfl rfl sl_26_3_1 (by first | omega | (simp only [decide_eq_true_eq, decide_eq_false_iff_not] at *; omega)) ?_)
                        refine AW.cons rfl rfl (sp_ldR 0 hD (fun _ h => h) rfl sc_3 (ints_at hx) (by first | omega | (simp only [decide_eq_true_eq, decide_eq_false_iff_not] at *; omega)) ?_)
                        refine AW.cons rfl rfl (sp_fa rfl fo_28_1_3 ?_)
                        refine AW.cons rfl rfl (sp_ld 1 rfl rfl sc_23 rfl ?_)
                        refine AW.cons rfl rfl (sp_len rfl sl_23_75_3 ?_)
                        refine AW.cons rfl rfl (sp_sub rfl rfl (by first | omega | (simp only [decide_eq_true_eq, decide_eq_false_iff_not] at *; omega)) ?_)
                        refine AW.cons rfl rfl (sp_call [] rfl rfl cf_45 (fun F w _ S => between _ _ _ w) ?_)
                        refine AW.cons rfl rfl (sp_asg (v := .bool _) rfl ?_)
                        refine AW.nil ?_
                        intro _ S
                        refine W.region S ?_
                        refine AS.cons (sp_move (v := .int _ _) rfl ?_)
                        refine AS.cons (sp_add rfl rfl (by first | omega | (simp only [decide_eq_true_eq, decide_eq_false_iff_not] at *; omega)) ?_)
                        refine AS.cons (sp_asg (v := .int _ _) rfl ?_)
                        refine AS.nil ?_
                        intro _ S
                        exact ⟨i + 1, _, by omega, by omega, ⟨by simp [upd], by show Value.bool (decide _) = Value.bool (okS b); rw [hok', decide_eq_true hdn'], trivial⟩, trivial, by repeat (first | exact Agr.refl _ _ | exact Agr.msk _ _ _ | refine Agr.upd ?_ _ rfl | refine Agr.upds ?_ rfl | refine Agr.mskIn ?_ rfl), by repeat (first | exact Agr.refl _ _ | exact Agr.msk _ _ _ | refine Agr.upd ?_ _ rfl | refine Agr.upds ?_ rfl | refine Agr.mskIn ?_ rfl), rfl, S⟩
                      · skip
                        refine W.exit ?_
                        refine W.seq (W.region S ?_)
                        refine AS.cons (sp_move (v := .bool _) rfl ?_)
                        refine AS.cons (sp_asg (v := .bool _) rfl ?_)
                        refine AS.nil ?_
                        intro _ S
                        refine W.ret ?_
                        exact ret1 rfl rfl S fun w' S' => ⟨by first | rfl | exact congrArg Value.bool g79.symm, S'.mod⟩
                    · skip
                      refine AS.cons (sp_skip rfl ?_)
                      refine AS.cons (sp_skip rfl ?_)
                      refine AS.cons (sp_skip rfl ?_)
                      refine AS.cons (sp_skip rfl ?_)
                      refine AS.cons (sp_skip rfl ?_)
                      refine AS.cons (sp_pick_f rfl (v := .bool _) rfl ?_)
                      refine AS.nil ?_
                      intro _ S
                      refine W.cond (b := false) rfl (fun h => nomatch h) (fun _ => ?_)
                      refine W.exit ?_
                      refine W.seq (W.region S ?_)
                      refine AS.cons (sp_move (v := .bool _) rfl ?_)
                      refine AS.cons (sp_asg (v := .bool _) rfl ?_)
                      refine AS.nil ?_
                      intro _ S
                      refine W.ret ?_
                      exact ret1 rfl rfl S fun w' S' => ⟨by first | rfl | exact congrArg Value.bool g79.symm, S'.mod⟩
                · exact absurd ⟨ha1, ha60⟩ (of_decide_eq_false g56)
              · exact absurd (by omega) (of_decide_eq_false g51)
            · exact absurd hs4 (of_decide_eq_false g45)
          · exact absurd ⟨hs1, hs3, hs2⟩ (of_decide_eq_false g35)
        · exact absurd hm4 (of_decide_eq_false g30)
      · exact absurd ⟨hm1, hm3, hm2⟩ (of_decide_eq_false g20)
    · exact absurd (by omega) (of_decide_eq_false g15)
  · skip
    refine AW.cons rfl rfl (sp_skip rfl ?_)
    refine AW.cons rfl rfl (sp_skip rfl ?_)
    refine AW.cons rfl rfl (sp_skip rfl ?_)
    refine AW.cons rfl rfl (sp_skip rfl ?_)
    refine AW.cons rfl rfl (sp_pick_f rfl (v := .bool _) rfl ?_)
    refine AW.cons rfl rfl (sp_move (v := .bool _) rfl ?_)
    refine AW.cons rfl rfl (sp_skip rfl ?_)
    refine AW.cons rfl rfl (sp_skip rfl ?_)
    refine AW.cons rfl rfl (sp_skip rfl ?_)
    refine AW.cons rfl rfl (sp_pick_f rfl (v := .bool _) rfl ?_)
    refine AW.cons rfl rfl (sp_move (v := .bool _) rfl ?_)
    refine AW.cons rfl rfl (sp_skip rfl ?_)
    refine AW.cons rfl rfl (sp_skip rfl ?_)
    refine AW.cons rfl rfl (sp_skip rfl ?_)
    refine AW.cons rfl rfl (sp_skip rfl ?_)
    refine AW.cons rfl rfl (sp_skip rfl ?_)
    refine AW.cons rfl rfl (sp_skip rfl ?_)
    refine AW.cons rfl rfl (sp_skip rfl ?_)
    refine AW.cons rfl rfl (sp_skip rfl ?_)
    refine AW.cons rfl rfl (sp_pick_f rfl (v := .bool _) rfl ?_)
    refine AW.cons rfl rfl (sp_move (v := .bool _) rfl ?_)
    refine AW.cons rfl rfl (sp_skip rfl ?_)
    refine AW.cons rfl rfl (sp_skip rfl ?_)
    refine AW.cons rfl rfl (sp_skip rfl ?_)
    refine AW.cons rfl rfl (sp_pick_f rfl (v := .bool _) rfl ?_)
    refine AW.cons rfl rfl (sp_move (v := .bool _) rfl ?_)
    refine AW.cons rfl rfl (sp_skip rfl ?_)
    refine AW.cons rfl rfl (sp_skip rfl ?_)
    refine AW.cons rfl rfl (sp_skip rfl ?_)
    refine AW.cons rfl rfl (sp_skip rfl ?_)
    refine AW.cons rfl rfl (sp_skip rfl ?_)
    refine AW.cons rfl rfl (sp_skip rfl ?_)
    refine AW.cons rfl rfl (sp_skip rfl ?_)
    refine AW.cons rfl rfl (sp_skip rfl ?_)
    refine AW.cons rfl rfl (sp_pick_f rfl (v := .bool _) rfl ?_)
    refine AW.cons rfl rfl (sp_move (v := .bool _) rfl ?_)
    refine AW.cons rfl rfl (sp_skip rfl ?_)
    refine AW.cons rfl rfl (sp_skip rfl ?_)
    refine AW.cons rfl rfl (sp_skip rfl ?_)
    refine AW.cons rfl rfl (sp_skip rfl ?_)
    refine AW.cons rfl rfl (sp_pick_f rfl (v := .bool _) rfl ?_)
    refine AW.cons rfl rfl (sp_move (v := .bool _) rfl ?_)
    refine AW.cons rfl rfl (sp_skip rfl ?_)
    refine AW.cons rfl rfl (sp_skip rfl ?_)
    refine AW.cons rfl rfl (sp_skip rfl ?_)
    refine AW.cons rfl rfl (sp_pick_f rfl (v := .bool _) rfl ?_)
    refine AW.cons rfl rfl (sp_move (v := .bool _) rfl ?_)
    refine AW.cons rfl rfl (sp_skip rfl ?_)
    refine AW.cons rfl rfl (sp_skip rfl ?_)
    refine AW.cons rfl rfl (sp_skip rfl ?_)
    refine AW.cons rfl rfl (sp_skip rfl ?_)
    refine AW.cons rfl rfl (sp_skip rfl ?_)
    refine AW.cons rfl rfl (sp_skip rfl ?_)
    refine AW.cons rfl rfl (sp_pick_f rfl (v := .bool _) rfl ?_)
    refine AW.cons rfl rfl (sp_asg (v := .bool _) rfl ?_)
    refine AW.nil ?_
    intro _ S
    refine W.seq (W.seq (W.region S ?_))
    refine AS.cons (sp_asg rfl ?_)
    refine AS.nil ?_
    intro _ S
    refine W.block ?_
    refine W.loopS S [3, 4, 64, 65, 66, 67, 68, 69, 70, 71, 72, 73, 74, 75, 76, 77] [] (fun (j : Nat) => [(4, iv j), (3, .bool (okS b))]) (fun _ => []) (fun j => j ≤ b.hs.length) (fun j => b.hs.length - j) 0 (by omega) ⟨rfl, by first | (show Value.bool (decide ((b.dr.length : Int) ≤ allN b)) = Value.bool (okS b); rw [hok, decide_eq_true (by omega)]) | (show Value.bool false = Value.bool (okS b); cases e : okS b with | false => rfl | true => exact absurd (chk_zero.2 e) (of_decide_eq_false g9)), trivial⟩ trivial ?_
    rintro j σ M w1 hj S
    refine W.seq (W.seq (W.region S ?_))
    refine AS.cons (sp_move (v := .bool _) rfl ?_)
    refine AS.cons (sp_move (v := .bool _) rfl ?_)
    refine AS.split 65 rfl (fun g65 => ?_) (fun g65 => ?_)
    · skip
      refine AS.cons (sp_move (v := .int _ _) rfl ?_)
      refine AS.cons (sp_fa rfl fo_28_1_3 ?_)
      refine AS.cons (sp_ld 1 rfl rfl sc_23 rfl ?_)
      refine AS.cons (sp_len rfl sl_23_75_3 ?_)
      refine AS.cons (sp_lss rfl rfl ?_)
      refine AS.cons (sp_pick_t rfl (v := .bool _) rfl ?_)
      refine AS.nil ?_
      intro _ S
      refine W.cond rfl (fun c71 => ?_) (fun c71 => ?_)
      · skip
        have hlt : j < b.hs.length := by have := of_decide_eq_true c71; omega
        have hok' : okS b = true := g65
        have hb' := okS_good.1 hok'
        have hO' := hb'.own
        have hof := hb'.of60 hlt
        refine W.skip ?_
        refine W.seq (W.block ?_)
        refine W.region S ?_
        refine AS.cons (sp_ldw 1 rfl rfl ag_28_9 ?_)
        refine AS.cons (sp_move (v := .int _ _) rfl ?_)
        refine AS.cons (sp_call [] rfl rfl cf_46 (fun F w _ S => heldF _ _ _ _ _ (by assumption) _ (by assumption) w (hH.ext S.mod)) ?_)
        refine AS.cons (sp_call [] rfl rfl cf_45 (fun F w _ S => between _ _ _ w) ?_)
        refine AS.cons (sp_asg (v := .bool _) rfl ?_)
        refine AS.nil ?_
        intro _ S
        refine W.region S ?_
        refine AS.cons (sp_move (v := .int _ _) rfl ?_)
        refine AS.cons (sp_add rfl rfl (by first | omega | (simp only [decide_eq_true_eq, decide_eq_false_iff_not] at *; omega)) ?_)
        refine AS.cons (sp_asg (v := .int _ _) rfl ?_)
        refine AS.nil ?_
        intro _ S
        exact ⟨j + 1, _, by omega, by omega, ⟨by simp [upd], by show Value.bool (decide _) = Value.bool (okS b); rw [hok', decide_eq_true hof], trivial⟩, trivial, by repeat (first | exact Agr.refl _ _ | exact Agr.msk _ _ _ | refine Agr.upd ?_ _ rfl | refine Agr.upds ?_ rfl | refine Agr.mskIn ?_ rfl), by repeat (first | exact Agr.refl _ _ | exact Agr.msk _ _ _ | refine Agr.upd ?_ _ rfl | refine Agr.upds ?_ rfl | refine Agr.mskIn ?_ rfl), rfl, S⟩
      · skip
        refine W.exit ?_
        refine W.seq (W.seq (W.region S ?_))
        refine AS.cons (sp_asg rfl ?_)
        refine AS.nil ?_
        intro _ S
        refine W.block ?_
        refine W.loopS S [3, 5, 78, 79, 80, 81, 82, 83, 84, 85, 86, 87, 88, 89, 90, 91, 92, 93, 94, 95, 96, 97] [] (fun (j : Nat) => [(5, iv j), (3, .bool (okS b))]) (fun _ => []) (fun j => j ≤ b.dr.length) (fun j => b.dr.length - j) 0 (by omega) ⟨rfl, by first | rfl | exact congrArg Value.bool g65.symm, trivial⟩ trivial ?_
        rintro i σ M w1 hi S
        refine W.seq (W.seq (W.region S ?_))
        refine AS.cons (sp_move (v := .bool _) rfl ?_)
        refine AS.cons (sp_move (v := .bool _) rfl ?_)
        refine AS.split 79 rfl (fun g79 => ?_) (fun g79 => ?_)
        · skip
          refine AS.cons (sp_move (v := .int _ _) rfl ?_)
          refine AS.cons (sp_fa rfl fo_28_4_8 ?_)
          refine AS.cons (sp_ld 1 rfl rfl sc_26 rfl ?_)
          refine AS.cons (sp_len rfl sl_26_3_1 ?_)
          refine AS.cons (sp_lss rfl rfl ?_)
          refine AS.cons (sp_pick_t rfl (v := .bool _) rfl ?_)
          refine AS.nil ?_
          intro _ S
          refine W.cond rfl (fun c85 => ?_) (fun c85 => ?_)
          · skip
            have hlt : i < b.dr.length := by have := of_decide_eq_true c85; omega
            obtain ⟨n, hx⟩ := get_some hlt
            have hok' : okS b = true := g79
            have hb' := okS_good.1 hok'
            have hdn' := hb'.dn n (List.mem_of_getElem? hx)
            refine W.skip ?_
            refine W.seq (W.block ?_)
            refine W.draw S mixed (fun i => ([KD.q [], KD.q [1], KD.q [], KD.q [], KD.q [], KD.q [], KD.q [1], KD.q [], KD.q [], KD.e [] [], KD.q []] : List KD)[i]?) [] [0, 1, 2, 3, 4, 5, 6, 7, 8, 9, 10] (by kernel_rfl) ?_
            refine AW.cons rfl rfl (sp_fa rfl fo_28_4_8 ?_)
            refine AW.cons rfl rfl (sp_ld 1 rfl rfl sc_26 rfl ?_)
            refine AW.cons rfl rfl (sp_move (v := .int _ _) rfl ?_)
            refine AW.cons rfl rfl (sp_iaR hD rfl rfl sl_26_3_1 (by first | omega | (simp only [decide_eq_true_eq, decide_eq_false_iff_not] at *; omega)) ?_)
            refine AW.cons rfl rfl (sp_ldR 0 hD (fun _ h => h) rfl sc_3 (ints_at hx) (by first | omega | (simp only [decide_eq_true_eq, decide_eq_false_iff_not] at *; omega)) ?_)
            refine AW.cons rfl rfl (sp_fa rfl fo_28_1_3 ?_)
            refine AW.cons rfl rfl (sp_ld 1 rfl rfl sc_23 rfl ?_)
            refine AW.cons rfl rfl (sp_len rfl sl_23_75_3 ?_)
            refine AW.cons rfl rfl (sp_sub rfl rfl (by first | omega | (simp only [decide_eq_true_eq, decide_eq_false_iff_not] at *; omega)) ?_)
            refine AW.cons rfl rfl (sp_call [] rfl rfl cf_45 (fun F w _ S => between _ _ _ w) ?_)
            refine AW.cons rfl rfl (sp_asg (v := .bool _) rfl ?_)
            refine AW.nil ?_
            intro _ S
            refine W.region S ?_
            refine AS.cons (sp_move (v := .int _ _) rfl ?_)
            refine AS.cons (sp_add rfl rfl (by first | omega | (simp only [decide_eq_true_eq, decide_eq_false_iff_not] at *; omega)) ?_)
            refine AS.cons (sp_asg (v := .int _ _) rfl ?_)
            refine AS.nil ?_
            intro _ S
            exact ⟨i + 1, _, by omega, by omega, ⟨by simp [upd], by show Value.bool (decide _) = Value.bool (okS b); rw [hok', decide_eq_true hdn'], trivial⟩, trivial, by repeat (first | exact Agr.refl _ _ | exact Agr.msk _ _ _ | refine Agr.upd ?_ _ rfl | refine Agr.upds ?_ rfl | refine Agr.mskIn ?_ rfl), by repeat (first | exact Agr.refl _ _ | exact Agr.msk _ _ _ | refine Agr.upd ?_ _ rfl | refine Agr.upds ?_ rfl | refine Agr.mskIn ?_ rfl), rfl, S⟩
          · skip
            refine W.exit ?_
            refine W.seq (W.region S ?_)
            refine AS.cons (sp_move (v := .bool _) rfl ?_)
            refine AS.cons (sp_asg (v := .bool _) rfl ?_)
            refine AS.nil ?_
            intro _ S
            refine W.ret ?_
            exact ret1 rfl rfl S fun w' S' => ⟨by first | rfl | exact congrArg Value.bool g79.symm, S'.mod⟩
        · skip
          refine AS.cons (sp_skip rfl ?_)
          refine AS.cons (sp_skip rfl ?_)
          refine AS.cons (sp_skip rfl ?_)
          refine AS.cons (sp_skip rfl ?_)
          refine AS.cons (sp_skip rfl ?_)
          refine AS.cons (sp_pick_f rfl (v := .bool _) rfl ?_)
          refine AS.nil ?_
          intro _ S
          refine W.cond (b := false) rfl (fun h => nomatch h) (fun _ => ?_)
          refine W.exit ?_
          refine W.seq (W.region S ?_)
          refine AS.cons (sp_move (v := .bool _) rfl ?_)
          refine AS.cons (sp_asg (v := .bool _) rfl ?_)
          refine AS.nil ?_
          intro _ S
          refine W.ret ?_
          exact ret1 rfl rfl S fun w' S' => ⟨by first | rfl | exact congrArg Value.bool g79.symm, S'.mod⟩
    · skip
      refine AS.cons (sp_skip rfl ?_)
      refine AS.cons (sp_skip rfl ?_)
      refine AS.cons (sp_skip rfl ?_)
      refine AS.cons (sp_skip rfl ?_)
      refine AS.cons (sp_skip rfl ?_)
      refine AS.cons (sp_pick_f rfl (v := .bool _) rfl ?_)
      refine AS.nil ?_
      intro _ S
      refine W.cond (b := false) rfl (fun h => nomatch h) (fun _ => ?_)
      refine W.exit ?_
      refine W.seq (W.seq (W.region S ?_))
      refine AS.cons (sp_asg rfl ?_)
      refine AS.nil ?_
      intro _ S
      refine W.block ?_
      refine W.loopS S [3, 5, 78, 79, 80, 81, 82, 83, 84, 85, 86, 87, 88, 89, 90, 91, 92, 93, 94, 95, 96, 97] [] (fun (j : Nat) => [(5, iv j), (3, .bool (okS b))]) (fun _ => []) (fun j => j ≤ b.dr.length) (fun j => b.dr.length - j) 0 (by omega) ⟨rfl, by first | rfl | exact congrArg Value.bool g65.symm, trivial⟩ trivial ?_
      rintro i σ M w1 hi S
      refine W.seq (W.seq (W.region S ?_))
      refine AS.cons (sp_move (v := .bool _) rfl ?_)
      refine AS.cons (sp_move (v := .bool _) rfl ?_)
      refine AS.split 79 rfl (fun g79 => ?_) (fun g79 => ?_)
      · skip
        refine AS.cons (sp_move (v := .int _ _) rfl ?_)
        refine AS.cons (sp_fa rfl fo_28_4_8 ?_)
        refine AS.cons (sp_ld 1 rfl rfl sc_26 rfl ?_)
        refine AS.cons (sp_len rfl sl_26_3_1 ?_)
        refine AS.cons (sp_lss rfl rfl ?_)
        refine AS.cons (sp_pick_t rfl (v := .bool _) rfl ?_)
        refine AS.nil ?_
        intro _ S
        refine W.cond rfl (fun c85 => ?_) (fun c85 => ?_)
        · skip
          have hlt : i < b.dr.length := by have := of_decide_eq_true c85; omega
          obtain ⟨n, hx⟩ := get_some hlt
          have hok' : okS b = true := g79
          have hb' := okS_good.1 hok'
          have hdn' := hb'.dn n (List.mem_of_getElem? hx)
          refine W.skip ?_
          refine W.seq (W.block ?_)
          refine W.draw S mixed (fun i => ([KD.q [], KD.q [1], KD.q [], KD.q [], KD.q [], KD.q [], KD.q [1], KD.q [], KD.q [], KD.e [] [], KD.q []] : List KD)[i]?) [] [0, 1, 2, 3, 4, 5, 6, 7, 8, 9, 10] (by kernel_rfl) ?_
          refine AW.cons rfl rfl (sp_fa rfl fo_28_4_8 ?_)
          refine AW.cons rfl rfl (sp_ld 1 rfl rfl sc_26 rfl ?_)
          refine AW.cons rfl rfl (sp_move (v := .int _ _) rfl ?_)
          refine AW.cons rfl rfl (sp_iaR hD rfl rfl sl_26_3_1 (by first | omega | (simp only [decide_eq_true_eq, decide_eq_false_iff_not] at *; omega)) ?_)
          refine AW.cons rfl rfl (sp_ldR 0 hD (fun _ h => h) rfl sc_3 (ints_at hx) (by first | omega | (simp only [decide_eq_true_eq, decide_eq_false_iff_not] at *; omega)) ?_)
          refine AW.cons rfl rfl (sp_fa rfl fo_28_1_3 ?_)
          refine AW.cons rfl rfl (sp_ld 1 rfl rfl sc_23 rfl ?_)
          refine AW.cons rfl rfl (sp_len rfl sl_23_75_3 ?_)
          refine AW.cons rfl rfl (sp_sub rfl rfl (by first | omega | (simp only [decide_eq_true_eq, decide_eq_false_iff_not] at *; omega)) ?_)
          refine AW.cons rfl rfl (sp_call [] rfl rfl cf_45 (fun F w _ S => between _ _ _ w) ?_)
          refine AW.cons rfl rfl (sp_asg (v := .bool _) rfl ?_)
          refine AW.nil ?_
          intro _ S
          refine W.region S ?_
          refine AS.cons (sp_move (v := .int _ _) rfl ?_)
          refine AS.cons (sp_add rfl rfl (by first | omega | (simp only [decide_eq_true_eq, decide_eq_false_iff_not] at *; omega)) ?_)
          refine AS.cons (sp_asg (v := .int _ _) rfl ?_)
          refine AS.nil ?_
          intro _ S
          exact ⟨i + 1, _, by omega, by omega, ⟨by simp [upd], by show Value.bool (decide _) = Value.bool (okS b); rw [hok', decide_eq_true hdn'], trivial⟩, trivial, by repeat (first | exact Agr.refl _ _ | exact Agr.msk _ _ _ | refine Agr.upd ?_ _ rfl | refine Agr.upds ?_ rfl | refine Agr.mskIn ?_ rfl), by repeat (first | exact Agr.refl _ _ | exact Agr.msk _ _ _ | refine Agr.upd ?_ _ rfl | refine Agr.upds ?_ rfl | refine Agr.mskIn ?_ rfl), rfl, S⟩
        · skip
          refine W.exit ?_
          refine W.seq (W.region S ?_)
          refine AS.cons (sp_move (v := .bool _) rfl ?_)
          refine AS.cons (sp_asg (v := .bool _) rfl ?_)
          refine AS.nil ?_
          intro _ S
          refine W.ret ?_
          exact ret1 rfl rfl S fun w' S' => ⟨by first | rfl | exact congrArg Value.bool g79.symm, S'.mod⟩
      · skip
        refine AS.cons (sp_skip rfl ?_)
        refine AS.cons (sp_skip rfl ?_)
        refine AS.cons (sp_skip rfl ?_)
        refine AS.cons (sp_skip rfl ?_)
        refine AS.cons (sp_skip rfl ?_)
        refine AS.cons (sp_pick_f rfl (v := .bool _) rfl ?_)
        refine AS.nil ?_
        intro _ S
        refine W.cond (b := false) rfl (fun h => nomatch h) (fun _ => ?_)
        refine W.exit ?_
        refine W.seq (W.region S ?_)
        refine AS.cons (sp_move (v := .bool _) rfl ?_)
        refine AS.cons (sp_asg (v := .bool _) rfl ?_)
        refine AS.nil ?_
        intro _ S
        refine W.ret ?_
        exact ret1 rfl rfl S fun w' S' => ⟨by first | rfl | exact congrArg Value.bool g79.symm, S'.mod⟩
theorem LsR.of {l : List Int} {n : Nat} {xs : List Value} {a : Option Addr} {c : Nat} (h1 : l.length = n) (h2 : l.map iv = xs) (h3 : n ≤ c) : LsR l (.slice a n c) (slc 3 1 (.slice a n c) n xs) := by
  subst h1 h2; exact ⟨⟨a, c, rfl, h3⟩, rfl⟩
/-! ### Numbers chosen -/
def whlV (n k : Int) : Int := if k < 2 then 0 else n % k
theorem whl_bd (n : Int) {k : Int} (hk : 1 ≤ k) : 0 ≤ whlV n k ∧ whlV n k < k := by
  unfold whlV; split
  · omega
  · exact ⟨Int.emod_nonneg _ (by omega), Int.emod_lt_of_pos _ (by omega)⟩
theorem wheelV (n k : Int) (hk : k ≤ 9223372036854775807) (w : World) : Ct Tryd.prog 39 #[iv n, iv k] w (fun v w' => v = iv (whlV n k) ∧ Ext w w') := wheelG n k hk w
def someV (lo hi n : Int) : Int := lo + whlV n (hi - lo + 1)
theorem some_bd (n : Int) {lo hi : Int} (h : lo ≤ hi) : lo ≤ someV lo hi n ∧ someV lo hi n ≤ hi := by
  have := whl_bd n (k := hi - lo + 1) (by omega)
  unfold someV; omega
theorem someF (lo hi n : Int) (h : 0 ≤ lo ∧ lo ≤ hi ∧ hi ≤ 10000) (w : World) : Ct Tryd.prog 36 #[.agg [iv lo, iv hi].toArray, iv n] w (fun v w' => v = iv (someV lo hi n) ∧ Ext w w') := by
  refine fn_intro (args := [.agg [iv lo, iv hi].toArray, iv n]) Tryd.func36 rfl rfl (by kernel_rfl) ?_
  have S := St.start no w
  have hw := whl_bd n (k := hi - lo + 1) (by omega)
  refine W.seq (W.region S ?_)
  refine AS.cons (sp_boxa 2 rfl (fun b2 => ?_))
  refine AS.cons (sp_asg rfl ?_)
  refine AS.nil ?_
  intro _ S
  refine W.seq (W.draw S mixed (fun i => ([KD.q [], KD.q [2], KD.q [], KD.q [], KD.q [2], KD.q [], KD.q [2], KD.q [], KD.q [], KD.e [] [], KD.q [], KD.q []] : List KD)[i]?) [] [0, 1, 2, 3, 4, 5, 6, 7, 8, 9, 10, 11] (by kernel_rfl) ?_)
  refine AW.cons rfl rfl (sp_fa rfl fo_25_0_0 ?_)
  refine AW.cons rfl rfl (sp_ld 2 rfl rfl sc_3 rfl ?_)
  refine AW.cons rfl rfl (sp_move (v := .int _ _) rfl ?_)
  refine AW.cons rfl rfl (sp_fa rfl fo_25_1_1 ?_)
  refine AW.cons rfl rfl (sp_ld 2 rfl rfl sc_3 rfl ?_)
  refine AW.cons rfl rfl (sp_fa rfl fo_25_0_0 ?_)
  refine AW.cons rfl rfl (sp_ld 2 rfl rfl sc_3 rfl ?_)
  refine AW.cons rfl rfl (sp_sub rfl rfl (by first | omega | (simp only [decide_eq_true_eq, decide_eq_false_iff_not] at *; omega)) ?_)
  refine AW.cons rfl rfl (sp_add rfl rfl (by first | omega | (simp only [decide_eq_true_eq, decide_eq_false_iff_not] at *; omega)) ?_)
  refine AW.cons rfl rfl (sp_call [] rfl rfl cf_39 (fun F w _ S => wheelV _ _ (by omega) w) ?_)
  refine AW.cons rfl rfl (sp_add rfl rfl (by first | omega | (simp only [decide_eq_true_eq, decide_eq_false_iff_not] at *; omega)) ?_)
  refine AW.cons rfl rfl (sp_asg (v := .int _ _) rfl ?_)
  refine AW.nil ?_
  intro _ S
  refine W.ret ?_
  exact ret1 rfl rfl S fun w' S' => ⟨rfl, S'.mod⟩
/-! ### Lists -/
theorem addedF (la : Option Addr) (lc : Nat) (l : List Int) (hn : l.length ≤ 1000) (hx0 : ∀ x ∈ l, 0 ≤ x ∧ x ≤ 1000000) (w : World) (hl : Ints w la lc l) : Ct Tryd.prog 42 #[.slice la l.length lc] w (fun u w' => u = iv (sumU l l.length) ∧ Ext w w') := by
  refine fn_intro (args := [.slice la l.length lc]) Tryd.func42 rfl rfl (by kernel_rfl) ?_
  have S := St.start no w
  refine W.seq (W.region S ?_)
  refine AS.cons (sp_asg rfl ?_)
  refine AS.nil ?_
  intro _ S
  refine W.seq (W.region S ?_)
  refine AS.cons (sp_asg rfl ?_)
  refine AS.nil ?_
  intro _ S
  refine W.seq (W.seq (W.region S ?_))
  refine AS.cons (sp_asg rfl ?_)
  refine AS.nil ?_
  intro _ S
  refine W.block ?_
  refine W.loopS S [3, 4, 5, 6, 7, 8, 9, 10, 11, 12, 13, 14, 15, 16] [] (fun (j : Nat) => [(4, iv j), (3, iv (sumU l j))]) (fun _ => []) (fun j => j ≤ l.length) (fun j => l.length - j) 0 (by omega) ⟨rfl, rfl, trivial⟩ trivial ?_
  rintro j σ M w1 hj S
  have hsb := sumU_bd hx0 j
  refine W.seq (W.seq (W.region S ?_))
  refine AS.cons (sp_move (v := .int _ _) rfl ?_)
  refine AS.cons (sp_move rfl ?_)
  refine AS.cons (sp_len rfl sl_26_3_1 ?_)
  refine AS.cons (sp_lss rfl rfl ?_)
  refine AS.nil ?_
  intro _ S
  refine W.condd rfl (fun c8 => ?_) (fun c8 => ?_)
  · skip
    have hlt : j < l.length := by omega
    obtain ⟨x, hx⟩ := get_some hlt
    have hxb := hx0 x (List.mem_of_getElem? hx)
    have hst : sumU l (j + 1) = sumU l j + x := by simp only [sumU]; rw [List.getD_eq_getElem?_getD, hx]; rfl
    refine W.skip ?_
    refine W.seq (W.block ?_)
    refine W.region S ?_
    refine AS.cons (sp_move (v := .int _ _) rfl ?_)
    refine AS.cons (sp_move rfl ?_)
    refine AS.cons (sp_move (v := .int _ _) rfl ?_)
    refine AS.cons (sp_iaR hl rfl rfl sl_26_3_1 (by first | omega | (simp only [decide_eq_true_eq, decide_eq_false_iff_not] at *; omega)) ?_)
    refine AS.cons (sp_ldR 0 hl (fun _ h => h) rfl sc_3 (ints_at hx) (by first | omega | (simp only [decide_eq_true_eq, decide_eq_false_iff_not] at *; omega)) ?_)
    refine AS.cons (sp_add rfl rfl (by first | omega | (simp only [decide_eq_true_eq, decide_eq_false_iff_not] at *; omega)) ?_)
    refine AS.cons (sp_asg (v := .int _ _) rfl ?_)
    refine AS.nil ?_
    intro _ S
    refine W.region S ?_
    refine AS.cons (sp_move (v := .int _ _) rfl ?_)
    refine AS.cons (sp_add rfl rfl (by first | omega | (simp only [decide_eq_true_eq, decide_eq_false_iff_not] at *; omega)) ?_)
    refine AS.cons (sp_asg (v := .int _ _) rfl ?_)
    refine AS.nil ?_
    intro _ S
    exact ⟨j + 1, _, by omega, by omega, ⟨by simp [upd], by rw [hst]; rfl, trivial⟩, trivial, by repeat (first | exact Agr.refl _ _ | exact Agr.msk _ _ _ | refine Agr.upd ?_ _ rfl | refine Agr.upds ?_ rfl | refine Agr.mskIn ?_ rfl), by repeat (first | exact Agr.refl _ _ | exact Agr.msk _ _ _ | refine Agr.upd ?_ _ rfl | refine Agr.upds ?_ rfl | refine Agr.mskIn ?_ rfl), rfl, S⟩
  · skip
    obtain rfl : j = l.length := by omega
    refine W.exit ?_
    refine W.seq (W.region S ?_)
    refine AS.cons (sp_move (v := .int _ _) rfl ?_)
    refine AS.cons (sp_asg (v := .int _ _) rfl ?_)
    refine AS.nil ?_
    intro _ S
    refine W.ret ?_
    exact ret1 rfl rfl S fun w' S' => ⟨rfl, S'.mod⟩
theorem or_rot (a c d : Nat) : (a ||| c) ||| d = (a ||| d) ||| c := by
  apply Nat.eq_of_testBit_eq; intro i; simp only [Nat.testBit_or]; cases a.testBit i <;> cases c.testBit i <;> cases d.testBit i <;> rfl
theorem stU_snoc (x : Int) : ∀ l : List Int, stU (l ++ [x]) = stU l ||| 2 ^ x.toNat
  | [] => rfl
  | y :: l => by
    show stU (l ++ [x]) ||| 2 ^ y.toNat = (stU l ||| 2 ^ y.toNat) ||| 2 ^ x.toNat
    rw [stU_snoc x l, or_rot]
theorem setF (la : Option Addr) (lc : Nat) (l : List Int) (hx0 : ∀ x ∈ l, 0 ≤ x ∧ x < (30 : Nat)) (w : World) (hl : Ints w la lc l) : Ct Tryd.prog 53 #[.slice la l.length lc] w (fun u w' => u = iv (stU l : Int) ∧ Ext w w') := by
  refine fn_intro (args := [.slice la l.length lc]) Tryd.func53 rfl rfl (by kernel_rfl) ?_
  have S := St.start no w
  have hn : l.length ≤ 9223372036854775807 := hl.2.1
  refine W.seq (W.region S ?_)
  refine AS.cons (sp_asg rfl ?_)
  refine AS.nil ?_
  intro _ S
  refine W.seq (W.region S ?_)
  refine AS.cons (sp_asg rfl ?_)
  refine AS.nil ?_
  intro _ S
  refine W.seq (W.seq (W.region S ?_))
  refine AS.cons (sp_asg rfl ?_)
  refine AS.nil ?_
  intro _ S
  refine W.block ?_
  refine W.loopS S [3, 4, 5, 6, 7, 8, 9, 10, 11, 12, 13, 14, 15, 16, 17] [] (fun (j : Nat) => [(4, iv j), (3, iv (stU (l.take j) : Int))]) (fun _ => []) (fun j => j ≤ l.length) (fun j => l.length - j) 0 (by omega) ⟨rfl, rfl, trivial⟩ trivial ?_
  rintro j σ M w1 hj S
  have hsb : stU (l.take j) < 2 ^ 30 := stU_lt (fun x hx => hx0 x (List.mem_of_mem_take hx))
  refine W.seq (W.seq (W.region S ?_))
  refine AS.cons (sp_move (v := .int _ _) rfl ?_)
  refine AS.cons (sp_move rfl ?_)
  refine AS.cons (sp_len rfl sl_26_3_1 ?_)
  refine AS.cons (sp_lss rfl rfl ?_)
  refine AS.nil ?_
  intro _ S
  refine W.condd rfl (fun c8 => ?_) (fun c8 => ?_)
  · skip
    have hlt : j < l.length := by omega
    obtain ⟨x, hx⟩ := get_some hlt
    have hxb := hx0 x (List.mem_of_getElem? hx)
    have hst : stU (l.take (j + 1)) = stU (l.take j) ||| 2 ^ x.toNat := by rw [take_at hx, stU_snoc]
    have hpw : (1 : Int) * 2 ^ x.toNat = ((2 ^ x.toNat : Nat) : Int) := by rw [Int.one_mul, Int.natCast_pow]; rfl
    have hp30 : 2 ^ x.toNat < 2 ^ 30 := Nat.pow_lt_pow_right (by decide) (by omega)
    obtain ⟨p, hp⟩ : ∃ p, p = 2 ^ x.toNat := ⟨_, rfl⟩
    rw [← hp] at hpw hp30 hst
    refine W.skip ?_
    refine W.seq (W.block ?_)
    refine W.region S ?_
    refine AS.cons (sp_move (v := .int _ _) rfl ?_)
    refine AS.cons (sp_move rfl ?_)
    refine AS.cons (sp_move (v := .int _ _) rfl ?_)
    refine AS.cons (sp_iaR hl rfl rfl sl_26_3_1 (by first | omega | (simp only [decide_eq_true_eq, decide_eq_false_iff_not] at *; omega)) ?_)
    refine AS.cons (sp_ldR 0 hl (fun _ h => h) rfl sc_3 (ints_at hx) (by first | omega | (simp only [decide_eq_true_eq, decide_eq_false_iff_not] at *; omega)) ?_)
    refine AS.cons (sp_shl (x' := 1) rfl rfl (by omega) (by rw [hpw]; omega) ?_)
    refine AS.cons (sp_or (x' := stU (l.take j)) (y' := p) rfl (by show Value.int _ ((1 : Int) * 2 ^ x.toNat) = _; rw [hpw]) (by omega) (by omega) ?_)
    refine AS.cons (sp_asg (v := .int _ _) rfl ?_)
    refine AS.nil ?_
    intro _ S
    refine W.region S ?_
    refine AS.cons (sp_move (v := .int _ _) rfl ?_)
    refine AS.cons (sp_add rfl rfl (by first | omega | (simp only [decide_eq_true_eq, decide_eq_false_iff_not] at *; omega)) ?_)
    refine AS.cons (sp_asg (v := .int _ _) rfl ?_)
    refine AS.nil ?_
    intro _ S
    exact ⟨j + 1, _, by omega, by omega, ⟨by simp [upd], by rw [hst]; rfl, trivial⟩, trivial, by repeat (first | exact Agr.refl _ _ | exact Agr.msk _ _ _ | refine Agr.upd ?_ _ rfl | refine Agr.upds ?_ rfl | refine Agr.mskIn ?_ rfl), by repeat (first | exact Agr.refl _ _ | exact Agr.msk _ _ _ | refine Agr.upd ?_ _ rfl | refine Agr.upds ?_ rfl | refine Agr.mskIn ?_ rfl), rfl, S⟩
  · skip
    obtain rfl : j = l.length := by omega
    refine W.exit ?_
    refine W.seq (W.region S ?_)
    refine AS.cons (sp_move (v := .int _ _) rfl ?_)
    refine AS.cons (sp_asg (v := .int _ _) rfl ?_)
    refine AS.nil ?_
    intro _ S
    refine W.ret ?_
    exact ret1 rfl rfl S fun w' S' => ⟨by show iv (stU (l.take l.length) : Int) = _; rw [List.take_length], S'.mod⟩
theorem andF (la : Option Addr) (lc : Nat) (l : List Int) (n : Int) (hn : l.length ≤ 1000) (w : World) (hl : Ints w la lc l) : Ct Tryd.prog 57 #[.slice la l.length lc, iv n] w (fun u w' => ∃ i, LsR (l ++ [n]) u i ∧ St no w w' (upd eL 0 i) []) := by
  refine fn_intro (args := [.slice la l.length lc, iv n]) Tryd.func57 rfl rfl (by kernel_rfl) ?_
  have S := St.start no w
  refine W.seq (W.region S ?_)
  refine AS.cons (sp_asg rfl ?_)
  refine AS.nil ?_
  intro _ S
  refine W.seq (W.region S ?_)
  refine AS.cons (sp_move rfl ?_)
  refine AS.cons (sp_len rfl sl_26_3_1 ?_)
  refine AS.cons (sp_add rfl rfl (by first | omega | (simp only [decide_eq_true_eq, decide_eq_false_iff_not] at *; omega)) ?_)
  refine AS.cons (sp_mkC1 9 sl_26_3_1 zs_3_1 zv_3 rfl (n := l.length + 1) rfl rfl (by omega) (fun b9 => ?_))
  refine AS.cons (sp_asg rfl ?_)
  refine AS.nil ?_
  intro _ S
  have S := S.weak (k := 9) (i := slc 3 1 (.slice (some ⟨b9, 0, none⟩) 0 (l.length + 1)) 0 []) (fun f hf => slc_of_pt hf rfl (Nat.zero_le _) (by simp) (by simp))
  refine W.seq (W.region S ?_)
  refine AS.cons (sp_move rfl ?_)
  refine AS.cons (sp_move rfl ?_)
  refine AS.cons (sp_app (n := 0) (k := l.length) (c := lc) (ad := la) (xs := []) (ys := l.map iv) 9 [] rfl rfl sl_26_3_1 zs_3_1 rfl (fun F w hF S => hl.ext S.mod) (oneB_iv _) (by omega) (fun a12 c12 => ?_))
  refine AS.cons (sp_asg rfl ?_)
  refine AS.nil ?_
  intro _ S
  refine W.seq (W.region S ?_)
  refine AS.cons (sp_move rfl ?_)
  refine AS.cons (sp_move (v := .int _ _) rfl ?_)
  refine AS.cons (sp_bs 15 [.tmp 14] _ sl_26_3_1 zs_3_1 rfl rfl rfl rfl rfl rfl (fun b15 => ?_))
  refine AS.cons (sp_app 9 [15] rfl rfl sl_26_3_1 zs_3_1 rfl (fun F w hF S => rd_pt (S.get ((hF 15 (by simp)).trans rfl)).1 rfl (by omega) (by omega)) rfl (by first | omega | (simp only [decide_eq_true_eq, decide_eq_false_iff_not] at *; omega)) (fun a16 c16 => ?_))
  refine AS.cons (sp_asg rfl ?_)
  refine AS.nil ?_
  intro _ S
  refine W.ret ?_
  exact ret1 rfl rfl S fun w' S' => ⟨_, (show LsR (l ++ [n]) (.slice a16 (0 + l.length + 1) c16) (slc 3 1 (.slice a16 (0 + l.length + 1) c16) (0 + l.length + 1) ([] ++ l.map iv ++ [iv n])) from LsR.of (by simp) (by simp) (St.slc_le S' 9 rfl)), S'.only 9⟩
end
end Go.Proofs.YtajocmkgdjcmkaaDoor

/-
  What the laws ask of books: pence laid out one by one; books with other notes; draws by places that are gone.
-/
namespace Go.Proofs.YtajocmkgdjcmkaaDoor
set_option maxRecDepth 100000
open Go.Hu Go.RowKit
section
variable (b : Sb) (ha : Option Addr) (hc : Nat) (da : Option Addr) (dc : Nat)
theorem ints_rem {l : List Int} {k n : Nat} {x : Int} (hx : l[k % n]? = some x) : (l.map iv)[((k : Int) % (n : Int)).toNat * 1 + 0]? = some (iv x) := by
  rw [← Int.natCast_emod]; exact ints_at hx
theorem payL_zero {b : Sb} (hb : Good b) (s : Int) : payL b s 0 = List.replicate b.hs.length 0 := by
  unfold payL
  apply List.ext_getElem?
  intro i
  simp only [List.getElem?_map, List.getElem?_replicate]
  split
  · next h => rw [List.getElem?_range h]; simp [payK_zero hb]
  · next h => rw [List.getElem?_eq_none (by simpa using h)]; rfl
theorem payL_set {b : Sb} (hb : Good b) {s : Int} {m yn : Nat} (hy : (ord b s)[m % (allN b).toNat]? = some (yn : Int)) : (payL b s m).set yn (payK b s m yn + 1) = payL b s ((m : Int) + 1) := by
  have h1 := hb.a1
  have hm : ((m : Int) % allN b).toNat = m % (allN b).toNat := by
    have : allN b = ((allN b).toNat : Int) := by omega
    rw [this, ← Int.natCast_emod, Int.toNat_natCast, Int.toNat_natCast]
  have hg : (ord b s).getD ((m : Int) % allN b).toNat 0 = yn := by rw [hm, List.getD_eq_getElem?_getD, hy]; rfl
  apply List.ext_getElem?
  intro i
  rw [List.getElem?_set, payL_len]
  by_cases hi : i < b.hs.length
  · rw [payL_at (s := s) (m := (m : Int) + 1) hi, payK_succ hb s (Int.natCast_nonneg m) hi, hg]
    by_cases e : yn = i
    · subst e; simp [hi]
    · rw [if_neg e, payL_at hi, if_neg (by omega), Int.add_zero]
  · rw [List.getElem?_eq_none (l := payL b s ((m : Int) + 1)) (by rw [payL_len]; omega)]
    split
    · next e => subst e; rw [if_neg hi]
    · rw [List.getElem?_eq_none (by rw [payL_len]; omega)]
set_option maxHeartbeats 4000000 in
theorem settledF (hb : Good b) (m : Nat) (hm : m ≤ 100000) (s : Int) (oa : Option Addr) (oc : Nat) (w : World) (hO : Ints w oa oc (ord b s)) : Ct Tryd.prog 40 #[.agg (sbL b ha hc da dc).toArray, iv m, .slice oa (ord b s).length oc] w (fun u w' => ∃ i, LsR (payL b s m) u i ∧ St no w w' (upd eL 0 i) []) := by
  refine fn_intro (args := [.agg (sbL b ha hc da dc).toArray, iv m, .slice oa (ord b s).length oc]) Tryd.func40 rfl rfl (by kernel_rfl) ?_
  have S := St.start no w
  have hn6 := hb.n6
  have h1 := hb.a1
  have h60 := hb.a60
  have hol : ((ord b s).length : Int) = allN b := by rw [ord_len]; exact rowF_len hb
  refine W.seq (W.region S ?_)
  refine AS.cons (sp_boxa 3 rfl (fun b3 => ?_))
  refine AS.cons (sp_asg rfl ?_)
  refine AS.nil ?_
  intro _ S
  refine W.seq (W.region S ?_)
  refine AS.cons (sp_fa rfl fo_28_1_3 ?_)
  refine AS.cons (sp_ld 3 rfl rfl sc_23 rfl ?_)
  refine AS.cons (sp_len rfl sl_23_75_3 ?_)
  refine AS.cons (sp_mk1 12 sl_26_3_1 zs_3_1 zv_3 rfl rfl rfl (by omega) (fun b12 => ?_))
  refine AS.cons (sp_asg rfl ?_)
  refine AS.nil ?_
  intro _ S
  have S := S.weak (k := 12) (i := slc 3 1 (.slice (some ⟨b12, 0, none⟩) b.hs.length b.hs.length) b.hs.length ((payL b s ((0 : Nat) : Int)).map iv)) (fun f hf => by
    rw [show (((0 : Nat) : Int)) = 0 from rfl, payL_zero hb]
    refine slc_of_pt hf (by simp) (Nat.le_refl _) (by simp) ?_
    rw [List.map_replicate, Nat.mul_one, List.take_of_length_le (by simp)])
  refine W.seq (W.seq (W.region S ?_))
  refine AS.cons (sp_asg rfl ?_)
  refine AS.nil ?_
  intro _ S
  refine W.block ?_
  refine W.loopS S [8, 13, 14, 15, 16, 17, 18, 19, 20, 21, 22, 23, 24, 25, 26, 27, 28, 29] [12] (fun (k : Nat) => [(8, iv k)]) (fun k => [(12, slc 3 1 (.slice (some ⟨b12, 0, none⟩) b.hs.length b.hs.length) b.hs.length ((payL b s (k : Int)).map iv))]) (fun k => k ≤ m) (fun k => m - k) 0 (by omega) ⟨rfl, trivial⟩ ⟨rfl, trivial⟩ ?_
  rintro k σ2 M2 w2 hk S
  refine W.seq (W.seq (W.region S ?_))
  refine AS.cons (sp_move (v := .int _ _) rfl ?_)
  refine AS.cons (sp_move (v := .int _ _) rfl ?_)
  refine AS.cons (sp_lss rfl rfl ?_)
  refine AS.nil ?_
  intro _ S
  refine W.condd rfl (fun c15 => ?_) (fun c15 => ?_)
  · skip
    have hlt : k < m := by omega
    have hkr : 0 ≤ (k : Int) % ((ord b s).length : Int) ∧ (k : Int) % ((ord b s).length : Int) < ((ord b s).length : Int) := ⟨Int.emod_nonneg _ (by omega), Int.emod_lt_of_pos _ (by omega)⟩
    obtain ⟨y, hy⟩ := get_some (l := ord b s) (j := k % (ord b s).length) (Nat.mod_lt _ (by omega))
    have hym := ord_mem (List.mem_of_getElem? hy)
    obtain ⟨yn, rfl⟩ : ∃ yn : Nat, y = yn := ⟨y.toNat, by omega⟩
    have hyn : yn < b.hs.length := by omega
    have hpb := payK_bd hb s hyn (m := k) (by omega)
    have hpy : ((payL b s (k : Int)).map iv)[((yn : Int)).toNat * 1]? = some (iv (payK b s (k : Int) yn)) := by rw [Nat.mul_one, List.getElem?_map, Int.toNat_natCast, payL_at hyn]; rfl
    have hst : (payL b s (k : Int)).set yn (payK b s (k : Int) yn + 1) = payL b s ((k + 1 : Nat) : Int) := by rw [payL_set hb (by rw [show (allN b).toNat = (ord b s).length by omega]; exact hy)]; rfl
    refine W.skip ?_
    refine W.seq (W.block ?_)
    refine W.region S ?_
    refine AS.cons (sp_move rfl ?_)
    refine AS.cons (sp_move rfl ?_)
    refine AS.cons (sp_move (v := .int _ _) rfl ?_)
    refine AS.cons (sp_move rfl ?_)
    refine AS.cons (sp_len rfl sl_26_3_1 ?_)
    refine AS.cons (sp_rem rfl rfl (by first | omega | (simp only [decide_eq_true_eq, decide_eq_false_iff_not] at *; omega)) (by first | omega | (simp only [decide_eq_true_eq, decide_eq_false_iff_not] at *; omega)) ?_)
    refine AS.cons (sp_iaR hO rfl rfl sl_26_3_1 (by first | omega | (simp only [decide_eq_true_eq, decide_eq_false_iff_not] at *; omega)) ?_)
    refine AS.cons (sp_ldR 0 hO (fun _ h => h) rfl sc_3 (ints_rem hy) (by first | omega | (simp only [decide_eq_true_eq, decide_eq_false_iff_not] at *; omega)) ?_)
    refine AS.cons (sp_iaS 12 rfl rfl rfl sl_26_3_1 (by omega) ?_)
    refine AS.cons (sp_ldS 12 rfl rfl sc_3 hpy (by omega) ?_)
    refine AS.cons (sp_add rfl rfl (by first | omega | (simp only [decide_eq_true_eq, decide_eq_false_iff_not] at *; omega)) ?_)
    refine AS.cons (sp_iaS 12 rfl rfl rfl sl_26_3_1 (by omega) ?_)
    refine AS.cons (sp_stS 12 rfl rfl rfl rfl rfl sz_3_1 (by omega) ?_)
    refine AS.nil ?_
    intro _ S
    refine W.region S ?_
    refine AS.cons (sp_move (v := .int _ _) rfl ?_)
    refine AS.cons (sp_add rfl rfl (by first | omega | (simp only [decide_eq_true_eq, decide_eq_false_iff_not] at *; omega)) ?_)
    refine AS.cons (sp_asg (v := .int _ _) rfl ?_)
    refine AS.nil ?_
    intro _ S
    exact ⟨k + 1, _, by omega, by omega, ⟨by simp [upd], trivial⟩, ⟨by show slc 3 1 _ _ _ = slc 3 1 _ _ _; rw [← hst, List.map_set]; rfl, trivial⟩, by repeat (first | exact Agr.refl _ _ | exact Agr.msk _ _ _ | refine Agr.upd ?_ _ rfl | refine Agr.upds ?_ rfl | refine Agr.mskIn ?_ rfl), by repeat (first | exact Agr.refl _ _ | exact Agr.msk _ _ _ | refine Agr.upd ?_ _ rfl | refine Agr.upds ?_ rfl | refine Agr.mskIn ?_ rfl), rfl, S⟩
  · skip
    obtain rfl : k = m := by omega
    refine W.exit ?_
    refine W.seq (W.region S ?_)
    refine AS.cons (sp_move rfl ?_)
    refine AS.cons (sp_asg rfl ?_)
    refine AS.nil ?_
    intro _ S
    refine W.ret ?_
    exact ret1 rfl rfl S fun w' S' => ⟨_, LsR.of (payL_len b s k) rfl (Nat.le_refl _), S'.only 12⟩
/-! ### Books with other notes -/
def BwR (b : Sb) (l : List Int) (ha : Option Addr) (hc : Nat) (u : Value) (i : HP) : Prop := ∃ a c, l.length ≤ c ∧ u = .agg (sbL (wd b l) ha hc a c).toArray ∧ i = slc 3 1 (.slice a l.length c) l.length (l.map iv)
theorem BwR.of {b : Sb} {l : List Int} {ha : Option Addr} {hc n n' : Nat} {a : Option Addr} {c : Nat} (h1 : l.length = n) (h2 : n' = n) (h3 : n' ≤ c) : BwR b l ha hc (.agg [iv b.r0, iv b.r1, iv b.r2, .slice ha b.hs.length hc, iv b.m0, iv b.m1, iv b.s0, iv b.s1, .slice a n' c].toArray) (slc 3 1 (.slice a n' c) n' (l.map iv)) := by
  subst h2 h1; exact ⟨a, c, h3, rfl, rfl⟩
theorem BwR.ne (b : Sb) (l : List Int) (ha : Option Addr) (hc : Nat) : ∃ u i, BwR b l ha hc u i := ⟨_, _, none, l.length, Nat.le_refl _, rfl, rfl⟩
/-- The draws of a set, as they were. -/
def ntU (l : List Int) (set : Nat) (j : Nat) : List Int := (List.range j).map fun k => if set.testBit k = true then l.getD k 0 else -1
theorem ntU_len (l : List Int) (set j : Nat) : (ntU l set j).length = j := by unfold ntU; simp
theorem ntU_succ (l : List Int) (set j : Nat) : ntU l set (j + 1) = ntU l set j ++ [if set.testBit j = true then l.getD j 0 else -1] := by
  unfold ntU; rw [List.range_succ, List.map_append]; rfl
theorem ntU_at {l : List Int} {set j k : Nat} (hk : k < j) : (ntU l set j).getD k 0 = if set.testBit k = true then l.getD k 0 else -1 := by
  unfold ntU; rw [List.getD_eq_getElem?_getD, List.getElem?_map, List.getElem?_range hk]; rfl
set_option maxHeartbeats 4000000 in
theorem notedF (set : Nat) (hs : set ≤ 1000000) (l : List Int) (oa : Option Addr) (oc : Nat) (hln : l.length ≤ 1000) (w : World) (hO : Ints w oa oc l) : Ct Tryd.prog 38 #[.agg (sbL b ha hc da dc).toArray, iv set, .slice oa l.length oc] w (fun u w' => ∃ i, BwR b (ntU l set (min l.length 8)) ha hc u i ∧ St no w w' (upd eL 0 i) []) := by
  refine fn_intro (args := [.agg (sbL b ha hc da dc).toArray, iv set, .slice oa l.length oc]) Tryd.func38 rfl rfl (by kernel_rfl) ?_
  have S := St.start no w
  obtain ⟨M8, hM8, hM1, hM2, hM3⟩ : ∃ M8, M8 = min l.length 8 ∧ M8 ≤ l.length ∧ M8 ≤ 8 ∧ (M8 = l.length ∨ M8 = 8) := ⟨_, rfl, Nat.min_le_left _ _, Nat.min_le_right _ _, by omega⟩
  rw [← hM8]
  clear hM8
  refine W.seq (W.region S ?_)
  refine AS.cons (sp_boxa 3 rfl (fun b3 => ?_))
  refine AS.cons (sp_alloc 6 zv_28 rfl (fun b6 => ?_))
  refine AS.nil ?_
  intro _ S
  refine W.seq (W.region S ?_)
  refine AS.cons (sp_ldw 3 rfl rfl ag_28_9 ?_)
  refine AS.cons (sp_alloc 7 zv_28 rfl (fun b7 => ?_))
  refine AS.cons (sp_st 7 rfl rfl rfl rfl sz_28_9 rfl rfl ?_)
  refine AS.nil ?_
  intro _ S
  refine W.seq (W.region S ?_)
  refine AS.cons (sp_bsS0 901 sl_26_3_1 (fun b11 => ?_))
  refine AS.cons (sp_fa rfl fo_28_4_8 ?_)
  refine AS.cons (sp_st 7 rfl rfl rfl rfl sz_26_1 rfl rfl ?_)
  refine AS.nil ?_
  intro _ S
  refine W.seq (W.seq (W.region S ?_))
  refine AS.cons (sp_asg rfl ?_)
  refine AS.nil ?_
  intro _ S
  refine W.block ?_
  refine W.loopS S [8, 9, 13, 14, 15, 16, 17, 18, 19, 20, 21, 22, 23, 24, 25, 26, 27, 28, 29, 30, 31, 32, 33, 34, 35] [7, 33, 34, 901] (fun (z : Nat × Option Addr × Nat) => [(8, iv z.1)]) (fun z => [(7, pt b7 (.cells (sbL (wd b (ntU l set z.1)) ha hc z.2.1 z.2.2).toArray 28 (0, 0))), (901, slc 3 1 (.slice z.2.1 (ntU l set z.1).length z.2.2) (ntU l set z.1).length ((ntU l set z.1).map iv))]) (fun z => z.1 ≤ M8) (fun z => M8 - z.1) (0, some ⟨b11, 0, none⟩, 0) (Nat.zero_le _) ⟨rfl, trivial⟩ ⟨rfl, rfl, trivial⟩ ?_
  rintro ⟨j, a, c⟩ σ M w1 hj S
  replace hj : j ≤ M8 := hj
  have hnl := ntU_len l set j
  refine W.seq (W.seq (W.region S ?_))
  refine AS.cons (sp_move (v := .int _ _) rfl ?_)
  refine AS.cons (sp_move rfl ?_)
  refine AS.cons (sp_len rfl sl_26_3_1 ?_)
  refine AS.cons (sp_lss rfl rfl ?_)
  refine AS.cons (sp_move (v := .bool _) rfl ?_)
  refine AS.split 17 rfl (fun g17 => ?_) (fun g17 => ?_)
  · skip
    refine AS.cons (sp_move (v := .int _ _) rfl ?_)
    refine AS.cons (sp_lss rfl rfl ?_)
    refine AS.cons (sp_pick_t rfl (v := .bool _) rfl ?_)
    refine AS.nil ?_
    intro _ S
    refine W.cond rfl (fun c20 => ?_) (fun c20 => ?_)
    · skip
      have hlt : j < M8 := by have h1 := of_decide_eq_true g17; have h2 := of_decide_eq_true c20; omega
      obtain ⟨x, hx⟩ := get_some (l := l) (j := j) (by omega)
      have hsu := ntU_succ l set j
      refine W.skip ?_
      refine W.seq (W.block ?_)
      refine W.seq (W.region S ?_)
      refine AS.cons (sp_asg rfl ?_)
      refine AS.nil ?_
      intro _ S
      refine W.seq (W.seq (W.region S ?_))
      refine AS.cons (sp_move (v := .int _ _) rfl ?_)
      refine AS.cons (sp_move (v := .int _ _) rfl ?_)
      refine AS.cons (sp_call [] rfl rfl cf_89 (fun F w _ S => bitF _ _ (by omega) (by omega) w) ?_)
      refine AS.nil ?_
      intro _ S
      refine W.cond rfl (fun c25 => ?_) (fun c25 => ?_)
      · skip
        have hw : ntU l set (j + 1) = ntU l set j ++ [x] := by rw [hsu, if_pos c25, List.getD_eq_getElem?_getD, hx]; rfl
        refine W.region S ?_
        refine AS.cons (sp_move rfl ?_)
        refine AS.cons (sp_move (v := .int _ _) rfl ?_)
        refine AS.cons (sp_iaR hO rfl rfl sl_26_3_1 (by first | omega | (simp only [decide_eq_true_eq, decide_eq_false_iff_not] at *; omega)) ?_)
        refine AS.cons (sp_ldR 0 hO (fun _ h => h) rfl sc_3 (ints_at hx) (by first | omega | (simp only [decide_eq_true_eq, decide_eq_false_iff_not] at *; omega)) ?_)
        refine AS.cons (sp_asg (v := .int _ _) rfl ?_)
        refine AS.nil ?_
        intro _ S
        refine W.region S ?_
        refine AS.cons (sp_fa rfl fo_28_4_8 ?_)
        refine AS.cons (sp_ld 7 rfl rfl sc_26 rfl ?_)
        refine AS.cons (sp_move (v := .int _ _) rfl ?_)
        refine AS.cons (sp_bs 33 [.tmp 32] _ sl_26_3_1 zs_3_1 rfl rfl rfl rfl rfl rfl (fun b33 => ?_))
        refine AS.cons (sp_app 901 [33] rfl rfl sl_26_3_1 zs_3_1 rfl (fun F w hF S => rd_pt (S.get ((hF 33 (by simp)).trans rfl)).1 rfl (by omega) (by omega)) rfl (by first | omega | (simp only [decide_eq_true_eq] at *; omega)) (fun a34 c34 => ?_))
        refine AS.cons (sp_fa rfl fo_28_4_8 ?_)
        refine AS.cons (sp_st 7 rfl rfl rfl rfl sz_26_1 rfl rfl ?_)
        refine AS.nil ?_
        intro _ S
        refine W.region S ?_
        refine AS.cons (sp_move (v := .int _ _) rfl ?_)
        refine AS.cons (sp_add rfl rfl (by first | omega | (simp only [decide_eq_true_eq, decide_eq_false_iff_not] at *; omega)) ?_)
        refine AS.cons (sp_asg (v := .int _ _) rfl ?_)
        refine AS.nil ?_
        intro _ S
        exact ⟨(j + 1, a34, c34), _, hlt, by show M8 - (j + 1) < M8 - j; omega, ⟨by simp [upd], trivial⟩, ⟨by show pt b7 _ = pt b7 (.cells (sbL (wd b (ntU l set (j + 1))) ha hc a34 c34).toArray 28 (0, 0)); rw [hw]; simp only [sbL, List.length_append]; rfl, by show slc 3 1 _ _ _ = slc 3 1 (.slice a34 (ntU l set (j + 1)).length c34) (ntU l set (j + 1)).length ((ntU l set (j + 1)).map iv); rw [hw, List.length_append, List.map_append]; rfl, trivial⟩, by repeat (first | exact Agr.refl _ _ | exact Agr.msk _ _ _ | refine Agr.upd ?_ _ rfl | refine Agr.upds ?_ rfl | refine Agr.mskIn ?_ rfl), by repeat (first | exact Agr.refl _ _ | exact Agr.msk _ _ _ | refine Agr.upd ?_ _ rfl | refine Agr.upds ?_ rfl | refine Agr.mskIn ?_ rfl), rfl, S⟩
      · skip
        have hw : ntU l set (j + 1) = ntU l set j ++ [-1] := by rw [hsu, if_neg (by rw [c25]; decide)]
        refine W.skip ?_
        refine W.region S ?_
        refine AS.cons (sp_fa rfl fo_28_4_8 ?_)
        refine AS.cons (sp_ld 7 rfl rfl sc_26 rfl ?_)
        refine AS.cons (sp_move (v := .int _ _) rfl ?_)
        refine AS.cons (sp_bs 33 [.tmp 32] _ sl_26_3_1 zs_3_1 rfl rfl rfl rfl rfl rfl (fun b33 => ?_))
        refine AS.cons (sp_app 901 [33] rfl rfl sl_26_3_1 zs_3_1 rfl (fun F w hF S => rd_pt (S.get ((hF 33 (by simp)).trans rfl)).1 rfl (by omega) (by omega)) rfl (by first | omega | (simp only [decide_eq_true_eq] at *; omega)) (fun a34 c34 => ?_))
        refine AS.cons (sp_fa rfl fo_28_4_8 ?_)
        refine AS.cons (sp_st 7 rfl rfl rfl rfl sz_26_1 rfl rfl ?_)
        refine AS.nil ?_
        intro _ S
        refine W.region S ?_
        refine AS.cons (sp_move (v := .int _ _) rfl ?_)
        refine AS.cons (sp_add rfl rfl (by first | omega | (simp only [decide_eq_true_eq, decide_eq_false_iff_not] at *; omega)) ?_)
        refine AS.cons (sp_asg (v := .int _ _) rfl ?_)
        refine AS.nil ?_
        intro _ S
        exact ⟨(j + 1, a34, c34), _, hlt, by show M8 - (j + 1) < M8 - j; omega, ⟨by simp [upd], trivial⟩, ⟨by show pt b7 _ = pt b7 (.cells (sbL (wd b (ntU l set (j + 1))) ha hc a34 c34).toArray 28 (0, 0)); rw [hw]; simp only [sbL, List.length_append]; rfl, by show slc 3 1 _ _ _ = slc 3 1 (.slice a34 (ntU l set (j + 1)).length c34) (ntU l set (j + 1)).length ((ntU l set (j + 1)).map iv); rw [hw, List.length_append, List.map_append]; rfl, trivial⟩, by repeat (first | exact Agr.refl _ _ | exact Agr.msk _ _ _ | refine Agr.upd ?_ _ rfl | refine Agr.upds ?_ rfl | refine Agr.mskIn ?_ rfl), by repeat (first | exact Agr.refl _ _ | exact Agr.msk _ _ _ | refine Agr.upd ?_ _ rfl | refine Agr.upds ?_ rfl | refine Agr.mskIn ?_ rfl), rfl, S⟩
    · skip
      refine W.exit ?_
      refine W.seq (W.region S ?_)
      refine AS.cons (sp_ldw 7 rfl rfl ag_28_9 ?_)
      refine AS.cons (sp_st 6 rfl rfl rfl rfl sz_28_9 rfl rfl ?_)
      refine AS.nil ?_
      intro _ S
      refine W.ret ?_
      have hjM : j = M8 := by first | (have h1 := of_decide_eq_true g17; have h2 := of_decide_eq_false c20; omega) | (have h1 := of_decide_eq_false g17; omega)
      subst hjM
      refine retc (l := sbL (wd b (ntU l set j)) ha hc a c) 6 ag_28_9 rfl rfl rfl rfl rfl S fun w' S' => ?_
      exact ⟨_, ⟨a, c, St.slc_le S' 901 rfl, rfl, rfl⟩, S'.only 901⟩
  · skip
    refine AS.cons (sp_skip rfl ?_)
    refine AS.cons (sp_skip rfl ?_)
    refine AS.cons (sp_pick_f rfl (v := .bool _) rfl ?_)
    refine AS.nil ?_
    intro _ S
    refine W.cond (b := false) rfl (fun h => nomatch h) (fun _ => ?_)
    refine W.exit ?_
    refine W.seq (W.region S ?_)
    refine AS.cons (sp_ldw 7 rfl rfl ag_28_9 ?_)
    refine AS.cons (sp_st 6 rfl rfl rfl rfl sz_28_9 rfl rfl ?_)
    refine AS.nil ?_
    intro _ S
    refine W.ret ?_
    have hjM : j = M8 := by first | (have h1 := of_decide_eq_true g17; have h2 := of_decide_eq_false c20; omega) | (have h1 := of_decide_eq_false g17; omega)
    subst hjM
    refine retc (l := sbL (wd b (ntU l set j)) ha hc a c) 6 ag_28_9 rfl rfl rfl rfl rfl S fun w' S' => ?_
    exact ⟨_, ⟨a, c, St.slc_le S' 901 rfl, rfl, rfl⟩, S'.only 901⟩
/-- A book of which the pence and the number are known, without notes. -/
abbrev suB (b : Sb) (m s : Int) : Sb := { b with m0 := m, m1 := m, s0 := s, s1 := s, dr := [] }
theorem sureF (m s : Int) (w : World) : Ct Tryd.prog 47 #[.agg (sbL b ha hc da dc).toArray, iv m, iv s] w (fun u w' => u = .agg (sbL (suB b m s) ha hc none 0).toArray ∧ Ext w w') := by
  refine fn_intro (args := [.agg (sbL b ha hc da dc).toArray, iv m, iv s]) Tryd.func47 rfl rfl (by kernel_rfl) ?_
  have S := St.start no w
  refine W.seq (W.region S ?_)
  refine AS.cons (sp_boxa 3 rfl (fun b3 => ?_))
  refine AS.cons (sp_alloc 6 zv_28 rfl (fun b6 => ?_))
  refine AS.nil ?_
  intro _ S
  refine W.seq (W.region S ?_)
  refine AS.cons (sp_ldw 3 rfl rfl ag_28_9 ?_)
  refine AS.cons (sp_alloc 7 zv_28 rfl (fun b7 => ?_))
  refine AS.cons (sp_st 7 rfl rfl rfl rfl sz_28_9 rfl rfl ?_)
  refine AS.nil ?_
  intro _ S
  refine W.seq (W.region S ?_)
  refine AS.cons (sp_move (v := .int _ _) rfl ?_)
  refine AS.cons (sp_call [] rfl rfl cf_48 (fun F w _ S => justF _ w) ?_)
  refine AS.cons (sp_move (v := .int _ _) rfl ?_)
  refine AS.cons (sp_call [] rfl rfl cf_48 (fun F w _ S => justF _ w) ?_)
  refine AS.cons (sp_fa rfl fo_28_2_4 ?_)
  refine AS.cons (sp_st 7 rfl rfl rfl rfl sz_25_2 rfl rfl ?_)
  refine AS.cons (sp_fa rfl fo_28_3_6 ?_)
  refine AS.cons (sp_st 7 rfl rfl rfl rfl sz_25_2 rfl rfl ?_)
  refine AS.cons (sp_fa rfl fo_28_4_8 ?_)
  refine AS.cons (sp_st 7 rfl rfl rfl rfl sz_26_1 rfl rfl ?_)
  refine AS.nil ?_
  intro _ S
  refine W.seq (W.region S ?_)
  refine AS.cons (sp_ldw 7 rfl rfl ag_28_9 ?_)
  refine AS.cons (sp_st 6 rfl rfl rfl rfl sz_28_9 rfl rfl ?_)
  refine AS.nil ?_
  intro _ S
  refine W.ret ?_
  exact retc (l := sbL (suB b m s) ha hc none 0) 6 ag_28_9 rfl rfl rfl rfl rfl S fun w' S' => ⟨rfl, S'.mod⟩
/-- Without the notes of a set, as far as j. -/
def wtJ (b : Sb) (set : Nat) (j : Nat) : List Int := (List.range b.dr.length).map fun k => if k < j ∧ set.testBit k = true then -1 else b.dr.getD k 0
theorem wtJ_len (b : Sb) (set j : Nat) : (wtJ b set j).length = b.dr.length := by unfold wtJ; simp
theorem wtJ_zero (b : Sb) (set : Nat) : wtJ b set 0 = b.dr := by
  unfold wtJ
  apply List.ext_getElem?
  intro i
  rw [List.getElem?_map]
  by_cases h : i < b.dr.length
  · rw [List.getElem?_range h, List.getElem?_eq_getElem h, Option.map_some, if_neg (by omega), List.getD_eq_getElem?_getD, List.getElem?_eq_getElem h]; rfl
  · rw [List.getElem?_eq_none (by simpa using h), List.getElem?_eq_none (by omega)]; rfl
theorem wtJ_all (b : Sb) (set : Nat) : wtJ b set b.dr.length = woU b (fun k => set.testBit k) b.dr.length := by
  unfold wtJ woU
  apply List.map_congr_left
  intro k hk
  have hk' := List.mem_range.1 hk
  by_cases h : set.testBit k = true
  · rw [if_pos ⟨hk', h⟩, if_pos h]
  · rw [if_neg (fun x => h x.2), if_neg h]
theorem wtJ_at {b : Sb} {set j i : Nat} (hi : i < b.dr.length) : (wtJ b set j)[i]? = some (if i < j ∧ set.testBit i = true then -1 else b.dr.getD i 0) := by
  unfold wtJ; rw [List.getElem?_map, List.getElem?_range hi]; rfl
theorem wtJ_yes {b : Sb} {set j : Nat} (h : set.testBit j = true) : (wtJ b set j).set j (-1) = wtJ b set (j + 1) := by
  apply List.ext_getElem?
  intro i
  rw [List.getElem?_set, wtJ_len]
  by_cases hi : i < b.dr.length
  · rw [wtJ_at hi, wtJ_at hi]
    by_cases e : j = i
    · subst e; rw [if_pos rfl, if_pos hi, if_pos ⟨by omega, h⟩]
    · rw [if_neg e]
      by_cases hij : i < j
      · simp [hij, show i < j + 1 by omega]
      · simp [hij, show ¬ i < j + 1 by omega]
  · rw [List.getElem?_eq_none (l := wtJ b set (j + 1)) (by rw [wtJ_len]; omega)]
    split
    · next e => subst e; rw [if_neg hi]
    · rw [List.getElem?_eq_none (by rw [wtJ_len]; omega)]
theorem wtJ_no {b : Sb} {set j : Nat} (h : set.testBit j = false) : wtJ b set (j + 1) = wtJ b set j := by
  unfold wtJ
  apply List.map_congr_left
  intro k _
  by_cases e : k = j
  · subst e; simp [h]
  · by_cases hk : k < j
    · simp [hk, show k < j + 1 by omega]
    · simp [hk, show ¬ k < j + 1 by omega]
set_option maxHeartbeats 4000000 in
theorem withoutF (set : Nat) (hs : set ≤ 1000000) (h8 : b.dr.length ≤ 60) (w : World) (hD : Ints w da dc b.dr) : Ct Tryd.prog 52 #[.agg (sbL b ha hc da dc).toArray, iv set] w (fun u w' => ∃ i, BwR b (woU b (fun k => set.testBit k) b.dr.length) ha hc u i ∧ St no w w' (upd eL 0 i) []) := by
  refine fn_intro (args := [.agg (sbL b ha hc da dc).toArray, iv set]) Tryd.func52 rfl rfl (by kernel_rfl) ?_
  have S := St.start no w
  rw [← wtJ_all]
  refine W.seq (W.region S ?_)
  refine AS.cons (sp_boxa 2 rfl (fun b2 => ?_))
  refine AS.cons (sp_alloc 4 zv_28 rfl (fun b4 => ?_))
  refine AS.nil ?_
  intro _ S
  refine W.seq (W.region S ?_)
  refine AS.cons (sp_ldw 2 rfl rfl ag_28_9 ?_)
  refine AS.cons (sp_alloc 5 zv_28 rfl (fun b5 => ?_))
  refine AS.cons (sp_st 5 rfl rfl rfl rfl sz_28_9 rfl rfl ?_)
  refine AS.nil ?_
  intro _ S
  refine W.seq (W.region S ?_)
  refine AS.cons (sp_bsS0 901 sl_26_3_1 (fun b8 => ?_))
  refine AS.cons (sp_fa rfl fo_28_4_8 ?_)
  refine AS.cons (sp_ld 2 rfl rfl sc_26 rfl ?_)
  refine AS.cons (sp_app (n := 0) (k := b.dr.length) (c := dc) (ad := da) (xs := []) (ys := b.dr.map iv) 901 [] rfl rfl sl_26_3_1 zs_3_1 rfl (fun F w hF S => hD.ext S.mod) (oneB_iv _) (by omega) (fun a11 c11 => ?_))
  refine AS.cons (sp_fa rfl fo_28_4_8 ?_)
  refine AS.cons (sp_st 5 rfl rfl rfl rfl sz_26_1 rfl rfl ?_)
  refine AS.nil ?_
  intro _ S
  have hcp : 0 + b.dr.length ≤ c11 := St.slc_le S 901 rfl
  refine W.seq (W.seq (W.region S ?_))
  refine AS.cons (sp_asg rfl ?_)
  refine AS.nil ?_
  intro _ S
  refine W.block ?_
  refine W.loopS S [6, 13, 14, 15, 16, 17, 18, 19, 20, 21, 22, 23, 24, 25, 26] [901] (fun (j : Nat) => [(6, iv j)]) (fun j => [(901, slc 3 1 (.slice a11 (0 + b.dr.length) c11) (0 + b.dr.length) ((wtJ b set j).map iv))]) (fun j => j ≤ b.dr.length) (fun j => b.dr.length - j) 0 (Nat.zero_le _) ⟨rfl, trivial⟩ ⟨by show slc 3 1 (.slice a11 (0 + b.dr.length) c11) (0 + b.dr.length) ([] ++ b.dr.map iv) = slc 3 1 (.slice a11 (0 + b.dr.length) c11) (0 + b.dr.length) ((wtJ b set 0).map iv); rw [wtJ_zero, List.nil_append], trivial⟩ ?_
  rintro j σ M w1 hj S
  have hwl := wtJ_len b set j
  refine W.seq (W.seq (W.region S ?_))
  refine AS.cons (sp_move (v := .int _ _) rfl ?_)
  refine AS.cons (sp_fa rfl fo_28_4_8 ?_)
  refine AS.cons (sp_ld 5 rfl rfl sc_26 rfl ?_)
  refine AS.cons (sp_len rfl sl_26_3_1 ?_)
  refine AS.cons (sp_lss rfl rfl ?_)
  refine AS.nil ?_
  intro _ S
  refine W.condd rfl (fun c17 => ?_) (fun c17 => ?_)
  · skip
    replace c17 : (j : Int) < ((0 + b.dr.length : Nat) : Int) := c17
    have hlt : j < b.dr.length := by omega
    refine W.skip ?_
    refine W.seq (W.block ?_)
    refine W.seq (W.region S ?_)
    refine AS.cons (sp_move (v := .int _ _) rfl ?_)
    refine AS.cons (sp_move (v := .int _ _) rfl ?_)
    refine AS.cons (sp_call [] rfl rfl cf_89 (fun F w _ S => bitF _ _ (by omega) (by omega) w) ?_)
    refine AS.nil ?_
    intro _ S
    refine W.cond rfl (fun c22 => ?_) (fun c22 => ?_)
    · skip
      have hst := wtJ_yes (b := b) c22
      refine W.region S ?_
      refine AS.cons (sp_fa rfl fo_28_4_8 ?_)
      refine AS.cons (sp_ld 5 rfl rfl sc_26 rfl ?_)
      refine AS.cons (sp_move (v := .int _ _) rfl ?_)
      refine AS.cons (sp_iaS 901 rfl rfl rfl sl_26_3_1 (by show (0 : Int) ≤ (j : Int) ∧ (j : Int) < ((0 + b.dr.length : Nat) : Int); omega) ?_)
      refine AS.cons (sp_stS 901 rfl rfl rfl rfl rfl sz_3_1 (by omega) ?_)
      refine AS.nil ?_
      intro _ S
      refine W.region S ?_
      refine AS.cons (sp_move (v := .int _ _) rfl ?_)
      refine AS.cons (sp_add rfl rfl (by first | omega | (simp only [decide_eq_true_eq, decide_eq_false_iff_not] at *; omega)) ?_)
      refine AS.cons (sp_asg (v := .int _ _) rfl ?_)
      refine AS.nil ?_
      intro _ S
      first | exact ⟨j + 1, _, hlt, by omega, ⟨by simp [upd], trivial⟩, ⟨by show slc 3 1 _ _ _ = slc 3 1 _ _ ((wtJ b set (j + 1)).map iv); rw [← hst, List.map_set]; rfl, trivial⟩, by repeat (first | exact Agr.refl _ _ | exact Agr.msk _ _ _ | refine Agr.upd ?_ _ rfl | refine Agr.upds ?_ rfl | refine Agr.mskIn ?_ rfl), by repeat (first | exact Agr.refl _ _ | exact Agr.msk _ _ _ | refine Agr.upd ?_ _ rfl | refine Agr.upds ?_ rfl | refine Agr.mskIn ?_ rfl), rfl, S⟩ | exact ⟨j + 1, _, hlt, by omega, ⟨by simp [upd], trivial⟩, ⟨by show slc 3 1 _ _ _ = slc 3 1 _ _ ((wtJ b set (j + 1)).map iv); rw [hst], trivial⟩, by repeat (first | exact Agr.refl _ _ | exact Agr.msk _ _ _ | refine Agr.upd ?_ _ rfl | refine Agr.upds ?_ rfl | refine Agr.mskIn ?_ rfl), by repeat (first | exact Agr.refl _ _ | exact Agr.msk _ _ _ | refine Agr.upd ?_ _ rfl | refine Agr.upds ?_ rfl | refine Agr.mskIn ?_ rfl), rfl, S⟩
    · skip
      have hst := wtJ_no (b := b) c22
      refine W.skip ?_
      refine W.region S ?_
      refine AS.cons (sp_move (v := .int _ _) rfl ?_)
      refine AS.cons (sp_add rfl rfl (by first | omega | (simp only [decide_eq_true_eq, decide_eq_false_iff_not] at *; omega)) ?_)
      refine AS.cons (sp_asg (v := .int _ _) rfl ?_)
      refine AS.nil ?_
      intro _ S
      first | exact ⟨j + 1, _, hlt, by omega, ⟨by simp [upd], trivial⟩, ⟨by show slc 3 1 _ _ _ = slc 3 1 _ _ ((wtJ b set (j + 1)).map iv); rw [← hst, List.map_set]; rfl, trivial⟩, by repeat (first | exact Agr.refl _ _ | exact Agr.msk _ _ _ | refine Agr.upd ?_ _ rfl | refine Agr.upds ?_ rfl | refine Agr.mskIn ?_ rfl), by repeat (first | exact Agr.refl _ _ | exact Agr.msk _ _ _ | refine Agr.upd ?_ _ rfl | refine Agr.upds ?_ rfl | refine Agr.mskIn ?_ rfl), rfl, S⟩ | exact ⟨j + 1, _, hlt, by omega, ⟨by simp [upd], trivial⟩, ⟨by show slc 3 1 _ _ _ = slc 3 1 _ _ ((wtJ b set (j + 1)).map iv); rw [hst], trivial⟩, by repeat (first | exact Agr.refl _ _ | exact Agr.msk _ _ _ | refine Agr.upd ?_ _ rfl | refine Agr.upds ?_ rfl | refine Agr.mskIn ?_ rfl), by repeat (first | exact Agr.refl _ _ | exact Agr.msk _ _ _ | refine Agr.upd ?_ _ rfl | refine Agr.upds ?_ rfl | refine Agr.mskIn ?_ rfl), rfl, S⟩
  · skip
    replace c17 : ¬ (j : Int) < ((0 + b.dr.length : Nat) : Int) := c17
    obtain rfl : j = b.dr.length := by omega
    refine W.exit ?_
    refine W.seq (W.region S ?_)
    refine AS.cons (sp_ldw 5 rfl rfl ag_28_9 ?_)
    refine AS.cons (sp_st 4 rfl rfl rfl rfl sz_28_9 rfl rfl ?_)
    refine AS.nil ?_
    intro _ S
    refine W.ret ?_
    refine retc (l := [iv b.r0, iv b.r1, iv b.r2, .slice ha b.hs.length hc, iv b.m0, iv b.m1, iv b.s0, iv b.s1, .slice a11 (0 + b.dr.length) c11]) 4 ag_28_9 rfl rfl rfl rfl rfl S fun w' S' => ?_
    exact ⟨_, BwR.of (wtJ_len b set b.dr.length) (by omega) (by omega), S'.only 901⟩
end
end Go.Proofs.YtajocmkgdjcmkaaDoor

/-
  Draws, by places that are gone; how many numbers are left at the worst.
-/
namespace Go.Proofs.YtajocmkgdjcmkaaDoor
set_option maxRecDepth 100000
open Go.Hu Go.RowKit
section
variable (b : Sb) (ha : Option Addr) (hc : Nat) (da : Option Addr) (dc : Nat)
/-- What is not gone, of the first k. -/
def lvU (W : List Int) (g : Nat → Bool) : Nat → List Int
  | 0 => []
  | k + 1 => if g k = true then lvU W g k else lvU W g k ++ [W.getD k 0]
theorem lv_succ (W : List Int) (g : Nat → Bool) (k : Nat) : lvU W g (k + 1) = if g k = true then lvU W g k else lvU W g k ++ [W.getD k 0] := rfl
def gnU (g : Nat → Bool) (k : Nat) : Nat → Bool := fun i => if i = k then true else g i
def gnL (n : Nat) (g : Nat → Bool) : List Value := (List.range n).map fun k => .bool (g k)
theorem lv_same {W : List Int} {g g' : Nat → Bool} : ∀ {k : Nat}, (∀ i, i < k → g i = g' i) → lvU W g k = lvU W g' k
  | 0, _ => rfl
  | k + 1, h => by
    unfold lvU
    rw [h k (by omega), lv_same (fun i hi => h i (by omega))]
theorem lv_none (W : List Int) : ∀ {k : Nat}, k ≤ W.length → lvU W (fun _ => false) k = W.take k
  | 0, _ => by simp [lvU]
  | k + 1, h => by
    have hk : W[k]? = some (W.getD k 0) := by rw [List.getD_eq_getElem?_getD, List.getElem?_eq_getElem (by omega)]; rfl
    unfold lvU
    rw [if_neg (by decide), lv_none W (by omega), take_at hk]
theorem lv_mark {W : List Int} {g : Nat → Bool} {k : Nat} (hg : g k = false) : ∀ {n : Nat}, k < n → ∃ r, lvU W g n = lvU W g k ++ W.getD k 0 :: r ∧ lvU W (gnU g k) n = lvU W g k ++ r
  | 0, h => by omega
  | n + 1, h => by
    rcases Nat.lt_or_ge k n with hlt | hge
    · obtain ⟨r, h1, h2⟩ := lv_mark (W := W) hg hlt
      rw [lv_succ, lv_succ, show gnU g k n = g n from if_neg (by omega)]
      split
      · exact ⟨r, h1, h2⟩
      · exact ⟨r ++ [W.getD n 0], by rw [h1]; simp, by rw [h2]; simp⟩
    · obtain rfl : n = k := by omega
      refine ⟨[], ?_, ?_⟩
      · simp only [lvU]; rw [if_neg (by rw [hg]; decide)]
      · simp only [lvU]; rw [if_pos (show gnU g n n = true from if_pos rfl), List.append_nil]
        exact lv_same (fun i hi => if_neg (by omega))
theorem lv_len {W : List Int} {g : Nat → Bool} : ∀ k, (lvU W g k).length ≤ k
  | 0 => Nat.le_refl 0
  | k + 1 => by
    have := lv_len (W := W) (g := g) k
    unfold lvU; split
    · omega
    · rw [List.length_append]; simp; omega
theorem gnL_at {n k : Nat} {g : Nat → Bool} (h : k < n) : (gnL n g)[((k : Int)).toNat * 1]? = some (.bool (g k)) := by
  unfold gnL; rw [Int.toNat_natCast, Nat.mul_one, List.getElem?_map, List.getElem?_range h]; rfl
theorem gnL_set {n k : Nat} {g : Nat → Bool} (h : k < n) : (gnL n g).set ((k : Int)).toNat (.bool true) = gnL n (gnU g k) := by
  rw [Int.toNat_natCast]
  apply List.ext_getElem?
  intro i
  unfold gnL
  rw [List.getElem?_set, List.length_map, List.length_range, List.getElem?_map, List.getElem?_map]
  by_cases e : k = i
  · subst e; rw [if_pos rfl, if_pos h, List.getElem?_range h]; simp [gnU]
  · rw [if_neg e]
    by_cases hi : i < n
    · rw [List.getElem?_range hi]; simp [gnU, Ne.symm e]
    · rw [List.getElem?_eq_none (by simpa using hi)]; rfl
theorem gnL_none (n : Nat) : gnL n (fun _ => false) = List.replicate n (.bool false) := by
  unfold gnL
  apply List.ext_getElem?
  intro i
  simp only [List.getElem?_map, List.getElem?_replicate]
  split
  · next h => rw [List.getElem?_range h]; rfl
  · next h => rw [List.getElem?_eq_none (by simpa using h)]; rfl
set_option maxHeartbeats 8000000 in
theorem wonF (hb : Good b) (s : Int) (hs : 0 ≤ s ∧ s ≤ 100000) (w : World) (hH : Hos w ha hc b.hs) : Ct Tryd.prog 37 #[.agg (sbL b ha hc da dc).toArray, iv s] w (fun u w' => ∃ i, LsR (ord b s) u i ∧ St no w w' (upd eL 0 i) []) := by
  refine fn_intro (args := [.agg (sbL b ha hc da dc).toArray, iv s]) Tryd.func37 rfl rfl (by kernel_rfl) ?_
  have S := St.start no w
  have hO := hb.own
  have h60 := hb.a60
  have hn6 := hb.n6
  refine W.seq (W.region S ?_)
  refine AS.cons (sp_boxa 2 rfl (fun b2 => ?_))
  refine AS.cons (sp_asg rfl ?_)
  refine AS.nil ?_
  intro _ S
  refine W.seq (W.region S ?_)
  refine AS.cons (sp_bsS0 901 sl_26_3_1 (fun b14 => ?_))
  refine AS.cons (sp_asg rfl ?_)
  refine AS.nil ?_
  intro _ S
  refine W.seq (W.seq (W.region S ?_))
  refine AS.cons (sp_asg rfl ?_)
  refine AS.nil ?_
  intro _ S
  refine W.block ?_
  refine W.loopS S [5, 6, 7, 15, 16, 17, 18, 19, 20, 21, 22, 23, 24, 25, 26, 27, 28, 29, 30, 31, 32] [31, 32, 901] (fun (z : Nat × Value) => [(6, iv z.1), (5, z.2)]) (fun z => [(901, slc 3 1 z.2 (rowU b z.1).length ((rowU b z.1).map iv))]) (fun z => z.1 ≤ b.hs.length ∧ ∃ a c, z.2 = .slice a (rowU b z.1).length c) (fun z => b.hs.length - z.1) (0, _) ⟨by omega, _, 0, rfl⟩ ⟨rfl, rfl, trivial⟩ ⟨rfl, trivial⟩ ?_
  rintro ⟨j, v⟩ σ M w1 ⟨hj, a, c, hva⟩ S
  replace hj : j ≤ b.hs.length := hj
  replace hva : v = .slice a (rowU b j).length c := hva
  subst hva
  refine W.seq (W.seq (W.region S ?_))
  refine AS.cons (sp_move (v := .int _ _) rfl ?_)
  refine AS.cons (sp_fa rfl fo_28_1_3 ?_)
  refine AS.cons (sp_ld 2 rfl rfl sc_23 rfl ?_)
  refine AS.cons (sp_len rfl sl_23_75_3 ?_)
  refine AS.cons (sp_lss rfl rfl ?_)
  refine AS.nil ?_
  intro _ S
  refine W.condd rfl (fun c19 => ?_) (fun c19 => ?_)
  · skip
    have hlt : j < b.hs.length := by omega
    have hof := hb.of j
    have hrl := rowU_len hb j
    have hmo : totU b (j + 1) ≤ allN b := hb.mono (show j + 1 ≤ b.hs.length from hlt)
    have htu := hb.up j
    simp only [totU] at hmo
    refine W.skip ?_
    refine W.seq (W.block ?_)
    refine W.seq (W.region S ?_)
    refine AS.cons (sp_ldw 2 rfl rfl ag_28_9 ?_)
    refine AS.cons (sp_move (v := .int _ _) rfl ?_)
    refine AS.cons (sp_call [] rfl rfl cf_46 (fun F w _ S => heldF _ _ _ _ _ (by assumption) _ (by assumption) w (hH.ext S.mod)) ?_)
    refine AS.cons (sp_asg (v := .int _ _) rfl ?_)
    refine AS.nil ?_
    intro _ S
    refine W.block ?_
    refine W.loopS S [5, 7, 25, 26, 27, 28, 29, 30, 31, 32] [31, 32, 901] (fun (z : Nat × Value) => [(7, iv ((ofK b j) - (z.1 : Int))), (5, z.2)]) (fun z => [(901, slc 3 1 z.2 (rowU b j ++ List.replicate z.1 (j : Int)).length ((rowU b j ++ List.replicate z.1 (j : Int)).map iv))]) (fun z => z.1 ≤ (ofK b j).toNat ∧ ∃ a c, z.2 = .slice a (rowU b j ++ List.replicate z.1 (j : Int)).length c) (fun z => (ofK b j).toNat - z.1) (0, .slice a (rowU b j).length c) ⟨Nat.zero_le _, a, c, by simp⟩ ⟨by show iv (ofK b j) = iv (ofK b j - ((0 : Nat) : Int)); congr 1; omega, rfl, trivial⟩ ⟨by show slc 3 1 _ (rowU b j).length _ = _; simp, trivial⟩ ?_
    rintro ⟨n, v⟩ σ2 M2 w2 ⟨hn, a2, c2, hva2⟩ S
    replace hn : n ≤ (ofK b j).toNat := hn
    replace hva2 : v = .slice a2 (rowU b j ++ List.replicate n (j : Int)).length c2 := hva2
    subst hva2
    have hln : (rowU b j ++ List.replicate n (j : Int)).length ≤ 1000 := by simp only [List.length_append, List.length_replicate]; omega
    have hsn : rowU b j ++ List.replicate (n + 1) (j : Int) = (rowU b j ++ List.replicate n (j : Int)) ++ [(j : Int)] := by rw [List.replicate_succ', List.append_assoc]
    refine W.seq (W.seq (W.region S ?_))
    refine AS.cons (sp_move (v := .int _ _) rfl ?_)
    refine AS.cons (sp_gtr rfl rfl ?_)
    refine AS.nil ?_
    intro _ S
    refine W.condd rfl (fun c26 => ?_) (fun c26 => ?_)
    · skip
      replace c26 : ofK b j - (n : Int) > 0 := c26
      have hlt2 : n < (ofK b j).toNat := by omega
      refine W.skip ?_
      refine W.seq (W.block ?_)
      refine W.region S ?_
      refine AS.cons (sp_move rfl ?_)
      refine AS.cons (sp_move (v := .int _ _) rfl ?_)
      refine AS.cons (sp_bs 31 [.tmp 30] _ sl_26_3_1 zs_3_1 rfl rfl rfl rfl rfl rfl (fun b31 => ?_))
      refine AS.cons (sp_app 901 [31] rfl rfl sl_26_3_1 zs_3_1 rfl (fun F w hF S => rd_pt (S.get ((hF 31 (by simp)).trans rfl)).1 rfl (by omega) (by omega)) rfl (by first | omega | (simp only [] at *; omega)) (fun a32 c32 => ?_))
      refine AS.cons (sp_asg rfl ?_)
      refine AS.nil ?_
      intro _ S
      refine W.region S ?_
      refine AS.cons (sp_move (v := .int _ _) rfl ?_)
      refine AS.cons (sp_sub rfl rfl (by first | omega | (simp only [decide_eq_true_eq, decide_eq_false_iff_not] at *; omega)) ?_)
      refine AS.cons (sp_asg (v := .int _ _) rfl ?_)
      refine AS.nil ?_
      intro _ S
      exact ⟨(n + 1, .slice a32 ((rowU b j ++ List.replicate n (j : Int)).length + 1) c32), _, ⟨by show n + 1 ≤ _; omega, a32, c32, by show _ = Value.slice a32 (rowU b j ++ List.replicate (n + 1) (j : Int)).length c32; rw [hsn, List.length_append (bs := [(j : Int)])]; rfl⟩, by show _ - (n + 1) < _ - n; omega, ⟨by show iv (ofK b j - (n : Int) - 1) = iv (ofK b j - ((n + 1 : Nat) : Int)); congr 1; omega, rfl, trivial⟩, ⟨by show slc 3 1 _ _ _ = slc 3 1 _ (rowU b j ++ List.replicate (n + 1) (j : Int)).length _; rw [hsn, List.length_append (bs := [(j : Int)]), List.map_append (l₂ := [(j : Int)])]; rfl, trivial⟩, by repeat (first | exact Agr.refl _ _ | exact Agr.msk _ _ _ | refine Agr.upd ?_ _ rfl | refine Agr.upds ?_ rfl | refine Agr.mskIn ?_ rfl), by repeat (first | exact Agr.refl _ _ | exact Agr.msk _ _ _ | refine Agr.upd ?_ _ rfl | refine Agr.upds ?_ rfl | refine Agr.mskIn ?_ rfl), rfl, S⟩
    · skip
      replace c26 : ¬ ofK b j - (n : Int) > 0 := c26
      obtain rfl : n = (ofK b j).toNat := by omega
      refine W.exit ?_
      refine W.region S ?_
      refine AS.cons (sp_move (v := .int _ _) rfl ?_)
      refine AS.cons (sp_add rfl rfl (by first | omega | (simp only [decide_eq_true_eq, decide_eq_false_iff_not] at *; omega)) ?_)
      refine AS.cons (sp_asg (v := .int _ _) rfl ?_)
      refine AS.nil ?_
      intro _ S
      exact ⟨(j + 1, .slice a2 (rowU b (j + 1)).length c2), _, ⟨hlt, a2, c2, rfl⟩, by show _ - (j + 1) < _ - j; omega, ⟨by simp [upd], rfl, trivial⟩, ⟨rfl, trivial⟩, by repeat (first | exact Agr.refl _ _ | exact Agr.msk _ _ _ | refine Agr.upd ?_ _ rfl | refine Agr.upds ?_ rfl | refine Agr.mskIn ?_ rfl), by repeat (first | exact Agr.refl _ _ | exact Agr.msk _ _ _ | refine Agr.upd ?_ _ rfl | refine Agr.upds ?_ rfl | refine Agr.mskIn ?_ rfl), rfl, S⟩
  · skip
    obtain rfl : j = b.hs.length := by omega
    have hWl := rowF_len hb
    obtain ⟨Wn, hWn⟩ : ∃ Wn, Wn = (rowU b b.hs.length).length := ⟨_, rfl⟩
    have hWf : (rowF b).length = Wn := by rw [hWn]; rfl
    have hW60 : Wn ≤ 60 := by omega
    have hWe : (rowU b b.hs.length).map iv = (rowF b).map iv := rfl
    rw [← hWn, hWe] at S
    rw [← hWn]
    refine W.exit ?_
    refine W.seq (W.region S ?_)
    refine AS.cons (sp_move rfl ?_)
    refine AS.cons (sp_len rfl sl_26_3_1 ?_)
    refine AS.cons (sp_mk1 35 sl_111_4_1 zs_4_1 zv_4 rfl (n := Wn) rfl rfl (by omega) (fun b35 => ?_))
    refine AS.cons (sp_asg rfl ?_)
    refine AS.nil ?_
    intro _ S
    have S := S.weak (k := 35) (i := slc 4 1 (.slice (some ⟨b35, 0, none⟩) Wn Wn) Wn (gnL Wn (fun _ => false))) (fun f hf => by
      rw [gnL_none]
      refine slc_of_pt hf (by simp) (Nat.le_refl _) (by simp) ?_
      rw [Nat.mul_one, List.take_of_length_le (by simp)])
    refine W.seq (W.region S ?_)
    refine AS.cons (sp_bsS0 902 sl_26_3_1 (fun b36 => ?_))
    refine AS.cons (sp_move (v := .int _ _) rfl ?_)
    refine AS.cons (sp_asg rfl ?_)
    refine AS.cons (sp_asg (v := .int _ _) rfl ?_)
    refine AS.nil ?_
    intro _ S
    refine W.seq (W.seq (W.region S ?_))
    refine AS.cons (sp_move rfl ?_)
    refine AS.cons (sp_len rfl sl_26_3_1 ?_)
    refine AS.cons (sp_asg (v := .int _ _) rfl ?_)
    refine AS.nil ?_
    intro _ S
    refine W.block ?_
    refine W.loopS S [9, 10, 11, 12, 13, 40, 41, 42, 43, 44, 45, 46, 47, 48, 49, 50, 51, 52, 53, 54, 55, 56, 57, 58, 59, 60, 61, 62, 63, 64, 65, 66, 67, 68, 69, 70, 71, 72, 73, 74] [35, 70, 71, 902] (fun (z : (Nat → Bool) × List Int × Nat × Nat × Int × Value) => [(10, iv z.2.2.2.2.1), (11, iv z.2.2.1), (9, z.2.2.2.2.2)]) (fun z => [(35, slc 4 1 (.slice (some ⟨b35, 0, none⟩) Wn Wn) Wn (gnL Wn z.1)), (902, slc 3 1 z.2.2.2.2.2 z.2.2.2.1 (z.2.1.map iv))]) (fun z => Run b s (lvU (rowF b) z.1 Wn) z.2.2.2.2.1 z.2.1 ∧ (lvU (rowF b) z.1 Wn).length = z.2.2.1 ∧ z.2.1.length = z.2.2.2.1 ∧ z.2.2.1 + z.2.2.2.1 ≤ 60 ∧ (0 ≤ z.2.2.2.2.1 ∧ z.2.2.2.2.1 ≤ 100000) ∧ ∃ a c, z.2.2.2.2.2 = .slice a z.2.2.2.1 c) (fun z => z.2.2.1) ((fun _ => false), [], Wn, 0, s, _) ⟨by show Run b s (lvU (rowF b) (fun _ => false) Wn) s []; rw [lv_none _ (by omega), ← hWf, List.take_length]; exact Run.start b s, by show (lvU (rowF b) (fun _ => false) Wn).length = Wn; rw [lv_none _ (by omega), List.length_take]; omega, rfl, by show Wn + 0 ≤ 60; omega, hs, _, 0, rfl⟩ ⟨rfl, rfl, rfl, trivial⟩ ⟨rfl, rfl, trivial⟩ ?_
    rintro ⟨g, out, rl, ol, x, ov⟩ σ3 M3 w3 ⟨hrun, hrl2, hol, hsum, hx, oa, oc, hov⟩ S
    replace hrun : Run b s (lvU (rowF b) g Wn) x out := hrun
    replace hrl2 : (lvU (rowF b) g Wn).length = rl := hrl2
    replace hol : out.length = ol := hol
    replace hsum : rl + ol ≤ 60 := hsum
    replace hx : 0 ≤ x ∧ x ≤ 100000 := hx
    replace hov : ov = .slice oa ol oc := hov
    subst hov
    refine W.seq (W.seq (W.region S ?_))
    refine AS.cons (sp_move (v := .int _ _) rfl ?_)
    refine AS.cons (sp_gtr rfl rfl ?_)
    refine AS.nil ?_
    intro _ S
    refine W.condd rfl (fun c41 => ?_) (fun c41 => ?_)
    · skip
      replace c41 : (rl : Int) > 0 := c41
      have h0 : 0 < rl := by omega
      have hrb := ran_bd x
      have hkb : 0 ≤ (75 * x + 74) % 65537 % (rl : Int) ∧ (75 * x + 74) % 65537 % (rl : Int) < rl := ⟨Int.emod_nonneg _ (by omega), Int.emod_lt_of_pos _ (by omega)⟩
      have hpk : ((75 * x + 74) % 65537 % (rl : Int)).toNat = pk (lvU (rowF b) g Wn) x := by unfold pk ran; rw [hrl2]
      obtain ⟨p, hp⟩ : ∃ p, p = pk (lvU (rowF b) g Wn) x := ⟨_, rfl⟩
      have hpe : (75 * x + 74) % 65537 % (rl : Int) = (p : Int) := by omega
      have hpl : p < rl := by omega
      refine W.skip ?_
      refine W.seq (W.block ?_)
      refine W.seq (W.region S ?_)
      refine AS.cons (sp_move (v := .int _ _) rfl ?_)
      refine AS.cons (sp_mul rfl rfl (mulB (by first | omega | (simp only [decide_eq_true_eq, decide_eq_false_iff_not] at *; omega)) (by first | omega | (simp only [] at *; omega))) ?_)
      refine AS.cons (sp_add rfl rfl (by first | omega | (simp only [] at *; omega)) ?_)
      refine AS.cons (sp_rem rfl rfl (by first | omega | (simp only [] at *; omega)) (by first | omega | (simp only [decide_eq_true_eq, decide_eq_false_iff_not] at *; omega)) ?_)
      refine AS.cons (sp_asg (v := .int _ _) rfl ?_)
      refine AS.nil ?_
      intro _ S
      refine W.seq (W.region S ?_)
      refine AS.cons (sp_move (v := .int _ _) rfl ?_)
      refine AS.cons (sp_move (v := .int _ _) rfl ?_)
      refine AS.cons (sp_rem rfl rfl (by first | omega | (simp only [decide_eq_true_eq, decide_eq_false_iff_not] at *; omega)) (by first | omega | (simp only [decide_eq_true_eq, decide_eq_false_iff_not] at *; omega)) ?_)
      refine AS.cons (sp_asg (v := .int _ _) rfl ?_)
      refine AS.nil ?_
      intro _ S
      refine W.seq (W.region S ?_)
      refine AS.cons (sp_asg rfl ?_)
      refine AS.nil ?_
      intro _ S
      refine W.block ?_
      refine W.loopS S [9, 12, 13, 51, 52, 53, 54, 55, 56, 57, 58, 59, 60, 61, 62, 63, 64, 65, 66, 67, 68, 69, 70, 71, 72, 73, 74] [35, 70, 71, 902] (fun (k : Nat) => [(13, iv k), (12, iv ((p : Int) - ((lvU (rowF b) g k).length : Int))), (9, .slice oa ol oc)]) (fun _ => [(35, slc 4 1 (.slice (some ⟨b35, 0, none⟩) Wn Wn) Wn (gnL Wn g)), (902, slc 3 1 (.slice oa ol oc) ol (out.map iv))]) (fun k => k ≤ Wn ∧ (lvU (rowF b) g k).length ≤ p) (fun k => Wn - k) 0 ⟨by omega, Nat.zero_le _⟩ ⟨rfl, by show iv _ = iv _; rw [← hpe]; congr 1; show _ = _ - ((([] : List Int).length : Nat) : Int); simp, rfl, trivial⟩ ⟨rfl, rfl, trivial⟩ ?_
      rintro k σ4 M4 w4 ⟨hk, hkp⟩ S
      refine W.seq (W.seq (W.region S ?_))
      refine AS.cons (sp_move (v := .int _ _) rfl ?_)
      refine AS.cons (sp_move rfl ?_)
      refine AS.cons (sp_len rfl sl_26_3_1 ?_)
      refine AS.cons (sp_lss rfl rfl ?_)
      refine AS.nil ?_
      intro _ S
      refine W.condd rfl (fun c54 => ?_) (fun c54 => ?_)
      · skip
        have hlt4 : k < Wn := by omega
        have hgk := gnL_at (g := g) hlt4
        have hWk : ((rowF b).map iv)[((k : Int)).toNat * 1]? = some (iv ((rowF b).getD k 0)) := by rw [Int.toNat_natCast, Nat.mul_one, List.getElem?_map, List.getElem?_eq_getElem (by omega), List.getD_eq_getElem?_getD, List.getElem?_eq_getElem (by omega)]; rfl
        refine W.skip ?_
        refine W.seq (W.block ?_)
        refine W.seq (W.seq (W.region S ?_))
        refine AS.cons (sp_move rfl ?_)
        refine AS.cons (sp_move (v := .int _ _) rfl ?_)
        refine AS.cons (sp_iaS 35 rfl rfl rfl sl_111_4_1 (by omega) ?_)
        refine AS.cons (sp_ldS 35 rfl rfl sc_4 hgk (by omega) ?_)
        refine AS.nil ?_
        intro _ S
        refine W.cond rfl (fun c60 => ?_) (fun c60 => ?_)
        · skip
          have hlv : lvU (rowF b) g (k + 1) = lvU (rowF b) g k := by rw [lvU, if_pos c60]
          refine W.exit ?_
          refine W.region S ?_
          refine AS.cons (sp_move (v := .int _ _) rfl ?_)
          refine AS.cons (sp_add rfl rfl (by first | omega | (simp only [decide_eq_true_eq, decide_eq_false_iff_not] at *; omega)) ?_)
          refine AS.cons (sp_asg (v := .int _ _) rfl ?_)
          refine AS.nil ?_
          intro _ S
          exact ⟨k + 1, _, ⟨by omega, by rw [hlv]; first | exact hkp | (rw [List.length_append]; exact hkp2)⟩, by omega, ⟨by simp [upd], by first | (show iv ((p : Int) - ((lvU (rowF b) g k).length : Int)) = iv ((p : Int) - ((lvU (rowF b) g (k + 1)).length : Int)); rw [hlv]; done) | (show iv ((p : Int) - ((lvU (rowF b) g k).length : Int) - 1) = iv ((p : Int) - ((lvU (rowF b) g (k + 1)).length : Int)); rw [hlv, List.length_append]; congr 1; show _ = (p : Int) - (((lvU (rowF b) g k).length + 1 : Nat) : Int); omega), rfl, trivial⟩, ⟨rfl, rfl, trivial⟩, by repeat (first | exact Agr.refl _ _ | exact Agr.msk _ _ _ | refine Agr.upd ?_ _ rfl | refine Agr.upds ?_ rfl | refine Agr.mskIn ?_ rfl), by repeat (first | exact Agr.refl _ _ | exact Agr.msk _ _ _ | refine Agr.upd ?_ _ rfl | refine Agr.upds ?_ rfl | refine Agr.mskIn ?_ rfl), rfl, S⟩
        · skip
          have hlv : lvU (rowF b) g (k + 1) = lvU (rowF b) g k ++ [(rowF b).getD k 0] := by rw [lvU, if_neg (by rw [c60]; decide)]
          refine W.skip ?_
          refine W.seq (W.seq (W.region S ?_))
          refine AS.cons (sp_move (v := .int _ _) rfl ?_)
          refine AS.cons (sp_eql rfl rfl ?_)
          refine AS.nil ?_
          intro _ S
          refine W.condd rfl (fun c62 => ?_) (fun c62 => ?_)
          · skip
            replace c62 : ((p : Int) - ((lvU (rowF b) g k).length : Int) = 0) := c62
            obtain ⟨r, hr1, hr2⟩ := lv_mark (W := rowF b) c60 hlt4
            have hpk2 : (lvU (rowF b) g k).length = p := by omega
            have hget : (lvU (rowF b) g Wn).getD (pk (lvU (rowF b) g Wn) x) 0 = (rowF b).getD k 0 := by rw [← hp, hr1, ← hpk2, List.getD_eq_getElem?_getD, List.getElem?_append_right (Nat.le_refl _), Nat.sub_self]; try rfl
            have hers : (lvU (rowF b) g Wn).eraseIdx (pk (lvU (rowF b) g Wn) x) = lvU (rowF b) (gnU g k) Wn := by rw [← hp, hr2, hr1, ← hpk2, List.eraseIdx_append_of_length_le (Nat.le_refl _), Nat.sub_self]; try rfl
            have hstep := hrun.step (by omega)
            rw [hget, hers] at hstep
            refine W.seq (W.region S ?_)
            refine AS.cons (sp_move rfl ?_)
            refine AS.cons (sp_move (v := .int _ _) rfl ?_)
            refine AS.cons (sp_move rfl ?_)
            refine AS.cons (sp_move rfl ?_)
            refine AS.cons (sp_move (v := .int _ _) rfl ?_)
            refine AS.cons (sp_iaS 901 rfl rfl rfl sl_26_3_1 (by omega) ?_)
            refine AS.cons (sp_ldS 901 rfl rfl sc_3 hWk (by omega) ?_)
            refine AS.cons (sp_bs 70 [.tmp 69] _ sl_26_3_1 zs_3_1 rfl rfl rfl rfl rfl rfl (fun b70 => ?_))
            refine AS.cons (sp_app 902 [70] rfl rfl sl_26_3_1 zs_3_1 rfl (fun F w hF S => rd_pt (S.get ((hF 70 (by simp)).trans rfl)).1 rfl (by omega) (by omega)) rfl (by first | omega | (simp only [decide_eq_true_eq, decide_eq_false_iff_not] at *; omega)) (fun a71 c71 => ?_))
            refine AS.cons (sp_asg rfl ?_)
            refine AS.cons (sp_iaS 35 rfl rfl rfl sl_111_4_1 (by omega) ?_)
            refine AS.cons (sp_stS 35 rfl rfl rfl rfl rfl sz_4_1 (by omega) ?_)
            refine AS.nil ?_
            intro _ S
            refine W.exit ?_
            refine W.region S ?_
            refine AS.cons (sp_move (v := .int _ _) rfl ?_)
            refine AS.cons (sp_sub rfl rfl (by first | omega | (simp only [] at *; omega)) ?_)
            refine AS.cons (sp_asg (v := .int _ _) rfl ?_)
            refine AS.nil ?_
            intro _ S
            exact ⟨(gnU g k, out ++ [(rowF b).getD k 0], rl - 1, ol + 1, ran x, .slice a71 (ol + 1) c71), _, ⟨hstep, by show (lvU (rowF b) (gnU g k) Wn).length = rl - 1; rw [hr2]; rw [hr1] at hrl2; simp only [List.length_append, List.length_cons] at hrl2 ⊢; omega, by show (out ++ [_]).length = ol + 1; rw [List.length_append, hol]; rfl, by show rl - 1 + (ol + 1) ≤ 60; omega, ⟨hrb.1, by show ran x ≤ 100000; omega⟩, a71, c71, rfl⟩, by show rl - 1 < rl; omega, ⟨rfl, by show iv ((rl : Int) - 1) = iv ((rl - 1 : Nat) : Int); congr 1; omega, rfl, trivial⟩, ⟨by show slc 4 1 (.slice (some ⟨b35, 0, none⟩) Wn Wn) Wn ((gnL Wn g).set ((k : Int)).toNat (.bool true)) = slc 4 1 (.slice (some ⟨b35, 0, none⟩) Wn Wn) Wn (gnL Wn (gnU g k)); rw [gnL_set hlt4], by show slc 3 1 _ _ _ = slc 3 1 _ _ ((out ++ [(rowF b).getD k 0]).map iv); rw [List.map_append]; rfl, trivial⟩, by repeat (first | exact Agr.refl _ _ | exact Agr.msk _ _ _ | refine Agr.upd ?_ _ rfl | refine Agr.upds ?_ rfl | refine Agr.mskIn ?_ rfl), by repeat (first | exact Agr.refl _ _ | exact Agr.msk _ _ _ | refine Agr.upd ?_ _ rfl | refine Agr.upds ?_ rfl | refine Agr.mskIn ?_ rfl), rfl, S⟩
          · skip
            replace c62 : ¬ ((p : Int) - ((lvU (rowF b) g k).length : Int) = 0) := c62
            have hkp2 : (lvU (rowF b) g k).length + 1 ≤ p := by omega
            refine W.skip ?_
            refine W.region S ?_
            refine AS.cons (sp_move (v := .int _ _) rfl ?_)
            refine AS.cons (sp_sub rfl rfl (by first | omega | (simp only [decide_eq_true_eq, decide_eq_false_iff_not] at *; omega)) ?_)
            refine AS.cons (sp_asg (v := .int _ _) rfl ?_)
            refine AS.nil ?_
            intro _ S
            refine W.region S ?_
            refine AS.cons (sp_move (v := .int _ _) rfl ?_)
            refine AS.cons (sp_add rfl rfl (by first | omega | (simp only [decide_eq_true_eq, decide_eq_false_iff_not] at *; omega)) ?_)
            refine AS.cons (sp_asg (v := .int _ _) rfl ?_)
            refine AS.nil ?_
            intro _ S
            exact ⟨k + 1, _, ⟨by omega, by rw [hlv]; first | exact hkp | (rw [List.length_append]; exact hkp2)⟩, by omega, ⟨by simp [upd], by first | (show iv ((p : Int) - ((lvU (rowF b) g k).length : Int)) = iv ((p : Int) - ((lvU (rowF b) g (k + 1)).length : Int)); rw [hlv]; done) | (show iv ((p : Int) - ((lvU (rowF b) g k).length : Int) - 1) = iv ((p : Int) - ((lvU (rowF b) g (k + 1)).length : Int)); rw [hlv, List.length_append]; congr 1; show _ = (p : Int) - (((lvU (rowF b) g k).length + 1 : Nat) : Int); omega), rfl, trivial⟩, ⟨rfl, rfl, trivial⟩, by repeat (first | exact Agr.refl _ _ | exact Agr.msk _ _ _ | refine Agr.upd ?_ _ rfl | refine Agr.upds ?_ rfl | refine Agr.mskIn ?_ rfl), by repeat (first | exact Agr.refl _ _ | exact Agr.msk _ _ _ | refine Agr.upd ?_ _ rfl | refine Agr.upds ?_ rfl | refine Agr.mskIn ?_ rfl), rfl, S⟩
      · exact absurd hkp (by have hkw : k = Wn := (by omega); rw [hkw]; omega)
    · skip
      replace c41 : ¬ (rl : Int) > 0 := c41
      have hfin := hrun.done (by omega)
      refine W.exit ?_
      refine W.seq (W.region S ?_)
      refine AS.cons (sp_move rfl ?_)
      refine AS.cons (sp_asg rfl ?_)
      refine AS.nil ?_
      intro _ S
      refine W.ret ?_
      exact ret1 rfl rfl S fun w' S' => ⟨_, (show LsR (ord b s) (.slice oa ol oc) (slc 3 1 (.slice oa ol oc) ol (out.map iv)) from by rw [← hfin]; exact LsR.of hol rfl (St.slc_le S' 902 rfl)), S'.only 902⟩
theorem mw_bd (b : Sb) (l : List Int) (d : Nat) : 0 ≤ wstN b l d ∧ wstN b l d ≤ l.length := wst_bd b l d b.hs.length
/-- How often each holder won a draw, by the first i numbers. -/
def mnU (b : Sb) (l : List Int) (d i : Nat) : List Int := (List.range b.hs.length).map fun (k : Nat) => lftN b (l.take i) d (k : Int)
theorem mnU_at {b : Sb} {l : List Int} {d i k : Nat} (hk : k < b.hs.length) : (mnU b l d i)[k]? = some (lftN b (l.take i) d (k : Int)) := by
  unfold mnU; rw [List.getElem?_map, List.getElem?_range hk]; rfl
theorem mnU_len (b : Sb) (l : List Int) (d i : Nat) : (mnU b l d i).length = b.hs.length := by unfold mnU; simp
theorem mnU_zero (b : Sb) (l : List Int) (d : Nat) : mnU b l d 0 = List.replicate b.hs.length 0 := by
  unfold mnU
  apply List.ext_getElem?
  intro i
  simp only [List.getElem?_map, List.getElem?_replicate]
  split
  · next h => rw [List.getElem?_range h]; simp [lftN]
  · next h => rw [List.getElem?_eq_none (by simpa using h)]; rfl
theorem mnU_set {b : Sb} {l : List Int} {d i yn : Nat} {s : Int} (hs : l[i]? = some s) (hy : (ord b s)[d]? = some (yn : Int)) : (mnU b l d i).set yn (lftN b (l.take i) d (yn : Int) + 1) = mnU b l d (i + 1) := by
  apply List.ext_getElem?
  intro k
  rw [List.getElem?_set, mnU_len]
  by_cases hk : k < b.hs.length
  · rw [mnU_at (i := i + 1) hk, lftN_succ hs hy]
    by_cases e : yn = k
    · subst e; simp [hk]
    · rw [if_neg e, mnU_at hk, if_neg (by omega), Int.add_zero]
  · rw [List.getElem?_eq_none (l := mnU b l d (i + 1)) (by rw [mnU_len]; omega)]
    split
    · next e => subst e; rw [if_neg hk]
    · rw [List.getElem?_eq_none (by rw [mnU_len]; omega)]
set_option maxHeartbeats 4000000 in
theorem splitF (hb : Good b) (la : Option Addr) (lc : Nat) (l : List Int) (hln : l.length ≤ 1000) (hlx : ∀ s ∈ l, 0 ≤ s ∧ s ≤ 100000) (d : Nat) (hd : (d : Int) < allN b) (w : World) (hH : Hos w ha hc b.hs) (hL : Ints w la lc l) : Ct Tryd.prog 56 #[.agg (sbL b ha hc da dc).toArray, .slice la l.length lc, iv d] w (fun u w' => u = iv (wstN b l d) ∧ Ext w w') := by
  refine fn_intro (args := [.agg (sbL b ha hc da dc).toArray, .slice la l.length lc, iv d]) Tryd.func56 rfl rfl (by kernel_rfl) ?_
  have S := St.start no w
  have hn6 := hb.n6
  have h1 := hb.a1
  have h60 := hb.a60
  have hol : ∀ s, ((ord b s).length : Int) = allN b := fun s => by rw [ord_len]; exact rowF_len hb
  refine W.seq (W.region S ?_)
  refine AS.cons (sp_boxa 3 rfl (fun b3 => ?_))
  refine AS.cons (sp_asg rfl ?_)
  refine AS.nil ?_
  intro _ S
  refine W.seq (W.region S ?_)
  refine AS.cons (sp_fa rfl fo_28_1_3 ?_)
  refine AS.cons (sp_ld 3 rfl rfl sc_23 rfl ?_)
  refine AS.cons (sp_len rfl sl_23_75_3 ?_)
  refine AS.cons (sp_mk1 14 sl_26_3_1 zs_3_1 zv_3 rfl rfl rfl (by omega) (fun b14 => ?_))
  refine AS.cons (sp_asg rfl ?_)
  refine AS.nil ?_
  intro _ S
  have S := S.weak (k := 14) (i := slc 3 1 (.slice (some ⟨b14, 0, none⟩) b.hs.length b.hs.length) b.hs.length ((mnU b l d 0).map iv)) (fun f hf => by
    rw [mnU_zero]
    refine slc_of_pt hf (by simp) (Nat.le_refl _) (by simp) ?_
    rw [List.map_replicate, Nat.mul_one, List.take_of_length_le (by simp)])
  refine W.seq (W.region S ?_)
  refine AS.cons (sp_asg rfl ?_)
  refine AS.nil ?_
  intro _ S
  refine W.seq (W.seq (W.region S ?_))
  refine AS.cons (sp_asg rfl ?_)
  refine AS.nil ?_
  intro _ S
  refine W.block ?_
  refine W.loopS S [8, 9, 10, 15, 16, 17, 18, 19, 20, 21, 22, 23, 24, 25, 26, 27, 28, 29, 30, 31, 32, 33, 34, 35, 36, 37, 38, 39, 40, 41] [14, 26] (fun (i : Nat) => [(9, iv i), (8, iv (wstN b (l.take i) d))]) (fun i => [(14, slc 3 1 (.slice (some ⟨b14, 0, none⟩) b.hs.length b.hs.length) b.hs.length ((mnU b l d i).map iv))]) (fun i => i ≤ l.length) (fun i => l.length - i) 0 (by omega) ⟨rfl, by show iv 0 = iv _; congr 1; have := mw_bd b (l.take 0) d; simp only [List.take_zero, List.length_nil] at this ⊢; omega, trivial⟩ ⟨rfl, trivial⟩ ?_
  rintro i σ M w1 hi S
  have hwb := mw_bd b (l.take i) d
  refine W.seq (W.seq (W.region S ?_))
  refine AS.cons (sp_move (v := .int _ _) rfl ?_)
  refine AS.cons (sp_move rfl ?_)
  refine AS.cons (sp_len rfl sl_26_3_1 ?_)
  refine AS.cons (sp_lss rfl rfl ?_)
  refine AS.nil ?_
  intro _ S
  refine W.condd rfl (fun c18 => ?_) (fun c18 => ?_)
  · skip
    have hlt : i < l.length := by omega
    obtain ⟨s, hx⟩ := get_some hlt
    obtain ⟨hs0, hs1⟩ := hlx s (List.mem_of_getElem? hx)
    have hos := hol s
    obtain ⟨y, hy⟩ := get_some (l := ord b s) (j := d) (by omega)
    have hym := ord_mem (List.mem_of_getElem? hy)
    obtain ⟨yn, rfl⟩ : ∃ yn : Nat, y = yn := ⟨y.toNat, by omega⟩
    have hyn : yn < b.hs.length := by omega
    have hlb := lftN_le b (l.take i) d (yn : Int)
    have htl : (l.take i).length ≤ 1000 := by rw [List.length_take]; omega
    have hst := wst_step hx hy hyn
    have hmy : ((mnU b l d i).map iv)[((yn : Int)).toNat * 1]? = some (iv (lftN b (l.take i) d (yn : Int))) := by rw [Nat.mul_one, List.getElem?_map, Int.toNat_natCast, mnU_at hyn]; rfl
    have hmy2 : ((mnU b l d (i + 1)).map iv)[((yn : Int)).toNat * 1]? = some (iv (lftN b (l.take i) d (yn : Int) + 1)) := by rw [Nat.mul_one, List.getElem?_map, Int.toNat_natCast, mnU_at hyn, lftN_succ hx hy, if_pos rfl]; rfl
    have hms := mnU_set hx hy
    refine W.skip ?_
    refine W.seq (W.block ?_)
    refine W.seq (W.draw S mixed (fun i => ([KD.q [3], KD.q [], KD.q [], KD.q [], KD.q [], KD.e [] [26], KD.q [], KD.q [26], KD.q [26], KD.q []] : List KD)[i]?) [7] [0, 1, 2, 3, 4, 5, 6, 7, 8, 9] (by kernel_rfl) ?_)
    refine AW.cons rfl rfl (sp_ldw 3 rfl rfl ag_28_9 ?_)
    refine AW.cons rfl rfl (sp_move rfl ?_)
    refine AW.cons rfl rfl (sp_move (v := .int _ _) rfl ?_)
    refine AW.cons rfl rfl (sp_iaR hL rfl rfl sl_26_3_1 (by first | omega | (simp only [decide_eq_true_eq, decide_eq_false_iff_not] at *; omega)) ?_)
    refine AW.cons rfl rfl (sp_ldR 0 hL (fun _ h => h) rfl sc_3 (ints_at hx) (by first | omega | (simp only [decide_eq_true_eq, decide_eq_false_iff_not] at *; omega)) ?_)
    refine AW.cons rfl rfl (sp_call1 26 [] _ rfl rfl cf_37 (fun F w _ S => wonF _ _ _ _ _ (by assumption) _ (by omega) w (hH.ext S.mod)) ?_ (fun _ => LsR.ne _))
    rintro v26 i26 ⟨⟨a26, c26, rfl, h26⟩, rfl⟩
    refine AW.cons rfl rfl (sp_move (v := .int _ _) rfl ?_)
    refine AW.cons rfl rfl (sp_iaS 26 rfl rfl rfl sl_26_3_1 (by omega) ?_)
    refine AW.cons rfl rfl (sp_ldS 26 rfl rfl sc_3 (v := iv (yn : Int)) (by simp [hy]) (by omega) ?_)
    refine AW.cons rfl rfl (sp_asg (v := .int _ _) rfl ?_)
    refine AW.nil ?_
    intro _ S
    refine W.seq (W.region S ?_)
    refine AS.cons (sp_move rfl ?_)
    refine AS.cons (sp_move (v := .int _ _) rfl ?_)
    refine AS.cons (sp_iaS 14 rfl rfl rfl sl_26_3_1 (by omega) ?_)
    refine AS.cons (sp_ldS 14 rfl rfl sc_3 hmy (by omega) ?_)
    refine AS.cons (sp_add rfl rfl (by first | omega | (simp only [decide_eq_true_eq, decide_eq_false_iff_not] at *; omega)) ?_)
    refine AS.cons (sp_iaS 14 rfl rfl rfl sl_26_3_1 (by omega) ?_)
    refine AS.cons (sp_stS 14 rfl rfl rfl rfl rfl sz_3_1 (by omega) ?_)
    refine AS.nil ?_
    intro _ S
    have S := S.weak (k := 14) (i := slc 3 1 (.slice (some ⟨b14, 0, none⟩) b.hs.length b.hs.length) b.hs.length ((mnU b l d (i + 1)).map iv)) (fun f hf => by rw [← hms, List.map_set]; exact hf)
    refine W.region S ?_
    refine AS.cons (sp_move (v := .int _ _) rfl ?_)
    refine AS.cons (sp_move rfl ?_)
    refine AS.cons (sp_move (v := .int _ _) rfl ?_)
    refine AS.cons (sp_iaS 14 rfl rfl rfl sl_26_3_1 (by omega) ?_)
    refine AS.cons (sp_ldS 14 rfl rfl sc_3 hmy2 (by omega) ?_)
    refine AS.cons (sp_max rfl rfl ?_)
    refine AS.cons (sp_asg (v := .int _ _) rfl ?_)
    refine AS.nil ?_
    intro _ S
    refine W.region S ?_
    refine AS.cons (sp_move (v := .int _ _) rfl ?_)
    refine AS.cons (sp_add rfl rfl (by first | omega | (simp only [decide_eq_true_eq, decide_eq_false_iff_not] at *; omega)) ?_)
    refine AS.cons (sp_asg (v := .int _ _) rfl ?_)
    refine AS.nil ?_
    intro _ S
    exact ⟨i + 1, _, by omega, by omega, ⟨by simp [upd], by rw [hst]; rfl, trivial⟩, ⟨rfl, trivial⟩, by repeat (first | exact Agr.refl _ _ | exact Agr.msk _ _ _ | refine Agr.upd ?_ _ rfl | refine Agr.upds ?_ rfl | refine Agr.mskIn ?_ rfl), by repeat (first | exact Agr.refl _ _ | exact Agr.msk _ _ _ | refine Agr.upd ?_ _ rfl | refine Agr.upds ?_ rfl | refine Agr.mskIn ?_ rfl), rfl, S⟩
  · skip
    obtain rfl : i = l.length := by omega
    refine W.exit ?_
    refine W.seq (W.region S ?_)
    refine AS.cons (sp_move (v := .int _ _) rfl ?_)
    refine AS.cons (sp_asg (v := .int _ _) rfl ?_)
    refine AS.nil ?_
    intro _ S
    refine W.ret ?_
    exact ret1 rfl rfl S fun w' S' => ⟨by show iv (wstN b (l.take l.length) d) = _; rw [List.take_length], S'.mod⟩
end
end Go.Proofs.YtajocmkgdjcmkaaDoor

/-
  What is returned for a sound book; the laws of the order and of the lot that is drawn again.
-/
namespace Go.Proofs.YtajocmkgdjcmkaaDoor
set_option maxRecDepth 100000
open Go.Hu Go.RowKit
section
variable (b : Sb) (ha : Option Addr) (hc : Nat) (da : Option Addr) (dc : Nat)
theorem LsE.ne (l : List Int) (e : Int) : ∃ u i, LsE l e u i := ⟨_, _, none, l.length, Nat.le_refl _, rfl, rfl⟩
theorem shsL_len (b : Sb) : (shsL b).length = b.hs.length := by unfold shsL; simp
theorem shsL_at {b : Sb} {k : Nat} (hk : k < b.hs.length) : (shsL b)[k]? = some (ofK b k) := by unfold shsL; rw [List.getElem?_map, List.getElem?_range hk]; rfl
theorem ord_all {b : Sb} (hb : Good b) (s : Int) : ((ord b s).length : Int) = allN b := by rw [ord_len]; exact rowF_len hb
theorem sharesG (hb : Good b) (w : World) (hK : Kinds w) (hH : Hos w ha hc b.hs) (hD : Ints w da dc b.dr) : Ct Tryd.prog 19 #[.agg (sbL b ha hc da dc).toArray] w (fun u w' => ∃ i, LsE (shsL b) 0 u i ∧ St no w w' (upd eL 0 i) []) := by
  have h := sharesP b ha hc da dc w hK hH hD
  rw [show shsV b = shsL b from if_pos (okS_good.2 hb), chk_ok (okS_good.2 hb)] at h
  exact h
theorem orderG (hb : Good b) (s : Int) (hs : 0 ≤ s ∧ s ≤ 9999) (w : World) (hK : Kinds w) (hH : Hos w ha hc b.hs) (hD : Ints w da dc b.dr) : Ct Tryd.prog 22 #[.agg (sbL b ha hc da dc).toArray, iv s] w (fun u w' => ∃ i, LsE (ord b s) 0 u i ∧ St no w w' (upd eL 0 i) []) := by
  have h := orderP b ha hc da dc s w hK hH hD
  have he : ordE b s = 0 := by unfold ordE; rw [if_pos (okS_good.2 hb), if_pos hs]
  rw [show ordV b s = ord b s from if_pos he, he] at h
  exact h
theorem seedsG (hb : Good b) (w : World) (hK : Kinds w) (hH : Hos w ha hc b.hs) (hD : Ints w da dc b.dr) : Ct Tryd.prog 24 #[.agg (sbL b ha hc da dc).toArray] w (fun u w' => ∃ i, LsE (sdL b []) 0 u i ∧ St no w w' (upd eL 0 i) []) := by
  have h := seedsP b ha hc da dc w hK hH hD
  rw [show sdV b = sdL b [] from if_pos (okS_good.2 hb), chk_ok (okS_good.2 hb)] at h
  exact h
theorem rightG (hb : Good b) (w : World) (hK : Kinds w) (hH : Hos w ha hc b.hs) (hD : Ints w da dc b.dr) : Ct Tryd.prog 15 #[.agg (sbL b ha hc da dc).toArray] w (fun u w' => u = .tuple #[.bool (!decide (sdL b [] = [])), iv 0] ∧ Ext w w') := by
  have h := rightP b ha hc da dc w hK hH hD
  rw [show rgtV b = !decide (sdL b [] = []) from if_pos (okS_good.2 hb), chk_ok (okS_good.2 hb)] at h
  exact h
theorem paysG (hb : Good b) (k : Nat) (hk : k < b.hs.length) (hne : ¬ sdL b [] = []) (w : World) (hK : Kinds w) (hH : Hos w ha hc b.hs) (hD : Ints w da dc b.dr) : Ct Tryd.prog 27 #[.agg (sbL b ha hc da dc).toArray, iv k] w (fun u w' => u = .tuple #[.agg (spL (payLo b k) (payHi b k)).toArray, iv 0] ∧ Ext w w') := by
  have h := paysP b ha hc da dc k w hK hH hD
  have he : payE b k = 0 := by
    unfold payE askV holdB
    rw [if_pos (okS_good.2 hb), decide_eq_true (by omega), if_pos rfl, if_neg hne]
  rw [show payLoV b k = payLo b k from if_pos he, show payHiV b k = payHi b k from if_pos he, he] at h
  exact h
/-! ### The order -/
def ctU (b : Sb) (s : Int) (j : Nat) : List Int := (List.range b.hs.length).map fun (k : Nat) => cntU (ord b s) k j
theorem ctU_at {b : Sb} {s : Int} {j k : Nat} (hk : k < b.hs.length) : (ctU b s j)[k]? = some (cntU (ord b s) k j) := by
  unfold ctU; rw [List.getElem?_map, List.getElem?_range hk]; rfl
theorem ctU_len (b : Sb) (s : Int) (j : Nat) : (ctU b s j).length = b.hs.length := by unfold ctU; simp
theorem ctU_zero (b : Sb) (s : Int) : ctU b s 0 = List.replicate b.hs.length 0 := by
  unfold ctU
  apply List.ext_getElem?
  intro i
  simp only [List.getElem?_map, List.getElem?_replicate]
  split
  · next h => rw [List.getElem?_range h]; simp [cntU]
  · next h => rw [List.getElem?_eq_none (by simpa using h)]; rfl
theorem ctU_set {b : Sb} {s : Int} {j yn : Nat} (hy : (ord b s)[j]? = some (yn : Int)) : (ctU b s j).set yn (cntU (ord b s) yn j + 1) = ctU b s (j + 1) := by
  apply List.ext_getElem?
  intro k
  rw [List.getElem?_set, ctU_len]
  by_cases hk : k < b.hs.length
  · rw [ctU_at (j := j + 1) hk, cntU_succ hy]
    by_cases e : yn = k
    · subst e; simp [hk]
    · rw [if_neg e, ctU_at hk, if_neg (by omega), Int.add_zero]
  · rw [List.getElem?_eq_none (l := ctU b s (j + 1)) (by rw [ctU_len]; omega)]
    split
    · next e => subst e; rw [if_neg hk]
    · rw [List.getElem?_eq_none (by rw [ctU_len]; omega)]
set_option maxHeartbeats 8000000 in
theorem orderL (n : Int) (w : World) (hK : Kinds w) (hH : Hos w ha hc b.hs) (hD : Ints w da dc b.dr) : Ct Tryd.prog 7 #[.agg (sbL b ha hc da dc).toArray, iv n] w (fun u w' => u = .bool true ∧ Ext w w') := by
  refine fn_intro (args := [.agg (sbL b ha hc da dc).toArray, iv n]) Tryd.func7 rfl rfl (by kernel_rfl) ?_
  have S := St.start no w
  refine W.seq (W.region S ?_)
  refine AS.cons (sp_boxa 2 rfl (fun b2 => ?_))
  refine AS.cons (sp_asg rfl ?_)
  refine AS.nil ?_
  intro _ S
  refine W.seq (W.seq (W.region S ?_))
  refine AS.cons (sp_ldw 2 rfl rfl ag_28_9 ?_)
  refine AS.cons (sp_call [] rfl rfl cf_35 (fun F w _ S => soundF _ _ _ _ _ w (hK.ext S.mod) (hH.ext S.mod) (hD.ext S.mod)) ?_)
  refine AS.cons (sp_not rfl ?_)
  refine AS.nil ?_
  intro _ S
  refine W.cond rfl (fun c14 => ?_) (fun c14 => ?_)
  · skip
    refine W.seq (W.region S ?_)
    refine AS.cons (sp_call [] rfl rfl cf_26 (fun F w _ S => drawn w (hK.ext S.mod)) ?_)
    refine AS.cons (sp_asg (v := .bool _) rfl ?_)
    refine AS.nil ?_
    intro _ S
    refine W.ret ?_
    exact ret1 rfl rfl S fun w' S' => ⟨rfl, S'.mod⟩
  · skip
    have hok : okS b = true := by cases e : okS b with | true => rfl | false => rw [e] at c14; exact absurd c14 (by decide)
    have hb := okS_good.1 hok
    have hO := hb.own
    have hn6 := hb.n6
    have ha60 := hb.a60
    have hwh := whl_bd n (k := 10000) (by omega)
    obtain ⟨s, hse⟩ : ∃ s, s = whlV n 10000 := ⟨_, rfl⟩
    have hol := ord_all hb s
    have hsl := shsL_len b
    refine W.skip ?_
    refine W.seq (W.region S ?_)
    refine AS.cons (sp_ldw 2 rfl rfl ag_28_9 ?_)
    refine AS.cons (sp_call1 18 [] _ rfl rfl cf_19 (fun F w _ S => sharesG _ _ _ _ _ (by assumption) w (hK.ext S.mod) (hH.ext S.mod) (hD.ext S.mod)) ?_ (by simp))
    rintro v18 i18 ⟨a18, c18, h18, rfl, rfl⟩
    refine AS.cons (sp_move rfl ?_)
    refine AS.cons (sp_ext rfl rfl ?_)
    refine AS.cons (sp_ext rfl rfl ?_)
    refine AS.cons (sp_asg rfl ?_)
    refine AS.cons (sp_asg (v := .int _ _) rfl ?_)
    refine AS.nil ?_
    intro _ S
    refine W.seq (W.draw S mixed (fun i => ([KD.q [2], KD.q [], KD.e [] [], KD.e [] [25], KD.q [], KD.q [], KD.q [], KD.q [], KD.q []] : List KD)[i]?) [] [0, 1, 2, 3, 4, 5, 6, 7, 8] (by kernel_rfl) ?_)
    refine AW.cons rfl rfl (sp_ldw 2 rfl rfl ag_28_9 ?_)
    refine AW.cons rfl rfl (sp_move (v := .int _ _) rfl ?_)
    refine AW.cons rfl rfl (sp_call [] rfl rfl cf_39 (fun F w _ S => by have h := wheelV n 10000 (by omega) w; rw [← hse] at h; exact h) ?_)
    refine AW.cons rfl rfl (sp_call1 25 [] _ rfl rfl cf_22 (fun F w _ S => orderG _ _ _ _ _ (by assumption) _ (by omega) w (hK.ext S.mod) (hH.ext S.mod) (hD.ext S.mod)) ?_ (fun _ => LsE.ne _ _))
    rintro v25 i25 ⟨a25, c25, h25, rfl, rfl⟩
    refine AW.cons rfl rfl (sp_move rfl ?_)
    refine AW.cons rfl rfl (sp_ext rfl rfl ?_)
    refine AW.cons rfl rfl (sp_ext rfl rfl ?_)
    refine AW.cons rfl rfl (sp_asg rfl ?_)
    refine AW.cons rfl rfl (sp_asg (v := .int _ _) rfl ?_)
    refine AW.nil ?_
    intro _ S
    refine W.seq (W.seq (W.region S ?_))
    refine AS.cons (sp_move (v := .int _ _) rfl ?_)
    refine AS.cons (sp_neq rfl rfl ?_)
    refine AS.cons (sp_move (v := .bool _) rfl ?_)
    refine AS.split 30 rfl (fun g30 => ?_) (fun g30 => ?_)
    · exact absurd g30 (by decide)
    · skip
      refine AS.cons (sp_move (v := .int _ _) rfl ?_)
      refine AS.cons (sp_neq rfl rfl ?_)
      refine AS.cons (sp_pick_f rfl (v := .bool _) rfl ?_)
      refine AS.cons (sp_move (v := .bool _) rfl ?_)
      refine AS.split 34 rfl (fun g34 => ?_) (fun g34 => ?_)
      · exact absurd g34 (by decide)
      · skip
        refine AS.cons (sp_move rfl ?_)
        refine AS.cons (sp_len rfl sl_26_3_1 ?_)
        refine AS.cons (sp_fa rfl fo_28_1_3 ?_)
        refine AS.cons (sp_ld 2 rfl rfl sc_23 rfl ?_)
        refine AS.cons (sp_len rfl sl_23_75_3 ?_)
        refine AS.cons (sp_neq rfl rfl ?_)
        refine AS.cons (sp_pick_f rfl (v := .bool _) rfl ?_)
        refine AS.cons (sp_move (v := .bool _) rfl ?_)
        refine AS.split 42 rfl (fun g42 => ?_) (fun g42 => ?_)
        · exact absurd (congrArg Int.ofNat hsl) (of_decide_eq_true g42)
        · skip
          refine AS.cons (sp_move rfl ?_)
          refine AS.cons (sp_len rfl sl_26_3_1 ?_)
          refine AS.cons (sp_ldw 2 rfl rfl ag_28_9 ?_)
          refine AS.cons (sp_call [] rfl rfl cf_44 (fun F w _ S => allLF _ _ _ _ _ (by assumption) w (hH.ext S.mod)) ?_)
          refine AS.cons (sp_neq rfl rfl ?_)
          refine AS.cons (sp_pick_f rfl (v := .bool _) rfl ?_)
          refine AS.nil ?_
          intro _ S
          refine W.cond rfl (fun c48 => ?_) (fun c48 => ?_)
          · exact absurd hol (of_decide_eq_true c48)
          · skip
            refine W.skip ?_
            refine W.seq (W.region S ?_)
            refine AS.cons (sp_fa rfl fo_28_1_3 ?_)
            refine AS.cons (sp_ld 2 rfl rfl sc_23 rfl ?_)
            refine AS.cons (sp_len rfl sl_23_75_3 ?_)
            refine AS.cons (sp_mk1 52 sl_26_3_1 zs_3_1 zv_3 rfl rfl rfl (by omega) (fun b52 => ?_))
            refine AS.cons (sp_asg rfl ?_)
            refine AS.nil ?_
            intro _ S
            have S := S.weak (k := 52) (i := slc 3 1 (.slice (some ⟨b52, 0, none⟩) b.hs.length b.hs.length) b.hs.length ((ctU b s 0).map iv)) (fun f hf => by
              rw [ctU_zero]
              refine slc_of_pt hf (by simp) (Nat.le_refl _) (by simp) ?_
              rw [List.map_replicate, Nat.mul_one, List.take_of_length_le (by simp)])
            refine W.seq (W.seq (W.region S ?_))
            refine AS.cons (sp_asg rfl ?_)
            refine AS.nil ?_
            intro _ S
            refine W.block ?_
            refine W.loopS S [4, 10, 53, 54, 55, 56, 57, 58, 59, 60, 61, 62, 63, 64, 65, 66, 67, 68, 69, 70, 71, 72, 73, 74, 75, 76] [52] (fun (j : Nat) => [(10, iv j)]) (fun j => [(52, slc 3 1 (.slice (some ⟨b52, 0, none⟩) b.hs.length b.hs.length) b.hs.length ((ctU b s j).map iv))]) (fun j => j ≤ (ord b s).length) (fun j => (ord b s).length - j) 0 (by omega) ⟨rfl, trivial⟩ ⟨rfl, trivial⟩ ?_
            rintro j σ M w1 hj S
            refine W.seq (W.seq (W.region S ?_))
            refine AS.cons (sp_move (v := .int _ _) rfl ?_)
            refine AS.cons (sp_move rfl ?_)
            refine AS.cons (sp_len rfl sl_26_3_1 ?_)
            refine AS.cons (sp_lss rfl rfl ?_)
            refine AS.nil ?_
            intro _ S
            refine W.condd rfl (fun c56 => ?_) (fun c56 => ?_)
            · skip
              have hlt : j < (ord b s).length := by omega
              obtain ⟨y, hy⟩ := get_some hlt
              have hym := ord_mem (List.mem_of_getElem? hy)
              obtain ⟨yn, rfl⟩ : ∃ yn : Nat, y = yn := ⟨y.toNat, by omega⟩
              have hyn : yn < b.hs.length := by omega
              have hcb := cntU_le (ord b s) yn j
              have hcn := cntU_nonneg (ord b s) yn j
              have hbt : decide ((0 : Int) ≤ (yn : Int) ∧ (yn : Int) ≤ (b.hs.length : Int) - 1) = true := decide_eq_true (by omega)
              have hcy : ((ctU b s j).map iv)[((yn : Int)).toNat * 1]? = some (iv (cntU (ord b s) yn j)) := by rw [Nat.mul_one, List.getElem?_map, Int.toNat_natCast, ctU_at hyn]; rfl
              have hst := ctU_set hy
              refine W.skip ?_
              refine W.seq (W.block ?_)
              refine W.seq (W.seq (W.region S ?_))
              refine AS.cons (sp_move rfl ?_)
              refine AS.cons (sp_move (v := .int _ _) rfl ?_)
              refine AS.cons (sp_iaS 25 rfl rfl rfl sl_26_3_1 (by omega) ?_)
              refine AS.cons (sp_ldS 25 rfl rfl sc_3 (v := iv (yn : Int)) (by simp [hy]) (by omega) ?_)
              refine AS.cons (sp_move rfl ?_)
              refine AS.cons (sp_len rfl sl_26_3_1 ?_)
              refine AS.cons (sp_sub rfl rfl (by first | omega | (simp only [decide_eq_true_eq, decide_eq_false_iff_not] at *; omega)) ?_)
              refine AS.cons (sp_call [] rfl rfl cf_45 (fun F w _ S => between _ _ _ w) ?_)
              refine AS.cons (sp_not rfl ?_)
              refine AS.nil ?_
              intro _ S
              refine W.cond rfl (fun c67 => ?_) (fun c67 => ?_)
              · exact absurd (hbt ▸ c67 : (!true) = true) (by decide)
              · skip
                refine W.skip ?_
                refine W.region S ?_
                refine AS.cons (sp_move rfl ?_)
                refine AS.cons (sp_move rfl ?_)
                refine AS.cons (sp_move (v := .int _ _) rfl ?_)
                refine AS.cons (sp_iaS 25 rfl rfl rfl sl_26_3_1 (by omega) ?_)
                refine AS.cons (sp_ldS 25 rfl rfl sc_3 (v := iv (yn : Int)) (by simp [hy]) (by omega) ?_)
                refine AS.cons (sp_iaS 52 rfl rfl rfl sl_26_3_1 (by omega) ?_)
                refine AS.cons (sp_ldS 52 rfl rfl sc_3 hcy (by omega) ?_)
                refine AS.cons (sp_add rfl rfl (by first | omega | (simp only [decide_eq_true_eq, decide_eq_false_iff_not] at *; omega)) ?_)
                refine AS.cons (sp_iaS 52 rfl rfl rfl sl_26_3_1 (by omega) ?_)
                refine AS.cons (sp_stS 52 rfl rfl rfl rfl rfl sz_3_1 (by omega) ?_)
                refine AS.nil ?_
                intro _ S
                refine W.region S ?_
                refine AS.cons (sp_move (v := .int _ _) rfl ?_)
                refine AS.cons (sp_add rfl rfl (by first | omega | (simp only [decide_eq_true_eq, decide_eq_false_iff_not] at *; omega)) ?_)
                refine AS.cons (sp_asg (v := .int _ _) rfl ?_)
                refine AS.nil ?_
                intro _ S
                exact ⟨j + 1, _, by omega, by omega, ⟨by simp [upd], trivial⟩, ⟨by show slc 3 1 _ _ _ = slc 3 1 _ _ ((ctU b s (j + 1)).map iv); rw [← hst, List.map_set]; rfl, trivial⟩, by repeat (first | exact Agr.refl _ _ | exact Agr.msk _ _ _ | refine Agr.upd ?_ _ rfl | refine Agr.upds ?_ rfl | refine Agr.mskIn ?_ rfl), by repeat (first | exact Agr.refl _ _ | exact Agr.msk _ _ _ | refine Agr.upd ?_ _ rfl | refine Agr.upds ?_ rfl | refine Agr.mskIn ?_ rfl), rfl, S⟩
            · skip
              obtain rfl : j = (ord b s).length := by omega
              refine W.exit ?_
              refine W.seq (W.seq (W.region S ?_))
              refine AS.cons (sp_asg rfl ?_)
              refine AS.nil ?_
              intro _ S
              refine W.block ?_
              refine W.loopS S [4, 11, 77, 78, 79, 80, 81, 82, 83, 84, 85, 86, 87, 88, 89, 90, 91, 92, 93, 94, 95, 96, 97, 98, 99, 100, 101] [] (fun (k : Nat) => [(11, iv k)]) (fun _ => []) (fun k => k ≤ b.hs.length) (fun k => b.hs.length - k) 0 (by omega) ⟨rfl, trivial⟩ trivial ?_
              rintro k σ2 M2 w2 hk S
              refine W.seq (W.seq (W.region S ?_))
              refine AS.cons (sp_move (v := .int _ _) rfl ?_)
              refine AS.cons (sp_move rfl ?_)
              refine AS.cons (sp_len rfl sl_26_3_1 ?_)
              refine AS.cons (sp_lss rfl rfl ?_)
              refine AS.nil ?_
              intro _ S
              refine W.condd rfl (fun c80 => ?_) (fun c80 => ?_)
              · skip
                have hlt : k < b.hs.length := by omega
                have hlk : ((shsL b).map iv)[((k : Int)).toNat * 1]? = some (iv (ofK b k)) := by rw [Nat.mul_one, List.getElem?_map, Int.toNat_natCast, shsL_at hlt]; rfl
                have hck : ((ctU b s (ord b s).length).map iv)[((k : Int)).toNat * 1]? = some (iv (ofK b k)) := by
                  rw [Nat.mul_one, List.getElem?_map, Int.toNat_natCast, ctU_at hlt, show (ord b s).length = (allN b).toNat by omega, cnt_all hb s hlt]; rfl
                refine W.skip ?_
                refine W.seq (W.block ?_)
                refine W.seq (W.draw S mixed (fun i => ([KD.q [], KD.q [], KD.q [18], KD.q [18], KD.q [2], KD.q [], KD.e [] [], KD.q [], KD.q [], KD.q [], KD.q [], KD.q [52], KD.q [52], KD.q [], KD.q [], KD.q [18], KD.q [18], KD.q [], KD.q []] : List KD)[i]?) [] [0, 1, 2, 3, 4, 5, 6, 7, 8, 9, 10, 11, 12, 13, 14, 15, 16, 17, 18] (by kernel_rfl) ?_)
                refine AW.cons rfl rfl (sp_move rfl ?_)
                refine AW.cons rfl rfl (sp_move (v := .int _ _) rfl ?_)
                refine AW.cons rfl rfl (sp_iaS 18 rfl rfl rfl sl_26_3_1 (by omega) ?_)
                refine AW.cons rfl rfl (sp_ldS 18 rfl rfl sc_3 hlk (by omega) ?_)
                refine AW.cons rfl rfl (sp_ldw 2 rfl rfl ag_28_9 ?_)
                refine AW.cons rfl rfl (sp_move (v := .int _ _) rfl ?_)
                refine AW.cons rfl rfl (sp_call [] rfl rfl cf_46 (fun F w _ S => heldF _ _ _ _ _ (by assumption) _ (by assumption) w (hH.ext S.mod)) ?_)
                refine AW.cons rfl rfl (sp_neq rfl rfl ?_)
                refine AW.cons rfl rfl (sp_move (v := .bool _) rfl ?_)
                refine AW.split 91 rfl (fun g91 => ?_) (fun g91 => ?_)
                · exact absurd rfl (of_decide_eq_true g91)
                · skip
                  refine AW.cons rfl rfl (sp_move rfl ?_)
                  refine AW.cons rfl rfl (sp_move (v := .int _ _) rfl ?_)
                  refine AW.cons rfl rfl (sp_iaS 52 rfl rfl rfl sl_26_3_1 (by omega) ?_)
                  refine AW.cons rfl rfl (sp_ldS 52 rfl rfl sc_3 hck (by omega) ?_)
                  refine AW.cons rfl rfl (sp_move rfl ?_)
                  refine AW.cons rfl rfl (sp_move (v := .int _ _) rfl ?_)
                  refine AW.cons rfl rfl (sp_iaS 18 rfl rfl rfl sl_26_3_1 (by omega) ?_)
                  refine AW.cons rfl rfl (sp_ldS 18 rfl rfl sc_3 hlk (by omega) ?_)
                  refine AW.cons rfl rfl (sp_neq rfl rfl ?_)
                  refine AW.cons rfl rfl (sp_pick_f rfl (v := .bool _) rfl ?_)
                  refine AW.nil ?_
                  intro _ S
                  refine W.cond rfl (fun c101 => ?_) (fun c101 => ?_)
                  · exact absurd rfl (of_decide_eq_true c101)
                  · skip
                    refine W.skip ?_
                    refine W.region S ?_
                    refine AS.cons (sp_move (v := .int _ _) rfl ?_)
                    refine AS.cons (sp_add rfl rfl (by first | omega | (simp only [decide_eq_true_eq, decide_eq_false_iff_not] at *; omega)) ?_)
                    refine AS.cons (sp_asg (v := .int _ _) rfl ?_)
                    refine AS.nil ?_
                    intro _ S
                    exact ⟨k + 1, _, by omega, by omega, ⟨by simp [upd], trivial⟩, trivial, by repeat (first | exact Agr.refl _ _ | exact Agr.msk _ _ _ | refine Agr.upd ?_ _ rfl | refine Agr.upds ?_ rfl | refine Agr.mskIn ?_ rfl), by repeat (first | exact Agr.refl _ _ | exact Agr.msk _ _ _ | refine Agr.upd ?_ _ rfl | refine Agr.upds ?_ rfl | refine Agr.mskIn ?_ rfl), rfl, S⟩
              · skip
                refine W.exit ?_
                refine W.seq (W.region S ?_)
                refine AS.cons (sp_call [] rfl rfl cf_26 (fun F w _ S => drawn w (hK.ext S.mod)) ?_)
                refine AS.cons (sp_asg (v := .bool _) rfl ?_)
                refine AS.nil ?_
                intro _ S
                refine W.ret ?_
                exact ret1 rfl rfl S fun w' S' => ⟨rfl, S'.mod⟩
end
end Go.Proofs.YtajocmkgdjcmkaaDoor
