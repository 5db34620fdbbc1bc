/-
  Lemmas of this proof, several texts one behind the other; no condition beyond what each says.
-/
import Derived.Test.YtajocmkgdjcmkaaDoorMh
import Derived.Test.YtajocmkgdjcmkaaDoorMb
namespace Go.Proofs.YtajocmkgdjcmkaaDoor
open Go.Hu
theorem cf_62 : cfB Tryd.prog 62 = true := by kernel_rfl
theorem sl_73_28_9 : slB Tryd.prog 73 28 9 = true := by kernel_rfl
theorem sl_76_26_1 : slB Tryd.prog 76 26 1 = true := by kernel_rfl
theorem sz_22_3 : szB Tryd.prog 22 3 = true := by kernel_rfl
theorem sz_23_1 : szB Tryd.prog 23 1 = true := by kernel_rfl
theorem zs_26_1 : zsB Tryd.prog 26 1 = true := by kernel_rfl
theorem zs_28_9 : zsB Tryd.prog 28 9 = true := by kernel_rfl
end Go.Proofs.YtajocmkgdjcmkaaDoor
/-
  Spoilt books, torn ones: what they are answered with.
-/
namespace Go.Proofs.YtajocmkgdjcmkaaDoor
set_option maxRecDepth 100000
open Go.Hu Go.RowKit
section
variable {b : Sb} {ha : Option Addr} {hc : Nat} {da : Option Addr} {dc : Nat}
theorem sharesX (h : okS b = false) (w : World) (hK : Kinds w) (hH : Hos w ha hc b.hs) (hD : Ints w da dc b.dr) : Ct Tryd.prog 19 #[.agg (sbL b ha hc da dc).toArray] w (fun u w' => ∃ i, LsE [] 80 u i ∧ St no w w' (upd eL 0 i) []) := by
  have h1 := sharesP b ha hc da dc w hK hH hD
  rw [show shsV b = [] by unfold shsV; rw [h]; rfl, chk_no h] at h1; exact h1
theorem orderX (h : okS b = false) (s : Int) (w : World) (hK : Kinds w) (hH : Hos w ha hc b.hs) (hD : Ints w da dc b.dr) : Ct Tryd.prog 22 #[.agg (sbL b ha hc da dc).toArray, iv s] w (fun u w' => ∃ i, LsE [] 80 u i ∧ St no w w' (upd eL 0 i) []) := by
  have h1 := orderP b ha hc da dc s w hK hH hD
  have e : ordE b s = 80 := by unfold ordE; rw [h]; rfl
  rw [show ordV b s = [] by unfold ordV; rw [e]; rfl, e] at h1; exact h1
theorem rightX (h : okS b = false) (w : World) (hK : Kinds w) (hH : Hos w ha hc b.hs) (hD : Ints w da dc b.dr) : Ct Tryd.prog 15 #[.agg (sbL b ha hc da dc).toArray] w (fun u w' => u = .tuple #[.bool false, iv 80] ∧ Ext w w') := by
  have h1 := rightP b ha hc da dc w hK hH hD
  rw [show rgtV b = false by unfold rgtV; rw [h]; rfl, chk_no h] at h1; exact h1
theorem seedsX (h : okS b = false) (w : World) (hK : Kinds w) (hH : Hos w ha hc b.hs) (hD : Ints w da dc b.dr) : Ct Tryd.prog 24 #[.agg (sbL b ha hc da dc).toArray] w (fun u w' => ∃ i, LsE [] 80 u i ∧ St no w w' (upd eL 0 i) []) := by
  have h1 := seedsP b ha hc da dc w hK hH hD
  rw [show sdV b = [] by unfold sdV; rw [h]; rfl, chk_no h] at h1; exact h1
theorem ask_80 (h : okS b = false) (p : Bool) : askV b p = 80 := by unfold askV; rw [h]; rfl
theorem payX (h : okS b = false) (k : Int) (w : World) (hK : Kinds w) (hH : Hos w ha hc b.hs) (hD : Ints w da dc b.dr) : Ct Tryd.prog 27 #[.agg (sbL b ha hc da dc).toArray, iv k] w (fun u w' => u = .tuple #[.agg [iv 0, iv 0].toArray, iv 80] ∧ Ext w w') := by
  have h1 := paysP b ha hc da dc k w hK hH hD
  have e : payE b k = 80 := ask_80 h _
  rw [show payLoV b k = 0 by unfold payLoV; rw [e]; rfl, show payHiV b k = 0 by unfold payHiV; rw [e]; rfl, e] at h1; exact h1
theorem canX (h : okS b = false) (pa : Option Addr) (pc : Nat) (l : List Int) (w : World) (hK : Kinds w) (hH : Hos w ha hc b.hs) (hD : Ints w da dc b.dr) (hL : Ints w pa pc l) : Ct Tryd.prog 29 #[.agg (sbL b ha hc da dc).toArray, .slice pa l.length pc] w (fun u w' => u = .tuple #[.bool false, iv 80] ∧ Ext w w') := by
  have h1 := canP b ha hc da dc pa pc l w hK hH hD hL
  have e : canE b l = 80 := ask_80 h _
  rw [show canV b l = false by unfold canV; rw [e]; rfl, e] at h1; exact h1
theorem askX (h : okS b = false) (w : World) (hK : Kinds w) (hH : Hos w ha hc b.hs) (hD : Ints w da dc b.dr) : Ct Tryd.prog 31 #[.agg (sbL b ha hc da dc).toArray] w (fun u w' => u = .tuple #[iv 0, iv 80] ∧ Ext w w') := by
  have h1 := askP b ha hc da dc w hK hH hD
  have e : asE b = 80 := by unfold asE; rw [ask_80 h, if_neg (by decide)]
  rw [show asV b = 0 by unfold asV; rw [e]; rfl, e] at h1; exact h1
theorem wrongX (h : okS b = false) (w : World) (hK : Kinds w) (hH : Hos w ha hc b.hs) (hD : Ints w da dc b.dr) : Ct Tryd.prog 33 #[.agg (sbL b ha hc da dc).toArray] w (fun u w' => ∃ i, LsE [] 80 u i ∧ St no w w' (upd eL 0 i) []) := by
  have h1 := wrongP b ha hc da dc w hK hH hD
  rw [show wrV b = [] by unfold wrV; rw [h]; rfl, chk_no h] at h1; exact h1
theorem checkX (h : okS b = false) (w : World) (hK : Kinds w) (hH : Hos w ha hc b.hs) (hD : Ints w da dc b.dr) : Ct Tryd.prog 17 #[.agg (sbL b ha hc da dc).toArray] w (fun u w' => u = iv 80 ∧ Ext w w') := by
  have h1 := checkP b ha hc da dc w hK hH hD
  rw [chk_no h] at h1; exact h1
end
abbrev BX := Sb × (Option Addr × Nat) × (Option Addr × Nat)
abbrev bxL (x : BX) : List Value := sbL x.1 x.2.1.1 x.2.1.2 x.2.2.1 x.2.2.2
abbrev sp0 : Sb := ⟨0, 0, 0, [], 0, 0, 0, 0, []⟩
abbrev sp1 : Sb := ⟨10, 1, 1, hosB, 100, 101, 7, 9, [2]⟩
abbrev sp2 : Sb := ⟨2, 1, -1, hosB, 100, 101, 7, 9, [2]⟩
abbrev sp3 : Sb := ⟨2, 1, 1, [⟨1, 0, 1⟩, ⟨0, 6, 1⟩, ⟨0, 0, 1⟩], 100, 101, 7, 9, [2]⟩
abbrev sp4 : Sb := ⟨2, 1, 1, List.replicate 7 ⟨0, 0, 0⟩, 100, 101, 7, 9, [2]⟩
abbrev sp5 : Sb := ⟨2, 1, 1, hosB, 100, 121, 7, 9, [2]⟩
abbrev sp6 : Sb := ⟨2, 1, 1, hosB, 9990, 10000, 7, 9, [2]⟩
abbrev sp7 : Sb := ⟨2, 1, 1, hosB, 100, 101, 7, 58, [2]⟩
abbrev sp8 : Sb := ⟨2, 1, 1, hosB, 100, 101, 9990, 10000, [2]⟩
abbrev sp9 : Sb := bookB [3]
abbrev sp10 : Sb := bookB [-2]
abbrev sp11 : Sb := bookB [0, 0, 0, 0, 0, 0, 0]
abbrev sp12 : Sb := ⟨0, 0, 0, hosB, 100, 101, 7, 9, [2]⟩
theorem made7 : madeCells (Value.cells (.agg [iv 0, iv 0, iv 0].toArray)) (7 * 3) = ((List.replicate 7 (⟨0, 0, 0⟩ : Ho)).flatMap hoL).toArray := by kernel_rfl
theorem AllEq.of {ks : List Nat} {L F : Nat → HP} (hF : ∀ k ∈ ks, F k = L k) : ∀ {hs : List (Nat × HP)}, (∀ p ∈ hs, p.1 ∈ ks) → AllEq hs L → AllEq hs F
  | [], _, _ => trivial
  | (k, _) :: _, hk, h => ⟨(hF k (hk (k, _) List.mem_cons_self)).trans h.1, AllEq.of hF (fun p hp => hk p (List.mem_cons_of_mem _ hp)) h.2⟩
section
variable (x48 y48 x49 y49 x50 y50 y51 x79 x52 y52 x53 y53 x54 y54 x55 y55 x57 x56 x59 x58 x61 x60 x62 y62 : Nat)
def bdL : List BX := [(sp0, (none, 0), (none, 0)), (sp1, (some ⟨x48, 0, none⟩, 3), (some ⟨y48, 0, none⟩, 1)), (sp2, (some ⟨x49, 0, none⟩, 3), (some ⟨y49, 0, none⟩, 1)), (sp3, (some ⟨x50, 0, none⟩, 3), (some ⟨y50, 0, none⟩, 1)), (sp4, (some ⟨x79, 0, none⟩, 7), (some ⟨y51, 0, none⟩, 1)), (sp5, (some ⟨x52, 0, none⟩, 3), (some ⟨y52, 0, none⟩, 1)), (sp6, (some ⟨x53, 0, none⟩, 3), (some ⟨y53, 0, none⟩, 1)), (sp7, (some ⟨x54, 0, none⟩, 3), (some ⟨y54, 0, none⟩, 1)), (sp8, (some ⟨x55, 0, none⟩, 3), (some ⟨y55, 0, none⟩, 1)), (sp9, (some ⟨x57, 0, none⟩, 3), (some ⟨x56, 0, none⟩, 1)), (sp10, (some ⟨x59, 0, none⟩, 3), (some ⟨x58, 0, none⟩, 1)), (sp11, (some ⟨x61, 0, none⟩, 3), (some ⟨x60, 0, none⟩, 7)), (sp12, (some ⟨x62, 0, none⟩, 3), (some ⟨y62, 0, none⟩, 1))]
def bdK : List (Nat × HP) := [(48, pt x48 (.cells hosL.toArray 75 (0, 0))), (548, pt y48 (.cells (([2] : List Int).map iv).toArray 3 (0, 0))), (49, pt x49 (.cells hosL.toArray 75 (0, 0))), (549, pt y49 (.cells (([2] : List Int).map iv).toArray 3 (0, 0))), (50, pt x50 (.cells [iv 1, iv 0, iv 1, iv 0, iv 6, iv 1, iv 0, iv 0, iv 1].toArray 75 (0, 0))), (550, pt y50 (.cells (([2] : List Int).map iv).toArray 3 (0, 0))), (551, pt y51 (.cells (([2] : List Int).map iv).toArray 3 (0, 0))), (79, pt x79 (.cells (madeCells (Value.cells (.agg [iv 0, iv 0, iv 0].toArray)) (7 * 3)) 75 (0, 0))), (52, pt x52 (.cells hosL.toArray 75 (0, 0))), (552, pt y52 (.cells (([2] : List Int).map iv).toArray 3 (0, 0))), (53, pt x53 (.cells hosL.toArray 75 (0, 0))), (553, pt y53 (.cells (([2] : List Int).map iv).toArray 3 (0, 0))), (54, pt x54 (.cells hosL.toArray 75 (0, 0))), (554, pt y54 (.cells (([2] : List Int).map iv).toArray 3 (0, 0))), (55, pt x55 (.cells hosL.toArray 75 (0, 0))), (555, pt y55 (.cells (([2] : List Int).map iv).toArray 3 (0, 0))), (57, pt x57 (.cells hosL.toArray 75 (0, 0))), (56, pt x56 (.cells (([3] : List Int).map iv).toArray 3 (0, 0))), (59, pt x59 (.cells hosL.toArray 75 (0, 0))), (58, pt x58 (.cells (([-2] : List Int).map iv).toArray 3 (0, 0))), (61, pt x61 (.cells hosL.toArray 75 (0, 0))), (60, pt x60 (.cells (([0, 0, 0, 0, 0, 0, 0] : List Int).map iv).toArray 3 (0, 0))), (62, pt x62 (.cells hosL.toArray 75 (0, 0))), (562, pt y62 (.cells (([2] : List Int).map iv).toArray 3 (0, 0)))]
theorem bdL_ok : ∀ x ∈ bdL x48 y48 x49 y49 x50 y50 y51 x79 x52 y52 x53 y53 x54 y54 x55 y55 x57 x56 x59 x58 x61 x60 x62 y62, okS x.1 = false := by
  intro x hx
  simp only [bdL, List.mem_cons, List.not_mem_nil, or_false] at hx
  rcases hx with rfl | rfl | rfl | rfl | rfl | rfl | rfl | rfl | rfl | rfl | rfl | rfl | rfl <;> kernel_rfl
theorem bdK_ks : ∀ p ∈ bdK x48 y48 x49 y49 x50 y50 y51 x79 x52 y52 x53 y53 x54 y54 x55 y55 x57 x56 x59 x58 x61 x60 x62 y62, p.1 ∈ [48, 548, 49, 549, 50, 550, 551, 79, 52, 552, 53, 553, 54, 554, 55, 555, 57, 56, 59, 58, 61, 60, 62, 562] := by
  intro p hp
  simp only [bdK, List.mem_cons, List.not_mem_nil, or_false] at hp
  rcases hp with rfl | rfl | rfl | rfl | rfl | rfl | rfl | rfl | rfl | rfl | rfl | rfl | rfl | rfl | rfl | rfl | rfl | rfl | rfl | rfl | rfl | rfl | rfl | rfl <;> simp
theorem bdL_rd {B : Nat → Prop} {w0 w : World} {F : Nat → HP} {Ds : List Nat} (S : St B w0 w F Ds) (h : AllEq (bdK x48 y48 x49 y49 x50 y50 y51 x79 x52 y52 x53 y53 x54 y54 x55 y55 x57 x56 x59 x58 x61 x60 x62 y62) F) : ∀ x ∈ bdL x48 y48 x49 y49 x50 y50 y51 x79 x52 y52 x53 y53 x54 y54 x55 y55 x57 x56 x59 x58 x61 x60 x62 y62, Hos w x.2.1.1 x.2.1.2 x.1.hs ∧ Ints w x.2.2.1 x.2.2.2 x.1.dr := by
  obtain ⟨h1, h2, h3, h4, h5, h6, h7, h8, h9, h10, h11, h12, h13, h14, h15, h16, h17, h18, h19, h20, h21, h22, h23, h24, _⟩ := h
  have e : ∀ a c, Hos w a c [] := fun a c => ⟨rfl, by decide, .inl ⟨rfl, a, c, rfl⟩⟩
  have e2 : ∀ a c, Ints w a c [] := fun a c => ⟨rfl, by decide, .inl ⟨rfl, a, c, rfl⟩⟩
  intro x hx
  simp only [bdL, List.mem_cons, List.not_mem_nil, or_false] at hx
  rcases hx with rfl | rfl | rfl | rfl | rfl | rfl | rfl | rfl | rfl | rfl | rfl | rfl | rfl
  · exact ⟨e _ _, e2 _ _⟩
  · exact ⟨hos_pt (S.get h1).1, dr_pt (Nat.le_of_ble_eq_true rfl) (S.get h2).1⟩
  · exact ⟨hos_pt (S.get h3).1, dr_pt (Nat.le_of_ble_eq_true rfl) (S.get h4).1⟩
  · exact ⟨rd_pt (S.get h5).1 rfl (Nat.le_of_ble_eq_true rfl) (Nat.le_of_ble_eq_true rfl), dr_pt (Nat.le_of_ble_eq_true rfl) (S.get h6).1⟩
  · exact ⟨by have g := (S.get h8).1; rw [made7] at g; exact rd_pt g rfl (Nat.le_of_ble_eq_true rfl) (Nat.le_of_ble_eq_true rfl), dr_pt (Nat.le_of_ble_eq_true rfl) (S.get h7).1⟩
  · exact ⟨hos_pt (S.get h9).1, dr_pt (Nat.le_of_ble_eq_true rfl) (S.get h10).1⟩
  · exact ⟨hos_pt (S.get h11).1, dr_pt (Nat.le_of_ble_eq_true rfl) (S.get h12).1⟩
  · exact ⟨hos_pt (S.get h13).1, dr_pt (Nat.le_of_ble_eq_true rfl) (S.get h14).1⟩
  · exact ⟨hos_pt (S.get h15).1, dr_pt (Nat.le_of_ble_eq_true rfl) (S.get h16).1⟩
  · exact ⟨hos_pt (S.get h17).1, dr_pt (Nat.le_of_ble_eq_true rfl) (S.get h18).1⟩
  · exact ⟨hos_pt (S.get h19).1, dr_pt (Nat.le_of_ble_eq_true rfl) (S.get h20).1⟩
  · exact ⟨hos_pt (S.get h21).1, dr_pt (Nat.le_of_ble_eq_true rfl) (S.get h22).1⟩
  · exact ⟨hos_pt (S.get h23).1, dr_pt (Nat.le_of_ble_eq_true rfl) (S.get h24).1⟩
end
theorem k_o1 : ordV tornB 10000 = [] := by kernel_rfl
theorem k_o2 : ordE tornB 10000 = 81 := by kernel_rfl
theorem k_p1 : payE tornB 3 = 81 := by kernel_rfl
theorem k_c1 : canE tornB [1, 1] = 81 := by kernel_rfl
theorem k_c2 : canE tornB [1, -1, 1] = 81 := by kernel_rfl
theorem k_p2 : payE tornB 0 = 82 := by kernel_rfl
theorem k_c3 : canE tornB [50, 33, 17] = 82 := by kernel_rfl
theorem k_a1 : asE tornB = 82 := by kernel_rfl
theorem k_r1 : rgtV tornB = false := by kernel_rfl
theorem k_s1 : sdV tornB = [] := by kernel_rfl
theorem k_q0 : ordV ownB 7 = [2, 1, 0, 0, 1, 0] := by kernel_rfl
theorem k_q1 : ordV ownB 8 = [0, 2, 0, 0, 1, 1] := by kernel_rfl
theorem k_q2 : ordV ownB 9 = [2, 1, 0, 1, 0, 0] := by kernel_rfl
theorem k_e0 : ordE ownB 7 = 0 := by kernel_rfl
theorem k_e1 : ordE ownB 8 = 0 := by kernel_rfl
theorem k_e2 : ordE ownB 9 = 0 := by kernel_rfl
theorem k_s2 : sdV otherB = [7, 9] := by kernel_rfl
theorem k_h2 : chkV otherB = 0 := by kernel_rfl
theorem k_pl : payLoV ownB 1 = 33 := by kernel_rfl
theorem k_ph : payHiV ownB 1 = 34 := by kernel_rfl
theorem k_pe : payE ownB 1 = 0 := by kernel_rfl
theorem k_ql : payLoV ownB 2 = 17 := by kernel_rfl
theorem k_qh : payHiV ownB 2 = 17 := by kernel_rfl
theorem k_qe : payE ownB 2 = 0 := by kernel_rfl
theorem k_n1 : canV ownB [50, 34, 17] = true := by kernel_rfl
theorem k_n2 : canE ownB [50, 34, 17] = 0 := by kernel_rfl
theorem k_n3 : canV ownB [49, 33, 18] = false := by kernel_rfl
theorem k_n4 : canE ownB [49, 33, 18] = 0 := by kernel_rfl
theorem k_x1 : asE (bookB [0]) = 4 := by kernel_rfl
theorem k_w1 : wrV ownB = [] := by kernel_rfl
theorem k_h1 : chkV tornB = 0 := by kernel_rfl
theorem k_h0 : chkV ownB = 0 := by kernel_rfl
end Go.Proofs.YtajocmkgdjcmkaaDoor

/-
  The law of what is known.
-/
namespace Go.Proofs.YtajocmkgdjcmkaaDoor
set_option maxRecDepth 100000
open Go.Hu Go.RowKit
section
set_option maxHeartbeats 16000000 in
theorem knownLaw (w : World) (hK : Kinds w) : Ct Tryd.prog 14 #[] w (fun u w' => u = .bool true ∧ Ext w w') := by
  refine fn_intro (args := []) Tryd.func14 rfl rfl (by kernel_rfl) ?_
  have S := St.start no w
  refine W.seq (W.region S ?_)
  refine AS.cons (sp_asg rfl ?_)
  refine AS.nil ?_
  intro _ S
  refine W.seq (W.region S ?_)
  refine AS.cons (sp_build (sbL sp0 none 0 none 0) (by kernel_rfl) ?_)
  refine AS.cons (sp_call1s 48 548 [] _ (by decide) rfl rfl cf_59 (fun F w _ S => ownF w) ?_ (by simp))
  rintro v48 i48 j48 ⟨x48, y48, rfl, rfl, rfl⟩
  refine AS.cons (sp_call1s 49 549 [] _ (by decide) rfl rfl cf_59 (fun F w _ S => ownF w) ?_ (by simp))
  rintro v49 i49 j49 ⟨x49, y49, rfl, rfl, rfl⟩
  refine AS.cons (sp_call1s 50 550 [] _ (by decide) rfl rfl cf_59 (fun F w _ S => ownF w) ?_ (by simp))
  rintro v50 i50 j50 ⟨x50, y50, rfl, rfl, rfl⟩
  refine AS.cons (sp_call1s 51 551 [] _ (by decide) rfl rfl cf_59 (fun F w _ S => ownF w) ?_ (by simp))
  rintro v51 i51 j51 ⟨x51, y51, rfl, rfl, rfl⟩
  refine AS.cons (sp_call1s 52 552 [] _ (by decide) rfl rfl cf_59 (fun F w _ S => ownF w) ?_ (by simp))
  rintro v52 i52 j52 ⟨x52, y52, rfl, rfl, rfl⟩
  refine AS.cons (sp_call1s 53 553 [] _ (by decide) rfl rfl cf_59 (fun F w _ S => ownF w) ?_ (by simp))
  rintro v53 i53 j53 ⟨x53, y53, rfl, rfl, rfl⟩
  refine AS.cons (sp_call1s 54 554 [] _ (by decide) rfl rfl cf_59 (fun F w _ S => ownF w) ?_ (by simp))
  rintro v54 i54 j54 ⟨x54, y54, rfl, rfl, rfl⟩
  refine AS.cons (sp_call1s 55 555 [] _ (by decide) rfl rfl cf_59 (fun F w _ S => ownF w) ?_ (by simp))
  rintro v55 i55 j55 ⟨x55, y55, rfl, rfl, rfl⟩
  refine AS.cons (sp_bs 56 [.const (.int .i64 3)] _ sl_26_3_1 zs_3_1 rfl rfl rfl rfl rfl rfl (fun b56 => ?_))
  refine AS.cons (sp_call1 57 [] _ rfl rfl cf_60 (fun F w _ S => bookF [3] (some ⟨b56, 0, none⟩) 1 w) ?_ (by simp))
  rintro v57 i57 ⟨x57, rfl, rfl⟩
  refine AS.cons (sp_bs 58 [.const (.int .i64 (-2))] _ sl_26_3_1 zs_3_1 rfl rfl rfl rfl rfl rfl (fun b58 => ?_))
  refine AS.cons (sp_call1 59 [] _ rfl rfl cf_60 (fun F w _ S => bookF [-2] (some ⟨b58, 0, none⟩) 1 w) ?_ (by simp))
  rintro v59 i59 ⟨x59, rfl, rfl⟩
  refine AS.cons (sp_bs 60 [.const (.int .i64 0), .const (.int .i64 0), .const (.int .i64 0), .const (.int .i64 0), .const (.int .i64 0), .const (.int .i64 0), .const (.int .i64 0)] _ sl_26_3_1 zs_3_1 rfl rfl rfl rfl rfl rfl (fun b60 => ?_))
  refine AS.cons (sp_call1 61 [] _ rfl rfl cf_60 (fun F w _ S => bookF [0, 0, 0, 0, 0, 0, 0] (some ⟨b60, 0, none⟩) 7 w) ?_ (by simp))
  rintro v61 i61 ⟨x61, rfl, rfl⟩
  refine AS.cons (sp_call1s 62 562 [] _ (by decide) rfl rfl cf_59 (fun F w _ S => ownF w) ?_ (by simp))
  rintro v62 i62 j62 ⟨x62, y62, rfl, rfl, rfl⟩
  refine AS.cons (sp_bsS 63 [.tmp 47, .tmp 48, .tmp 49, .tmp 50, .tmp 51, .tmp 52, .tmp 53, .tmp 54, .tmp 55, .tmp 57, .tmp 59, .tmp 61, .tmp 62] (([(sp0, (none, 0), (none, 0)), (ownB, (some ⟨x48, 0, none⟩, 3), (some ⟨y48, 0, none⟩, 1)), (ownB, (some ⟨x49, 0, none⟩, 3), (some ⟨y49, 0, none⟩, 1)), (ownB, (some ⟨x50, 0, none⟩, 3), (some ⟨y50, 0, none⟩, 1)), (ownB, (some ⟨x51, 0, none⟩, 3), (some ⟨y51, 0, none⟩, 1)), (ownB, (some ⟨x52, 0, none⟩, 3), (some ⟨y52, 0, none⟩, 1)), (ownB, (some ⟨x53, 0, none⟩, 3), (some ⟨y53, 0, none⟩, 1)), (ownB, (some ⟨x54, 0, none⟩, 3), (some ⟨y54, 0, none⟩, 1)), (ownB, (some ⟨x55, 0, none⟩, 3), (some ⟨y55, 0, none⟩, 1)), (sp9, (some ⟨x57, 0, none⟩, 3), (some ⟨b56, 0, none⟩, 1)), (sp10, (some ⟨x59, 0, none⟩, 3), (some ⟨b58, 0, none⟩, 1)), (sp11, (some ⟨x61, 0, none⟩, 3), (some ⟨b60, 0, none⟩, 7)), (ownB, (some ⟨x62, 0, none⟩, 3), (some ⟨y62, 0, none⟩, 1))] : List BX).flatMap bxL) sl_73_28_9 zs_28_9 rfl rfl rfl rfl rfl rfl (fun b63 => ?_))
  refine AS.cons (sp_asg rfl ?_)
  refine AS.nil ?_
  intro _ S
  refine W.seq (W.region S ?_)
  refine AS.cons (sp_move rfl ?_)
  refine AS.cons (sp_iaS 63 (a := some ⟨b63, 0, none⟩) (n := 13) (s := 9) (i := 1) rfl rfl rfl sl_73_28_9 (by omega) ?_)
  refine AS.cons (sp_fa rfl fo_28_0_0 ?_)
  refine AS.cons (sp_iaa rfl rfl ar_22_3_3_1 (by first | omega | (simp only [decide_eq_true_eq, decide_eq_false_iff_not] at *; omega)) ?_)
  refine AS.cons (sp_stSo 63 0 (a := some ⟨b63, 0, none⟩) (n := 13) (s := 9) (i := 1) (vs := [iv 10]) (r := (([(sp0, (none, 0), (none, 0)), (sp1, (some ⟨x48, 0, none⟩, 3), (some ⟨y48, 0, none⟩, 1)), (ownB, (some ⟨x49, 0, none⟩, 3), (some ⟨y49, 0, none⟩, 1)), (ownB, (some ⟨x50, 0, none⟩, 3), (some ⟨y50, 0, none⟩, 1)), (ownB, (some ⟨x51, 0, none⟩, 3), (some ⟨y51, 0, none⟩, 1)), (ownB, (some ⟨x52, 0, none⟩, 3), (some ⟨y52, 0, none⟩, 1)), (ownB, (some ⟨x53, 0, none⟩, 3), (some ⟨y53, 0, none⟩, 1)), (ownB, (some ⟨x54, 0, none⟩, 3), (some ⟨y54, 0, none⟩, 1)), (ownB, (some ⟨x55, 0, none⟩, 3), (some ⟨y55, 0, none⟩, 1)), (sp9, (some ⟨x57, 0, none⟩, 3), (some ⟨b56, 0, none⟩, 1)), (sp10, (some ⟨x59, 0, none⟩, 3), (some ⟨b58, 0, none⟩, 1)), (sp11, (some ⟨x61, 0, none⟩, 3), (some ⟨b60, 0, none⟩, 7)), (ownB, (some ⟨x62, 0, none⟩, 3), (some ⟨y62, 0, none⟩, 1))] : List BX).flatMap bxL)) rfl rfl rfl rfl sz_3_1 rfl rfl (by decide) ?_)
  refine AS.nil ?_
  intro _ S
  refine W.seq (W.region S ?_)
  refine AS.cons (sp_move rfl ?_)
  refine AS.cons (sp_iaS 63 (a := some ⟨b63, 0, none⟩) (n := 13) (s := 9) (i := 2) rfl rfl rfl sl_73_28_9 (by omega) ?_)
  refine AS.cons (sp_fa rfl fo_28_0_0 ?_)
  refine AS.cons (sp_iaa rfl rfl ar_22_3_3_1 (by first | omega | (simp only [decide_eq_true_eq, decide_eq_false_iff_not] at *; omega)) ?_)
  refine AS.cons (sp_stSo 63 2 (a := some ⟨b63, 0, none⟩) (n := 13) (s := 9) (i := 2) (vs := [iv (-1)]) (r := (([(sp0, (none, 0), (none, 0)), (sp1, (some ⟨x48, 0, none⟩, 3), (some ⟨y48, 0, none⟩, 1)), (sp2, (some ⟨x49, 0, none⟩, 3), (some ⟨y49, 0, none⟩, 1)), (ownB, (some ⟨x50, 0, none⟩, 3), (some ⟨y50, 0, none⟩, 1)), (ownB, (some ⟨x51, 0, none⟩, 3), (some ⟨y51, 0, none⟩, 1)), (ownB, (some ⟨x52, 0, none⟩, 3), (some ⟨y52, 0, none⟩, 1)), (ownB, (some ⟨x53, 0, none⟩, 3), (some ⟨y53, 0, none⟩, 1)), (ownB, (some ⟨x54, 0, none⟩, 3), (some ⟨y54, 0, none⟩, 1)), (ownB, (some ⟨x55, 0, none⟩, 3), (some ⟨y55, 0, none⟩, 1)), (sp9, (some ⟨x57, 0, none⟩, 3), (some ⟨b56, 0, none⟩, 1)), (sp10, (some ⟨x59, 0, none⟩, 3), (some ⟨b58, 0, none⟩, 1)), (sp11, (some ⟨x61, 0, none⟩, 3), (some ⟨b60, 0, none⟩, 7)), (ownB, (some ⟨x62, 0, none⟩, 3), (some ⟨y62, 0, none⟩, 1))] : List BX).flatMap bxL)) rfl rfl rfl rfl sz_3_1 rfl rfl (by decide) ?_)
  refine AS.nil ?_
  intro _ S
  refine W.seq (W.region S ?_)
  refine AS.cons (sp_move rfl ?_)
  refine AS.cons (sp_iaS 63 (a := some ⟨b63, 0, none⟩) (n := 13) (s := 9) (i := 3) rfl rfl rfl sl_73_28_9 (by omega) ?_)
  refine AS.cons (sp_fa rfl fo_28_1_3 ?_)
  refine AS.cons (sp_ldSo 63 3 (a := some ⟨b63, 0, none⟩) (n := 13) (s := 9) (i := 3) (v := .slice (some ⟨x50, 0, none⟩) 3 3) rfl rfl sc_23 rfl (by decide) ?_)
  refine AS.cons (sp_ia rfl rfl sl_23_75_3 (by first | omega | (simp only [decide_eq_true_eq, decide_eq_false_iff_not] at *; omega)) ?_)
  refine AS.cons (sp_fa rfl fo_75_1_1 ?_)
  refine AS.cons (sp_st 50 rfl rfl rfl rfl sz_3_1 rfl rfl ?_)
  refine AS.nil ?_
  intro _ S
  refine W.seq (W.region S ?_)
  refine AS.cons (sp_move rfl ?_)
  refine AS.cons (sp_mk 79 sl_23_75_3 zs_75_3 zv_75 (n := 7) rfl rfl (by decide) (fun b79 => ?_))
  refine AS.cons (sp_iaS 63 (a := some ⟨b63, 0, none⟩) (n := 13) (s := 9) (i := 4) rfl rfl rfl sl_73_28_9 (by omega) ?_)
  refine AS.cons (sp_fa rfl fo_28_1_3 ?_)
  refine AS.cons (sp_stSo 63 3 (a := some ⟨b63, 0, none⟩) (n := 13) (s := 9) (i := 4) (vs := [.slice (some ⟨b79, 0, none⟩) 7 7]) (r := (([(sp0, (none, 0), (none, 0)), (sp1, (some ⟨x48, 0, none⟩, 3), (some ⟨y48, 0, none⟩, 1)), (sp2, (some ⟨x49, 0, none⟩, 3), (some ⟨y49, 0, none⟩, 1)), (sp3, (some ⟨x50, 0, none⟩, 3), (some ⟨y50, 0, none⟩, 1)), (sp4, (some ⟨b79, 0, none⟩, 7), (some ⟨y51, 0, none⟩, 1)), (ownB, (some ⟨x52, 0, none⟩, 3), (some ⟨y52, 0, none⟩, 1)), (ownB, (some ⟨x53, 0, none⟩, 3), (some ⟨y53, 0, none⟩, 1)), (ownB, (some ⟨x54, 0, none⟩, 3), (some ⟨y54, 0, none⟩, 1)), (ownB, (some ⟨x55, 0, none⟩, 3), (some ⟨y55, 0, none⟩, 1)), (sp9, (some ⟨x57, 0, none⟩, 3), (some ⟨b56, 0, none⟩, 1)), (sp10, (some ⟨x59, 0, none⟩, 3), (some ⟨b58, 0, none⟩, 1)), (sp11, (some ⟨x61, 0, none⟩, 3), (some ⟨b60, 0, none⟩, 7)), (ownB, (some ⟨x62, 0, none⟩, 3), (some ⟨y62, 0, none⟩, 1))] : List BX).flatMap bxL)) rfl rfl rfl rfl sz_23_1 rfl rfl (by decide) ?_)
  refine AS.nil ?_
  intro _ S
  refine W.seq (W.region S ?_)
  refine AS.cons (sp_move rfl ?_)
  refine AS.cons (sp_call [] rfl rfl cf_51 (fun F w _ S => toF _ _ w) ?_)
  refine AS.cons (sp_iaS 63 (a := some ⟨b63, 0, none⟩) (n := 13) (s := 9) (i := 5) rfl rfl rfl sl_73_28_9 (by omega) ?_)
  refine AS.cons (sp_fa rfl fo_28_2_4 ?_)
  refine AS.cons (sp_stSo 63 4 (a := some ⟨b63, 0, none⟩) (n := 13) (s := 9) (i := 5) (vs := [iv 100, iv 121]) (r := (([(sp0, (none, 0), (none, 0)), (sp1, (some ⟨x48, 0, none⟩, 3), (some ⟨y48, 0, none⟩, 1)), (sp2, (some ⟨x49, 0, none⟩, 3), (some ⟨y49, 0, none⟩, 1)), (sp3, (some ⟨x50, 0, none⟩, 3), (some ⟨y50, 0, none⟩, 1)), (sp4, (some ⟨b79, 0, none⟩, 7), (some ⟨y51, 0, none⟩, 1)), (sp5, (some ⟨x52, 0, none⟩, 3), (some ⟨y52, 0, none⟩, 1)), (ownB, (some ⟨x53, 0, none⟩, 3), (some ⟨y53, 0, none⟩, 1)), (ownB, (some ⟨x54, 0, none⟩, 3), (some ⟨y54, 0, none⟩, 1)), (ownB, (some ⟨x55, 0, none⟩, 3), (some ⟨y55, 0, none⟩, 1)), (sp9, (some ⟨x57, 0, none⟩, 3), (some ⟨b56, 0, none⟩, 1)), (sp10, (some ⟨x59, 0, none⟩, 3), (some ⟨b58, 0, none⟩, 1)), (sp11, (some ⟨x61, 0, none⟩, 3), (some ⟨b60, 0, none⟩, 7)), (ownB, (some ⟨x62, 0, none⟩, 3), (some ⟨y62, 0, none⟩, 1))] : List BX).flatMap bxL)) rfl rfl rfl rfl sz_25_2 rfl rfl (by decide) ?_)
  refine AS.nil ?_
  intro _ S
  refine W.seq (W.region S ?_)
  refine AS.cons (sp_move rfl ?_)
  refine AS.cons (sp_call [] rfl rfl cf_51 (fun F w _ S => toF _ _ w) ?_)
  refine AS.cons (sp_iaS 63 (a := some ⟨b63, 0, none⟩) (n := 13) (s := 9) (i := 6) rfl rfl rfl sl_73_28_9 (by omega) ?_)
  refine AS.cons (sp_fa rfl fo_28_2_4 ?_)
  refine AS.cons (sp_stSo 63 4 (a := some ⟨b63, 0, none⟩) (n := 13) (s := 9) (i := 6) (vs := [iv 9990, iv 10000]) (r := (([(sp0, (none, 0), (none, 0)), (sp1, (some ⟨x48, 0, none⟩, 3), (some ⟨y48, 0, none⟩, 1)), (sp2, (some ⟨x49, 0, none⟩, 3), (some ⟨y49, 0, none⟩, 1)), (sp3, (some ⟨x50, 0, none⟩, 3), (some ⟨y50, 0, none⟩, 1)), (sp4, (some ⟨b79, 0, none⟩, 7), (some ⟨y51, 0, none⟩, 1)), (sp5, (some ⟨x52, 0, none⟩, 3), (some ⟨y52, 0, none⟩, 1)), (sp6, (some ⟨x53, 0, none⟩, 3), (some ⟨y53, 0, none⟩, 1)), (ownB, (some ⟨x54, 0, none⟩, 3), (some ⟨y54, 0, none⟩, 1)), (ownB, (some ⟨x55, 0, none⟩, 3), (some ⟨y55, 0, none⟩, 1)), (sp9, (some ⟨x57, 0, none⟩, 3), (some ⟨b56, 0, none⟩, 1)), (sp10, (some ⟨x59, 0, none⟩, 3), (some ⟨b58, 0, none⟩, 1)), (sp11, (some ⟨x61, 0, none⟩, 3), (some ⟨b60, 0, none⟩, 7)), (ownB, (some ⟨x62, 0, none⟩, 3), (some ⟨y62, 0, none⟩, 1))] : List BX).flatMap bxL)) rfl rfl rfl rfl sz_25_2 rfl rfl (by decide) ?_)
  refine AS.nil ?_
  intro _ S
  refine W.seq (W.region S ?_)
  refine AS.cons (sp_move rfl ?_)
  refine AS.cons (sp_call [] rfl rfl cf_51 (fun F w _ S => toF _ _ w) ?_)
  refine AS.cons (sp_iaS 63 (a := some ⟨b63, 0, none⟩) (n := 13) (s := 9) (i := 7) rfl rfl rfl sl_73_28_9 (by omega) ?_)
  refine AS.cons (sp_fa rfl fo_28_3_6 ?_)
  refine AS.cons (sp_stSo 63 6 (a := some ⟨b63, 0, none⟩) (n := 13) (s := 9) (i := 7) (vs := [iv 7, iv 58]) (r := (([(sp0, (none, 0), (none, 0)), (sp1, (some ⟨x48, 0, none⟩, 3), (some ⟨y48, 0, none⟩, 1)), (sp2, (some ⟨x49, 0, none⟩, 3), (some ⟨y49, 0, none⟩, 1)), (sp3, (some ⟨x50, 0, none⟩, 3), (some ⟨y50, 0, none⟩, 1)), (sp4, (some ⟨b79, 0, none⟩, 7), (some ⟨y51, 0, none⟩, 1)), (sp5, (some ⟨x52, 0, none⟩, 3), (some ⟨y52, 0, none⟩, 1)), (sp6, (some ⟨x53, 0, none⟩, 3), (some ⟨y53, 0, none⟩, 1)), (sp7, (some ⟨x54, 0, none⟩, 3), (some ⟨y54, 0, none⟩, 1)), (ownB, (some ⟨x55, 0, none⟩, 3), (some ⟨y55, 0, none⟩, 1)), (sp9, (some ⟨x57, 0, none⟩, 3), (some ⟨b56, 0, none⟩, 1)), (sp10, (some ⟨x59, 0, none⟩, 3), (some ⟨b58, 0, none⟩, 1)), (sp11, (some ⟨x61, 0, none⟩, 3), (some ⟨b60, 0, none⟩, 7)), (ownB, (some ⟨x62, 0, none⟩, 3), (some ⟨y62, 0, none⟩, 1))] : List BX).flatMap bxL)) rfl rfl rfl rfl sz_25_2 rfl rfl (by decide) ?_)
  refine AS.nil ?_
  intro _ S
  refine W.seq (W.region S ?_)
  refine AS.cons (sp_move rfl ?_)
  refine AS.cons (sp_call [] rfl rfl cf_51 (fun F w _ S => toF _ _ w) ?_)
  refine AS.cons (sp_iaS 63 (a := some ⟨b63, 0, none⟩) (n := 13) (s := 9) (i := 8) rfl rfl rfl sl_73_28_9 (by omega) ?_)
  refine AS.cons (sp_fa rfl fo_28_3_6 ?_)
  refine AS.cons (sp_stSo 63 6 (a := some ⟨b63, 0, none⟩) (n := 13) (s := 9) (i := 8) (vs := [iv 9990, iv 10000]) (r := (([(sp0, (none, 0), (none, 0)), (sp1, (some ⟨x48, 0, none⟩, 3), (some ⟨y48, 0, none⟩, 1)), (sp2, (some ⟨x49, 0, none⟩, 3), (some ⟨y49, 0, none⟩, 1)), (sp3, (some ⟨x50, 0, none⟩, 3), (some ⟨y50, 0, none⟩, 1)), (sp4, (some ⟨b79, 0, none⟩, 7), (some ⟨y51, 0, none⟩, 1)), (sp5, (some ⟨x52, 0, none⟩, 3), (some ⟨y52, 0, none⟩, 1)), (sp6, (some ⟨x53, 0, none⟩, 3), (some ⟨y53, 0, none⟩, 1)), (sp7, (some ⟨x54, 0, none⟩, 3), (some ⟨y54, 0, none⟩, 1)), (sp8, (some ⟨x55, 0, none⟩, 3), (some ⟨y55, 0, none⟩, 1)), (sp9, (some ⟨x57, 0, none⟩, 3), (some ⟨b56, 0, none⟩, 1)), (sp10, (some ⟨x59, 0, none⟩, 3), (some ⟨b58, 0, none⟩, 1)), (sp11, (some ⟨x61, 0, none⟩, 3), (some ⟨b60, 0, none⟩, 7)), (ownB, (some ⟨x62, 0, none⟩, 3), (some ⟨y62, 0, none⟩, 1))] : List BX).flatMap bxL)) rfl rfl rfl rfl sz_25_2 rfl rfl (by decide) ?_)
  refine AS.nil ?_
  intro _ S
  refine W.seq (W.region S ?_)
  refine AS.cons (sp_move rfl ?_)
  refine AS.cons (sp_build [iv 0, iv 0, iv 0] (by kernel_rfl) ?_)
  refine AS.cons (sp_iaS 63 (a := some ⟨b63, 0, none⟩) (n := 13) (s := 9) (i := 12) rfl rfl rfl sl_73_28_9 (by omega) ?_)
  refine AS.cons (sp_fa rfl fo_28_0_0 ?_)
  refine AS.cons (sp_stSo 63 0 (a := some ⟨b63, 0, none⟩) (n := 13) (s := 9) (i := 12) (vs := [iv 0, iv 0, iv 0]) (r := (([(sp0, (none, 0), (none, 0)), (sp1, (some ⟨x48, 0, none⟩, 3), (some ⟨y48, 0, none⟩, 1)), (sp2, (some ⟨x49, 0, none⟩, 3), (some ⟨y49, 0, none⟩, 1)), (sp3, (some ⟨x50, 0, none⟩, 3), (some ⟨y50, 0, none⟩, 1)), (sp4, (some ⟨b79, 0, none⟩, 7), (some ⟨y51, 0, none⟩, 1)), (sp5, (some ⟨x52, 0, none⟩, 3), (some ⟨y52, 0, none⟩, 1)), (sp6, (some ⟨x53, 0, none⟩, 3), (some ⟨y53, 0, none⟩, 1)), (sp7, (some ⟨x54, 0, none⟩, 3), (some ⟨y54, 0, none⟩, 1)), (sp8, (some ⟨x55, 0, none⟩, 3), (some ⟨y55, 0, none⟩, 1)), (sp9, (some ⟨x57, 0, none⟩, 3), (some ⟨b56, 0, none⟩, 1)), (sp10, (some ⟨x59, 0, none⟩, 3), (some ⟨b58, 0, none⟩, 1)), (sp11, (some ⟨x61, 0, none⟩, 3), (some ⟨b60, 0, none⟩, 7)), (sp12, (some ⟨x62, 0, none⟩, 3), (some ⟨y62, 0, none⟩, 1))] : List BX).flatMap bxL)) rfl rfl rfl rfl sz_22_3 rfl rfl (by decide) ?_)
  refine AS.nil ?_
  intro _ S
  refine W.seq (W.seq (W.region S ?_))
  refine AS.cons (sp_asg rfl ?_)
  refine AS.nil ?_
  intro _ S
  refine W.forget [(1, .slice (some ⟨b63, 0, none⟩) 13 13), (2, iv 0)] ⟨rfl, rfl, trivial⟩ (fun σ => ?_)
  have S := S.forget ((63, slc 28 9 (.slice (some ⟨b63, 0, none⟩) 13 13) 13 ((bdL x48 y48 x49 y49 x50 y50 y51 b79 x52 y52 x53 y53 x54 y54 x55 y55 x57 b56 x59 b58 x61 b60 x62 y62).flatMap bxL)) :: bdK x48 y48 x49 y49 x50 y50 y51 b79 x52 y52 x53 y53 x54 y54 x55 y55 x57 b56 x59 b58 x61 b60 x62 y62) ⟨rfl, rfl, rfl, rfl, rfl, rfl, rfl, rfl, rfl, rfl, rfl, rfl, rfl, rfl, rfl, rfl, rfl, rfl, rfl, rfl, rfl, rfl, rfl, rfl, rfl, trivial⟩
  refine W.block ?_
  refine W.loopS S [0, 2, 3, 4, 5, 6, 7, 8, 9, 10, 11, 12, 13, 14, 15, 16, 17, 18, 102, 103, 104, 105, 106, 107, 108, 109, 110, 111, 112, 113, 114, 115, 116, 117, 118, 119, 120, 121, 122, 123, 124, 125, 126, 127, 128, 129, 130, 131, 132, 133, 134, 135, 136, 137, 138, 139, 140, 141, 142, 143, 144, 145, 146, 147, 148, 149, 150, 151, 152, 153, 154, 155, 156, 157, 158, 159, 160, 161, 162, 163, 164, 165, 166, 167, 168, 169, 170, 171, 172, 173, 174, 175, 176, 177, 178, 179, 180, 181, 182, 183, 184, 185, 186, 187, 188, 189, 190, 191, 192, 193, 194, 195, 196, 197, 198, 199, 200, 201, 202, 203, 204, 205, 206, 207, 208, 209, 210] [11, 113, 121, 137, 153, 170] (fun (j : Nat) => [(2, iv j)]) (fun _ => []) (fun j => j ≤ 13) (fun j => 13 - j) 0 (by omega) ⟨rfl, trivial⟩ trivial ?_
  rintro j σ1 M w2 hj S
  refine W.seq (W.seq (W.region S ?_))
  refine AS.cons (sp_move (v := .int _ _) rfl ?_)
  refine AS.cons (sp_move rfl ?_)
  refine AS.cons (sp_len rfl sl_73_28_9 ?_)
  refine AS.cons (sp_lss rfl rfl ?_)
  refine AS.nil ?_
  intro _ S
  refine W.condd rfl (fun c105 => ?_) (fun c105 => ?_)
  · skip
    have hlt : j < 13 := by omega
    obtain ⟨x, hx⟩ : ∃ x, (bdL x48 y48 x49 y49 x50 y50 y51 b79 x52 y52 x53 y53 x54 y54 x55 y55 x57 b56 x59 b58 x61 b60 x62 y62)[j]? = some x := ⟨_, List.getElem?_eq_getElem (show j < 13 from hlt)⟩
    have hxm := List.mem_of_getElem? hx
    have hok := bdL_ok _ _ _ _ _ _ _ _ _ _ _ _ _ _ _ _ _ _ _ _ _ _ _ _ x hxm
    have hq : ∀ (F : Nat → HP) (w0 w : World), AllEq (bdK x48 y48 x49 y49 x50 y50 y51 b79 x52 y52 x53 y53 x54 y54 x55 y55 x57 b56 x59 b58 x61 b60 x62 y62) F → St no w0 w F [] → Hos w x.2.1.1 x.2.1.2 x.1.hs ∧ Ints w x.2.2.1 x.2.2.2 x.1.dr := fun F w0 w h S => bdL_rd _ _ _ _ _ _ _ _ _ _ _ _ _ _ _ _ _ _ _ _ _ _ _ _ S h x hxm
    have hv := rdL_flat (f := bxL) (s := 9) (fun _ => rfl) hx
    refine W.skip ?_
    refine W.seq (W.block ?_)
    refine W.seq (W.region S ?_)
    refine AS.cons (sp_move rfl ?_)
    refine AS.cons (sp_move (v := .int _ _) rfl ?_)
    refine AS.cons (sp_iaS 63 (a := some ⟨b63, 0, none⟩) (n := 13) (s := 9) (i := (j : Int)) rfl rfl rfl sl_73_28_9 (by omega) ?_)
    refine AS.cons (sp_ldaSo 63 (a := some ⟨b63, 0, none⟩) (n := 13) (s := 9) (i := (j : Int)) (vs := bxL x) rfl rfl ag_28_9 hv (by decide) ?_)
    refine AS.cons (sp_call1 113 [48, 548, 49, 549, 50, 550, 551, 79, 52, 552, 53, 553, 54, 554, 55, 555, 57, 56, 59, 58, 61, 60, 62, 562] _ rfl rfl cf_19 (fun F w hF S => by have hi := hq F _ w (AllEq.of hF (bdK_ks _ _ _ _ _ _ _ _ _ _ _ _ _ _ _ _ _ _ _ _ _ _ _ _) ⟨rfl, rfl, rfl, rfl, rfl, rfl, rfl, rfl, rfl, rfl, rfl, rfl, rfl, rfl, rfl, rfl, rfl, rfl, rfl, rfl, rfl, rfl, rfl, rfl, trivial⟩) S; exact sharesX hok w (hK.ext S.mod) hi.1 hi.2) ?_ (by simp))
    rintro v113 i113 ⟨a113, c113, h113, rfl, rfl⟩
    refine AS.cons (sp_move rfl ?_)
    refine AS.cons (sp_ext rfl rfl ?_)
    refine AS.cons (sp_ext rfl rfl ?_)
    refine AS.cons (sp_asg rfl ?_)
    refine AS.cons (sp_asg (v := .int _ _) rfl ?_)
    refine AS.nil ?_
    intro _ S
    refine W.seq (W.region S ?_)
    refine AS.cons (sp_move rfl ?_)
    refine AS.cons (sp_move (v := .int _ _) rfl ?_)
    refine AS.cons (sp_iaS 63 (a := some ⟨b63, 0, none⟩) (n := 13) (s := 9) (i := (j : Int)) rfl rfl rfl sl_73_28_9 (by omega) ?_)
    refine AS.cons (sp_ldaSo 63 (a := some ⟨b63, 0, none⟩) (n := 13) (s := 9) (i := (j : Int)) (vs := bxL x) rfl rfl ag_28_9 hv (by decide) ?_)
    refine AS.cons (sp_call1 121 [48, 548, 49, 549, 50, 550, 551, 79, 52, 552, 53, 553, 54, 554, 55, 555, 57, 56, 59, 58, 61, 60, 62, 562] _ rfl rfl cf_22 (fun F w hF S => by have hi := hq F _ w (AllEq.of hF (bdK_ks _ _ _ _ _ _ _ _ _ _ _ _ _ _ _ _ _ _ _ _ _ _ _ _) ⟨rfl, rfl, rfl, rfl, rfl, rfl, rfl, rfl, rfl, rfl, rfl, rfl, rfl, rfl, rfl, rfl, rfl, rfl, rfl, rfl, rfl, rfl, rfl, rfl, trivial⟩) S; exact orderX hok (-1) w (hK.ext S.mod) hi.1 hi.2) ?_ (by simp))
    rintro v121 i121 ⟨a121, c121, h121, rfl, rfl⟩
    refine AS.cons (sp_move rfl ?_)
    refine AS.cons (sp_ext rfl rfl ?_)
    refine AS.cons (sp_ext rfl rfl ?_)
    refine AS.cons (sp_asg rfl ?_)
    refine AS.cons (sp_asg (v := .int _ _) rfl ?_)
    refine AS.nil ?_
    intro _ S
    refine W.seq (W.region S ?_)
    refine AS.cons (sp_move rfl ?_)
    refine AS.cons (sp_move (v := .int _ _) rfl ?_)
    refine AS.cons (sp_iaS 63 (a := some ⟨b63, 0, none⟩) (n := 13) (s := 9) (i := (j : Int)) rfl rfl rfl sl_73_28_9 (by omega) ?_)
    refine AS.cons (sp_ldaSo 63 (a := some ⟨b63, 0, none⟩) (n := 13) (s := 9) (i := (j : Int)) (vs := bxL x) rfl rfl ag_28_9 hv (by decide) ?_)
    refine AS.cons (sp_call [48, 548, 49, 549, 50, 550, 551, 79, 52, 552, 53, 553, 54, 554, 55, 555, 57, 56, 59, 58, 61, 60, 62, 562] rfl rfl cf_15 (fun F w hF S => by have hi := hq F _ w (AllEq.of hF (bdK_ks _ _ _ _ _ _ _ _ _ _ _ _ _ _ _ _ _ _ _ _ _ _ _ _) ⟨rfl, rfl, rfl, rfl, rfl, rfl, rfl, rfl, rfl, rfl, rfl, rfl, rfl, rfl, rfl, rfl, rfl, rfl, rfl, rfl, rfl, rfl, rfl, rfl, trivial⟩) S; exact rightX hok w (hK.ext S.mod) hi.1 hi.2) ?_)
    refine AS.cons (sp_move rfl ?_)
    refine AS.cons (sp_ext rfl rfl ?_)
    refine AS.cons (sp_ext rfl rfl ?_)
    refine AS.cons (sp_asg (v := .bool _) rfl ?_)
    refine AS.cons (sp_asg (v := .int _ _) rfl ?_)
    refine AS.nil ?_
    intro _ S
    refine W.seq (W.region S ?_)
    refine AS.cons (sp_move rfl ?_)
    refine AS.cons (sp_move (v := .int _ _) rfl ?_)
    refine AS.cons (sp_iaS 63 (a := some ⟨b63, 0, none⟩) (n := 13) (s := 9) (i := (j : Int)) rfl rfl rfl sl_73_28_9 (by omega) ?_)
    refine AS.cons (sp_ldaSo 63 (a := some ⟨b63, 0, none⟩) (n := 13) (s := 9) (i := (j : Int)) (vs := bxL x) rfl rfl ag_28_9 hv (by decide) ?_)
    refine AS.cons (sp_call1 137 [48, 548, 49, 549, 50, 550, 551, 79, 52, 552, 53, 553, 54, 554, 55, 555, 57, 56, 59, 58, 61, 60, 62, 562] _ rfl rfl cf_24 (fun F w hF S => by have hi := hq F _ w (AllEq.of hF (bdK_ks _ _ _ _ _ _ _ _ _ _ _ _ _ _ _ _ _ _ _ _ _ _ _ _) ⟨rfl, rfl, rfl, rfl, rfl, rfl, rfl, rfl, rfl, rfl, rfl, rfl, rfl, rfl, rfl, rfl, rfl, rfl, rfl, rfl, rfl, rfl, rfl, rfl, trivial⟩) S; exact seedsX hok w (hK.ext S.mod) hi.1 hi.2) ?_ (by simp))
    rintro v137 i137 ⟨a137, c137, h137, rfl, rfl⟩
    refine AS.cons (sp_move rfl ?_)
    refine AS.cons (sp_ext rfl rfl ?_)
    refine AS.cons (sp_ext rfl rfl ?_)
    refine AS.cons (sp_asg rfl ?_)
    refine AS.cons (sp_asg (v := .int _ _) rfl ?_)
    refine AS.nil ?_
    intro _ S
    refine W.seq (W.region S ?_)
    refine AS.cons (sp_move rfl ?_)
    refine AS.cons (sp_move (v := .int _ _) rfl ?_)
    refine AS.cons (sp_iaS 63 (a := some ⟨b63, 0, none⟩) (n := 13) (s := 9) (i := (j : Int)) rfl rfl rfl sl_73_28_9 (by omega) ?_)
    refine AS.cons (sp_ldaSo 63 (a := some ⟨b63, 0, none⟩) (n := 13) (s := 9) (i := (j : Int)) (vs := bxL x) rfl rfl ag_28_9 hv (by decide) ?_)
    refine AS.cons (sp_call [48, 548, 49, 549, 50, 550, 551, 79, 52, 552, 53, 553, 54, 554, 55, 555, 57, 56, 59, 58, 61, 60, 62, 562] rfl rfl cf_27 (fun F w hF S => by have hi := hq F _ w (AllEq.of hF (bdK_ks _ _ _ _ _ _ _ _ _ _ _ _ _ _ _ _ _ _ _ _ _ _ _ _) ⟨rfl, rfl, rfl, rfl, rfl, rfl, rfl, rfl, rfl, rfl, rfl, rfl, rfl, rfl, rfl, rfl, rfl, rfl, rfl, rfl, rfl, rfl, rfl, rfl, trivial⟩) S; exact payX hok (-1) w (hK.ext S.mod) hi.1 hi.2) ?_)
    refine AS.cons (sp_move rfl ?_)
    refine AS.cons (sp_ext rfl rfl ?_)
    refine AS.cons (sp_ext rfl rfl ?_)
    refine AS.cons (sp_alloc 11 zv_25 rfl (fun b11 => ?_))
    refine AS.cons (sp_st 11 rfl rfl rfl rfl sz_25_2 rfl rfl ?_)
    refine AS.cons (sp_asg (v := .int _ _) rfl ?_)
    refine AS.nil ?_
    intro _ S
    refine W.seq (W.region S ?_)
    refine AS.cons (sp_move rfl ?_)
    refine AS.cons (sp_move (v := .int _ _) rfl ?_)
    refine AS.cons (sp_iaS 63 (a := some ⟨b63, 0, none⟩) (n := 13) (s := 9) (i := (j : Int)) rfl rfl rfl sl_73_28_9 (by omega) ?_)
    refine AS.cons (sp_ldaSo 63 (a := some ⟨b63, 0, none⟩) (n := 13) (s := 9) (i := (j : Int)) (vs := bxL x) rfl rfl ag_28_9 hv (by decide) ?_)
    refine AS.cons (sp_bs 153 [.const (.int .i64 (-1))] _ sl_26_3_1 zs_3_1 rfl rfl rfl rfl rfl rfl (fun b153 => ?_))
    refine AS.cons (sp_call [48, 548, 49, 549, 50, 550, 551, 79, 52, 552, 53, 553, 54, 554, 55, 555, 57, 56, 59, 58, 61, 60, 62, 562, 153] rfl rfl cf_29 (fun F w hF S => by have hi := hq F _ w (AllEq.of hF (fun p hp => by have := bdK_ks _ _ _ _ _ _ _ _ _ _ _ _ _ _ _ _ _ _ _ _ _ _ _ _ p hp; simp only [List.mem_cons, List.not_mem_nil, or_false] at this ⊢; omega) ⟨rfl, rfl, rfl, rfl, rfl, rfl, rfl, rfl, rfl, rfl, rfl, rfl, rfl, rfl, rfl, rfl, rfl, rfl, rfl, rfl, rfl, rfl, rfl, rfl, trivial⟩) S; exact canX hok (some ⟨b153, 0, none⟩) 1 [-1] w (hK.ext S.mod) hi.1 hi.2 (dr_pt (Nat.le_of_ble_eq_true rfl) (getO S (hF 153 (by simp)) rfl))) ?_)
    refine AS.cons (sp_move rfl ?_)
    refine AS.cons (sp_ext rfl rfl ?_)
    refine AS.cons (sp_ext rfl rfl ?_)
    refine AS.cons (sp_asg (v := .bool _) rfl ?_)
    refine AS.cons (sp_asg (v := .int _ _) rfl ?_)
    refine AS.nil ?_
    intro _ S
    refine W.seq (W.region S ?_)
    refine AS.cons (sp_move rfl ?_)
    refine AS.cons (sp_move (v := .int _ _) rfl ?_)
    refine AS.cons (sp_iaS 63 (a := some ⟨b63, 0, none⟩) (n := 13) (s := 9) (i := (j : Int)) rfl rfl rfl sl_73_28_9 (by omega) ?_)
    refine AS.cons (sp_ldaSo 63 (a := some ⟨b63, 0, none⟩) (n := 13) (s := 9) (i := (j : Int)) (vs := bxL x) rfl rfl ag_28_9 hv (by decide) ?_)
    refine AS.cons (sp_call [48, 548, 49, 549, 50, 550, 551, 79, 52, 552, 53, 553, 54, 554, 55, 555, 57, 56, 59, 58, 61, 60, 62, 562] rfl rfl cf_31 (fun F w hF S => by have hi := hq F _ w (AllEq.of hF (bdK_ks _ _ _ _ _ _ _ _ _ _ _ _ _ _ _ _ _ _ _ _ _ _ _ _) ⟨rfl, rfl, rfl, rfl, rfl, rfl, rfl, rfl, rfl, rfl, rfl, rfl, rfl, rfl, rfl, rfl, rfl, rfl, rfl, rfl, rfl, rfl, rfl, rfl, trivial⟩) S; exact askX hok w (hK.ext S.mod) hi.1 hi.2) ?_)
    refine AS.cons (sp_move rfl ?_)
    refine AS.cons (sp_ext rfl rfl ?_)
    refine AS.cons (sp_ext rfl rfl ?_)
    refine AS.cons (sp_asg (v := .int _ _) rfl ?_)
    refine AS.cons (sp_asg (v := .int _ _) rfl ?_)
    refine AS.nil ?_
    intro _ S
    refine W.seq (W.region S ?_)
    refine AS.cons (sp_move rfl ?_)
    refine AS.cons (sp_move (v := .int _ _) rfl ?_)
    refine AS.cons (sp_iaS 63 (a := some ⟨b63, 0, none⟩) (n := 13) (s := 9) (i := (j : Int)) rfl rfl rfl sl_73_28_9 (by omega) ?_)
    refine AS.cons (sp_ldaSo 63 (a := some ⟨b63, 0, none⟩) (n := 13) (s := 9) (i := (j : Int)) (vs := bxL x) rfl rfl ag_28_9 hv (by decide) ?_)
    refine AS.cons (sp_call1 170 [48, 548, 49, 549, 50, 550, 551, 79, 52, 552, 53, 553, 54, 554, 55, 555, 57, 56, 59, 58, 61, 60, 62, 562] _ rfl rfl cf_33 (fun F w hF S => by have hi := hq F _ w (AllEq.of hF (bdK_ks _ _ _ _ _ _ _ _ _ _ _ _ _ _ _ _ _ _ _ _ _ _ _ _) ⟨rfl, rfl, rfl, rfl, rfl, rfl, rfl, rfl, rfl, rfl, rfl, rfl, rfl, rfl, rfl, rfl, rfl, rfl, rfl, rfl, rfl, rfl, rfl, rfl, trivial⟩) S; exact wrongX hok w (hK.ext S.mod) hi.1 hi.2) ?_ (by simp))
    rintro v170 i170 ⟨a170, c170, h170, rfl, rfl⟩
    refine AS.cons (sp_move rfl ?_)
    refine AS.cons (sp_ext rfl rfl ?_)
    refine AS.cons (sp_ext rfl rfl ?_)
    refine AS.cons (sp_asg rfl ?_)
    refine AS.cons (sp_asg (v := .int _ _) rfl ?_)
    refine AS.nil ?_
    intro _ S
    refine W.seq (W.region S ?_)
    refine AS.cons (sp_move rfl ?_)
    refine AS.cons (sp_move (v := .int _ _) rfl ?_)
    refine AS.cons (sp_iaS 63 (a := some ⟨b63, 0, none⟩) (n := 13) (s := 9) (i := (j : Int)) rfl rfl rfl sl_73_28_9 (by omega) ?_)
    refine AS.cons (sp_ldaSo 63 (a := some ⟨b63, 0, none⟩) (n := 13) (s := 9) (i := (j : Int)) (vs := bxL x) rfl rfl ag_28_9 hv (by decide) ?_)
    refine AS.cons (sp_call [48, 548, 49, 549, 50, 550, 551, 79, 52, 552, 53, 553, 54, 554, 55, 555, 57, 56, 59, 58, 61, 60, 62, 562] rfl rfl cf_17 (fun F w hF S => by have hi := hq F _ w (AllEq.of hF (bdK_ks _ _ _ _ _ _ _ _ _ _ _ _ _ _ _ _ _ _ _ _ _ _ _ _) ⟨rfl, rfl, rfl, rfl, rfl, rfl, rfl, rfl, rfl, rfl, rfl, rfl, rfl, rfl, rfl, rfl, rfl, rfl, rfl, rfl, rfl, rfl, rfl, rfl, trivial⟩) S; exact checkX hok w (hK.ext S.mod) hi.1 hi.2) ?_)
    refine AS.cons (sp_neq rfl rfl ?_)
    refine AS.cons (sp_move (v := .bool _) rfl ?_)
    refine AS.split 179 rfl (fun g179 => ?_) (fun g179 => ?_)
    · exact absurd g179 (by decide)
    · skip
      refine AS.cons (sp_move (v := .int _ _) rfl ?_)
      refine AS.cons (sp_neq rfl rfl ?_)
      refine AS.cons (sp_pick_f rfl (v := .bool _) rfl ?_)
      refine AS.cons (sp_move (v := .bool _) rfl ?_)
      refine AS.split 183 rfl (fun g183 => ?_) (fun g183 => ?_)
      · exact absurd g183 (by decide)
      · skip
        refine AS.cons (sp_move (v := .int _ _) rfl ?_)
        refine AS.cons (sp_neq rfl rfl ?_)
        refine AS.cons (sp_pick_f rfl (v := .bool _) rfl ?_)
        refine AS.cons (sp_move (v := .bool _) rfl ?_)
        refine AS.split 187 rfl (fun g187 => ?_) (fun g187 => ?_)
        · exact absurd g187 (by decide)
        · skip
          refine AS.cons (sp_move (v := .int _ _) rfl ?_)
          refine AS.cons (sp_neq rfl rfl ?_)
          refine AS.cons (sp_pick_f rfl (v := .bool _) rfl ?_)
          refine AS.cons (sp_move (v := .bool _) rfl ?_)
          refine AS.split 191 rfl (fun g191 => ?_) (fun g191 => ?_)
          · exact absurd g191 (by decide)
          · skip
            refine AS.cons (sp_move (v := .int _ _) rfl ?_)
            refine AS.cons (sp_neq rfl rfl ?_)
            refine AS.cons (sp_pick_f rfl (v := .bool _) rfl ?_)
            refine AS.cons (sp_move (v := .bool _) rfl ?_)
            refine AS.split 195 rfl (fun g195 => ?_) (fun g195 => ?_)
            · exact absurd g195 (by decide)
            · skip
              refine AS.cons (sp_move (v := .int _ _) rfl ?_)
              refine AS.cons (sp_neq rfl rfl ?_)
              refine AS.cons (sp_pick_f rfl (v := .bool _) rfl ?_)
              refine AS.cons (sp_move (v := .bool _) rfl ?_)
              refine AS.split 199 rfl (fun g199 => ?_) (fun g199 => ?_)
              · exact absurd g199 (by decide)
              · skip
                refine AS.cons (sp_move (v := .int _ _) rfl ?_)
                refine AS.cons (sp_neq rfl rfl ?_)
                refine AS.cons (sp_pick_f rfl (v := .bool _) rfl ?_)
                refine AS.cons (sp_move (v := .bool _) rfl ?_)
                refine AS.split 203 rfl (fun g203 => ?_) (fun g203 => ?_)
                · exact absurd g203 (by decide)
                · skip
                  refine AS.cons (sp_move (v := .int _ _) rfl ?_)
                  refine AS.cons (sp_neq rfl rfl ?_)
                  refine AS.cons (sp_pick_f rfl (v := .bool _) rfl ?_)
                  refine AS.cons (sp_move (v := .bool _) rfl ?_)
                  refine AS.split 207 rfl (fun g207 => ?_) (fun g207 => ?_)
                  · exact absurd g207 (by decide)
                  · skip
                    refine AS.cons (sp_move (v := .int _ _) rfl ?_)
                    refine AS.cons (sp_neq rfl rfl ?_)
                    refine AS.cons (sp_pick_f rfl (v := .bool _) rfl ?_)
                    refine AS.nil ?_
                    intro _ S
                    refine W.cond rfl (fun c210 => ?_) (fun c210 => ?_)
                    · exact absurd c210 (by decide)
                    · skip
                      refine W.skip ?_
                      refine W.region S ?_
                      refine AS.cons (sp_move (v := .int _ _) rfl ?_)
                      refine AS.cons (sp_add rfl rfl (by first | omega | (simp only [decide_eq_true_eq, decide_eq_false_iff_not] at *; omega)) ?_)
                      refine AS.cons (sp_asg (v := .int _ _) rfl ?_)
                      refine AS.nil ?_
                      intro _ S
                      exact ⟨j + 1, _, by omega, by omega, ⟨by simp [upd], trivial⟩, trivial, by repeat (first | exact Agr.refl _ _ | exact Agr.msk _ _ _ | refine Agr.upd ?_ _ rfl | refine Agr.upds ?_ rfl | refine Agr.mskIn ?_ rfl), by repeat (first | exact Agr.refl _ _ | exact Agr.msk _ _ _ | refine Agr.upd ?_ _ rfl | refine Agr.upds ?_ rfl | refine Agr.mskIn ?_ rfl), rfl, S⟩
  · skip
    refine W.exit ?_
    refine W.forget [] trivial (fun σ24 => ?_)
    have S := S.forget [] trivial
    refine W.seq (W.region S ?_)
    refine AS.cons (sp_call1s 212 712 [] _ (by decide) rfl rfl cf_61 (fun F w _ S => tornF w) ?_ (by simp))
    rintro v212 i212 j212 ⟨x212, y212, rfl, rfl, rfl⟩
    refine AS.cons (sp_call1 213 [212, 712] _ rfl rfl cf_22 (fun F w hF S => by have h := orderP tornB (some ⟨x212, 0, none⟩) 3 (some ⟨y212, 0, none⟩) 2 10000 w (hK.ext S.mod) (hos_pt (getO S (hF 212 (by simp)) rfl)) (dr_pt (by decide) (getO S (hF 712 (by simp)) rfl)); rw [k_o1, k_o2] at h; exact h) ?_ (by simp))
    rintro v213 i213 ⟨a213, c213, h213, rfl, rfl⟩
    refine AS.cons (sp_move rfl ?_)
    refine AS.cons (sp_ext rfl rfl ?_)
    refine AS.cons (sp_ext rfl rfl ?_)
    refine AS.cons (sp_asg rfl ?_)
    refine AS.cons (sp_asg (v := .int _ _) rfl ?_)
    refine AS.nil ?_
    intro _ S
    refine W.seq (W.region S ?_)
    refine AS.cons (sp_call1s 217 717 [] _ (by decide) rfl rfl cf_61 (fun F w _ S => tornF w) ?_ (by simp))
    rintro v217 i217 j217 ⟨x217, y217, rfl, rfl, rfl⟩
    refine AS.cons (sp_call [217, 717] rfl rfl cf_27 (fun F w hF S => by have h := paysP tornB (some ⟨x217, 0, none⟩) 3 (some ⟨y217, 0, none⟩) 2 3 w (hK.ext S.mod) (hos_pt (getO S (hF 217 (by simp)) rfl)) (dr_pt (by decide) (getO S (hF 717 (by simp)) rfl)); rw [k_p1] at h; exact h) ?_)
    refine AS.cons (sp_move rfl ?_)
    refine AS.cons (sp_ext rfl rfl ?_)
    refine AS.cons (sp_ext rfl rfl ?_)
    refine AS.cons (sp_alloc 21 zv_25 rfl (fun b21 => ?_))
    refine AS.cons (sp_st 21 rfl rfl rfl rfl sz_25_2 rfl rfl ?_)
    refine AS.cons (sp_asg (v := .int _ _) rfl ?_)
    refine AS.nil ?_
    intro _ S
    refine W.seq (W.region S ?_)
    refine AS.cons (sp_call1s 222 722 [] _ (by decide) rfl rfl cf_61 (fun F w _ S => tornF w) ?_ (by simp))
    rintro v222 i222 j222 ⟨x222, y222, rfl, rfl, rfl⟩
    refine AS.cons (sp_bs 223 [.const (.int .i64 1), .const (.int .i64 1)] _ sl_26_3_1 zs_3_1 rfl rfl rfl rfl rfl rfl (fun b223 => ?_))
    refine AS.cons (sp_call [222, 722, 223] rfl rfl cf_29 (fun F w hF S => by have h := canP tornB (some ⟨x222, 0, none⟩) 3 (some ⟨y222, 0, none⟩) 2 (some ⟨b223, 0, none⟩) 2 [1, 1] w (hK.ext S.mod) (hos_pt (getO S (hF 222 (by simp)) rfl)) (dr_pt (by decide) (getO S (hF 722 (by simp)) rfl)) (dr_pt (by decide) (getO S (hF 223 (by simp)) rfl)); rw [k_c1] at h; exact h) ?_)
    refine AS.cons (sp_move rfl ?_)
    refine AS.cons (sp_ext rfl rfl ?_)
    refine AS.cons (sp_ext rfl rfl ?_)
    refine AS.cons (sp_asg (v := .bool _) rfl ?_)
    refine AS.cons (sp_asg (v := .int _ _) rfl ?_)
    refine AS.nil ?_
    intro _ S
    refine W.seq (W.region S ?_)
    refine AS.cons (sp_call1s 228 728 [] _ (by decide) rfl rfl cf_61 (fun F w _ S => tornF w) ?_ (by simp))
    rintro v228 i228 j228 ⟨x228, y228, rfl, rfl, rfl⟩
    refine AS.cons (sp_bs 229 [.const (.int .i64 1), .const (.int .i64 (-1)), .const (.int .i64 1)] _ sl_26_3_1 zs_3_1 rfl rfl rfl rfl rfl rfl (fun b229 => ?_))
    refine AS.cons (sp_call [228, 728, 229] rfl rfl cf_29 (fun F w hF S => by have h := canP tornB (some ⟨x228, 0, none⟩) 3 (some ⟨y228, 0, none⟩) 2 (some ⟨b229, 0, none⟩) 3 [1, -1, 1] w (hK.ext S.mod) (hos_pt (getO S (hF 228 (by simp)) rfl)) (dr_pt (by decide) (getO S (hF 728 (by simp)) rfl)) (dr_pt (by decide) (getO S (hF 229 (by simp)) rfl)); rw [k_c2] at h; exact h) ?_)
    refine AS.cons (sp_move rfl ?_)
    refine AS.cons (sp_ext rfl rfl ?_)
    refine AS.cons (sp_ext rfl rfl ?_)
    refine AS.cons (sp_asg (v := .bool _) rfl ?_)
    refine AS.cons (sp_asg (v := .int _ _) rfl ?_)
    refine AS.nil ?_
    intro _ S
    refine W.seq (W.region S ?_)
    refine AS.cons (sp_call1s 234 734 [] _ (by decide) rfl rfl cf_61 (fun F w _ S => tornF w) ?_ (by simp))
    rintro v234 i234 j234 ⟨x234, y234, rfl, rfl, rfl⟩
    refine AS.cons (sp_call [234, 734] rfl rfl cf_27 (fun F w hF S => by have h := paysP tornB (some ⟨x234, 0, none⟩) 3 (some ⟨y234, 0, none⟩) 2 0 w (hK.ext S.mod) (hos_pt (getO S (hF 234 (by simp)) rfl)) (dr_pt (by decide) (getO S (hF 734 (by simp)) rfl)); rw [k_p2] at h; exact h) ?_)
    refine AS.cons (sp_move rfl ?_)
    refine AS.cons (sp_ext rfl rfl ?_)
    refine AS.cons (sp_ext rfl rfl ?_)
    refine AS.cons (sp_alloc 27 zv_25 rfl (fun b27 => ?_))
    refine AS.cons (sp_st 27 rfl rfl rfl rfl sz_25_2 rfl rfl ?_)
    refine AS.cons (sp_asg (v := .int _ _) rfl ?_)
    refine AS.nil ?_
    intro _ S
    refine W.seq (W.region S ?_)
    refine AS.cons (sp_call1s 239 739 [] _ (by decide) rfl rfl cf_61 (fun F w _ S => tornF w) ?_ (by simp))
    rintro v239 i239 j239 ⟨x239, y239, rfl, rfl, rfl⟩
    refine AS.cons (sp_bs 240 [.const (.int .i64 50), .const (.int .i64 33), .const (.int .i64 17)] _ sl_26_3_1 zs_3_1 rfl rfl rfl rfl rfl rfl (fun b240 => ?_))
    refine AS.cons (sp_call [239, 739, 240] rfl rfl cf_29 (fun F w hF S => by have h := canP tornB (some ⟨x239, 0, none⟩) 3 (some ⟨y239, 0, none⟩) 2 (some ⟨b240, 0, none⟩) 3 [50, 33, 17] w (hK.ext S.mod) (hos_pt (getO S (hF 239 (by simp)) rfl)) (dr_pt (by decide) (getO S (hF 739 (by simp)) rfl)) (dr_pt (by decide) (getO S (hF 240 (by simp)) rfl)); rw [k_c3] at h; exact h) ?_)
    refine AS.cons (sp_move rfl ?_)
    refine AS.cons (sp_ext rfl rfl ?_)
    refine AS.cons (sp_ext rfl rfl ?_)
    refine AS.cons (sp_asg (v := .bool _) rfl ?_)
    refine AS.cons (sp_asg (v := .int _ _) rfl ?_)
    refine AS.nil ?_
    intro _ S
    refine W.seq (W.region S ?_)
    refine AS.cons (sp_call1s 245 745 [] _ (by decide) rfl rfl cf_61 (fun F w _ S => tornF w) ?_ (by simp))
    rintro v245 i245 j245 ⟨x245, y245, rfl, rfl, rfl⟩
    refine AS.cons (sp_call [245, 745] rfl rfl cf_31 (fun F w hF S => by have h := askP tornB (some ⟨x245, 0, none⟩) 3 (some ⟨y245, 0, none⟩) 2  w (hK.ext S.mod) (hos_pt (getO S (hF 245 (by simp)) rfl)) (dr_pt (by decide) (getO S (hF 745 (by simp)) rfl)); rw [k_a1] at h; exact h) ?_)
    refine AS.cons (sp_move rfl ?_)
    refine AS.cons (sp_ext rfl rfl ?_)
    refine AS.cons (sp_ext rfl rfl ?_)
    refine AS.cons (sp_asg (v := .int _ _) rfl ?_)
    refine AS.cons (sp_asg (v := .int _ _) rfl ?_)
    refine AS.nil ?_
    intro _ S
    refine W.seq (W.region S ?_)
    refine AS.cons (sp_call1s 250 750 [] _ (by decide) rfl rfl cf_61 (fun F w _ S => tornF w) ?_ (by simp))
    rintro v250 i250 j250 ⟨x250, y250, rfl, rfl, rfl⟩
    refine AS.cons (sp_call [250, 750] rfl rfl cf_15 (fun F w hF S => by have h := rightP tornB (some ⟨x250, 0, none⟩) 3 (some ⟨y250, 0, none⟩) 2  w (hK.ext S.mod) (hos_pt (getO S (hF 250 (by simp)) rfl)) (dr_pt (by decide) (getO S (hF 750 (by simp)) rfl)); rw [k_r1, k_h1] at h; exact h) ?_)
    refine AS.cons (sp_move rfl ?_)
    refine AS.cons (sp_ext rfl rfl ?_)
    refine AS.cons (sp_ext rfl rfl ?_)
    refine AS.cons (sp_asg (v := .bool _) rfl ?_)
    refine AS.cons (sp_asg (v := .int _ _) rfl ?_)
    refine AS.nil ?_
    intro _ S
    refine W.seq (W.region S ?_)
    refine AS.cons (sp_call1s 255 755 [] _ (by decide) rfl rfl cf_61 (fun F w _ S => tornF w) ?_ (by simp))
    rintro v255 i255 j255 ⟨x255, y255, rfl, rfl, rfl⟩
    refine AS.cons (sp_call1 256 [255, 755] _ rfl rfl cf_24 (fun F w hF S => by have h := seedsP tornB (some ⟨x255, 0, none⟩) 3 (some ⟨y255, 0, none⟩) 2  w (hK.ext S.mod) (hos_pt (getO S (hF 255 (by simp)) rfl)) (dr_pt (by decide) (getO S (hF 755 (by simp)) rfl)); rw [k_s1, k_h1] at h; exact h) ?_ (by simp))
    rintro v256 i256 ⟨a256, c256, h256, rfl, rfl⟩
    refine AS.cons (sp_move rfl ?_)
    refine AS.cons (sp_ext rfl rfl ?_)
    refine AS.cons (sp_ext rfl rfl ?_)
    refine AS.cons (sp_asg rfl ?_)
    refine AS.cons (sp_asg (v := .int _ _) rfl ?_)
    refine AS.nil ?_
    intro _ S
    refine W.seq (W.seq (W.region S ?_))
    refine AS.cons (sp_move (v := .int _ _) rfl ?_)
    refine AS.cons (sp_neq rfl rfl ?_)
    refine AS.cons (sp_move (v := .bool _) rfl ?_)
    refine AS.split 261 rfl (fun g261 => ?_) (fun g261 => ?_)
    · exact absurd g261 (by decide)
    · skip
      refine AS.cons (sp_move (v := .int _ _) rfl ?_)
      refine AS.cons (sp_neq rfl rfl ?_)
      refine AS.cons (sp_pick_f rfl (v := .bool _) rfl ?_)
      refine AS.cons (sp_move (v := .bool _) rfl ?_)
      refine AS.split 265 rfl (fun g265 => ?_) (fun g265 => ?_)
      · exact absurd g265 (by decide)
      · skip
        refine AS.cons (sp_move (v := .int _ _) rfl ?_)
        refine AS.cons (sp_neq rfl rfl ?_)
        refine AS.cons (sp_pick_f rfl (v := .bool _) rfl ?_)
        refine AS.cons (sp_move (v := .bool _) rfl ?_)
        refine AS.split 269 rfl (fun g269 => ?_) (fun g269 => ?_)
        · exact absurd g269 (by decide)
        · skip
          refine AS.cons (sp_move (v := .int _ _) rfl ?_)
          refine AS.cons (sp_neq rfl rfl ?_)
          refine AS.cons (sp_pick_f rfl (v := .bool _) rfl ?_)
          refine AS.cons (sp_move (v := .bool _) rfl ?_)
          refine AS.split 273 rfl (fun g273 => ?_) (fun g273 => ?_)
          · exact absurd g273 (by decide)
          · skip
            refine AS.cons (sp_move (v := .int _ _) rfl ?_)
            refine AS.cons (sp_neq rfl rfl ?_)
            refine AS.cons (sp_pick_f rfl (v := .bool _) rfl ?_)
            refine AS.cons (sp_move (v := .bool _) rfl ?_)
            refine AS.split 277 rfl (fun g277 => ?_) (fun g277 => ?_)
            · exact absurd g277 (by decide)
            · skip
              refine AS.cons (sp_move (v := .int _ _) rfl ?_)
              refine AS.cons (sp_neq rfl rfl ?_)
              refine AS.cons (sp_pick_f rfl (v := .bool _) rfl ?_)
              refine AS.cons (sp_move (v := .bool _) rfl ?_)
              refine AS.split 281 rfl (fun g281 => ?_) (fun g281 => ?_)
              · exact absurd g281 (by decide)
              · skip
                refine AS.cons (sp_move (v := .int _ _) rfl ?_)
                refine AS.cons (sp_neq rfl rfl ?_)
                refine AS.cons (sp_pick_f rfl (v := .bool _) rfl ?_)
                refine AS.cons (sp_move (v := .bool _) rfl ?_)
                refine AS.split 285 rfl (fun g285 => ?_) (fun g285 => ?_)
                · exact absurd g285 (by decide)
                · skip
                  refine AS.cons (sp_move (v := .int _ _) rfl ?_)
                  refine AS.cons (sp_neq rfl rfl ?_)
                  refine AS.cons (sp_pick_f rfl (v := .bool _) rfl ?_)
                  refine AS.cons (sp_move (v := .bool _) rfl ?_)
                  refine AS.split 289 rfl (fun g289 => ?_) (fun g289 => ?_)
                  · exact absurd g289 (by decide)
                  · skip
                    refine AS.cons (sp_move (v := .bool _) rfl ?_)
                    refine AS.cons (sp_pick_f rfl (v := .bool _) rfl ?_)
                    refine AS.cons (sp_move (v := .bool _) rfl ?_)
                    refine AS.split 292 rfl (fun g292 => ?_) (fun g292 => ?_)
                    · exact absurd g292 (by decide)
                    · skip
                      refine AS.cons (sp_move (v := .int _ _) rfl ?_)
                      refine AS.cons (sp_neq rfl rfl ?_)
                      refine AS.cons (sp_pick_f rfl (v := .bool _) rfl ?_)
                      refine AS.cons (sp_move (v := .bool _) rfl ?_)
                      refine AS.split 296 rfl (fun g296 => ?_) (fun g296 => ?_)
                      · exact absurd g296 (by decide)
                      · skip
                        refine AS.cons (sp_move rfl ?_)
                        refine AS.cons (sp_len rfl sl_26_3_1 ?_)
                        refine AS.cons (sp_neq rfl rfl ?_)
                        refine AS.cons (sp_pick_f rfl (v := .bool _) rfl ?_)
                        refine AS.nil ?_
                        intro _ S
                        refine W.cond rfl (fun c300 => ?_) (fun c300 => ?_)
                        · exact absurd c300 (by decide)
                        · skip
                          refine W.skip ?_
                          refine W.forget [] trivial (fun σ35 => ?_)
                          have S := S.forget [] trivial
                          refine W.seq (W.region S ?_)
                          refine AS.cons (sp_bs 301 [.const (.int .i64 2), .const (.int .i64 1), .const (.int .i64 0), .const (.int .i64 0), .const (.int .i64 1), .const (.int .i64 0)] _ sl_26_3_1 zs_3_1 rfl rfl rfl rfl rfl rfl (fun b301 => ?_))
                          refine AS.cons (sp_bs 302 [.const (.int .i64 0), .const (.int .i64 2), .const (.int .i64 0), .const (.int .i64 0), .const (.int .i64 1), .const (.int .i64 1)] _ sl_26_3_1 zs_3_1 rfl rfl rfl rfl rfl rfl (fun b302 => ?_))
                          refine AS.cons (sp_bs 303 [.const (.int .i64 2), .const (.int .i64 1), .const (.int .i64 0), .const (.int .i64 1), .const (.int .i64 0), .const (.int .i64 0)] _ sl_26_3_1 zs_3_1 rfl rfl rfl rfl rfl rfl (fun b303 => ?_))
                          refine AS.cons (sp_bs 304 [.tmp 301, .tmp 302, .tmp 303] _ sl_76_26_1 zs_26_1 rfl rfl rfl rfl rfl rfl (fun b304 => ?_))
                          refine AS.cons (sp_asg rfl ?_)
                          refine AS.nil ?_
                          intro _ S
                          refine W.seq (W.seq (W.region S ?_))
                          refine AS.cons (sp_asg rfl ?_)
                          refine AS.nil ?_
                          intro _ S
                          refine W.block ?_
                          refine W.loopS S [0, 38, 39, 40, 305, 306, 307, 308, 309, 310, 311, 312, 313, 314, 315, 316, 317, 318, 319, 320, 321, 322, 323, 324, 325, 326, 327, 328] [312, 315, 812] (fun (j : Nat) => [(38, iv j)]) (fun _ => []) (fun j => j ≤ 3) (fun j => 3 - j) 0 (by omega) ⟨rfl, trivial⟩ trivial ?_
                          rintro j σ3 M3 w3 hj S
                          refine W.seq (W.seq (W.region S ?_))
                          refine AS.cons (sp_move (v := .int _ _) rfl ?_)
                          refine AS.cons (sp_move rfl ?_)
                          refine AS.cons (sp_len rfl sl_76_26_1 ?_)
                          refine AS.cons (sp_lss rfl rfl ?_)
                          refine AS.nil ?_
                          intro _ S
                          refine W.condd rfl (fun c308 => ?_) (fun c308 => ?_)
                          · skip
                            have hlt : j < 3 := by omega
                            obtain ⟨bl, l, hl6, hel, hal, hor, hoe, hin⟩ : ∃ (bl : Nat) (l : List Int), l.length = 6 ∧ ([.slice (some ⟨b301, 0, none⟩) 6 6, .slice (some ⟨b302, 0, none⟩) 6 6, .slice (some ⟨b303, 0, none⟩) 6 6] : List Value)[0 + ((j : Int)).toNat * 1]? = some (.slice (some ⟨bl, 0, none⟩) 6 6) ∧ True ∧ ordV ownB ((j : Int) + 7) = l ∧ ordE ownB ((j : Int) + 7) = 0 ∧ ∀ (F : Nat → HP) (w0 w : World), F 301 = pt b301 (.cells (([2, 1, 0, 0, 1, 0] : List Int).map iv).toArray 3 (0, 0)) → F 302 = pt b302 (.cells (([0, 2, 0, 0, 1, 1] : List Int).map iv).toArray 3 (0, 0)) → F 303 = pt b303 (.cells (([2, 1, 0, 1, 0, 0] : List Int).map iv).toArray 3 (0, 0)) → St no w0 w F [] → Ints w (some ⟨bl, 0, none⟩) 6 l := by
                              match j, hlt with
                              | 0, _ => exact ⟨b301, [2, 1, 0, 0, 1, 0], rfl, rfl, trivial, k_q0, k_e0, fun F w0 w h1 h2 h3 S => dr_pt (Nat.le_of_ble_eq_true rfl) (S.get h1).1⟩
                              | 1, _ => exact ⟨b302, [0, 2, 0, 0, 1, 1], rfl, rfl, trivial, k_q1, k_e1, fun F w0 w h1 h2 h3 S => dr_pt (Nat.le_of_ble_eq_true rfl) (S.get h2).1⟩
                              | 2, _ => exact ⟨b303, [2, 1, 0, 1, 0, 0], rfl, rfl, trivial, k_q2, k_e2, fun F w0 w h1 h2 h3 S => dr_pt (Nat.le_of_ble_eq_true rfl) (S.get h3).1⟩
                            have hsl : Value.slice (some ⟨bl, 0, none⟩) 6 6 = Value.slice (some ⟨bl, 0, none⟩) l.length 6 := by rw [hl6]
                            refine W.skip ?_
                            refine W.seq (W.block ?_)
                            refine W.seq (W.region S ?_)
                            refine AS.cons (sp_call1s 312 812 [] _ (by decide) rfl rfl cf_59 (fun F w _ S => ownF w) ?_ (by simp))
                            rintro v312 i312 j312 ⟨x312, y312, rfl, rfl, rfl⟩
                            refine AS.cons (sp_move (v := .int _ _) rfl ?_)
                            refine AS.cons (sp_add rfl rfl (by first | omega | (simp only [decide_eq_true_eq, decide_eq_false_iff_not] at *; omega)) ?_)
                            refine AS.cons (sp_call1 315 [312, 812] _ rfl rfl cf_22 (fun F w hF S => by have h := orderP ownB (some ⟨x312, 0, none⟩) 3 (some ⟨y312, 0, none⟩) 1 ((j : Int) + 7) w (hK.ext S.mod) (hos_pt (getO S (hF 312 (by simp)) rfl)) (dr_pt (by decide) (getO S (hF 812 (by simp)) rfl)); rw [hor, hoe] at h; exact h) ?_ (by simp))
                            rintro v315 i315 ⟨a315, c315, h315, rfl, rfl⟩
                            refine AS.cons (sp_move rfl ?_)
                            refine AS.cons (sp_ext rfl rfl ?_)
                            refine AS.cons (sp_ext rfl rfl ?_)
                            refine AS.cons (sp_asg rfl ?_)
                            refine AS.cons (sp_asg (v := .int _ _) rfl ?_)
                            refine AS.nil ?_
                            intro _ S
                            refine W.seq (W.region S ?_)
                            refine AS.cons (sp_move (v := .int _ _) rfl ?_)
                            refine AS.cons (sp_neq rfl rfl ?_)
                            refine AS.cons (sp_move (v := .bool _) rfl ?_)
                            refine AS.split 320 rfl (fun g320 => ?_) (fun g320 => ?_)
                            · exact absurd g320 (by decide)
                            · skip
                              refine AS.cons (sp_move rfl ?_)
                              refine AS.cons (sp_move rfl ?_)
                              refine AS.cons (sp_move (v := .int _ _) rfl ?_)
                              refine AS.cons (sp_ia rfl rfl sl_76_26_1 (by first | omega | (simp only [decide_eq_true_eq, decide_eq_false_iff_not] at *; omega)) ?_)
                              refine AS.cons (sp_ld 304 (v := .slice (some ⟨bl, 0, none⟩) 6 6) rfl rfl sc_26 hel ?_)
                              refine AS.cons (sp_call [315, 301, 302, 303] rfl rfl cf_21 (fun F w hF S => by have h := same a315 c315 l (some ⟨bl, 0, none⟩) 6 l w (S.slc_rd (k := 315) ((hF 315 (by simp)).trans rfl) (by omega)) (hin F _ w ((hF 301 (by simp)).trans rfl) ((hF 302 (by simp)).trans rfl) ((hF 303 (by simp)).trans rfl) S); rw [← hsl] at h; exact h) ?_)
                              refine AS.cons (sp_not rfl ?_)
                              refine AS.cons (sp_pick_f rfl (v := .bool _) rfl ?_)
                              refine AS.nil ?_
                              intro _ S
                              refine W.cond rfl (fun c328 => ?_) (fun c328 => ?_)
                              · exact (no_same c328).elim
                              · skip
                                refine W.skip ?_
                                refine W.region S ?_
                                refine AS.cons (sp_move (v := .int _ _) rfl ?_)
                                refine AS.cons (sp_add rfl rfl (by first | omega | (simp only [decide_eq_true_eq, decide_eq_false_iff_not] at *; omega)) ?_)
                                refine AS.cons (sp_asg (v := .int _ _) rfl ?_)
                                refine AS.nil ?_
                                intro _ S
                                exact ⟨j + 1, _, by omega, by omega, ⟨by simp [upd], trivial⟩, trivial, by repeat (first | exact Agr.refl _ _ | exact Agr.msk _ _ _ | refine Agr.upd ?_ _ rfl | refine Agr.upds ?_ rfl | refine Agr.mskIn ?_ rfl), by repeat (first | exact Agr.refl _ _ | exact Agr.msk _ _ _ | refine Agr.upd ?_ _ rfl | refine Agr.upds ?_ rfl | refine Agr.mskIn ?_ rfl), rfl, S⟩
                          · skip
                            refine W.exit ?_
                            refine W.forget [] trivial (fun σ42 => ?_)
                            have S := S.forget [] trivial
                            refine W.seq (W.region S ?_)
                            refine AS.cons (sp_call1s 330 830 [] _ (by decide) rfl rfl cf_62 (fun F w _ S => otherF w) ?_ (by simp))
                            rintro v330 i330 j330 ⟨x330, y330, rfl, rfl, rfl⟩
                            refine AS.cons (sp_call1 331 [330, 830] _ rfl rfl cf_24 (fun F w hF S => by have h := seedsP otherB (some ⟨x330, 0, none⟩) 3 (some ⟨y330, 0, none⟩) 2  w (hK.ext S.mod) (hos_pt (getO S (hF 330 (by simp)) rfl)) (dr_pt (by decide) (getO S (hF 830 (by simp)) rfl)); rw [k_s2, k_h2] at h; exact h) ?_ (by simp))
                            rintro v331 i331 ⟨a331, c331, h331, rfl, rfl⟩
                            refine AS.cons (sp_move rfl ?_)
                            refine AS.cons (sp_ext rfl rfl ?_)
                            refine AS.cons (sp_ext rfl rfl ?_)
                            refine AS.cons (sp_asg rfl ?_)
                            refine AS.cons (sp_asg (v := .int _ _) rfl ?_)
                            refine AS.nil ?_
                            intro _ S
                            refine W.seq (W.region S ?_)
                            refine AS.cons (sp_call1s 335 835 [] _ (by decide) rfl rfl cf_59 (fun F w _ S => ownF w) ?_ (by simp))
                            rintro v335 i335 j335 ⟨x335, y335, rfl, rfl, rfl⟩
                            refine AS.cons (sp_call [335, 835] rfl rfl cf_27 (fun F w hF S => by have h := paysP ownB (some ⟨x335, 0, none⟩) 3 (some ⟨y335, 0, none⟩) 1 1 w (hK.ext S.mod) (hos_pt (getO S (hF 335 (by simp)) rfl)) (dr_pt (by decide) (getO S (hF 835 (by simp)) rfl)); rw [k_pl, k_ph, k_pe] at h; exact h) ?_)
                            refine AS.cons (sp_move rfl ?_)
                            refine AS.cons (sp_ext rfl rfl ?_)
                            refine AS.cons (sp_ext rfl rfl ?_)
                            refine AS.cons (sp_alloc 42 zv_25 rfl (fun b42 => ?_))
                            refine AS.cons (sp_st 42 rfl rfl rfl rfl sz_25_2 rfl rfl ?_)
                            refine AS.cons (sp_asg (v := .int _ _) rfl ?_)
                            refine AS.nil ?_
                            intro _ S
                            refine W.seq (W.region S ?_)
                            refine AS.cons (sp_call1s 340 840 [] _ (by decide) rfl rfl cf_59 (fun F w _ S => ownF w) ?_ (by simp))
                            rintro v340 i340 j340 ⟨x340, y340, rfl, rfl, rfl⟩
                            refine AS.cons (sp_call [340, 840] rfl rfl cf_27 (fun F w hF S => by have h := paysP ownB (some ⟨x340, 0, none⟩) 3 (some ⟨y340, 0, none⟩) 1 2 w (hK.ext S.mod) (hos_pt (getO S (hF 340 (by simp)) rfl)) (dr_pt (by decide) (getO S (hF 840 (by simp)) rfl)); rw [k_ql, k_qh, k_qe] at h; exact h) ?_)
                            refine AS.cons (sp_move rfl ?_)
                            refine AS.cons (sp_ext rfl rfl ?_)
                            refine AS.cons (sp_ext rfl rfl ?_)
                            refine AS.cons (sp_alloc 43 zv_25 rfl (fun b43 => ?_))
                            refine AS.cons (sp_st 43 rfl rfl rfl rfl sz_25_2 rfl rfl ?_)
                            refine AS.cons (sp_asg (v := .int _ _) rfl ?_)
                            refine AS.nil ?_
                            intro _ S
                            refine W.seq (W.region S ?_)
                            refine AS.cons (sp_call1s 345 845 [] _ (by decide) rfl rfl cf_59 (fun F w _ S => ownF w) ?_ (by simp))
                            rintro v345 i345 j345 ⟨x345, y345, rfl, rfl, rfl⟩
                            refine AS.cons (sp_bs 346 [.const (.int .i64 50), .const (.int .i64 34), .const (.int .i64 17)] _ sl_26_3_1 zs_3_1 rfl rfl rfl rfl rfl rfl (fun b346 => ?_))
                            refine AS.cons (sp_call [345, 845, 346] rfl rfl cf_29 (fun F w hF S => by have h := canP ownB (some ⟨x345, 0, none⟩) 3 (some ⟨y345, 0, none⟩) 1 (some ⟨b346, 0, none⟩) 3 [50, 34, 17] w (hK.ext S.mod) (hos_pt (getO S (hF 345 (by simp)) rfl)) (dr_pt (by decide) (getO S (hF 845 (by simp)) rfl)) (dr_pt (by decide) (getO S (hF 346 (by simp)) rfl)); rw [k_n1, k_n2] at h; exact h) ?_)
                            refine AS.cons (sp_move rfl ?_)
                            refine AS.cons (sp_ext rfl rfl ?_)
                            refine AS.cons (sp_ext rfl rfl ?_)
                            refine AS.cons (sp_asg (v := .bool _) rfl ?_)
                            refine AS.cons (sp_asg (v := .int _ _) rfl ?_)
                            refine AS.nil ?_
                            intro _ S
                            refine W.seq (W.region S ?_)
                            refine AS.cons (sp_call1s 351 851 [] _ (by decide) rfl rfl cf_59 (fun F w _ S => ownF w) ?_ (by simp))
                            rintro v351 i351 j351 ⟨x351, y351, rfl, rfl, rfl⟩
                            refine AS.cons (sp_bs 352 [.const (.int .i64 49), .const (.int .i64 33), .const (.int .i64 18)] _ sl_26_3_1 zs_3_1 rfl rfl rfl rfl rfl rfl (fun b352 => ?_))
                            refine AS.cons (sp_call [351, 851, 352] rfl rfl cf_29 (fun F w hF S => by have h := canP ownB (some ⟨x351, 0, none⟩) 3 (some ⟨y351, 0, none⟩) 1 (some ⟨b352, 0, none⟩) 3 [49, 33, 18] w (hK.ext S.mod) (hos_pt (getO S (hF 351 (by simp)) rfl)) (dr_pt (by decide) (getO S (hF 851 (by simp)) rfl)) (dr_pt (by decide) (getO S (hF 352 (by simp)) rfl)); rw [k_n3, k_n4] at h; exact h) ?_)
                            refine AS.cons (sp_move rfl ?_)
                            refine AS.cons (sp_ext rfl rfl ?_)
                            refine AS.cons (sp_ext rfl rfl ?_)
                            refine AS.cons (sp_asg (v := .bool _) rfl ?_)
                            refine AS.cons (sp_asg (v := .int _ _) rfl ?_)
                            refine AS.nil ?_
                            intro _ S
                            refine W.seq (W.region S ?_)
                            refine AS.cons (sp_bs 357 [.const (.int .i64 0)] _ sl_26_3_1 zs_3_1 rfl rfl rfl rfl rfl rfl (fun b357 => ?_))
                            refine AS.cons (sp_call1 358 [] _ rfl rfl cf_60 (fun F w _ S => bookF [0] (some ⟨b357, 0, none⟩) 1 w) ?_ (by simp))
                            rintro v358 i358 ⟨x358, rfl, rfl⟩
                            refine AS.cons (sp_call [358, 357] rfl rfl cf_31 (fun F w hF S => by have h := askP (bookB [0]) (some ⟨x358, 0, none⟩) 3 (some ⟨b357, 0, none⟩) 1 w (hK.ext S.mod) (hos_pt (getO S (hF 358 (by simp)) rfl)) (dr_pt (by decide) (getO S (hF 357 (by simp)) rfl)); rw [k_x1] at h; exact h) ?_)
                            refine AS.cons (sp_move rfl ?_)
                            refine AS.cons (sp_ext rfl rfl ?_)
                            refine AS.cons (sp_ext rfl rfl ?_)
                            refine AS.cons (sp_asg (v := .int _ _) rfl ?_)
                            refine AS.nil ?_
                            intro _ S
                            refine W.seq (W.region S ?_)
                            refine AS.cons (sp_call1s 363 863 [] _ (by decide) rfl rfl cf_59 (fun F w _ S => ownF w) ?_ (by simp))
                            rintro v363 i363 j363 ⟨x363, y363, rfl, rfl, rfl⟩
                            refine AS.cons (sp_call1 364 [363, 863] _ rfl rfl cf_33 (fun F w hF S => by have h := wrongP ownB (some ⟨x363, 0, none⟩) 3 (some ⟨y363, 0, none⟩) 1  w (hK.ext S.mod) (hos_pt (getO S (hF 363 (by simp)) rfl)) (dr_pt (by decide) (getO S (hF 863 (by simp)) rfl)); rw [k_w1, k_h0] at h; exact h) ?_ (by simp))
                            rintro v364 i364 ⟨a364, c364, h364, rfl, rfl⟩
                            refine AS.cons (sp_move rfl ?_)
                            refine AS.cons (sp_ext rfl rfl ?_)
                            refine AS.cons (sp_ext rfl rfl ?_)
                            refine AS.cons (sp_asg rfl ?_)
                            refine AS.cons (sp_asg (v := .int _ _) rfl ?_)
                            refine AS.nil ?_
                            intro _ S
                            refine W.seq (W.drawL S mixed (fun i => ([KD.q [], KD.q [], KD.q [], KD.q [], KD.a 371, KD.e [331, 371] [], KD.q [], KD.q [], KD.q [], KD.q [], KD.q [], KD.q [], KD.q [42], KD.e [] [], KD.q [], KD.q [], KD.q [], KD.q [], KD.q [], KD.q [], KD.q [], KD.q [43], KD.e [] [], KD.q [], KD.q [], KD.q [], KD.q [], KD.q [], KD.q [], KD.q [], KD.q [], KD.q [], KD.q [], KD.q [], KD.q [], KD.q [], KD.q [], KD.q [], KD.q [], KD.q [], KD.q [], KD.q [], KD.q [], KD.q [], KD.q [], KD.q [], KD.q [], KD.q [], KD.q [], KD.q [], KD.q [], KD.q [], KD.q [], KD.q [], KD.q [], KD.q [], KD.e [] [], KD.q [], KD.q []] : List KD)[i]?) [5, 7, 11, 13, 16, 20, 24, 25, 29, 32, 36, 40, 44, 48, 53, 55] [0, 1, 2, 3, 4, 5, 6, 7, 8, 9, 10, 11, 13, 12, 14, 15, 16, 17, 18, 19, 20, 22, 21, 23, 24, 25, 26, 27, 28, 29, 30, 31, 32, 33, 34, 35, 36, 37, 38, 39, 40, 41, 42, 43, 44, 45, 46, 47, 48, 49, 50, 51, 52, 53, 54, 55, 56, 57, 58] (by kernel_rfl) ?_)
                            refine AW.cons rfl rfl (sp_move (v := .int _ _) rfl ?_)
                            refine AW.cons rfl rfl (sp_eql rfl rfl ?_)
                            refine AW.cons rfl rfl (sp_move (v := .bool _) rfl ?_)
                            refine AW.split 369 rfl (fun g369 => ?_) (fun g369 => ?_)
                            · skip
                              refine AW.cons rfl rfl (sp_move rfl ?_)
                              refine AW.cons rfl rfl (sp_bs 371 [.const (.int .i64 7), .const (.int .i64 9)] _ sl_26_3_1 zs_3_1 rfl rfl rfl rfl rfl rfl (fun b371 => ?_))
                              refine AW.cons rfl rfl (sp_call [331, 371] rfl rfl cf_21 (fun F w hF S => same a331 c331 [7, 9] _ 2 [7, 9] w (S.slc_rd (k := 331) ((hF 331 (by simp)).trans rfl) (by decide)) (dr_pt (by decide) (getO S (hF 371 (by simp)) rfl))) ?_)
                              refine AW.cons rfl rfl (sp_pick_t rfl (v := .bool _) rfl ?_)
                              refine AW.cons rfl rfl (sp_move (v := .bool _) rfl ?_)
                              refine AW.split 374 rfl (fun g374 => ?_) (fun g374 => ?_)
                              · skip
                                refine AW.cons rfl rfl (sp_move (v := .int _ _) rfl ?_)
                                refine AW.cons rfl rfl (sp_eql rfl rfl ?_)
                                refine AW.cons rfl rfl (sp_pick_t rfl (v := .bool _) rfl ?_)
                                refine AW.cons rfl rfl (sp_move (v := .bool _) rfl ?_)
                                refine AW.split 378 rfl (fun g378 => ?_) (fun g378 => ?_)
                                · skip
                                  refine AW.cons rfl rfl (sp_call [] rfl rfl cf_51 (fun F w _ S => toF _ _ w) ?_)
                                  refine AW.cons rfl rfl (sp_ldw 42 rfl rfl ag_25_2 ?_)
                                  refine AW.cons rfl rfl (sp_eqla rfl rfl gt_25 (eqP_p2 pr_25 _ _ _ _) ?_)
                                  refine AW.cons rfl rfl (sp_pick_t rfl (v := .bool _) rfl ?_)
                                  refine AW.cons rfl rfl (sp_move (v := .bool _) rfl ?_)
                                  refine AW.split 383 rfl (fun g383 => ?_) (fun g383 => ?_)
                                  · skip
                                    refine AW.cons rfl rfl (sp_move (v := .int _ _) rfl ?_)
                                    refine AW.cons rfl rfl (sp_eql rfl rfl ?_)
                                    refine AW.cons rfl rfl (sp_pick_t rfl (v := .bool _) rfl ?_)
                                    refine AW.cons rfl rfl (sp_move (v := .bool _) rfl ?_)
                                    refine AW.split 387 rfl (fun g387 => ?_) (fun g387 => ?_)
                                    · skip
                                      refine AW.cons rfl rfl (sp_call [] rfl rfl cf_48 (fun F w _ S => justF _ w) ?_)
                                      refine AW.cons rfl rfl (sp_ldw 43 rfl rfl ag_25_2 ?_)
                                      refine AW.cons rfl rfl (sp_eqla rfl rfl gt_25 (eqP_p2 pr_25 _ _ _ _) ?_)
                                      refine AW.cons rfl rfl (sp_pick_t rfl (v := .bool _) rfl ?_)
                                      refine AW.cons rfl rfl (sp_move (v := .bool _) rfl ?_)
                                      refine AW.split 392 rfl (fun g392 => ?_) (fun g392 => ?_)
                                      · skip
                                        refine AW.cons rfl rfl (sp_move (v := .int _ _) rfl ?_)
                                        refine AW.cons rfl rfl (sp_eql rfl rfl ?_)
                                        refine AW.cons rfl rfl (sp_pick_t rfl (v := .bool _) rfl ?_)
                                        refine AW.cons rfl rfl (sp_move (v := .bool _) rfl ?_)
                                        refine AW.split 396 rfl (fun g396 => ?_) (fun g396 => ?_)
                                        · skip
                                          refine AW.cons rfl rfl (sp_move (v := .bool _) rfl ?_)
                                          refine AW.cons rfl rfl (sp_pick_t rfl (v := .bool _) rfl ?_)
                                          refine AW.cons rfl rfl (sp_move (v := .bool _) rfl ?_)
                                          refine AW.split 399 rfl (fun g399 => ?_) (fun g399 => ?_)
                                          · skip
                                            refine AW.cons rfl rfl (sp_move (v := .int _ _) rfl ?_)
                                            refine AW.cons rfl rfl (sp_eql rfl rfl ?_)
                                            refine AW.cons rfl rfl (sp_pick_t rfl (v := .bool _) rfl ?_)
                                            refine AW.cons rfl rfl (sp_move (v := .bool _) rfl ?_)
                                            refine AW.split 403 rfl (fun g403 => ?_) (fun g403 => ?_)
                                            · skip
                                              refine AW.cons rfl rfl (sp_move (v := .bool _) rfl ?_)
                                              refine AW.cons rfl rfl (sp_not rfl ?_)
                                              refine AW.cons rfl rfl (sp_pick_t rfl (v := .bool _) rfl ?_)
                                              refine AW.cons rfl rfl (sp_move (v := .bool _) rfl ?_)
                                              refine AW.split 407 rfl (fun g407 => ?_) (fun g407 => ?_)
                                              · skip
                                                refine AW.cons rfl rfl (sp_move (v := .int _ _) rfl ?_)
                                                refine AW.cons rfl rfl (sp_eql rfl rfl ?_)
                                                refine AW.cons rfl rfl (sp_pick_t rfl (v := .bool _) rfl ?_)
                                                refine AW.cons rfl rfl (sp_move (v := .bool _) rfl ?_)
                                                refine AW.split 411 rfl (fun g411 => ?_) (fun g411 => ?_)
                                                · skip
                                                  refine AW.cons rfl rfl (sp_move (v := .int _ _) rfl ?_)
                                                  refine AW.cons rfl rfl (sp_eql rfl rfl ?_)
                                                  refine AW.cons rfl rfl (sp_pick_t rfl (v := .bool _) rfl ?_)
                                                  refine AW.cons rfl rfl (sp_move (v := .bool _) rfl ?_)
                                                  refine AW.split 415 rfl (fun g415 => ?_) (fun g415 => ?_)
                                                  · skip
                                                    refine AW.cons rfl rfl (sp_move rfl ?_)
                                                    refine AW.cons rfl rfl (sp_len rfl sl_26_3_1 ?_)
                                                    refine AW.cons rfl rfl (sp_eql rfl rfl ?_)
                                                    refine AW.cons rfl rfl (sp_pick_t rfl (v := .bool _) rfl ?_)
                                                    refine AW.cons rfl rfl (sp_move (v := .bool _) rfl ?_)
                                                    refine AW.cons rfl rfl (sp_pick_t rfl (v := .bool true) rfl ?_)
                                                    refine AW.cons rfl rfl (sp_move (v := .bool _) rfl ?_)
                                                    refine AW.split 422 rfl (fun g422 => ?_) (fun g422 => ?_)
                                                    · skip
                                                      refine AW.cons rfl rfl (sp_call [] rfl rfl cf_26 (fun F w _ S => drawn w (hK.ext S.mod)) ?_)
                                                      refine AW.cons rfl rfl (sp_pick_t rfl (v := .bool _) rfl ?_)
                                                      refine AW.cons rfl rfl (sp_asg (v := .bool _) rfl ?_)
                                                      refine AW.nil ?_
                                                      intro _ S
                                                      refine W.ret ?_
                                                      exact ret1 rfl rfl S fun w' S' => ⟨rfl, S'.mod⟩
                                                    · exact absurd g422 (by decide)
                                                  · exact absurd g415 (by decide)
                                                · exact absurd g411 (by decide)
                                              · exact absurd g407 (by decide)
                                            · exact absurd g403 (by decide)
                                          · exact absurd g399 (by decide)
                                        · exact absurd g396 (by decide)
                                      · exact absurd g392 (by decide)
                                    · exact absurd g387 (by decide)
                                  · exact absurd g383 (by decide)
                                · exact absurd g378 (by decide)
                              · exact absurd g374 (by decide)
                            · exact absurd g369 (by decide)
end
end Go.Proofs.YtajocmkgdjcmkaaDoor
