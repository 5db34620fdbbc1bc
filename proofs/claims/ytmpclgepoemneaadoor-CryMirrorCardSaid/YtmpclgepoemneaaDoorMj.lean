/-
  Lemmas of this proof, several texts one behind the other; no condition beyond what each says.
-/
import Derived.Test.YtmpclgepoemneaaDoorMi
import Derived.Test.YtmpclgepoemneaaDoorMf
import Derived.Test.YtmpclgepoemneaaDoorMg
/-
  Ways through a square; books whose cries are the same; a cry more.
-/
namespace Go.Proofs.YtmpclgepoemneaaDoor
open Go.Hu Go.RowKit
/-- A way as the book allows it, from minute lo to minute hi. -/
structure Path (b : Bk) (p : Nat → Nat) (lo hi : Nat) : Prop where
  ok : ∀ i, lo ≤ i → i ≤ hi → alw b (i : Int) (p i) = true
  near : ∀ i, lo ≤ i → i < hi → NearP b.wide (p i) (p (i + 1)) b.swim
theorem path_on (b : Bk) : ∀ (m t : Nat), (G b true m).getD t false = true → ∃ p : Nat → Nat, p m = t ∧ Path b p 0 m
  | 0, t, h => ⟨fun _ => t, rfl, fun i _ hi => by
      obtain rfl : i = 0 := by omega
      exact (G_alw h).2.2, fun i _ hi => by omega⟩
  | m + 1, t, h => by
    obtain ⟨s, hs, hg, hn⟩ := G_step h
    obtain ⟨p, hp, hP⟩ := path_on b m s hg
    refine ⟨fun i => if i = m + 1 then t else p i, by simp, fun i h0 hi => ?_, fun i h0 hi => ?_⟩
    · by_cases e : i = m + 1
      · subst e; simp only [if_true]; exact (G_alw h).2.2
      · simp only [e, if_false]; exact hP.ok i h0 (by omega)
    · by_cases e : i = m
      · subst e
        simp only [if_true, show ¬ i = i + 1 by omega, if_false]
        rw [hp]; exact hn
      · simp only [show ¬ i = m + 1 by omega, show ¬ i + 1 = m + 1 by omega, if_false]; exact hP.near i h0 (by omega)
theorem path_back (b : Bk) : ∀ (k t : Nat), k ≤ 30 → (G b false k).getD t false = true → ∃ p : Nat → Nat, p (30 - k) = t ∧ Path b p (30 - k) 30
  | 0, t, _, h => ⟨fun _ => t, rfl, fun i h1 hi => by
      obtain rfl : i = 30 := by omega
      exact (G_alw h).2.2, fun i h1 hi => by omega⟩
  | k + 1, t, hk, h => by
    obtain ⟨s, hs, hg, hn⟩ := G_step h
    obtain ⟨p, hp, hP⟩ := path_back b k s (by omega) hg
    have e0 : 30 - k = 30 - (k + 1) + 1 := by omega
    refine ⟨fun i => if i = 30 - (k + 1) then t else p i, by simp, fun i h0 hi => ?_, fun i h0 hi => ?_⟩
    · by_cases e : i = 30 - (k + 1)
      · subst e
        simp only [if_true]
        have := (G_alw h).2.2
        rwa [show ordI false (k + 1) = ((30 - (k + 1) : Nat) : Int) by unfold ordI; simp; omega] at this
      · simp only [e, if_false]; exact hP.ok i (by omega) hi
    · by_cases e : i = 30 - (k + 1)
      · subst e
        simp only [if_true, show ¬ 30 - (k + 1) + 1 = 30 - (k + 1) by omega, if_false]
        rw [← e0, hp]; exact hn.symm
      · simp only [e, show ¬ i + 1 = 30 - (k + 1) by omega, if_false]; exact hP.near i (by omega) hi
/-- A square is told just if some way leads through it. -/
theorem path_of {b : Bk} {m t : Nat} (hm : m ≤ 30) (h : cnd b m t = true) : ∃ p : Nat → Nat, p m = t ∧ Path b p 0 30 := by
  rw [cnd_G b hm, Bool.and_eq_true] at h
  obtain ⟨p, hp, hP⟩ := path_on b m t h.1
  obtain ⟨q, hq, hQ⟩ := path_back b (30 - m) t (by omega) h.2
  rw [show 30 - (30 - m) = m by omega] at hq hQ
  refine ⟨fun i => if i ≤ m then p i else q i, by simp [hp], fun i h0 hi => ?_, fun i h0 hi => ?_⟩
  · by_cases e : i ≤ m
    · simp only [e, if_true]; exact hP.ok i h0 e
    · simp only [e, if_false]; exact hQ.ok i (by omega) hi
  · by_cases e : i + 1 ≤ m
    · simp only [e, show i ≤ m by omega, if_true]; exact hP.near i h0 (by omega)
    · by_cases e2 : i = m
      · subst e2
        simp only [Nat.le_refl, if_true, e, if_false]
        rw [hp, ← hq]; exact hQ.near i (Nat.le_refl _) hi
      · simp only [e, show ¬ i ≤ m by omega, if_false]; exact hQ.near i (by omega) hi
theorem path_G {b : Bk} (hb : Num b) {p : Nat → Nat} (hP : Path b p 0 30) : ∀ (m : Nat), m ≤ 30 → (G b true m).getD (p m) false = true
  | 0, _ => by
    have ha := hP.ok 0 (Nat.le_refl _) (by omega)
    have h80 := (sq_le hb).1
    have hlt := (alw_fact ha).1
    rw [G, row_get (t := p 0) _ _ _ _ (by omega)]
    rw [show ordI true 0 = ((0 : Nat) : Int) from rfl, ha]; rfl
  | m + 1, hm => G_next hb (path_G hb hP m (by omega)) (hP.near m (by omega) (by omega)) (alw_fact (hP.ok (m + 1) (by omega) hm)).1 (hP.ok (m + 1) (by omega) hm)
theorem path_H {b : Bk} (hb : Num b) {p : Nat → Nat} (hP : Path b p 0 30) : ∀ (k : Nat), k ≤ 30 → (G b false k).getD (p (30 - k)) false = true
  | 0, _ => by
    have ha := hP.ok 30 (by omega) (by omega)
    have h80 := (sq_le hb).1
    have hlt := (alw_fact ha).1
    rw [G, row_get (t := p (30 - 0)) _ _ _ _ (show p 30 < 80 by omega)]
    rw [show ordI false 0 = ((30 : Nat) : Int) from rfl, ha]; rfl
  | k + 1, hk => by
    have ih := path_H hb hP k (by omega)
    have hn := hP.near (30 - (k + 1)) (by omega) (by omega)
    rw [show 30 - (k + 1) + 1 = 30 - k by omega] at hn
    have ha := hP.ok (30 - (k + 1)) (by omega) (by omega)
    refine G_next hb ih hn.symm (alw_fact ha).1 ?_
    rwa [show ordI false (k + 1) = ((30 - (k + 1) : Nat) : Int) by unfold ordI; simp; omega]
theorem cnd_of {b : Bk} (hb : Num b) {p : Nat → Nat} (hP : Path b p 0 30) {m : Nat} (hm : m ≤ 30) : cnd b m (p m) = true := by
  rw [cnd_G b hm, Bool.and_eq_true]
  have := path_H hb hP (30 - m) (by omega)
  rw [show 30 - (30 - m) = m by omega] at this
  exact ⟨path_G hb hP m hm, this⟩
theorem alw_mk {b : Bk} {m : Int} {t : Nat} (h1 : t < sq b) (h2 : ¬ (t : Int) ∈ b.land) (h3 : ∀ c ∈ b.cries, c.m = m → decide (Btw b c ((t : Int) % b.wide) ((t : Int) / b.wide)) = decide (c.k = 0)) : alw b m t = true := by
  unfold alw
  rw [decide_eq_true h1, decide_eq_true h2, Bool.true_and, Bool.true_and, Bool.not_eq_true']
  unfold frb
  rw [List.any_eq_false]
  intro c hc
  rw [Bool.and_eq_true, decide_eq_true_eq]
  rintro ⟨hm, ha⟩
  unfold against at ha
  rw [h3 c hc hm] at ha
  simp at ha
/-- A further cry can be right just if the shoal may be where it says. -/
theorem can_wi {b : Bk} (hb : Num b) (c : Cry) (hm : 0 ≤ c.m ∧ c.m ≤ 30) : canB (wi b c) = true ↔ ∃ z ∈ whs b c.m.toNat, decide (Btw b c (z % b.wide) (z / b.wide)) = decide (c.k = 0) := by
  have hle : Les (wi b c) b := ⟨rfl, rfl, rfl, rfl, rfl, rfl, fun x hx => List.mem_append_left _ hx⟩
  have h80 := (sq_le hb).1
  constructor
  · intro h
    obtain ⟨t, ht⟩ := (can_iff (wi b c) hb (show c.m.toNat ≤ 30 by omega)).1 h
    have hf := alw_fact (cnd_lt (by omega) ht).2
    have hc := hf.2.2 c (List.mem_append_right _ (by simp)) (by omega)
    have hlt : t < sq b := hf.1
    exact ⟨t, whs_mem.2 ⟨t, by omega, hle.cnd (by omega) ht, rfl⟩, hc⟩
  · rintro ⟨z, hz, hc⟩
    obtain ⟨t, _, ht, rfl⟩ := whs_mem.1 hz
    obtain ⟨p, hp, hP⟩ := path_of (by omega) ht
    have hP' : Path (wi b c) p 0 30 := ⟨fun i h0 hi => by
      obtain ⟨f1, f2, f3⟩ := alw_fact (hP.ok i h0 hi)
      refine alw_mk f1 f2 fun x hx hxm => ?_
      rcases List.mem_append.1 hx with h | h
      · exact f3 x h hxm
      · have hxc : x = c := by simpa using h
        subst hxc
        have hi' : i = x.m.toNat := by omega
        subst hi'
        rw [hp]; exact hc, fun i h0 hi => hP.near i h0 hi⟩
    exact (can_iff (wi b c) hb (show c.m.toNat ≤ 30 by omega)).2 ⟨_, cnd_of (b := wi b c) hb hP' (show c.m.toNat ≤ 30 by omega)⟩
/-! ### The same cries, in another order -/
theorem whs_eq {b b' : Bk} (h : Les b b') (k : Les b' b) {m : Nat} (hm : m ≤ 30) : whs b m = whs b' m := by
  unfold whs whU whN
  congr 1
  refine List.filter_congr fun t _ => ?_
  rw [Bool.eq_iff_iff]
  exact ⟨fun ht => h.cnd hm ht, fun ht => k.cnd hm ht⟩
theorem can_eq {b b' : Bk} (h : Les b b') (k : Les b' b) : canB b = canB b' := by
  rw [Bool.eq_iff_iff]
  exact ⟨fun ht => h.can ht, fun ht => k.can ht⟩
/-- The cries in the other order. -/
def revB (b : Bk) : Bk := { b with cries := b.cries.reverse }
theorem rev_les (b : Bk) : Les b (revB b) ∧ Les (revB b) b :=
  ⟨⟨rfl, rfl, rfl, rfl, rfl, rfl, fun c hc => by simpa [revB] using hc⟩, ⟨rfl, rfl, rfl, rfl, rfl, rfl, fun c hc => by simpa [revB] using hc⟩⟩
theorem rev_ok {b : Bk} (h : BookOk b) : BookOk (revB b) :=
  ⟨h.num, h.ll, by show b.cries.reverse.length ≤ 8; rw [List.length_reverse]; exact h.lc, h.land, h.nd, fun c hc => h.cry c (by simpa [revB] using hc)⟩
theorem wi_les (b : Bk) (c : Cry) : Les (wi b c) b := ⟨rfl, rfl, rfl, rfl, rfl, rfl, fun _x hx => List.mem_append_left _ hx⟩
theorem wi_okB {b : Bk} (h : BookOk b) (hl : b.cries.length < 8) (c : Cry) : okAll (wi b c) = decide (CryOk c) := by
  by_cases hc : CryOk c
  · rw [decide_eq_true hc]
    exact ok_of ⟨h.num, h.ll, by rw [wi_len]; omega, h.land, h.nd, wi_cry h.cry hc⟩
  · rw [decide_eq_false hc]
    cases e : okAll (wi b c) with
    | false => rfl
    | true => exact absurd ((okAll_ok e).cry c (List.mem_append_right _ (by simp))) hc
end Go.Proofs.YtmpclgepoemneaaDoor

/-
  The law of one cry more, walked.
-/
namespace Go.Proofs.YtmpclgepoemneaaDoor
set_option maxRecDepth 100000
open Go.Hu Go.RowKit
section
variable (b : Bk) (la : Option Addr) (lc : Nat) (ca : Option Addr) (cc : Nat)
/-- The last cries, the last one first. -/
abbrev rvU (n : Nat) : Bk := { b with cries := b.cries.reverse.take (b.cries.length - n) }
theorem rv_step {l : List Cry} {n : Nat} {x : Cry} (h1 : 1 ≤ n) (h2 : n ≤ l.length) (hx : l[n - 1]? = some x) : l.reverse.take (l.length - (n - 1)) = l.reverse.take (l.length - n) ++ [x] := by
  rw [show l.length - (n - 1) = (l.length - n) + 1 by omega, List.take_add_one]
  congr 1
  rw [List.getElem?_reverse (by omega), show l.length - 1 - (l.length - n) = n - 1 by omega, hx]; rfl
/-- What is answered of a good book, and of it with a cry more. -/
theorem more_sum {b : Bk} (hbk : BookOk b) (h8 : b.cries.length < 8) (more : Cry) {m : Int} (hm : 0 ≤ m ∧ m ≤ 30) :
    ∃ e wl f wk vi vh, askV b (decide (0 ≤ m ∧ m ≤ 30)) = e ∧ whereL b m = wl ∧ askV (wi b more) (decide (0 ≤ m ∧ m ≤ 30)) = f ∧ whereL (wi b more) m = wk ∧ fitsV b more = vi ∧ fitsE b more = vh ∧
      askV (revB b) (decide (0 ≤ m ∧ m ≤ 30)) = e ∧ whereL (revB b) m = wl ∧ wl.length ≤ 80 ∧ wk.length ≤ 80 ∧ (∀ z ∈ wk, z ∈ wl) ∧ (e = 0 ∨ (e = 12 ∧ wl = [])) ∧
      ((f = 0 ∧ vi = true ∧ vh = 0 ∧ e = 0) ∨ (f = 12 ∧ vi = false ∧ vh = 0) ∨ (f = 10 ∧ vi = false ∧ vh = 11)) := by
  have hok := ok_of hbk
  have hb := hbk.num
  have hd : decide (0 ≤ m ∧ m ≤ 30) = true := decide_eq_true hm
  obtain ⟨r1, r2⟩ := rev_les b
  have hrc : canB (revB b) = canB b := (can_eq r1 r2).symm
  have hro := ok_of (rev_ok hbk)
  have hre : askV (revB b) (decide (0 ≤ m ∧ m ≤ 30)) = askV b (decide (0 ≤ m ∧ m ≤ 30)) := by unfold askV; rw [hro, hrc, hok]
  have hrw : whereL (revB b) m = whereL b m := by unfold whereL; rw [hre, whs_eq r1 r2 (show m.toNat ≤ 30 by omega)]
  have hwo := wi_okB hbk h8 more
  have hfV : fitsV b more = (decide (CryOk more) && canB (wi b more)) := by unfold fitsV; rw [hok, Bool.true_and]
  refine ⟨_, _, _, _, _, _, rfl, rfl, rfl, rfl, rfl, rfl, hre, hrw, whereL_len b m, whereL_len (wi b more) m, ?_, ?_, ?_⟩
  · intro z hz
    unfold whereL at hz
    split at hz
    · next ha =>
      have hcan := (askV_zero ha).2.2
      rcases where_of hok hm with ⟨_, _, h⟩ | ⟨h, _, _⟩
      · rw [h]
        obtain ⟨t, h1, h2, rfl⟩ := whs_mem.1 hz
        exact whs_mem.2 ⟨t, h1, (wi_les b more).cnd (by omega) h2, rfl⟩
      · rw [(wi_les b more).can hcan] at h; cases h
    · cases hz
  · rcases where_of hok hm with ⟨_, h, _⟩ | ⟨_, h1, h2⟩
    · exact .inl h
    · exact .inr ⟨h1, h2⟩
  · by_cases hc : CryOk more
    · have hvh : fitsE b more = 0 := by unfold fitsE; rw [if_pos hok, if_pos hc]
      rw [decide_eq_true hc] at hwo hfV
      cases hcan : canB (wi b more) with
      | true =>
        refine .inl ⟨by unfold askV; rw [hwo, hd, hcan]; rfl, by rw [hfV, hcan]; rfl, hvh, ?_⟩
        have := (wi_les b more).can hcan
        unfold askV; rw [hok, hd, this]; rfl
      | false => exact .inr (.inl ⟨by unfold askV; rw [hwo, hd, hcan]; rfl, by rw [hfV, hcan]; rfl, hvh⟩)
    · rw [decide_eq_false hc] at hwo hfV
      exact .inr (.inr ⟨by unfold askV; rw [hwo]; rfl, by rw [hfV]; rfl, by unfold fitsE; rw [if_pos hok, if_neg hc]⟩)
set_option maxHeartbeats 4000000 in
theorem moreL (more : Cry) (n : Int) (w : World) (hK : Kinds w) (hl : Ints w la lc b.land) (hC : Cries w ca cc b.cries) : Ct Tryd.prog 7 #[.agg (bkL b la lc ca cc).toArray, .agg (cyL more).toArray, iv n] w (fun u w' => u = .bool true ∧ Ext w w') := by
  refine fn_intro (args := [.agg (bkL b la lc ca cc).toArray, .agg (cyL more).toArray, iv n]) Tryd.func7 rfl rfl (by kernel_rfl) ?_
  have S := St.start no w
  refine W.seq (W.region S ?_)
  refine AS.cons (sp_boxa 3 rfl (fun b3 => ?_))
  refine AS.cons (sp_boxa 4 rfl (fun b4 => ?_))
  refine AS.cons (sp_asg rfl ?_)
  refine AS.nil ?_
  intro _ S
  refine W.seq (W.seq (W.region S ?_))
  refine AS.cons (sp_ldw 3 rfl rfl ag_26_7 ?_)
  refine AS.cons (sp_call [] rfl rfl cf_37 (fun F w _ S => soundF _ _ _ _ _ w (hl.ext S.mod) (hC.ext S.mod)) ?_)
  refine AS.cons (sp_not rfl ?_)
  refine AS.cons (sp_move (v := .bool _) rfl ?_)
  refine AS.split 23 rfl (fun g23 => ?_) (fun g23 => ?_)
  · skip
    refine AS.cons (sp_skip rfl ?_)
    refine AS.cons (sp_skip rfl ?_)
    refine AS.cons (sp_skip rfl ?_)
    refine AS.cons (sp_skip rfl ?_)
    refine AS.cons (sp_pick_t rfl (v := .bool _) rfl ?_)
    refine AS.nil ?_
    intro _ S
    refine W.cond (b := true) rfl (fun _ => ?_) (fun h => nomatch h)
    refine W.seq (W.region S ?_)
    refine AS.cons (sp_call [] rfl rfl cf_28 (fun F w _ S => cried w (hK.ext S.mod)) ?_)
    refine AS.cons (sp_asg (v := .bool _) rfl ?_)
    refine AS.nil ?_
    intro _ S
    refine W.ret ?_
    exact ret1 rfl rfl S fun w' S' => ⟨rfl, S'.mod⟩
  · skip
    refine AS.cons (sp_fa rfl fo_26_5_6 ?_)
    refine AS.cons (sp_ld 3 rfl rfl sc_24 rfl ?_)
    refine AS.cons (sp_len rfl sl_24_46_7 ?_)
    refine AS.cons (sp_eql rfl rfl ?_)
    refine AS.cons (sp_pick_f rfl (v := .bool _) rfl ?_)
    refine AS.nil ?_
    intro _ S
    refine W.cond rfl (fun c28 => ?_) (fun c28 => ?_)
    · skip
      refine W.seq (W.region S ?_)
      refine AS.cons (sp_call [] rfl rfl cf_28 (fun F w _ S => cried w (hK.ext S.mod)) ?_)
      refine AS.cons (sp_asg (v := .bool _) rfl ?_)
      refine AS.nil ?_
      intro _ S
      refine W.ret ?_
      exact ret1 rfl rfl S fun w' S' => ⟨rfl, S'.mod⟩
    · skip
      refine W.skip ?_
      have hok : okAll b = true := by rw [Bool.not_eq_false'] at g23; exact g23
      have hbk := okAll_ok hok
      have hb := hbk.num
      have hcl := hbk.lc
      have h8 : b.cries.length < 8 := by have := of_decide_eq_false c28; omega
      have hn1 := Int.emod_nonneg n (show (31 : Int) ≠ 0 by decide)
      have hn2 := Int.emod_lt_of_pos n (show (0 : Int) < 31 by decide)
      obtain ⟨m, hmn⟩ : ∃ m, n % 31 = m := ⟨_, rfl⟩
      have hm30 : 0 ≤ m ∧ m ≤ 30 := by omega
      obtain ⟨e, wl, f, wk, vi, vh, hee, hwl, hff, hwk, hvi, hvh, hre, hrw, hl80, hk80, hsub, hor, hsum⟩ := more_sum hbk h8 more hm30
      have hwil := wi_len b more
      have hrl : (revB b).cries.length = b.cries.length := List.length_reverse
      have e0 : 0 + b.cries.length + 1 = b.cries.length + 1 := by omega
      refine W.seq (W.draw S mixed (fun i => ([KD.q [3], KD.q [3], KD.a 7, KD.a 8, KD.e [7] [7], KD.e [8] [8]] : List KD)[i]?) [] [0, 1, 2, 3, 4, 5] (by kernel_rfl) ?_)
      refine AW.cons rfl rfl (sp_ldw 3 rfl rfl ag_26_7 ?_)
      refine AW.cons rfl rfl (sp_ldw 3 rfl rfl ag_26_7 ?_)
      refine AW.cons rfl rfl (sp_alloc 7 zv_26 rfl (fun b7 => ?_))
      refine AW.cons rfl rfl (sp_alloc 8 zv_26 rfl (fun b8 => ?_))
      refine AW.cons rfl rfl (sp_st 7 rfl rfl rfl rfl sz_26_7 rfl rfl ?_)
      refine AW.cons rfl rfl (sp_st 8 rfl rfl rfl rfl sz_26_7 rfl rfl ?_)
      refine AW.nil ?_
      intro _ S
      refine W.seq (W.draw S mixed (fun i => ([KD.e [] [32], KD.q [], KD.q [3], KD.e [32] [32], KD.q [4], KD.a 37, KD.e [32, 37] [32], KD.q [], KD.e [7] [7], KD.q [], KD.e [8] [8]] : List KD)[i]?) [3] [0, 1, 2, 3, 4, 5, 6, 7, 8, 9, 10] (by kernel_rfl) ?_)
      refine AW.cons rfl rfl (sp_bsS0 32 sl_24_46_7 (fun b32 => ?_))
      refine AW.cons rfl rfl (sp_fa rfl fo_26_5_6 ?_)
      refine AW.cons rfl rfl (sp_ld 3 rfl rfl sc_24 rfl ?_)
      refine AW.cons rfl rfl (sp_app 32 [] rfl rfl sl_24_46_7 zs_46_7 rfl (fun F w hF S => hC.ext S.mod) (cries_one _) (by omega) (fun a35 c35 => ?_))
      refine AW.cons rfl rfl (sp_ldw 4 rfl rfl ag_46_7 ?_)
      refine AW.cons rfl rfl (sp_bs 37 [.tmp 36] _ sl_24_46_7 zs_46_7 rfl rfl rfl rfl rfl rfl (fun b37 => ?_))
      refine AW.cons rfl rfl (sp_app 32 [37] rfl rfl sl_24_46_7 zs_46_7 rfl (fun F w hF S => rd_pt (S.get ((hF 37 (by simp)).trans rfl)).1 rfl (by omega) (by omega)) rfl (by first | omega | (simp only [decide_eq_true_eq, decide_eq_false_iff_not] at *; omega)) (fun a38 c38 => ?_))
      refine AW.cons rfl rfl (sp_fa rfl fo_26_5_6 ?_)
      refine AW.cons rfl rfl (sp_st 7 rfl rfl rfl rfl sz_24_1 rfl rfl ?_)
      refine AW.cons rfl rfl (sp_fa rfl fo_26_5_6 ?_)
      refine AW.cons rfl rfl (sp_st 8 rfl rfl rfl rfl sz_24_1 rfl rfl ?_)
      refine AW.nil ?_
      intro _ S
      have h7 : pt b7 (.cells [iv b.wide, iv b.high, .slice la b.land.length lc, iv b.h0, iv b.h1, iv b.swim, .slice a38 (0 + b.cries.length + 1) c38].toArray 26 (0, 0)) = pt b7 (.cells (bkL (wi b more) la lc a38 c38).toArray 26 (0, 0)) := by rw [e0, bkL_wi]
      have h32 : slc 46 7 (.slice a38 (0 + b.cries.length + 1) c38) (0 + b.cries.length + 1) ([] ++ b.cries.flatMap cyL ++ cyL more) = CrS (wi b more) a38 c38 := by rw [e0, List.nil_append]; exact CrS_wi
      have S := (S.drop 901).weak (k := 901) (i := slc 46 7 nilS 0 []) (fun f hf => by rw [upd_same] at hf; exact slc_nil 46 7 f hf)
      refine W.seq (W.seq (W.region S ?_))
      refine AS.cons (sp_fa rfl fo_26_5_6 ?_)
      refine AS.cons (sp_ld 3 rfl rfl sc_24 rfl ?_)
      refine AS.cons (sp_len rfl sl_24_46_7 ?_)
      refine AS.cons (sp_sub rfl rfl (by first | omega | (simp only [decide_eq_true_eq, decide_eq_false_iff_not] at *; omega)) ?_)
      refine AS.cons (sp_asg (v := .int _ _) rfl ?_)
      refine AS.nil ?_
      intro _ S
      refine W.block ?_
      refine W.loopS S [9, 45, 46, 47, 48, 49, 50, 51, 52, 53, 54, 55, 56, 57, 58] [8, 56, 57, 901] (fun (z : Nat × Option Addr × Nat) => [(9, iv ((z.1 : Int) - 1))]) (fun z => [(8, pt b8 (.cells (bkL (rvU b z.1) la lc z.2.1 z.2.2).toArray 26 (0, 0))), (901, CrS (rvU b z.1) z.2.1 z.2.2)]) (fun z => z.1 ≤ b.cries.length) (fun z => z.1) (b.cries.length, none, 0) (Nat.le_refl _) ⟨rfl, trivial⟩ ⟨by show pt b8 _ = pt b8 (.cells [iv b.wide, iv b.high, .slice la b.land.length lc, iv b.h0, iv b.h1, iv b.swim, .slice none (b.cries.reverse.take (b.cries.length - b.cries.length)).length 0].toArray 26 (0, 0)); rw [Nat.sub_self]; rfl, by show slc 46 7 nilS 0 [] = slc 46 7 (.slice none (b.cries.reverse.take (b.cries.length - b.cries.length)).length 0) (b.cries.reverse.take (b.cries.length - b.cries.length)).length ((b.cries.reverse.take (b.cries.length - b.cries.length)).flatMap cyL); rw [Nat.sub_self]; rfl, trivial⟩ ?_
      rintro ⟨j, a, c⟩ σ M w1 hj S
      replace hj : j ≤ b.cries.length := hj
      have htl : (b.cries.reverse.take (b.cries.length - j)).length = b.cries.length - j := by rw [List.length_take, List.length_reverse]; omega
      refine W.seq (W.seq (W.region S ?_))
      refine AS.cons (sp_move (v := .int _ _) rfl ?_)
      refine AS.cons (sp_geq rfl rfl ?_)
      refine AS.nil ?_
      intro _ S
      refine W.condd rfl (fun c46 => ?_) (fun c46 => ?_)
      · skip
        have hj1 : 1 ≤ j := by omega
        obtain ⟨x, hx⟩ := get_some (l := b.cries) (j := j - 1) (by omega)
        have hjn : ((j : Int) - 1).toNat = ((j - 1 : Nat) : Int).toNat := by omega
        have hst := rv_step hj1 hj hx
        refine W.skip ?_
        refine W.seq (W.block ?_)
        refine W.draw S mixed (fun i => ([KD.q [], KD.q [8], KD.q [], KD.q [3], KD.q [], KD.q [], KD.q [], KD.a 56, KD.e [901, 56] [901], KD.q [], KD.e [8] [8]] : List KD)[i]?) [] [0, 1, 2, 3, 4, 5, 6, 7, 8, 9, 10] (by kernel_rfl) ?_
        refine AW.cons rfl rfl (sp_fa rfl fo_26_5_6 ?_)
        refine AW.cons rfl rfl (sp_ld 8 rfl rfl sc_24 rfl ?_)
        refine AW.cons rfl rfl (sp_fa rfl fo_26_5_6 ?_)
        refine AW.cons rfl rfl (sp_ld 3 rfl rfl sc_24 rfl ?_)
        refine AW.cons rfl rfl (sp_move (v := .int _ _) rfl ?_)
        refine AW.cons rfl rfl (sp_iaR hC rfl rfl sl_24_46_7 (by omega) ?_)
        refine AW.cons rfl rfl (sp_ldaR 0 hC (fun _ h => h) rfl ag_46_7 (show rdL (b.cries.flatMap cyL) (((j : Int) - 1).toNat * 7 + 0) 7 = some (cyL x) by rw [hjn]; exact cries_at hx) (by omega) ?_)
        refine AW.cons rfl rfl (sp_bs 56 [.tmp 55] _ sl_24_46_7 zs_46_7 rfl rfl rfl rfl rfl rfl (fun b56 => ?_))
        refine AW.cons rfl rfl (sp_app 901 [56] rfl rfl sl_24_46_7 zs_46_7 rfl (fun F w hF S => rd_pt (S.get ((hF 56 (by simp)).trans rfl)).1 rfl (by omega) (by omega)) rfl (by first | omega | (simp only [decide_eq_false_iff_not] at *; omega)) (fun a57 c57 => ?_))
        refine AW.cons rfl rfl (sp_fa rfl fo_26_5_6 ?_)
        refine AW.cons rfl rfl (sp_st 8 rfl rfl rfl rfl sz_24_1 rfl rfl ?_)
        refine AW.nil ?_
        intro _ S
        refine W.region S ?_
        refine AS.cons (sp_move (v := .int _ _) rfl ?_)
        refine AS.cons (sp_sub rfl rfl (by first | omega | (simp only [decide_eq_true_eq, decide_eq_false_iff_not] at *; omega)) ?_)
        refine AS.cons (sp_asg (v := .int _ _) rfl ?_)
        refine AS.nil ?_
        intro _ S
        exact ⟨(j - 1, a57, c57), _, by show j - 1 ≤ b.cries.length; omega, by show j - 1 < j; omega, ⟨by show iv ((j : Int) - 1 - 1) = iv (((j - 1 : Nat) : Int) - 1); rw [show ((j - 1 : Nat) : Int) = (j : Int) - 1 by omega], trivial⟩, ⟨by show pt b8 _ = pt b8 (.cells [iv b.wide, iv b.high, .slice la b.land.length lc, iv b.h0, iv b.h1, iv b.swim, .slice a57 (b.cries.reverse.take (b.cries.length - (j - 1))).length c57].toArray 26 (0, 0)); rw [hst, List.length_append]; rfl, by show slc 46 7 _ _ _ = slc 46 7 (.slice a57 (b.cries.reverse.take (b.cries.length - (j - 1))).length c57) (b.cries.reverse.take (b.cries.length - (j - 1))).length ((b.cries.reverse.take (b.cries.length - (j - 1))).flatMap cyL); rw [hst, List.length_append, List.flatMap_append]; rfl, trivial⟩, by repeat (first | exact Agr.refl _ _ | exact Agr.msk _ _ _ | refine Agr.upd ?_ _ rfl | refine Agr.upds ?_ rfl | refine Agr.mskIn ?_ rfl), by repeat (first | exact Agr.refl _ _ | exact Agr.msk _ _ _ | refine Agr.upd ?_ _ rfl | refine Agr.upds ?_ rfl | refine Agr.mskIn ?_ rfl), rfl, S⟩
      · skip
        obtain rfl : j = 0 := by omega
        have hfin : rvU b 0 = revB b := by
          show ({ b with cries := b.cries.reverse.take b.cries.length } : Bk) = { b with cries := b.cries.reverse }
          rw [List.take_of_length_le (by rw [List.length_reverse]; exact Nat.le_refl _)]
        have S := (show St no w _ (upds [(8, pt b8 (.cells (bkL (rvU b 0) la lc a c).toArray 26 (0, 0))), (901, CrS (rvU b 0) a c)] _) [] from S)
        rw [hfin] at S
        refine W.exit ?_
        refine W.seq (W.region S ?_)
        refine AS.cons (sp_move (v := .int _ _) rfl ?_)
        refine AS.cons (sp_call [] rfl rfl cf_40 (fun F w _ S => by have h := wheel n 31 (by decide) w; rw [if_neg (by decide), hmn] at h; exact h) ?_)
        refine AS.cons (sp_asg (v := .int _ _) rfl ?_)
        refine AS.nil ?_
        intro _ S
        refine W.seq (W.region S ?_)
        refine AS.cons (sp_ldw 3 rfl rfl ag_26_7 ?_)
        refine AS.cons (sp_move (v := .int _ _) rfl ?_)
        refine AS.cons (sp_call1 64 [] _ rfl rfl cf_22 (fun F w hF S => by have h := whereP b la lc ca cc m w (hK.ext S.mod) (hl.ext S.mod) (hC.ext S.mod); rw [hwl, hee] at h; exact h) ?_ (by simp))
        rintro v64 i64 ⟨a64, c64, h64, rfl, rfl⟩
        refine AS.cons (sp_move rfl ?_)
        refine AS.cons (sp_ext rfl rfl ?_)
        refine AS.cons (sp_ext rfl rfl ?_)
        refine AS.cons (sp_asg rfl ?_)
        refine AS.cons (sp_asg (v := .int _ _) rfl ?_)
        refine AS.nil ?_
        intro _ S
        refine W.seq (W.region S ?_)
        refine AS.cons (sp_ldw (l := bkL (wi b more) la lc a38 c38) 7 rfl (Eq.trans rfl h7) ag_26_7 ?_)
        refine AS.cons (sp_move (v := .int _ _) rfl ?_)
        refine AS.cons (sp_call1 70 [32] _ rfl rfl cf_22 (fun F w hF S => by have h := whereP (wi b more) la lc a38 c38 m w (hK.ext S.mod) (hl.ext S.mod) (S.slc_rd (k := 32) ((hF 32 (by simp)).trans (Eq.trans rfl h32)) (by omega)); rw [hwk, hff] at h; exact h) ?_ (by simp))
        rintro v70 i70 ⟨a70, c70, h70, rfl, rfl⟩
        refine AS.cons (sp_move rfl ?_)
        refine AS.cons (sp_ext rfl rfl ?_)
        refine AS.cons (sp_ext rfl rfl ?_)
        refine AS.cons (sp_asg rfl ?_)
        refine AS.cons (sp_asg (v := .int _ _) rfl ?_)
        refine AS.nil ?_
        intro _ S
        refine W.seq (W.region S ?_)
        refine AS.cons (sp_ldw (l := bkL (revB b) la lc a c) 8 rfl rfl ag_26_7 ?_)
        refine AS.cons (sp_move (v := .int _ _) rfl ?_)
        refine AS.cons (sp_call1 76 [901] _ rfl rfl cf_22 (fun F w hF S => by have h := whereP (revB b) la lc a c m w (hK.ext S.mod) (hl.ext S.mod) (S.slc_rd (k := 901) ((hF 901 (by simp)).trans rfl) (by omega)); rw [hrw, hre] at h; exact h) ?_ (by simp))
        rintro v76 i76 ⟨a76, c76, h76, rfl, rfl⟩
        refine AS.cons (sp_move rfl ?_)
        refine AS.cons (sp_ext rfl rfl ?_)
        refine AS.cons (sp_ext rfl rfl ?_)
        refine AS.cons (sp_asg rfl ?_)
        refine AS.cons (sp_asg (v := .int _ _) rfl ?_)
        refine AS.nil ?_
        intro _ S
        refine W.seq (W.region S ?_)
        refine AS.cons (sp_ldw 3 rfl rfl ag_26_7 ?_)
        refine AS.cons (sp_ldw 4 rfl rfl ag_46_7 ?_)
        refine AS.cons (sp_call [] rfl rfl cf_33 (fun F w hF S => by have h := fitsP b la lc ca cc more w (hK.ext S.mod) (hl.ext S.mod) (hC.ext S.mod); rw [hvi, hvh] at h; exact h) ?_)
        refine AS.cons (sp_move rfl ?_)
        refine AS.cons (sp_ext rfl rfl ?_)
        refine AS.cons (sp_ext rfl rfl ?_)
        refine AS.cons (sp_asg (v := .bool _) rfl ?_)
        refine AS.cons (sp_asg (v := .int _ _) rfl ?_)
        refine AS.nil ?_
        intro _ S
        refine W.seq (W.seq (W.region S ?_))
        refine AS.cons (sp_move (v := .int _ _) rfl ?_)
        refine AS.cons (sp_move (v := .int _ _) rfl ?_)
        refine AS.cons (sp_neq rfl rfl ?_)
        refine AS.cons (sp_move (v := .bool _) rfl ?_)
        refine AS.split 88 rfl (fun g88 => ?_) (fun g88 => ?_)
        · exact (no_neq g88).elim
        · skip
          refine AS.cons (sp_move rfl ?_)
          refine AS.cons (sp_move rfl ?_)
          refine AS.cons (sp_call [76, 64] rfl rfl cf_17 (fun F w hF S => same a76 c76 wl a64 c64 wl w (S.slc_rd (k := 76) ((hF 76 (by simp)).trans rfl) (by omega)) (S.slc_rd (k := 64) ((hF 64 (by simp)).trans rfl) (by omega))) ?_)
          refine AS.cons (sp_not rfl ?_)
          refine AS.cons (sp_pick_f rfl (v := .bool _) rfl ?_)
          refine AS.cons (sp_move (v := .bool _) rfl ?_)
          refine AS.split 94 rfl (fun g94 => ?_) (fun g94 => ?_)
          · exact (no_same g94).elim
          · skip
            refine AS.cons (sp_move (v := .int _ _) rfl ?_)
            refine AS.cons (sp_neq rfl rfl ?_)
            refine AS.cons (sp_move (v := .bool _) rfl ?_)
            refine AS.split 97 rfl (fun g97 => ?_) (fun g97 => ?_)
            · skip
              refine AS.cons (sp_move (v := .int _ _) rfl ?_)
              refine AS.cons (sp_neq rfl rfl ?_)
              refine AS.cons (sp_move (v := .bool _) rfl ?_)
              refine AS.split 100 rfl (fun g100 => ?_) (fun g100 => ?_)
              · exfalso; have h1 := of_decide_eq_true g100; have h2 := of_decide_eq_true g97; rcases hor with h | h <;> omega
              · skip
                refine AS.cons (sp_move rfl ?_)
                refine AS.cons (sp_len rfl sl_22_3_1 ?_)
                refine AS.cons (sp_neq rfl rfl ?_)
                refine AS.cons (sp_pick_f rfl (v := .bool _) rfl ?_)
                refine AS.cons (sp_pick_t rfl (v := .bool _) rfl ?_)
                refine AS.cons (sp_pick_f rfl (v := .bool _) rfl ?_)
                refine AS.cons (sp_move (v := .bool _) rfl ?_)
                refine AS.split 107 rfl (fun g107 => ?_) (fun g107 => ?_)
                · exfalso; have h1 := of_decide_eq_true g107; have h2 := of_decide_eq_true g97; rcases hor with h | h; exact h2 h; exact h1 (by rw [h.2]; rfl)
                · skip
                  refine AS.cons (sp_move (v := .int _ _) rfl ?_)
                  refine AS.cons (sp_eql rfl rfl ?_)
                  refine AS.cons (sp_move (v := .bool _) rfl ?_)
                  refine AS.cons (sp_neqb rfl rfl bool_4 ?_)
                  refine AS.cons (sp_pick_f rfl (v := .bool _) rfl ?_)
                  refine AS.cons (sp_move (v := .bool _) rfl ?_)
                  refine AS.split 113 rfl (fun g113 => ?_) (fun g113 => ?_)
                  · exfalso; rcases hsum with h | h | h <;> (rw [h.1, h.2.1] at g113; exact absurd g113 (by decide))
                  · skip
                    refine AS.cons (sp_move (v := .int _ _) rfl ?_)
                    refine AS.cons (sp_eql rfl rfl ?_)
                    refine AS.cons (sp_move (v := .int _ _) rfl ?_)
                    refine AS.cons (sp_eql rfl rfl ?_)
                    refine AS.cons (sp_neqb rfl rfl bool_4 ?_)
                    refine AS.cons (sp_pick_f rfl (v := .bool _) rfl ?_)
                    refine AS.cons (sp_move (v := .bool _) rfl ?_)
                    refine AS.split 120 rfl (fun g120 => ?_) (fun g120 => ?_)
                    · exfalso; rcases hsum with h | h | h; (rw [h.1, h.2.2.1] at g120; exact absurd g120 (by decide)); (rw [h.1, h.2.2] at g120; exact absurd g120 (by decide)); (rw [h.1, h.2.2] at g120; exact absurd g120 (by decide))
                    · skip
                      refine AS.cons (sp_move (v := .int _ _) rfl ?_)
                      refine AS.cons (sp_neq rfl rfl ?_)
                      refine AS.cons (sp_move (v := .bool _) rfl ?_)
                      refine AS.split 123 rfl (fun g123 => ?_) (fun g123 => ?_)
                      · skip
                        refine AS.cons (sp_move (v := .int _ _) rfl ?_)
                        refine AS.cons (sp_neq rfl rfl ?_)
                        refine AS.cons (sp_pick_t rfl (v := .bool _) rfl ?_)
                        refine AS.cons (sp_pick_f rfl (v := .bool _) rfl ?_)
                        refine AS.cons (sp_move (v := .bool _) rfl ?_)
                        refine AS.split 128 rfl (fun g128 => ?_) (fun g128 => ?_)
                        · exfalso; have h1 := of_decide_eq_true g128; have h2 := of_decide_eq_true g123; rcases hsum with h | h | h <;> omega
                        · skip
                          refine AS.cons (sp_move (v := .int _ _) rfl ?_)
                          refine AS.cons (sp_eql rfl rfl ?_)
                          refine AS.cons (sp_move (v := .bool _) rfl ?_)
                          refine AS.split 131 rfl (fun g131 => ?_) (fun g131 => ?_)
                          · skip
                            refine AS.cons (sp_move (v := .int _ _) rfl ?_)
                            refine AS.cons (sp_neq rfl rfl ?_)
                            refine AS.cons (sp_pick_t rfl (v := .bool _) rfl ?_)
                            refine AS.cons (sp_pick_f rfl (v := .bool _) rfl ?_)
                            refine AS.nil ?_
                            intro _ S
                            refine W.cond rfl (fun c135 => ?_) (fun c135 => ?_)
                            · exfalso; have h1 := of_decide_eq_true c135; have h2 := of_decide_eq_true g131; rcases hsum with h | h | h <;> omega
                            · skip
                              refine W.skip ?_
                              refine W.seq (W.seq (W.region S ?_))
                              refine AS.cons (sp_asg rfl ?_)
                              refine AS.nil ?_
                              intro _ S
                              refine W.block ?_
                              refine W.loopS S [6, 19, 136, 137, 138, 139, 140, 141, 142, 143, 144, 145, 146, 147, 148] [] (fun (i : Nat) => [(19, iv i)]) (fun _ => []) (fun i => i ≤ wk.length) (fun i => wk.length - i) 0 (by omega) ⟨rfl, trivial⟩ trivial ?_
                              rintro i σ M w1 hi S
                              refine W.seq (W.seq (W.region S ?_))
                              refine AS.cons (sp_move (v := .int _ _) rfl ?_)
                              refine AS.cons (sp_move rfl ?_)
                              refine AS.cons (sp_len rfl sl_22_3_1 ?_)
                              refine AS.cons (sp_lss rfl rfl ?_)
                              refine AS.nil ?_
                              intro _ S
                              refine W.condd rfl (fun c139 => ?_) (fun c139 => ?_)
                              · skip
                                have hil : i < wk.length := by omega
                                obtain ⟨z, hz⟩ := get_some hil
                                have hzl := hsub z (List.mem_of_getElem? hz)
                                refine W.skip ?_
                                refine W.seq (W.block ?_)
                                refine W.seq (W.region S ?_)
                                refine AS.cons (sp_move rfl ?_)
                                refine AS.cons (sp_move rfl ?_)
                                refine AS.cons (sp_move (v := .int _ _) rfl ?_)
                                refine AS.cons (sp_iaS 70 rfl rfl rfl sl_22_3_1 (by omega) ?_)
                                refine AS.cons (sp_ldS 70 rfl rfl sc_3 (ints_of hz) (by omega) ?_)
                                refine AS.cons (sp_call [64] rfl rfl cf_41 (fun F w hF S => place a64 c64 wl z (by omega) w (S.slc_rd (k := 64) ((hF 64 (by simp)).trans rfl) (by omega))) ?_)
                                refine AS.cons (sp_lss rfl rfl ?_)
                                refine AS.nil ?_
                                intro _ S
                                refine W.condd rfl (fun c148 => ?_) (fun c148 => ?_)
                                · exact absurd hzl ((ix_lt _ _).1 c148)
                                · skip
                                  refine W.skip ?_
                                  refine W.region S ?_
                                  refine AS.cons (sp_move (v := .int _ _) rfl ?_)
                                  refine AS.cons (sp_add rfl rfl (by first | omega | (simp only [decide_eq_true_eq, decide_eq_false_iff_not] at *; omega)) ?_)
                                  refine AS.cons (sp_asg (v := .int _ _) rfl ?_)
                                  refine AS.nil ?_
                                  intro _ S
                                  exact ⟨i + 1, _, by omega, by omega, ⟨by simp [upd], trivial⟩, trivial, by repeat (first | exact Agr.refl _ _ | exact Agr.msk _ _ _ | refine Agr.upd ?_ _ rfl | refine Agr.upds ?_ rfl | refine Agr.mskIn ?_ rfl), by repeat (first | exact Agr.refl _ _ | exact Agr.msk _ _ _ | refine Agr.upd ?_ _ rfl | refine Agr.upds ?_ rfl | refine Agr.mskIn ?_ rfl), rfl, S⟩
                              · skip
                                refine W.exit ?_
                                refine W.seq (W.region S ?_)
                                refine AS.cons (sp_call [] rfl rfl cf_28 (fun F w _ S => cried w (hK.ext S.mod)) ?_)
                                refine AS.cons (sp_asg (v := .bool _) rfl ?_)
                                refine AS.nil ?_
                                intro _ S
                                refine W.ret ?_
                                exact ret1 rfl rfl S fun w' S' => ⟨rfl, S'.mod⟩
                          · skip
                            refine AS.cons (sp_skip rfl ?_)
                            refine AS.cons (sp_skip rfl ?_)
                            refine AS.cons (sp_pick_f rfl (v := .bool _) rfl ?_)
                            refine AS.cons (sp_pick_f rfl (v := .bool _) rfl ?_)
                            refine AS.nil ?_
                            intro _ S
                            refine W.cond (b := false) rfl (fun h => nomatch h) (fun _ => ?_)
                            refine W.skip ?_
                            refine W.seq (W.seq (W.region S ?_))
                            refine AS.cons (sp_asg rfl ?_)
                            refine AS.nil ?_
                            intro _ S
                            refine W.block ?_
                            refine W.loopS S [6, 19, 136, 137, 138, 139, 140, 141, 142, 143, 144, 145, 146, 147, 148] [] (fun (i : Nat) => [(19, iv i)]) (fun _ => []) (fun i => i ≤ wk.length) (fun i => wk.length - i) 0 (by omega) ⟨rfl, trivial⟩ trivial ?_
                            rintro i σ M w1 hi S
                            refine W.seq (W.seq (W.region S ?_))
                            refine AS.cons (sp_move (v := .int _ _) rfl ?_)
                            refine AS.cons (sp_move rfl ?_)
                            refine AS.cons (sp_len rfl sl_22_3_1 ?_)
                            refine AS.cons (sp_lss rfl rfl ?_)
                            refine AS.nil ?_
                            intro _ S
                            refine W.condd rfl (fun c139 => ?_) (fun c139 => ?_)
                            · skip
                              have hil : i < wk.length := by omega
                              obtain ⟨z, hz⟩ := get_some hil
                              have hzl := hsub z (List.mem_of_getElem? hz)
                              refine W.skip ?_
                              refine W.seq (W.block ?_)
                              refine W.seq (W.region S ?_)
                              refine AS.cons (sp_move rfl ?_)
                              refine AS.cons (sp_move rfl ?_)
                              refine AS.cons (sp_move (v := .int _ _) rfl ?_)
                              refine AS.cons (sp_iaS 70 rfl rfl rfl sl_22_3_1 (by omega) ?_)
                              refine AS.cons (sp_ldS 70 rfl rfl sc_3 (ints_of hz) (by omega) ?_)
                              refine AS.cons (sp_call [64] rfl rfl cf_41 (fun F w hF S => place a64 c64 wl z (by omega) w (S.slc_rd (k := 64) ((hF 64 (by simp)).trans rfl) (by omega))) ?_)
                              refine AS.cons (sp_lss rfl rfl ?_)
                              refine AS.nil ?_
                              intro _ S
                              refine W.condd rfl (fun c148 => ?_) (fun c148 => ?_)
                              · exact absurd hzl ((ix_lt _ _).1 c148)
                              · skip
                                refine W.skip ?_
                                refine W.region S ?_
                                refine AS.cons (sp_move (v := .int _ _) rfl ?_)
                                refine AS.cons (sp_add rfl rfl (by first | omega | (simp only [decide_eq_true_eq, decide_eq_false_iff_not] at *; omega)) ?_)
                                refine AS.cons (sp_asg (v := .int _ _) rfl ?_)
                                refine AS.nil ?_
                                intro _ S
                                exact ⟨i + 1, _, by omega, by omega, ⟨by simp [upd], trivial⟩, trivial, by repeat (first | exact Agr.refl _ _ | exact Agr.msk _ _ _ | refine Agr.upd ?_ _ rfl | refine Agr.upds ?_ rfl | refine Agr.mskIn ?_ rfl), by repeat (first | exact Agr.refl _ _ | exact Agr.msk _ _ _ | refine Agr.upd ?_ _ rfl | refine Agr.upds ?_ rfl | refine Agr.mskIn ?_ rfl), rfl, S⟩
                            · skip
                              refine W.exit ?_
                              refine W.seq (W.region S ?_)
                              refine AS.cons (sp_call [] rfl rfl cf_28 (fun F w _ S => cried w (hK.ext S.mod)) ?_)
                              refine AS.cons (sp_asg (v := .bool _) rfl ?_)
                              refine AS.nil ?_
                              intro _ S
                              refine W.ret ?_
                              exact ret1 rfl rfl S fun w' S' => ⟨rfl, S'.mod⟩
                      · skip
                        refine AS.cons (sp_skip rfl ?_)
                        refine AS.cons (sp_skip rfl ?_)
                        refine AS.cons (sp_pick_f rfl (v := .bool _) rfl ?_)
                        refine AS.cons (sp_pick_f rfl (v := .bool _) rfl ?_)
                        refine AS.cons (sp_move (v := .bool _) rfl ?_)
                        refine AS.cons (sp_move (v := .int _ _) rfl ?_)
                        refine AS.cons (sp_eql rfl rfl ?_)
                        refine AS.cons (sp_move (v := .bool _) rfl ?_)
                        refine AS.split 131 rfl (fun g131 => ?_) (fun g131 => ?_)
                        · skip
                          refine AS.cons (sp_move (v := .int _ _) rfl ?_)
                          refine AS.cons (sp_neq rfl rfl ?_)
                          refine AS.cons (sp_pick_t rfl (v := .bool _) rfl ?_)
                          refine AS.cons (sp_pick_f rfl (v := .bool _) rfl ?_)
                          refine AS.nil ?_
                          intro _ S
                          refine W.cond rfl (fun c135 => ?_) (fun c135 => ?_)
                          · exfalso; have h1 := of_decide_eq_true c135; have h2 := of_decide_eq_true g131; rcases hsum with h | h | h <;> omega
                          · skip
                            refine W.skip ?_
                            refine W.seq (W.seq (W.region S ?_))
                            refine AS.cons (sp_asg rfl ?_)
                            refine AS.nil ?_
                            intro _ S
                            refine W.block ?_
                            refine W.loopS S [6, 19, 136, 137, 138, 139, 140, 141, 142, 143, 144, 145, 146, 147, 148] [] (fun (i : Nat) => [(19, iv i)]) (fun _ => []) (fun i => i ≤ wk.length) (fun i => wk.length - i) 0 (by omega) ⟨rfl, trivial⟩ trivial ?_
                            rintro i σ M w1 hi S
                            refine W.seq (W.seq (W.region S ?_))
                            refine AS.cons (sp_move (v := .int _ _) rfl ?_)
                            refine AS.cons (sp_move rfl ?_)
                            refine AS.cons (sp_len rfl sl_22_3_1 ?_)
                            refine AS.cons (sp_lss rfl rfl ?_)
                            refine AS.nil ?_
                            intro _ S
                            refine W.condd rfl (fun c139 => ?_) (fun c139 => ?_)
                            · skip
                              have hil : i < wk.length := by omega
                              obtain ⟨z, hz⟩ := get_some hil
                              have hzl := hsub z (List.mem_of_getElem? hz)
                              refine W.skip ?_
                              refine W.seq (W.block ?_)
                              refine W.seq (W.region S ?_)
                              refine AS.cons (sp_move rfl ?_)
                              refine AS.cons (sp_move rfl ?_)
                              refine AS.cons (sp_move (v := .int _ _) rfl ?_)
                              refine AS.cons (sp_iaS 70 rfl rfl rfl sl_22_3_1 (by omega) ?_)
                              refine AS.cons (sp_ldS 70 rfl rfl sc_3 (ints_of hz) (by omega) ?_)
                              refine AS.cons (sp_call [64] rfl rfl cf_41 (fun F w hF S => place a64 c64 wl z (by omega) w (S.slc_rd (k := 64) ((hF 64 (by simp)).trans rfl) (by omega))) ?_)
                              refine AS.cons (sp_lss rfl rfl ?_)
                              refine AS.nil ?_
                              intro _ S
                              refine W.condd rfl (fun c148 => ?_) (fun c148 => ?_)
                              · exact absurd hzl ((ix_lt _ _).1 c148)
                              · skip
                                refine W.skip ?_
                                refine W.region S ?_
                                refine AS.cons (sp_move (v := .int _ _) rfl ?_)
                                refine AS.cons (sp_add rfl rfl (by first | omega | (simp only [decide_eq_true_eq, decide_eq_false_iff_not] at *; omega)) ?_)
                                refine AS.cons (sp_asg (v := .int _ _) rfl ?_)
                                refine AS.nil ?_
                                intro _ S
                                exact ⟨i + 1, _, by omega, by omega, ⟨by simp [upd], trivial⟩, trivial, by repeat (first | exact Agr.refl _ _ | exact Agr.msk _ _ _ | refine Agr.upd ?_ _ rfl | refine Agr.upds ?_ rfl | refine Agr.mskIn ?_ rfl), by repeat (first | exact Agr.refl _ _ | exact Agr.msk _ _ _ | refine Agr.upd ?_ _ rfl | refine Agr.upds ?_ rfl | refine Agr.mskIn ?_ rfl), rfl, S⟩
                            · skip
                              refine W.exit ?_
                              refine W.seq (W.region S ?_)
                              refine AS.cons (sp_call [] rfl rfl cf_28 (fun F w _ S => cried w (hK.ext S.mod)) ?_)
                              refine AS.cons (sp_asg (v := .bool _) rfl ?_)
                              refine AS.nil ?_
                              intro _ S
                              refine W.ret ?_
                              exact ret1 rfl rfl S fun w' S' => ⟨rfl, S'.mod⟩
                        · skip
                          refine AS.cons (sp_skip rfl ?_)
                          refine AS.cons (sp_skip rfl ?_)
                          refine AS.cons (sp_pick_f rfl (v := .bool _) rfl ?_)
                          refine AS.cons (sp_pick_f rfl (v := .bool _) rfl ?_)
                          refine AS.nil ?_
                          intro _ S
                          refine W.cond (b := false) rfl (fun h => nomatch h) (fun _ => ?_)
                          refine W.skip ?_
                          refine W.seq (W.seq (W.region S ?_))
                          refine AS.cons (sp_asg rfl ?_)
                          refine AS.nil ?_
                          intro _ S
                          refine W.block ?_
                          refine W.loopS S [6, 19, 136, 137, 138, 139, 140, 141, 142, 143, 144, 145, 146, 147, 148] [] (fun (i : Nat) => [(19, iv i)]) (fun _ => []) (fun i => i ≤ wk.length) (fun i => wk.length - i) 0 (by omega) ⟨rfl, trivial⟩ trivial ?_
                          rintro i σ M w1 hi S
                          refine W.seq (W.seq (W.region S ?_))
                          refine AS.cons (sp_move (v := .int _ _) rfl ?_)
                          refine AS.cons (sp_move rfl ?_)
                          refine AS.cons (sp_len rfl sl_22_3_1 ?_)
                          refine AS.cons (sp_lss rfl rfl ?_)
                          refine AS.nil ?_
                          intro _ S
                          refine W.condd rfl (fun c139 => ?_) (fun c139 => ?_)
                          · skip
                            have hil : i < wk.length := by omega
                            obtain ⟨z, hz⟩ := get_some hil
                            have hzl := hsub z (List.mem_of_getElem? hz)
                            refine W.skip ?_
                            refine W.seq (W.block ?_)
                            refine W.seq (W.region S ?_)
                            refine AS.cons (sp_move rfl ?_)
                            refine AS.cons (sp_move rfl ?_)
                            refine AS.cons (sp_move (v := .int _ _) rfl ?_)
                            refine AS.cons (sp_iaS 70 rfl rfl rfl sl_22_3_1 (by omega) ?_)
                            refine AS.cons (sp_ldS 70 rfl rfl sc_3 (ints_of hz) (by omega) ?_)
                            refine AS.cons (sp_call [64] rfl rfl cf_41 (fun F w hF S => place a64 c64 wl z (by omega) w (S.slc_rd (k := 64) ((hF 64 (by simp)).trans rfl) (by omega))) ?_)
                            refine AS.cons (sp_lss rfl rfl ?_)
                            refine AS.nil ?_
                            intro _ S
                            refine W.condd rfl (fun c148 => ?_) (fun c148 => ?_)
                            · exact absurd hzl ((ix_lt _ _).1 c148)
                            · skip
                              refine W.skip ?_
                              refine W.region S ?_
                              refine AS.cons (sp_move (v := .int _ _) rfl ?_)
                              refine AS.cons (sp_add rfl rfl (by first | omega | (simp only [decide_eq_true_eq, decide_eq_false_iff_not] at *; omega)) ?_)
                              refine AS.cons (sp_asg (v := .int _ _) rfl ?_)
                              refine AS.nil ?_
                              intro _ S
                              exact ⟨i + 1, _, by omega, by omega, ⟨by simp [upd], trivial⟩, trivial, by repeat (first | exact Agr.refl _ _ | exact Agr.msk _ _ _ | refine Agr.upd ?_ _ rfl | refine Agr.upds ?_ rfl | refine Agr.mskIn ?_ rfl), by repeat (first | exact Agr.refl _ _ | exact Agr.msk _ _ _ | refine Agr.upd ?_ _ rfl | refine Agr.upds ?_ rfl | refine Agr.mskIn ?_ rfl), rfl, S⟩
                          · skip
                            refine W.exit ?_
                            refine W.seq (W.region S ?_)
                            refine AS.cons (sp_call [] rfl rfl cf_28 (fun F w _ S => cried w (hK.ext S.mod)) ?_)
                            refine AS.cons (sp_asg (v := .bool _) rfl ?_)
                            refine AS.nil ?_
                            intro _ S
                            refine W.ret ?_
                            exact ret1 rfl rfl S fun w' S' => ⟨rfl, S'.mod⟩
            · skip
              refine AS.cons (sp_skip rfl ?_)
              refine AS.cons (sp_skip rfl ?_)
              refine AS.cons (sp_skip rfl ?_)
              refine AS.cons (sp_skip rfl ?_)
              refine AS.cons (sp_skip rfl ?_)
              refine AS.cons (sp_skip rfl ?_)
              refine AS.cons (sp_skip rfl ?_)
              refine AS.cons (sp_pick_f rfl (v := .bool _) rfl ?_)
              refine AS.cons (sp_pick_f rfl (v := .bool _) rfl ?_)
              refine AS.cons (sp_move (v := .bool _) rfl ?_)
              refine AS.cons (sp_move (v := .int _ _) rfl ?_)
              refine AS.cons (sp_eql rfl rfl ?_)
              refine AS.cons (sp_move (v := .bool _) rfl ?_)
              refine AS.cons (sp_neqb rfl rfl bool_4 ?_)
              refine AS.cons (sp_pick_f rfl (v := .bool _) rfl ?_)
              refine AS.cons (sp_move (v := .bool _) rfl ?_)
              refine AS.split 113 rfl (fun g113 => ?_) (fun g113 => ?_)
              · exfalso; rcases hsum with h | h | h <;> (rw [h.1, h.2.1] at g113; exact absurd g113 (by decide))
              · skip
                refine AS.cons (sp_move (v := .int _ _) rfl ?_)
                refine AS.cons (sp_eql rfl rfl ?_)
                refine AS.cons (sp_move (v := .int _ _) rfl ?_)
                refine AS.cons (sp_eql rfl rfl ?_)
                refine AS.cons (sp_neqb rfl rfl bool_4 ?_)
                refine AS.cons (sp_pick_f rfl (v := .bool _) rfl ?_)
                refine AS.cons (sp_move (v := .bool _) rfl ?_)
                refine AS.split 120 rfl (fun g120 => ?_) (fun g120 => ?_)
                · exfalso; rcases hsum with h | h | h; (rw [h.1, h.2.2.1] at g120; exact absurd g120 (by decide)); (rw [h.1, h.2.2] at g120; exact absurd g120 (by decide)); (rw [h.1, h.2.2] at g120; exact absurd g120 (by decide))
                · skip
                  refine AS.cons (sp_move (v := .int _ _) rfl ?_)
                  refine AS.cons (sp_neq rfl rfl ?_)
                  refine AS.cons (sp_move (v := .bool _) rfl ?_)
                  refine AS.split 123 rfl (fun g123 => ?_) (fun g123 => ?_)
                  · skip
                    refine AS.cons (sp_move (v := .int _ _) rfl ?_)
                    refine AS.cons (sp_neq rfl rfl ?_)
                    refine AS.cons (sp_pick_t rfl (v := .bool _) rfl ?_)
                    refine AS.cons (sp_pick_f rfl (v := .bool _) rfl ?_)
                    refine AS.cons (sp_move (v := .bool _) rfl ?_)
                    refine AS.split 128 rfl (fun g128 => ?_) (fun g128 => ?_)
                    · exfalso; have h1 := of_decide_eq_true g128; have h2 := of_decide_eq_true g123; rcases hsum with h | h | h <;> omega
                    · skip
                      refine AS.cons (sp_move (v := .int _ _) rfl ?_)
                      refine AS.cons (sp_eql rfl rfl ?_)
                      refine AS.cons (sp_move (v := .bool _) rfl ?_)
                      refine AS.split 131 rfl (fun g131 => ?_) (fun g131 => ?_)
                      · skip
                        refine AS.cons (sp_move (v := .int _ _) rfl ?_)
                        refine AS.cons (sp_neq rfl rfl ?_)
                        refine AS.cons (sp_pick_t rfl (v := .bool _) rfl ?_)
                        refine AS.cons (sp_pick_f rfl (v := .bool _) rfl ?_)
                        refine AS.nil ?_
                        intro _ S
                        refine W.cond rfl (fun c135 => ?_) (fun c135 => ?_)
                        · exfalso; have h1 := of_decide_eq_true c135; have h2 := of_decide_eq_true g131; rcases hsum with h | h | h <;> omega
                        · skip
                          refine W.skip ?_
                          refine W.seq (W.seq (W.region S ?_))
                          refine AS.cons (sp_asg rfl ?_)
                          refine AS.nil ?_
                          intro _ S
                          refine W.block ?_
                          refine W.loopS S [6, 19, 136, 137, 138, 139, 140, 141, 142, 143, 144, 145, 146, 147, 148] [] (fun (i : Nat) => [(19, iv i)]) (fun _ => []) (fun i => i ≤ wk.length) (fun i => wk.length - i) 0 (by omega) ⟨rfl, trivial⟩ trivial ?_
                          rintro i σ M w1 hi S
                          refine W.seq (W.seq (W.region S ?_))
                          refine AS.cons (sp_move (v := .int _ _) rfl ?_)
                          refine AS.cons (sp_move rfl ?_)
                          refine AS.cons (sp_len rfl sl_22_3_1 ?_)
                          refine AS.cons (sp_lss rfl rfl ?_)
                          refine AS.nil ?_
                          intro _ S
                          refine W.condd rfl (fun c139 => ?_) (fun c139 => ?_)
                          · skip
                            have hil : i < wk.length := by omega
                            obtain ⟨z, hz⟩ := get_some hil
                            have hzl := hsub z (List.mem_of_getElem? hz)
                            refine W.skip ?_
                            refine W.seq (W.block ?_)
                            refine W.seq (W.region S ?_)
                            refine AS.cons (sp_move rfl ?_)
                            refine AS.cons (sp_move rfl ?_)
                            refine AS.cons (sp_move (v := .int _ _) rfl ?_)
                            refine AS.cons (sp_iaS 70 rfl rfl rfl sl_22_3_1 (by omega) ?_)
                            refine AS.cons (sp_ldS 70 rfl rfl sc_3 (ints_of hz) (by omega) ?_)
                            refine AS.cons (sp_call [64] rfl rfl cf_41 (fun F w hF S => place a64 c64 wl z (by omega) w (S.slc_rd (k := 64) ((hF 64 (by simp)).trans rfl) (by omega))) ?_)
                            refine AS.cons (sp_lss rfl rfl ?_)
                            refine AS.nil ?_
                            intro _ S
                            refine W.condd rfl (fun c148 => ?_) (fun c148 => ?_)
                            · exact absurd hzl ((ix_lt _ _).1 c148)
                            · skip
                              refine W.skip ?_
                              refine W.region S ?_
                              refine AS.cons (sp_move (v := .int _ _) rfl ?_)
                              refine AS.cons (sp_add rfl rfl (by first | omega | (simp only [decide_eq_true_eq, decide_eq_false_iff_not] at *; omega)) ?_)
                              refine AS.cons (sp_asg (v := .int _ _) rfl ?_)
                              refine AS.nil ?_
                              intro _ S
                              exact ⟨i + 1, _, by omega, by omega, ⟨by simp [upd], trivial⟩, trivial, by repeat (first | exact Agr.refl _ _ | exact Agr.msk _ _ _ | refine Agr.upd ?_ _ rfl | refine Agr.upds ?_ rfl | refine Agr.mskIn ?_ rfl), by repeat (first | exact Agr.refl _ _ | exact Agr.msk _ _ _ | refine Agr.upd ?_ _ rfl | refine Agr.upds ?_ rfl | refine Agr.mskIn ?_ rfl), rfl, S⟩
                          · skip
                            refine W.exit ?_
                            refine W.seq (W.region S ?_)
                            refine AS.cons (sp_call [] rfl rfl cf_28 (fun F w _ S => cried w (hK.ext S.mod)) ?_)
                            refine AS.cons (sp_asg (v := .bool _) rfl ?_)
                            refine AS.nil ?_
                            intro _ S
                            refine W.ret ?_
                            exact ret1 rfl rfl S fun w' S' => ⟨rfl, S'.mod⟩
                      · skip
                        refine AS.cons (sp_skip rfl ?_)
                        refine AS.cons (sp_skip rfl ?_)
                        refine AS.cons (sp_pick_f rfl (v := .bool _) rfl ?_)
                        refine AS.cons (sp_pick_f rfl (v := .bool _) rfl ?_)
                        refine AS.nil ?_
                        intro _ S
                        refine W.cond (b := false) rfl (fun h => nomatch h) (fun _ => ?_)
                        refine W.skip ?_
                        refine W.seq (W.seq (W.region S ?_))
                        refine AS.cons (sp_asg rfl ?_)
                        refine AS.nil ?_
                        intro _ S
                        refine W.block ?_
                        refine W.loopS S [6, 19, 136, 137, 138, 139, 140, 141, 142, 143, 144, 145, 146, 147, 148] [] (fun (i : Nat) => [(19, iv i)]) (fun _ => []) (fun i => i ≤ wk.length) (fun i => wk.length - i) 0 (by omega) ⟨rfl, trivial⟩ trivial ?_
                        rintro i σ M w1 hi S
                        refine W.seq (W.seq (W.region S ?_))
                        refine AS.cons (sp_move (v := .int _ _) rfl ?_)
                        refine AS.cons (sp_move rfl ?_)
                        refine AS.cons (sp_len rfl sl_22_3_1 ?_)
                        refine AS.cons (sp_lss rfl rfl ?_)
                        refine AS.nil ?_
                        intro _ S
                        refine W.condd rfl (fun c139 => ?_) (fun c139 => ?_)
                        · skip
                          have hil : i < wk.length := by omega
                          obtain ⟨z, hz⟩ := get_some hil
                          have hzl := hsub z (List.mem_of_getElem? hz)
                          refine W.skip ?_
                          refine W.seq (W.block ?_)
                          refine W.seq (W.region S ?_)
                          refine AS.cons (sp_move rfl ?_)
                          refine AS.cons (sp_move rfl ?_)
                          refine AS.cons (sp_move (v := .int _ _) rfl ?_)
                          refine AS.cons (sp_iaS 70 rfl rfl rfl sl_22_3_1 (by omega) ?_)
                          refine AS.cons (sp_ldS 70 rfl rfl sc_3 (ints_of hz) (by omega) ?_)
                          refine AS.cons (sp_call [64] rfl rfl cf_41 (fun F w hF S => place a64 c64 wl z (by omega) w (S.slc_rd (k := 64) ((hF 64 (by simp)).trans rfl) (by omega))) ?_)
                          refine AS.cons (sp_lss rfl rfl ?_)
                          refine AS.nil ?_
                          intro _ S
                          refine W.condd rfl (fun c148 => ?_) (fun c148 => ?_)
                          · exact absurd hzl ((ix_lt _ _).1 c148)
                          · skip
                            refine W.skip ?_
                            refine W.region S ?_
                            refine AS.cons (sp_move (v := .int _ _) rfl ?_)
                            refine AS.cons (sp_add rfl rfl (by first | omega | (simp only [decide_eq_true_eq, decide_eq_false_iff_not] at *; omega)) ?_)
                            refine AS.cons (sp_asg (v := .int _ _) rfl ?_)
                            refine AS.nil ?_
                            intro _ S
                            exact ⟨i + 1, _, by omega, by omega, ⟨by simp [upd], trivial⟩, trivial, by repeat (first | exact Agr.refl _ _ | exact Agr.msk _ _ _ | refine Agr.upd ?_ _ rfl | refine Agr.upds ?_ rfl | refine Agr.mskIn ?_ rfl), by repeat (first | exact Agr.refl _ _ | exact Agr.msk _ _ _ | refine Agr.upd ?_ _ rfl | refine Agr.upds ?_ rfl | refine Agr.mskIn ?_ rfl), rfl, S⟩
                        · skip
                          refine W.exit ?_
                          refine W.seq (W.region S ?_)
                          refine AS.cons (sp_call [] rfl rfl cf_28 (fun F w _ S => cried w (hK.ext S.mod)) ?_)
                          refine AS.cons (sp_asg (v := .bool _) rfl ?_)
                          refine AS.nil ?_
                          intro _ S
                          refine W.ret ?_
                          exact ret1 rfl rfl S fun w' S' => ⟨rfl, S'.mod⟩
                  · skip
                    refine AS.cons (sp_skip rfl ?_)
                    refine AS.cons (sp_skip rfl ?_)
                    refine AS.cons (sp_pick_f rfl (v := .bool _) rfl ?_)
                    refine AS.cons (sp_pick_f rfl (v := .bool _) rfl ?_)
                    refine AS.cons (sp_move (v := .bool _) rfl ?_)
                    refine AS.cons (sp_move (v := .int _ _) rfl ?_)
                    refine AS.cons (sp_eql rfl rfl ?_)
                    refine AS.cons (sp_move (v := .bool _) rfl ?_)
                    refine AS.split 131 rfl (fun g131 => ?_) (fun g131 => ?_)
                    · skip
                      refine AS.cons (sp_move (v := .int _ _) rfl ?_)
                      refine AS.cons (sp_neq rfl rfl ?_)
                      refine AS.cons (sp_pick_t rfl (v := .bool _) rfl ?_)
                      refine AS.cons (sp_pick_f rfl (v := .bool _) rfl ?_)
                      refine AS.nil ?_
                      intro _ S
                      refine W.cond rfl (fun c135 => ?_) (fun c135 => ?_)
                      · exfalso; have h1 := of_decide_eq_true c135; have h2 := of_decide_eq_true g131; rcases hsum with h | h | h <;> omega
                      · skip
                        refine W.skip ?_
                        refine W.seq (W.seq (W.region S ?_))
                        refine AS.cons (sp_asg rfl ?_)
                        refine AS.nil ?_
                        intro _ S
                        refine W.block ?_
                        refine W.loopS S [6, 19, 136, 137, 138, 139, 140, 141, 142, 143, 144, 145, 146, 147, 148] [] (fun (i : Nat) => [(19, iv i)]) (fun _ => []) (fun i => i ≤ wk.length) (fun i => wk.length - i) 0 (by omega) ⟨rfl, trivial⟩ trivial ?_
                        rintro i σ M w1 hi S
                        refine W.seq (W.seq (W.region S ?_))
                        refine AS.cons (sp_move (v := .int _ _) rfl ?_)
                        refine AS.cons (sp_move rfl ?_)
                        refine AS.cons (sp_len rfl sl_22_3_1 ?_)
                        refine AS.cons (sp_lss rfl rfl ?_)
                        refine AS.nil ?_
                        intro _ S
                        refine W.condd rfl (fun c139 => ?_) (fun c139 => ?_)
                        · skip
                          have hil : i < wk.length := by omega
                          obtain ⟨z, hz⟩ := get_some hil
                          have hzl := hsub z (List.mem_of_getElem? hz)
                          refine W.skip ?_
                          refine W.seq (W.block ?_)
                          refine W.seq (W.region S ?_)
                          refine AS.cons (sp_move rfl ?_)
                          refine AS.cons (sp_move rfl ?_)
                          refine AS.cons (sp_move (v := .int _ _) rfl ?_)
                          refine AS.cons (sp_iaS 70 rfl rfl rfl sl_22_3_1 (by omega) ?_)
                          refine AS.cons (sp_ldS 70 rfl rfl sc_3 (ints_of hz) (by omega) ?_)
                          refine AS.cons (sp_call [64] rfl rfl cf_41 (fun F w hF S => place a64 c64 wl z (by omega) w (S.slc_rd (k := 64) ((hF 64 (by simp)).trans rfl) (by omega))) ?_)
                          refine AS.cons (sp_lss rfl rfl ?_)
                          refine AS.nil ?_
                          intro _ S
                          refine W.condd rfl (fun c148 => ?_) (fun c148 => ?_)
                          · exact absurd hzl ((ix_lt _ _).1 c148)
                          · skip
                            refine W.skip ?_
                            refine W.region S ?_
                            refine AS.cons (sp_move (v := .int _ _) rfl ?_)
                            refine AS.cons (sp_add rfl rfl (by first | omega | (simp only [decide_eq_true_eq, decide_eq_false_iff_not] at *; omega)) ?_)
                            refine AS.cons (sp_asg (v := .int _ _) rfl ?_)
                            refine AS.nil ?_
                            intro _ S
                            exact ⟨i + 1, _, by omega, by omega, ⟨by simp [upd], trivial⟩, trivial, by repeat (first | exact Agr.refl _ _ | exact Agr.msk _ _ _ | refine Agr.upd ?_ _ rfl | refine Agr.upds ?_ rfl | refine Agr.mskIn ?_ rfl), by repeat (first | exact Agr.refl _ _ | exact Agr.msk _ _ _ | refine Agr.upd ?_ _ rfl | refine Agr.upds ?_ rfl | refine Agr.mskIn ?_ rfl), rfl, S⟩
                        · skip
                          refine W.exit ?_
                          refine W.seq (W.region S ?_)
                          refine AS.cons (sp_call [] rfl rfl cf_28 (fun F w _ S => cried w (hK.ext S.mod)) ?_)
                          refine AS.cons (sp_asg (v := .bool _) rfl ?_)
                          refine AS.nil ?_
                          intro _ S
                          refine W.ret ?_
                          exact ret1 rfl rfl S fun w' S' => ⟨rfl, S'.mod⟩
                    · skip
                      refine AS.cons (sp_skip rfl ?_)
                      refine AS.cons (sp_skip rfl ?_)
                      refine AS.cons (sp_pick_f rfl (v := .bool _) rfl ?_)
                      refine AS.cons (sp_pick_f rfl (v := .bool _) rfl ?_)
                      refine AS.nil ?_
                      intro _ S
                      refine W.cond (b := false) rfl (fun h => nomatch h) (fun _ => ?_)
                      refine W.skip ?_
                      refine W.seq (W.seq (W.region S ?_))
                      refine AS.cons (sp_asg rfl ?_)
                      refine AS.nil ?_
                      intro _ S
                      refine W.block ?_
                      refine W.loopS S [6, 19, 136, 137, 138, 139, 140, 141, 142, 143, 144, 145, 146, 147, 148] [] (fun (i : Nat) => [(19, iv i)]) (fun _ => []) (fun i => i ≤ wk.length) (fun i => wk.length - i) 0 (by omega) ⟨rfl, trivial⟩ trivial ?_
                      rintro i σ M w1 hi S
                      refine W.seq (W.seq (W.region S ?_))
                      refine AS.cons (sp_move (v := .int _ _) rfl ?_)
                      refine AS.cons (sp_move rfl ?_)
                      refine AS.cons (sp_len rfl sl_22_3_1 ?_)
                      refine AS.cons (sp_lss rfl rfl ?_)
                      refine AS.nil ?_
                      intro _ S
                      refine W.condd rfl (fun c139 => ?_) (fun c139 => ?_)
                      · skip
                        have hil : i < wk.length := by omega
                        obtain ⟨z, hz⟩ := get_some hil
                        have hzl := hsub z (List.mem_of_getElem? hz)
                        refine W.skip ?_
                        refine W.seq (W.block ?_)
                        refine W.seq (W.region S ?_)
                        refine AS.cons (sp_move rfl ?_)
                        refine AS.cons (sp_move rfl ?_)
                        refine AS.cons (sp_move (v := .int _ _) rfl ?_)
                        refine AS.cons (sp_iaS 70 rfl rfl rfl sl_22_3_1 (by omega) ?_)
                        refine AS.cons (sp_ldS 70 rfl rfl sc_3 (ints_of hz) (by omega) ?_)
                        refine AS.cons (sp_call [64] rfl rfl cf_41 (fun F w hF S => place a64 c64 wl z (by omega) w (S.slc_rd (k := 64) ((hF 64 (by simp)).trans rfl) (by omega))) ?_)
                        refine AS.cons (sp_lss rfl rfl ?_)
                        refine AS.nil ?_
                        intro _ S
                        refine W.condd rfl (fun c148 => ?_) (fun c148 => ?_)
                        · exact absurd hzl ((ix_lt _ _).1 c148)
                        · skip
                          refine W.skip ?_
                          refine W.region S ?_
                          refine AS.cons (sp_move (v := .int _ _) rfl ?_)
                          refine AS.cons (sp_add rfl rfl (by first | omega | (simp only [decide_eq_true_eq, decide_eq_false_iff_not] at *; omega)) ?_)
                          refine AS.cons (sp_asg (v := .int _ _) rfl ?_)
                          refine AS.nil ?_
                          intro _ S
                          exact ⟨i + 1, _, by omega, by omega, ⟨by simp [upd], trivial⟩, trivial, by repeat (first | exact Agr.refl _ _ | exact Agr.msk _ _ _ | refine Agr.upd ?_ _ rfl | refine Agr.upds ?_ rfl | refine Agr.mskIn ?_ rfl), by repeat (first | exact Agr.refl _ _ | exact Agr.msk _ _ _ | refine Agr.upd ?_ _ rfl | refine Agr.upds ?_ rfl | refine Agr.mskIn ?_ rfl), rfl, S⟩
                      · skip
                        refine W.exit ?_
                        refine W.seq (W.region S ?_)
                        refine AS.cons (sp_call [] rfl rfl cf_28 (fun F w _ S => cried w (hK.ext S.mod)) ?_)
                        refine AS.cons (sp_asg (v := .bool _) rfl ?_)
                        refine AS.nil ?_
                        intro _ S
                        refine W.ret ?_
                        exact ret1 rfl rfl S fun w' S' => ⟨rfl, S'.mod⟩
end
end Go.Proofs.YtmpclgepoemneaaDoor
