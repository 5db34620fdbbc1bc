/-
  Lemmas of this proof, several texts one behind the other; no condition beyond what each says.
-/
import Derived.Test.YtmpclgepoemneaaDoorMa
import Derived.Test.YtmpclgepoemneaaDoorMf
namespace Go.Proofs.YtmpclgepoemneaaDoor
open Go.Hu
theorem cf_60 : cfB Tryd.prog 60 = true := by kernel_rfl
theorem sl_72_26_7 : slB Tryd.prog 72 26 7 = true := by kernel_rfl
theorem sz_3_1 : szB Tryd.prog 3 1 = true := by kernel_rfl
theorem zs_26_7 : zsB Tryd.prog 26 7 = true := by kernel_rfl
end Go.Proofs.YtmpclgepoemneaaDoor
/-
  Fields of elements of slices of one's own; what need not be known any more is let go.
-/
namespace Go.Hu
open Go.RowKit
theorem ovw_app : ∀ {l vs r ys : List Value}, ovw l vs = some r → ovw (l ++ ys) vs = some (r ++ ys)
  | l, [], r, ys, h => by simp [ovw] at h ⊢; rw [h]
  | [], _ :: _, r, ys, h => by simp [ovw] at h
  | x :: l, v :: vs, r, ys, h => by
    simp only [ovw] at h
    cases e : ovw l vs with
    | none => rw [e] at h; cases h
    | some r' =>
      rw [e] at h
      cases h
      simp only [List.cons_append, ovw, ovw_app e]
theorem spl_app : ∀ {l : List Value} {o : Nat} {vs r ys : List Value}, spl l o vs = some r → spl (l ++ ys) o vs = some (r ++ ys)
  | l, 0, vs, r, ys, h => by
    have h' : ovw l vs = some r := by cases l <;> exact h
    have := ovw_app (ys := ys) h'
    show spl (l ++ ys) 0 vs = some (r ++ ys)
    cases hl : l ++ ys <;> (rw [hl] at this; exact this)
  | [], o + 1, vs, r, ys, h => by simp [spl] at h
  | x :: l, o + 1, vs, r, ys, h => by
    simp only [spl] at h
    cases e : spl l o vs with
    | none => rw [e] at h; cases h
    | some r' =>
      rw [e] at h
      cases h
      simp only [List.cons_append, spl, spl_app e]
section
variable {P : Program} {rd : Option Nat} {B : Nat → Prop} {w0 : World} {Ds : List Nat} {ops : Array Oper} {m : Option KD} {ρ : Nat → Value} {L : Nat → HP} {next : (Nat → Value) → (Nat → HP) → Prop}
variable {d : Tmp} {ty : TypeId} {pos : String} {aft : Array Edge} {g : Option (Nat × Bool)}
/-- Laid into a field of an element of a slice of one's own. -/
theorem sp_stSo (k j : Nat) {x y : Operand} {T E s n cap : Nat} {a : Option Addr} {i : Int} {xs vs r : List Value} {v : Value} (hx : ev ρ x = .pointer (some ⟨(elA a i s).block, (elA a i s).off + j, none⟩)) (hy : ev ρ y = v) (hk : L k = slc E s (.slice a n cap) n xs)
    (hv : v.cells = vs.toArray) (hT : szB P T vs.length = true) (h1 : oneB vs = true) (hs : spl xs (i.toNat * s + j) vs = some r) (hn : 0 < n) (h : next ρ (upd L k (slc E s (.slice a n cap) n r)))
    (hg : gd ops ⟨none, .store T x y, ty, pos, aft, g⟩ ρ = true := by rfl) (hm : okk m (.e [k] [k]) := by first | exact trivial | exact rfl) : SP P rd B w0 Ds ops m ⟨none, .store T x y, ty, pos, aft, g⟩ ρ L next := by
  refine SP.e [k] [k] (fun _ U => U = [(k, slc E s (.slice a n cap) n r)]) hg hm (fun v U h _ => by subst h; rfl) (fun _ => ⟨undef, _, rfl⟩) (fun a' F w ho hF S => ?_) (fun v U hU => by subst hU; exact h)
  have e := ho x (by simp [Op.operands])
  have e' := ho y (by simp [Op.operands])
  have hFk := (hF k (by simp)).trans hk
  obtain ⟨b, cap', cur, heq, hcap, hxl, hcl, ht, S'⟩ := S.slc_open hFk hn
  injection heq with e1 e2 e3
  subst e1 e3
  have hb := (S'.get (upd_same _ _ _)).1
  have hrl := (spl_spec hs).1
  have hlen : r.length = xs.length := by
    have h2 := spl_spec hs
    have : ∀ {l : List Value} {o : Nat} {vs r : List Value}, spl l o vs = some r → r.length = l.length := by
      have ho : ∀ {l vs r : List Value}, ovw l vs = some r → r.length = l.length := by
        intro l
        induction l with
        | nil => intro vs r h; cases vs with | nil => simp [ovw] at h; rw [h] | cons v vs => simp [ovw] at h
        | cons x l ih =>
          intro vs r h
          cases vs with
          | nil => simp [ovw] at h; rw [← h]
          | cons v vs =>
            simp only [ovw] at h
            cases e : ovw l vs with
            | none => rw [e] at h; cases h
            | some r' => rw [e] at h; cases h; simp [ih e]
      intro l
      induction l with
      | nil =>
        intro o vs r h
        cases o with
        | zero => exact ho (l := []) h
        | succ o => simp [spl] at h
      | cons x l ih =>
        intro o vs r h
        cases o with
        | zero => exact ho (l := x :: l) h
        | succ o =>
          simp only [spl] at h
          cases e : spl l o vs with
          | none => rw [e] at h; cases h
          | some r' => rw [e] at h; cases h; simp [ih e]
    exact this hs
  have hcur : cur = xs ++ cur.drop (n * s) := by rw [← ht, List.take_append_drop]
  have hs' : spl cur (i.toNat * s + j) vs = some (r ++ cur.drop (n * s)) := by
    have := spl_app (ys := cur.drop (n * s)) hs
    rwa [← hcur] at this
  obtain ⟨w', hrun, hmod, hb'⟩ := run_storeVar_at (P := P) (vs := vs) (v := v) hv hT h1 hb hs'
  refine opW.of_skip (w' := w') (by intro c hc; cases hc) ?_ ⟨_, rfl, ?_⟩
  · simp only [elA, Option.getD_some, Nat.zero_add] at e hx
    simp [execOp, e, e', hx, hy, Instr.storeAt, Instr.sureAddr, hrun]
  · have S2 := S'.mod1 (k := k) (b := b) (upd_same _ _ _) hmod hb'
    rw [upd_upd] at S2
    have S3 := S2.weak (k := k) (i := slc E s (.slice (some ⟨b, 0, none⟩) n cap) n r) (by
      intro f hf
      rw [upd_same] at hf
      refine slc_of_pt hf (hlen.trans hxl) hcap ?_ ?_
      · rw [List.length_append, hlen, List.length_drop]; omega
      · rw [← hxl, ← hlen]; exact List.take_left)
    rwa [upd_upd] at S3
theorem St.slc_cs {w : World} (S : St B w0 w L Ds) {k E s n cap : Nat} {a : Option Addr} {xs : List Value} (h : L k = slc E s (.slice a n cap) n xs) (hn : 0 < n) : ∃ b, a = some ⟨b, 0, none⟩ ∧ Cs w b 0 xs := by
  obtain ⟨b, cap', cur, heq, _, _, _, ht, S'⟩ := S.slc_open h hn
  injection heq with h1 h2 h3
  refine ⟨b, h1, fun j u hu => ?_⟩
  rw [cell_of_block (S'.get (upd_same _ _ _)).1]
  rw [← ht, List.getElem?_take] at hu
  split at hu
  · simpa using hu
  · cases hu
/-- A field of an element of a slice of one's own, and the whole element. -/
theorem sp_ldSo (k j : Nat) {x : Operand} {T E s n cap : Nat} {a : Option Addr} {i : Int} {xs : List Value} {v : Value} (hx : ev ρ x = .pointer (some ⟨(elA a i s).block, (elA a i s).off + j, none⟩)) (hk : L k = slc E s (.slice a n cap) n xs) (hT : scB P T = true)
    (hv : xs[i.toNat * s + j]? = some v) (hn : 0 < n) (h : next (upd ρ d v) L) (hg : gd ops ⟨some d, .load T x, ty, pos, aft, g⟩ ρ = true := by rfl) (hm : okk m (.q [k]) := by first | exact trivial | exact rfl) :
    SP P rd B w0 Ds ops m ⟨some d, .load T x, ty, pos, aft, g⟩ ρ L next := by
  refine SP.q [k] v hg hm (fun a' F w ho hF S => ?_) h
  have e := ho x (by simp [Op.operands])
  obtain ⟨b, rfl, hc⟩ := S.slc_cs ((hF k (by simp)).trans hk) hn
  have hcc := hc _ _ hv
  rw [Nat.zero_add] at hcc
  have hrun := run_loadVar_sc (P := P) hT hcc
  simp only [elA, Option.getD_some, Nat.zero_add] at hx
  simp [execOp, e, hx, Instr.loadAt, Instr.sureAddr, hrun]
theorem sp_ldaSo (k : Nat) {x : Operand} {T E s n cap : Nat} {a : Option Addr} {i : Int} {xs vs : List Value} (hx : ev ρ x = .pointer (some (elA a i s))) (hk : L k = slc E s (.slice a n cap) n xs) (hT : agB P T vs.length = true)
    (hv : rdL xs (i.toNat * s) vs.length = some vs) (hn : 0 < n) (h : next (upd ρ d (.agg vs.toArray)) L) (hg : gd ops ⟨some d, .load T x, ty, pos, aft, g⟩ ρ = true := by rfl) (hm : okk m (.q [k]) := by first | exact trivial | exact rfl) :
    SP P rd B w0 Ds ops m ⟨some d, .load T x, ty, pos, aft, g⟩ ρ L next := by
  refine SP.q [k] (.agg vs.toArray) hg hm (fun a' F w ho hF S => ?_) h
  have e := ho x (by simp [Op.operands])
  obtain ⟨b, rfl, hc⟩ := S.slc_cs ((hF k (by simp)).trans hk) hn
  have hcs : Cs w b (i.toNat * s) vs := fun j u hu => by
    have hj := (List.getElem?_eq_some_iff.1 hu).1
    have h1 := (rdL_spec hv).2 j hj
    rw [hu] at h1
    have := hc _ _ h1
    rwa [Nat.zero_add] at this
  have hrun := run_loadVar_ag (P := P) hT hcs
  simp only [elA, Option.getD_some, Nat.zero_add] at hx
  simp [execOp, e, hx, Instr.loadAt, Instr.sureAddr, hrun]
end
theorem W.forget {P : Program} {rd : Option Nat} {N : Nat} {c : Code} {Q : Post} {ρ : Nat → Value} {Ds : List Nat} {w : World} (us : List (Nat × Value)) (hu : AllEq us ρ) (h : ∀ σ, W P rd N c Q (upds us σ) Ds w) : W P rd N c Q ρ Ds w := by
  have := h ρ
  rwa [hu.upds] at this
/-- All pieces but these are let go. -/
theorem St.forget {B : Nat → Prop} {w0 w : World} {L : Nat → HP} {Ds : List Nat} (S : St B w0 w L Ds) (hs : List (Nat × HP)) (h : AllEq hs L) : St B w0 w (upds hs eL) Ds := by
  obtain ⟨m, fs, h1, h2, h3, h4, h5⟩ := S
  have key : ∀ (hs : List (Nat × HP)), AllEq hs L → ∀ j, upds hs eL j = if j ∈ hs.map (·.1) then L j else emp := by
    intro hs
    induction hs with
    | nil => intro _ j; simp [upds, eL]
    | cons p r ih =>
      intro h j
      obtain ⟨k, v⟩ := p
      obtain ⟨hk, hr⟩ := h
      simp only [upds, upd_apply, List.map_cons, List.mem_cons]
      by_cases e : j = k
      · subst e; simp [hk]
      · simp only [e, if_false, false_or]; exact ih hr j
  refine ⟨m, fun j => if j ∈ hs.map (·.1) then fs j else fnone, fun j => ?_, fun i j b hij hi => ?_, fun j b o hj => ?_, h4, fun D hD => ⟨(h5 D hD).1, (h5 D hD).2.1, fun j => ?_⟩⟩
  · rw [key hs h j]
    split
    · next e => simp only [e, if_true]; exact h1 j
    · next e => simp only [e, if_false]; exact emp_fnone
  · simp only at hi ⊢
    split at hi
    · split
      · exact h2 i j b hij hi
      · rfl
    · exact absurd rfl hi
  · simp only at hj
    split at hj
    · exact h3 j b o hj
    · cases hj
  · simp only
    split
    · exact (h5 D hD).2.2 j
    · rfl
/-! ### Longer ways between the operations of a region that draws its order -/
section
variable {P : Program} {rd : Option Nat} {B : Nat → Prop} {w0 : World} {Ds : List Nat} {N : Nat} {ops : Array Oper}
def pairsL (ops : Array Oper) (md : Nat → Option KD) (es : List Nat) : List Nat → Bool
  | [] => true
  | p :: r => (r.all fun i => aheadB ops md p i || path ops es 20 p i) && pairsL ops md es r
def chkL2 (ops : Array Oper) (md : Nat → Option KD) (es ord : List Nat) : Bool :=
  (nodupB ord && Nat.beq ord.length ops.size) && ((List.range ops.size).all (mem ord)) && acycB ops && pairsL ops md es ord && (ord.all fun i => (md i).isSome && (ops[i]?).isSome)
theorem pairsL_spec {md : Nat → Option KD} {es : List Nat} : ∀ {l : List Nat}, pairsL ops md es l = true → ∀ pre i post, l = pre ++ i :: post → ∀ p ∈ pre, aheadB ops md p i = true ∨ path ops es 20 p i = true
  | [], _, pre, i, post, e, p, hp => by cases pre <;> simp at e
  | x :: r, h, pre, i, post, e, p, hp => by
    simp only [pairsL, Bool.and_eq_true, List.all_eq_true, Bool.or_eq_true] at h
    cases pre with
    | nil => cases hp
    | cons y pre =>
      simp only [List.cons_append, List.cons.injEq] at e
      obtain ⟨rfl, e⟩ := e
      rcases List.mem_cons.1 hp with rfl | hp
      · exact h.1 i (by rw [e]; simp)
      · exact pairsL_spec h.2 pre i post e p hp
theorem AW.anyL {md : Nat → Option KD} {K : (Nat → Value) → (Nat → HP) → Prop} {Q : Exit → Act → World → Prop} {n : Nat} {dl : List Deferred} {es ord : List Nat} (hok : okR N ops = true) (hchk : chkL2 ops md es ord = true)
    (hK : ∀ ρ L a w, K ρ L → Env N a ρ → a.defers = dl → St B w0 w L Ds → Q .normal a w) :
    ∀ (fuel : Nat) (listed : Array Bool) (ρ : Nat → Value) (L : Nat → HP) (a : Act) (w : World), listed.size = ops.size → closedL ops listed → (remL ord listed).length ≤ fuel →
      AW P rd B w0 Ds ops md K (remL ord listed) ρ L → Env N a ρ → a.defers = dl → St B w0 w L Ds → wpAnyIn (FW rd) n P .any ops Q fuel listed a w := by
  unfold chkL2 at hchk
  simp only [Bool.and_eq_true, List.all_eq_true, List.mem_range] at hchk
  obtain ⟨⟨⟨⟨⟨hnd, _⟩, hall⟩, hac⟩, hpairs⟩, hsome⟩ := hchk
  have hnd := nodupB_spec hnd
  have inord : ∀ i, i < ops.size → i ∈ ord := fun i hi => (mem_iff ord i).1 (hall i hi)
  -- nothing ready: nothing left
  have done : ∀ listed : Array Bool, listed.size = ops.size → Region.ready .any ops listed = [] → remL ord listed = [] := by
    intro listed hsz hr
    have key : ∀ i, i < ops.size → listed.getD i true = true := by
      intro i
      induction i using Nat.strongRecOn with
      | _ i ih =>
        intro hi
        cases hl : listed.getD i true with
        | true => rfl
        | false =>
          have ho : ops[i]? = some ops[i] := Array.getElem?_eq_getElem hi
          have : i ∈ Region.ready .any ops listed := by
            rw [mem_ready]
            refine ⟨hl, ops[i], ho, fun e he hb => ?_⟩
            unfold acycB at hac
            rw [List.all_eq_true] at hac
            have h1 := hac i (List.mem_range.2 hi)
            simp only [ho, List.all_eq_true, Bool.or_eq_true, Bool.not_eq_true'] at h1
            have h2 := h1 e (by simpa using he)
            rcases h2 with h2 | h2
            · rw [hb] at h2; cases h2
            · have hlt := blt_t.1 h2
              have := ih e.on hlt (by omega)
              have hsz' : e.on < listed.size := by omega
              simpa [hsz'] using this
          rw [hr] at this; cases this
    unfold remL
    rw [List.filter_eq_nil_iff]
    intro i hi
    by_cases hlt : i < ops.size
    · simp [key i hlt]
    · have hge : listed.size ≤ i := by omega
      simp [Array.getElem?_eq_none hge]
  intro fuel
  induction fuel with
  | zero =>
    intro listed ρ L a w hsz hcl hlen h he hdl S
    have hnil : remL ord listed = [] := List.length_eq_zero_iff.1 (Nat.le_zero.1 hlen)
    refine ⟨?_, ?_⟩
    · cases hr : Region.ready .any ops listed with
      | nil => rfl
      | cons i r =>
        have hi : i ∈ Region.ready .any ops listed := by rw [hr]; simp
        obtain ⟨hl, o, ho, _⟩ := mem_ready.1 hi
        have : i ∈ remL ord listed := List.mem_filter.2 ⟨inord i (Array.getElem?_eq_some_iff.1 ho).1, by rw [hl]; rfl⟩
        rw [hnil] at this; cases this
    · rw [hnil] at h
      exact hK ρ L a w h he hdl S
  | succ fuel ih =>
    intro listed ρ L a w hsz hcl hlen h he hdl S
    refine ⟨fun hr => ?_, fun i hi => ?_⟩
    · rw [done listed hsz hr] at h
      exact hK ρ L a w h he hdl S
    · obtain ⟨hl, oi, hoi, hready⟩ := mem_ready.1 hi
      have hin : i < ops.size := (Array.getElem?_eq_some_iff.1 hoi).1
      have hmem : i ∈ remL ord listed := List.mem_filter.2 ⟨inord i hin, by rw [hl]; rfl⟩
      obtain ⟨pre, post, hsplit⟩ := List.append_of_mem hmem
      obtain ⟨l1, l2, hord, hl1, hl2⟩ := filter_split _ _ _ _ _ hsplit
      have hmi : ∃ mi, md i = some mi := by
        exact Option.isSome_iff_exists.1 (hsome i (inord i hin)).1
      obtain ⟨mi, hmi⟩ := hmi
      have hoki := okR_get hok hoi
      have hpre : ∀ p ∈ pre, ∃ op mp, ops[p]? = some op ∧ md p = some mp ∧ Ahead ops op oi mp mi := by
        intro p hp
        have hp1 : p ∈ l1 := by rw [← hl1] at hp; exact (List.mem_filter.1 hp).1
        have hpl : listed.getD p true = false := by
          have := (List.mem_filter.1 (hl1 ▸ hp : p ∈ l1.filter _)).2
          simpa using this
        rcases pairsL_spec hpairs l1 i l2 hord p hp1 with h1 | h1
        · obtain ⟨op, oi', mp, mi', e1, e2, e3, e4, e5⟩ := aheadB_spec h1
          rw [hoi] at e2; cases e2
          rw [hmi] at e4; cases e4
          exact ⟨op, mp, e1, e3, e5⟩
        · have := path_listed hsz hcl 20 p i oi hoi hready h1
          exfalso
          have hlt : p < listed.size := by
            rcases Nat.lt_or_ge p listed.size with h' | h'
            · exact h'
            · simp [Array.getElem?_eq_none h'] at this
          simp [hlt] at this hpl
          rw [this] at hpl; cases hpl
      rw [hsplit] at h
      obtain ⟨O, hv, hnext⟩ := AW.front hoi hmi hoki he S pre hpre h
      have hrem : remL ord (listed.setIfInBounds i true) = pre ++ post := by
        have hnot : ∀ x ∈ l1 ++ l2, x ≠ i := by
          intro x hx e
          subst e
          rw [hord] at hnd
          have := List.nodup_append.1 hnd
          rcases List.mem_append.1 hx with hx | hx
          · exact this.2.2 x hx x (by simp) rfl
          · exact (List.nodup_cons.1 this.2.1).1 hx
        have same : ∀ l : List Nat, (∀ x ∈ l, x ≠ i) → l.filter (fun j => !(listed.setIfInBounds i true).getD j true) = l.filter fun j => !listed.getD j true := by
          intro l hl
          refine List.filter_congr fun x hx => ?_
          rw [getD_set_ne true (Ne.symm (hl x hx))]
        unfold remL
        rw [hord, List.filter_append, List.filter_cons, same l1 (fun x hx => hnot x (by simp [hx])), same l2 (fun x hx => hnot x (by simp [hx])), hl1, hl2]
        have : (!(listed.setIfInBounds i true).getD i true) = false := by
          have hlt : i < listed.size := by omega
          simp [hlt]
        rw [this]; rfl
      have hcl' : closedL ops (listed.setIfInBounds i true) := by
        intro q o ho hq e hee hb
        by_cases hqi : q = i
        · subst hqi
          rw [hoi] at ho; cases ho
          exact getD_set_true (hready e hee hb)
        · rw [getD_set_ne true (Ne.symm hqi)] at hq
          exact getD_set_true (hcl q o ho hq e hee hb)
      have hlen' : (remL ord (listed.setIfInBounds i true)).length ≤ fuel := by
        rw [hrem]; rw [hsplit] at hlen
        simp only [List.length_append, List.length_cons] at hlen ⊢
        omega
      have go : ∀ v U w', O v U → St B w0 w' (upds U L) Ds → wpAnyIn (FW rd) n P .any ops Q fuel (listed.setIfInBounds i true) (a.put oi.dst v) w' := fun v U w' hO S' =>
        ih _ _ _ _ _ (by simpa using hsz) hcl' hlen' (by rw [hrem]; exact hnext v U hO) (he.put _ _) ((put_defers_eq _ _ _).trans hdl) S'
      have hs := hv.sound hoki he S
      unfold wpOpIn
      simp only [hoi]
      rw [wanted_gd hok he oi]
      cases hg : gd ops oi ρ with
      | true =>
        simp only [if_true]
        exact (hs.1 hg).step fun v w' ⟨U, hO, S'⟩ => go v U w' hO S'
      | false =>
        obtain ⟨U, hO, S'⟩ := hs.2 hg
        simp only [Bool.false_eq_true, if_false]
        exact ⟨fun _ _ => trivial, go undef U w hO S'⟩
theorem AW.drawL {md : Nat → Option KD} {K : (Nat → Value) → (Nat → HP) → Prop} {Q : Exit → Act → World → Prop} {n id : Nat} {dl : List Deferred} (es : List Nat) {ord : List Nat} (hm : P.follows .mixedOrders = true) (hok : okR N ops = true) (hchk : chkL2 ops md es ord = true)
    (hK : ∀ ρ L a w, K ρ L → Env N a ρ → a.defers = dl → St B w0 w L Ds → Q .normal a w) {ρ : Nat → Value} {L : Nat → HP} {a : Act} {w : World}
    (h : AW P rd B w0 Ds ops md K ord ρ L) (he : Env N a ρ) (hdl : a.defers = dl) (S : St B w0 w L Ds) : (Code.region id ops true).wpIn (FW rd) n P Q a w := by
  refine wpIn_region_any hm ?_
  have hall : remL ord (Array.replicate ops.size false) = ord := by
    unfold remL
    rw [List.filter_eq_self]
    intro i hi
    have h1 := hchk
    unfold chkL2 at h1
    simp only [Bool.and_eq_true, List.all_eq_true] at h1
    have h2 := (h1.2 i hi).2
    have hlt : i < ops.size := by
      cases e : ops[i]? with
      | none => rw [e] at h2; cases h2
      | some o => exact (Array.getElem?_eq_some_iff.1 e).1
    simp [hlt]
  have hlen : ord.length ≤ ops.size := by
    have h1 := hchk
    unfold chkL2 at h1
    simp only [Bool.and_eq_true, List.all_eq_true] at h1
    exact Nat.le_of_eq (beq_t.1 h1.1.1.1.1.2)
  exact AW.anyL hok hchk hK ops.size _ ρ L a _ (by simp) (fun q o ho hq => by
      have hlt : q < ops.size := (Array.getElem?_eq_some_iff.1 ho).1
      simp [hlt] at hq) (by rw [hall]; exact hlen) (by rw [hall]; exact h) he hdl S.drew
end
section
variable {P : Program} {rd : Option Nat} {N : Nat} {Q : Post} {ρ : Nat → Value} {Ds : List Nat} {w : World} {B : Nat → Prop} {w0 : World} {L : Nat → HP}
theorem W.drawL {id : Nat} {ops : Array Oper} (S : St B w0 w L Ds) (hm : P.follows .mixedOrders = true) (md : Nat → Option KD) (es ord : List Nat) (hchk : chkL2 ops md es ord = true)
    (h : AW P rd B w0 Ds ops md (fun ρ' L' => ∀ w', St B w0 w' L' Ds → Q .normal ρ' Ds w') ord ρ L) : W P rd N (.region id ops true) Q ρ Ds w := by
  intro ok n a he hd
  exact AW.drawL es hm ok hchk (fun ρ' L' a' w' hK he' hd' S' => ⟨ρ', Ds, he', hd', hK w' S'⟩) h he hd S
end
end Go.Hu

/-
  Spoilt books, torn ones: what they are answered with.
-/
namespace Go.Proofs.YtmpclgepoemneaaDoor
set_option maxRecDepth 100000
open Go.Hu Go.RowKit
section
variable {b : Bk}
theorem bad_seen (h : okAll b = false) (k : Int) : seenE b k = 10 := by unfold seenE; rw [h]; rfl
theorem bad_chk (h : okAll b = false) : chkV b = 10 := by unfold chkV; rw [h]; rfl
theorem bad_ask (h : okAll b = false) (p : Bool) : askV b p = 10 := by unfold askV; rw [h]; rfl
theorem bad_shot (h : okAll b = false) (m x y : Int) : shotE b m x y = 10 := by unfold shotE; rw [bad_ask h]; rfl
theorem bad_soon (h : okAll b = false) (x y : Int) : soonE b x y = 10 := by unfold soonE; rw [bad_ask h]; rfl
theorem bad_fits (h : okAll b = false) (c : Cry) : fitsE b c = 10 := by unfold fitsE; rw [h]; rfl
theorem bad_wrong (h : okAll b = false) : wrongE b = 10 := by unfold wrongE; rw [h]; rfl
theorem ask_11 (h : okAll b = true) {p : Bool} (hp : p = false) : askV b p = 11 := by unfold askV; rw [h, hp]; rfl
theorem ask_12 (h : okAll b = true) (hc : canB b = false) {p : Bool} (hp : p = true) : askV b p = 12 := by unfold askV; rw [h, hc, hp]; rfl
theorem shot_e {m x y e : Int} (h : askV b (decide (ShotP m x y)) = e) (he : ¬ e = 0) : shotE b m x y = e := by unfold shotE; rw [h, if_neg he]
theorem soon_e {x y e : Int} (h : askV b (decide (SeineP x y)) = e) (he : ¬ e = 0) : soonE b x y = e := by unfold soonE; rw [h, if_neg he]
end
theorem t_seen : seenE tornB 3 = 11 := by kernel_rfl
theorem t_whr : askV tornB (decide ((0 : Int) ≤ 31 ∧ (31 : Int) ≤ 30)) = 11 := ask_11 ok_torn (by decide)
theorem t_can : askV tornB (decide (CanP tornB 0 24)) = 11 := ask_11 ok_torn (by decide)
theorem t_apart : askV tornB (decide ((0 : Int) ≤ -1 ∧ (-1 : Int) ≤ 30)) = 11 := ask_11 ok_torn (by decide)
theorem t_shot : shotE tornB 0 11 1 = 11 := shot_e (ask_11 ok_torn (by decide)) (by decide)
theorem t_shot' : shotE tornB 0 1 0 = 11 := shot_e (ask_11 ok_torn (by decide)) (by decide)
theorem t_soon : soonE tornB 0 1 = 11 := soon_e (ask_11 ok_torn (by decide)) (by decide)
theorem t_fits : fitsE tornB ⟨0, 0, 0, 0, 1, 1, 1⟩ = 11 := by unfold fitsE; rw [if_pos ok_torn, if_neg (by decide)]
theorem u_whr : askV tornB (decide ((0 : Int) ≤ 0 ∧ (0 : Int) ≤ 30)) = 12 := ask_12 ok_torn can_torn (by decide)
theorem u_can : askV tornB (decide (CanP tornB 0 0)) = 12 := ask_12 ok_torn can_torn (by decide)
theorem u_shot : shotE tornB 0 1 1 = 12 := shot_e (ask_12 ok_torn can_torn (by decide)) (by decide)
theorem u_soon : soonE tornB 1 1 = 12 := soon_e (ask_12 ok_torn can_torn (by decide)) (by decide)
theorem ok_land : okAll landB = true := by kernel_rfl
theorem l_wrong : wrongE landB = 12 := by
  unfold wrongE
  rw [if_pos ok_land]
  cases e : wrongO landB with
  | none => rfl
  | some l =>
    have h : canB (wo landB (inQ l)) = true := (wrO_some e).ok
    rw [show wo landB (inQ l) = landB from rfl, can_land] at h
    cases h
theorem o_shotN : shotN ownB (whs ownB 1) 3 4 = -1 := by rw [whs_own1]; kernel_rfl
theorem o_shot : shotE ownB 1 3 4 = 4 := by unfold shotE; rw [ask_own (by decide), if_pos rfl, show (1 : Int).toNat = 1 from rfl, o_shotN]; rfl
theorem so3_0 : shotN ownB (whs ownB 0) 3 3 = -1 := by rw [whs_own0]; kernel_rfl
theorem so3_1 : shotN ownB (whs ownB 1) 3 3 = -1 := by rw [whs_own1]; kernel_rfl
theorem so3_2 : shotN ownB (whs ownB 2) 3 3 = -1 := by rw [whs_own2]; kernel_rfl
theorem so3_3 : shotN ownB (whs ownB 3) 3 3 = -1 := by rw [whs_own3]; kernel_rfl
theorem so3_4 : shotN ownB (whs ownB 4) 3 3 = -1 := by rw [whs_own4]; kernel_rfl
theorem so3_5 : shotN ownB (whs ownB 5) 3 3 = -1 := by rw [whs_own5]; kernel_rfl
theorem so3_6 : shotN ownB (whs ownB 6) 3 3 = -1 := by rw [whs_own6]; kernel_rfl
theorem so3_7 : shotN ownB (whs ownB 7) 3 3 = -1 := by rw [whs_own7]; kernel_rfl
theorem so3_8 : shotN ownB (whs ownB 8) 3 3 = -1 := by rw [whs_own8]; kernel_rfl
theorem so3_9 : shotN ownB (whs ownB 9) 3 3 = -1 := by rw [whs_own9]; kernel_rfl
theorem so3_10 : shotN ownB (whs ownB 10) 3 3 = -1 := by rw [whs_own10]; kernel_rfl
theorem so3_11 : shotN ownB (whs ownB 11) 3 3 = -1 := by rw [whs_own11]; kernel_rfl
theorem so3_12 : shotN ownB (whs ownB 12) 3 3 = -1 := by rw [whs_own12]; kernel_rfl
theorem so3_13 : shotN ownB (whs ownB 13) 3 3 = -1 := by rw [whs_own13]; kernel_rfl
theorem so3_14 : shotN ownB (whs ownB 14) 3 3 = -1 := by rw [whs_own14]; kernel_rfl
theorem so3_15 : shotN ownB (whs ownB 15) 3 3 = -1 := by rw [whs_own15]; kernel_rfl
theorem so3_16 : shotN ownB (whs ownB 16) 3 3 = -1 := by rw [whs_own16]; kernel_rfl
theorem so3_17 : shotN ownB (whs ownB 17) 3 3 = -1 := by rw [whs_own17]; kernel_rfl
theorem so3_18 : shotN ownB (whs ownB 18) 3 3 = -1 := by rw [whs_own18]; kernel_rfl
theorem so3_19 : shotN ownB (whs ownB 19) 3 3 = -1 := by rw [whs_own19]; kernel_rfl
theorem so3_20 : shotN ownB (whs ownB 20) 3 3 = -1 := by rw [whs_own20]; kernel_rfl
theorem so3_21 : shotN ownB (whs ownB 21) 3 3 = -1 := by rw [whs_own21]; kernel_rfl
theorem so3_22 : shotN ownB (whs ownB 22) 3 3 = -1 := by rw [whs_own22]; kernel_rfl
theorem so3_23 : shotN ownB (whs ownB 23) 3 3 = -1 := by rw [whs_own23]; kernel_rfl
theorem so3_24 : shotN ownB (whs ownB 24) 3 3 = -1 := by rw [whs_own24]; kernel_rfl
theorem so3_25 : shotN ownB (whs ownB 25) 3 3 = -1 := by rw [whs_own25]; kernel_rfl
theorem so3_26 : shotN ownB (whs ownB 26) 3 3 = -1 := by rw [whs_own26]; kernel_rfl
theorem so3_27 : shotN ownB (whs ownB 27) 3 3 = -1 := by rw [whs_own27]; kernel_rfl
theorem so3_28 : shotN ownB (whs ownB 28) 3 3 = -1 := by rw [whs_own28]; kernel_rfl
theorem so3_29 : shotN ownB (whs ownB 29) 3 3 = -1 := by rw [whs_own29]; kernel_rfl
theorem so3_30 : shotN ownB (whs ownB 30) 3 3 = -1 := by rw [whs_own30]; kernel_rfl
theorem so3 : ∀ i, i < 31 → decide (0 ≤ shotN ownB (whs ownB i) 3 3) = false
  | 0, _ => by rw [so3_0]; rfl
  | 1, _ => by rw [so3_1]; rfl
  | 2, _ => by rw [so3_2]; rfl
  | 3, _ => by rw [so3_3]; rfl
  | 4, _ => by rw [so3_4]; rfl
  | 5, _ => by rw [so3_5]; rfl
  | 6, _ => by rw [so3_6]; rfl
  | 7, _ => by rw [so3_7]; rfl
  | 8, _ => by rw [so3_8]; rfl
  | 9, _ => by rw [so3_9]; rfl
  | 10, _ => by rw [so3_10]; rfl
  | 11, _ => by rw [so3_11]; rfl
  | 12, _ => by rw [so3_12]; rfl
  | 13, _ => by rw [so3_13]; rfl
  | 14, _ => by rw [so3_14]; rfl
  | 15, _ => by rw [so3_15]; rfl
  | 16, _ => by rw [so3_16]; rfl
  | 17, _ => by rw [so3_17]; rfl
  | 18, _ => by rw [so3_18]; rfl
  | 19, _ => by rw [so3_19]; rfl
  | 20, _ => by rw [so3_20]; rfl
  | 21, _ => by rw [so3_21]; rfl
  | 22, _ => by rw [so3_22]; rfl
  | 23, _ => by rw [so3_23]; rfl
  | 24, _ => by rw [so3_24]; rfl
  | 25, _ => by rw [so3_25]; rfl
  | 26, _ => by rw [so3_26]; rfl
  | 27, _ => by rw [so3_27]; rfl
  | 28, _ => by rw [so3_28]; rfl
  | 29, _ => by rw [so3_29]; rfl
  | 30, _ => by rw [so3_30]; rfl
  | n + 31, h => absurd h (by omega)
theorem o_soonM : soonM ownB 3 3 = -1 := fstN_none so3
theorem o_soon : soonE ownB 3 3 = 4 := by unfold soonE; rw [ask_own (by decide), if_pos rfl, o_soonM]; rfl
theorem p_seen : seenL ownB 1 = [3, 4, 7, 8, 9, 12, 13, 14, 18, 19] := by kernel_rfl
theorem p_seenE : seenE ownB 1 = 0 := by kernel_rfl
theorem p_where : whereL ownB 1 = [3, 7, 8, 9, 12, 13, 14, 19] := by unfold whereL; rw [ask_own (by decide), if_pos rfl]; exact whs_own1
theorem p_can : canL ownB 0 22 = false := by unfold canL; rw [ask_own (by decide), show (0 : Int).toNat = 0 from rfl, whs_own0]; decide
theorem p_apart : apartV ownB 0 = 3 := by unfold apartV; rw [ask_own (by decide), if_pos rfl, show (0 : Int).toNat = 0 from rfl, whs_own0]; kernel_rfl
theorem p_shotN : shotN ownB (whs ownB 1) 4 4 = 0 := by rw [whs_own1]; kernel_rfl
theorem p_shotE : shotE ownB 1 4 4 = 0 := by unfold shotE; rw [ask_own (by decide), if_pos rfl, show (1 : Int).toNat = 1 from rfl, p_shotN]; rfl
theorem p_shotV : shotV ownB 1 4 4 = 0 := by unfold shotV; rw [p_shotE, if_pos rfl]; exact p_shotN
theorem p_soonN : shotN ownB (whs ownB 0) 4 4 = 0 := by rw [whs_own0]; kernel_rfl
theorem p_soonM : soonM ownB 4 4 = 0 := fstN_at (p := fun m => decide (0 ≤ shotN ownB (whs ownB m) 4 4)) (n := 0) (by decide) (by show decide (0 ≤ shotN ownB (whs ownB 0) 4 4) = true; rw [p_soonN]; rfl) (fun i hi => absurd hi (by omega))
theorem p_soonE : soonE ownB 4 4 = 0 := by unfold soonE; rw [ask_own (by decide), if_pos rfl, p_soonM]; rfl
theorem p_soonV : soonV ownB 4 4 = 0 := by unfold soonV; rw [p_soonE, if_pos rfl]; exact p_soonM
theorem p_soonS : soonS ownB 4 4 = 0 := by unfold soonS; rw [p_soonE, if_pos rfl, p_soonM]; exact p_soonN
theorem p_fitsV : fitsV ownB cry5 = false := by unfold fitsV; rw [ok_own, can_own5, Bool.and_false]; rfl
theorem p_fitsE : fitsE ownB cry5 = 0 := by unfold fitsE; rw [if_pos ok_own, if_pos (by decide)]
theorem p_still : whereL stillB 30 = [7, 8, 14] := by unfold whereL; rw [ask_still (by decide), if_pos rfl]; exact whs_still30
theorem p_wrongO : wrongO ownB = some [] := wrO_best ⟨trivial, by unfold Pw; rw [show wo ownB (inQ []) = ownB from by kernel_rfl]; exact can_own, fun m hm hl => by
  cases m with
  | nil => simp [fewL, ltL] at hl
  | cons x t => simp [fewL] at hl⟩
theorem p_wrongL : wrongL ownB = [] := by unfold wrongL; rw [if_pos ok_own, p_wrongO]; rfl
theorem p_wrongE : wrongE ownB = 0 := by unfold wrongE; rw [if_pos ok_own, p_wrongO]; rfl
theorem p_right : (okAll tornB && canB tornB) = false := by rw [ok_torn, can_torn]; rfl
theorem p_chk : chkV tornB = 0 := by unfold chkV; rw [if_pos ok_torn]
/-! ### The spoilt books -/
abbrev BX : Type := Bk × (Option Addr × Nat) × (Option Addr × Nat)
abbrev bxL (x : BX) : List Value := bkL x.1 x.2.1.1 x.2.1.2 x.2.2.1 x.2.2.2
def cryZ : Cry := ⟨0, 0, 0, 0, 0, 0, 0⟩
def sp0 : Bk := ⟨0, 0, [], 0, 0, 0, []⟩
def sp1 : Bk := ⟨11, 4, [], 0, 5, 1, [cry1, cry2]⟩
def sp2 : Bk := ⟨6, 9, [], 0, 5, 1, [cry1, cry2]⟩
def sp3 : Bk := ⟨6, 4, [24], 0, 5, 1, [cry1, cry2]⟩
def sp4 : Bk := ⟨6, 4, [3, 3], 0, 5, 1, [cry1, cry2]⟩
def sp5 : Bk := ⟨6, 4, [], -6, 5, 1, [cry1, cry2]⟩
def sp6 : Bk := ⟨6, 4, [], 0, 16, 1, [cry1, cry2]⟩
def sp7 : Bk := ⟨6, 4, [], 0, 5, 1, [⟨2, 0, 0, 1, 1, 1, 2⟩, cry2]⟩
def sp8 : Bk := ⟨6, 4, [], 0, 5, 1, [⟨0, 31, 0, 1, 1, 1, 2⟩, cry2]⟩
def sp9 : Bk := ⟨6, 4, [], 0, 5, 1, [⟨0, 0, 0, 1, 1, 2, 1⟩, cry2]⟩
def sp10 : Bk := ⟨6, 4, [], 0, 5, 1, [cry1, ⟨1, 1, 0, -1, 0, -2, 1⟩]⟩
def sp11 : Bk := ⟨6, 4, [], 0, 5, 1, [cry1, ⟨1, 1, 2, -1, 1, -2, 1⟩]⟩
def sp12 : Bk := bookB 4 []
def sp13 : Bk := bookB 1 (List.replicate 7 cryZ)
theorem sp_ok : [sp0, sp1, sp2, sp3, sp4, sp5, sp6, sp7, sp8, sp9, sp10, sp11, sp12, sp13].all (fun b => !okAll b) = true := by kernel_rfl
theorem AllEq.of {ks : List Nat} {L F : Nat → HP} (hF : ∀ k ∈ ks, F k = L k) : ∀ {hs : List (Nat × HP)}, (∀ p ∈ hs, p.1 ∈ ks) → AllEq hs L → AllEq hs F
  | [], _, _ => trivial
  | (k, _) :: _, hk, h => ⟨(hF k (hk (k, _) List.mem_cons_self)).trans h.1, AllEq.of hF (fun p hp => hk p (List.mem_cons_of_mem _ hp)) h.2⟩
section
variable (x1 x2 x3 x4 x5 x6 x7 x8 x9 x10 x11 x12 x13 p q : Option Addr × Nat)
def spoilt : List BX := [(sp0, (none, 0), (none, 0)), (sp1, (none, 0), x1), (sp2, (none, 0), x2), (sp3, p, x3), (sp4, q, x4), (sp5, (none, 0), x5), (sp6, (none, 0), x6), (sp7, (none, 0), x7), (sp8, (none, 0), x8), (sp9, (none, 0), x9), (sp10, (none, 0), x10), (sp11, (none, 0), x11), (sp12, (none, 0), x12), (sp13, (none, 0), x13)]
def spK : List (Nat × HP) := [(53, CrS sp1 x1.1 x1.2), (54, CrS sp2 x2.1 x2.2), (55, CrS sp3 x3.1 x3.2), (56, CrS sp4 x4.1 x4.2), (57, CrS sp5 x5.1 x5.2), (58, CrS sp6 x6.1 x6.2), (59, CrS sp7 x7.1 x7.2), (60, CrS sp8 x8.1 x8.2), (61, CrS sp9 x9.1 x9.2), (62, CrS sp10 x10.1 x10.2), (63, CrS sp11 x11.1 x11.2), (64, CrS sp12 x12.1 x12.2), (66, CrS sp13 x13.1 x13.2), (75, slc 3 1 (.slice p.1 1 p.2) 1 [iv 24]), (79, slc 3 1 (.slice q.1 2 q.2) 2 [iv 3, iv 3])]
theorem spoilt_ok : ∀ x ∈ spoilt x1 x2 x3 x4 x5 x6 x7 x8 x9 x10 x11 x12 x13 p q, okAll x.1 = false := by
  intro x hx
  have h := List.all_eq_true.1 sp_ok
  have : x.1 ∈ (spoilt x1 x2 x3 x4 x5 x6 x7 x8 x9 x10 x11 x12 x13 p q).map (·.1) := List.mem_map.2 ⟨x, hx, rfl⟩
  have := h x.1 this
  simpa using this
theorem spoilt_rd {B : Nat → Prop} {w0 w : World} {F : Nat → HP} {Ds : List Nat} (S : St B w0 w F Ds) (h : AllEq (spK x1 x2 x3 x4 x5 x6 x7 x8 x9 x10 x11 x12 x13 p q) F) : ∀ x ∈ spoilt x1 x2 x3 x4 x5 x6 x7 x8 x9 x10 x11 x12 x13 p q, Ints w x.2.1.1 x.2.1.2 x.1.land ∧ Cries w x.2.2.1 x.2.2.2 x.1.cries := by
  obtain ⟨h1, h2, h3, h4, h5, h6, h7, h8, h9, h10, h11, h12, h13, h14, h15, _⟩ := h
  have e : ∀ a c, Ints w a c [] := fun a c => ⟨rfl, by decide, .inl ⟨rfl, a, c, rfl⟩⟩
  intro x hx
  simp only [spoilt, List.mem_cons, List.not_mem_nil, or_false] at hx
  rcases hx with rfl | rfl | rfl | rfl | rfl | rfl | rfl | rfl | rfl | rfl | rfl | rfl | rfl | rfl
  · exact ⟨e _ _, ⟨rfl, by decide, .inl ⟨rfl, _, _, rfl⟩⟩⟩
  · exact ⟨e _ _, S.slc_rd h1 (Nat.le_of_ble_eq_true rfl)⟩
  · exact ⟨e _ _, S.slc_rd h2 (Nat.le_of_ble_eq_true rfl)⟩
  · exact ⟨S.slc_rd h14 (Nat.le_of_ble_eq_true rfl), S.slc_rd h3 (Nat.le_of_ble_eq_true rfl)⟩
  · exact ⟨S.slc_rd h15 (Nat.le_of_ble_eq_true rfl), S.slc_rd h4 (Nat.le_of_ble_eq_true rfl)⟩
  · exact ⟨e _ _, S.slc_rd h5 (Nat.le_of_ble_eq_true rfl)⟩
  · exact ⟨e _ _, S.slc_rd h6 (Nat.le_of_ble_eq_true rfl)⟩
  · exact ⟨e _ _, S.slc_rd h7 (Nat.le_of_ble_eq_true rfl)⟩
  · exact ⟨e _ _, S.slc_rd h8 (Nat.le_of_ble_eq_true rfl)⟩
  · exact ⟨e _ _, S.slc_rd h9 (Nat.le_of_ble_eq_true rfl)⟩
  · exact ⟨e _ _, S.slc_rd h10 (Nat.le_of_ble_eq_true rfl)⟩
  · exact ⟨e _ _, S.slc_rd h11 (Nat.le_of_ble_eq_true rfl)⟩
  · exact ⟨e _ _, S.slc_rd h12 (Nat.le_of_ble_eq_true rfl)⟩
  · exact ⟨e _ _, S.slc_rd h13 (Nat.le_of_ble_eq_true rfl)⟩
end
theorem made7 : madeCells (Value.cells (.agg [iv 0, iv 0, iv 0, iv 0, iv 0, iv 0, iv 0].toArray)) (7 * 7) = ((List.replicate 7 cryZ).flatMap cyL).toArray := by kernel_rfl
end Go.Proofs.YtmpclgepoemneaaDoor

/-
  The law of what is known.
-/
namespace Go.Proofs.YtmpclgepoemneaaDoor
set_option maxRecDepth 100000
open Go.Hu Go.RowKit
section
set_option maxHeartbeats 8000000 in
theorem knownL (w : World) (hK : Kinds w) : Ct Tryd.prog 14 #[] w (fun u w' => u = .bool true ∧ Ext w w') := by
  refine fn_intro (args := []) Tryd.func14 rfl rfl (by kernel_rfl) ?_
  have S := St.start no w
  refine W.seq (W.region S ?_)
  refine AS.cons (sp_asg rfl ?_)
  refine AS.nil ?_
  intro _ S
  refine W.seq (W.drawL S mixed (fun i => ([KD.q [], KD.e [] [53], KD.e [] [54], KD.e [] [55], KD.e [] [56], KD.e [] [57], KD.e [] [58], KD.e [] [59], KD.e [] [60], KD.e [] [61], KD.e [] [62], KD.e [] [63], KD.e [] [64], KD.a 65, KD.e [65] [66], KD.e [] [67], KD.q []] : List KD)[i]?) [2, 3, 4, 5, 6, 7, 8, 9, 10, 11, 12, 14] [1, 2, 3, 4, 5, 6, 7, 8, 9, 10, 11, 12, 0, 13, 14, 15, 16] (by kernel_rfl) ?_)
  refine AW.cons rfl rfl (sp_call1 53 [] _ rfl rfl cf_55 (fun F w _ S => ownF w) ?_ (fun _ => ⟨_, _, (⟨none, 2, rfl, Nat.le_refl 2, rfl⟩ : CrR ownB none 0 _ _)⟩))
  rintro v53 i53 ⟨a53, c53, rfl, h53, rfl⟩
  refine AW.cons rfl rfl (sp_call1 54 [] _ rfl rfl cf_55 (fun F w _ S => ownF w) ?_ (fun _ => ⟨_, _, (⟨none, 2, rfl, Nat.le_refl 2, rfl⟩ : CrR ownB none 0 _ _)⟩))
  rintro v54 i54 ⟨a54, c54, rfl, h54, rfl⟩
  refine AW.cons rfl rfl (sp_call1 55 [] _ rfl rfl cf_55 (fun F w _ S => ownF w) ?_ (fun _ => ⟨_, _, (⟨none, 2, rfl, Nat.le_refl 2, rfl⟩ : CrR ownB none 0 _ _)⟩))
  rintro v55 i55 ⟨a55, c55, rfl, h55, rfl⟩
  refine AW.cons rfl rfl (sp_call1 56 [] _ rfl rfl cf_55 (fun F w _ S => ownF w) ?_ (fun _ => ⟨_, _, (⟨none, 2, rfl, Nat.le_refl 2, rfl⟩ : CrR ownB none 0 _ _)⟩))
  rintro v56 i56 ⟨a56, c56, rfl, h56, rfl⟩
  refine AW.cons rfl rfl (sp_call1 57 [] _ rfl rfl cf_55 (fun F w _ S => ownF w) ?_ (fun _ => ⟨_, _, (⟨none, 2, rfl, Nat.le_refl 2, rfl⟩ : CrR ownB none 0 _ _)⟩))
  rintro v57 i57 ⟨a57, c57, rfl, h57, rfl⟩
  refine AW.cons rfl rfl (sp_call1 58 [] _ rfl rfl cf_55 (fun F w _ S => ownF w) ?_ (fun _ => ⟨_, _, (⟨none, 2, rfl, Nat.le_refl 2, rfl⟩ : CrR ownB none 0 _ _)⟩))
  rintro v58 i58 ⟨a58, c58, rfl, h58, rfl⟩
  refine AW.cons rfl rfl (sp_call1 59 [] _ rfl rfl cf_55 (fun F w _ S => ownF w) ?_ (fun _ => ⟨_, _, (⟨none, 2, rfl, Nat.le_refl 2, rfl⟩ : CrR ownB none 0 _ _)⟩))
  rintro v59 i59 ⟨a59, c59, rfl, h59, rfl⟩
  refine AW.cons rfl rfl (sp_call1 60 [] _ rfl rfl cf_55 (fun F w _ S => ownF w) ?_ (fun _ => ⟨_, _, (⟨none, 2, rfl, Nat.le_refl 2, rfl⟩ : CrR ownB none 0 _ _)⟩))
  rintro v60 i60 ⟨a60, c60, rfl, h60, rfl⟩
  refine AW.cons rfl rfl (sp_call1 61 [] _ rfl rfl cf_55 (fun F w _ S => ownF w) ?_ (fun _ => ⟨_, _, (⟨none, 2, rfl, Nat.le_refl 2, rfl⟩ : CrR ownB none 0 _ _)⟩))
  rintro v61 i61 ⟨a61, c61, rfl, h61, rfl⟩
  refine AW.cons rfl rfl (sp_call1 62 [] _ rfl rfl cf_55 (fun F w _ S => ownF w) ?_ (fun _ => ⟨_, _, (⟨none, 2, rfl, Nat.le_refl 2, rfl⟩ : CrR ownB none 0 _ _)⟩))
  rintro v62 i62 ⟨a62, c62, rfl, h62, rfl⟩
  refine AW.cons rfl rfl (sp_call1 63 [] _ rfl rfl cf_55 (fun F w _ S => ownF w) ?_ (fun _ => ⟨_, _, (⟨none, 2, rfl, Nat.le_refl 2, rfl⟩ : CrR ownB none 0 _ _)⟩))
  rintro v63 i63 ⟨a63, c63, rfl, h63, rfl⟩
  refine AW.cons rfl rfl (sp_call1 64 [] _ rfl rfl cf_56 (fun F w _ S => bookF _ none 0 [] (by decide) w (cries_nil w)) ?_ (fun _ => ⟨_, _, (⟨none, 2, rfl, Nat.le_refl 2, rfl⟩ : CrR (bookB 4 []) none 0 _ _)⟩))
  rintro v64 i64 ⟨a64, c64, rfl, h64, rfl⟩
  refine AW.cons rfl rfl (sp_build [iv 0, iv 0, nilS, iv 0, iv 0, iv 0, nilS] (by kernel_rfl) ?_)
  refine AW.cons rfl rfl (sp_mk 65 sl_24_46_7 zs_46_7 zv_46 (n := 7) rfl rfl (by decide) (fun b65 => ?_))
  refine AW.cons rfl rfl (sp_call1 66 [65] (CrR sp13 none 0) (vs := [iv 1, .slice (some ⟨b65, 0, none⟩) 7 7]) rfl rfl cf_56 (fun F w hF S => bookF 1 (some ⟨b65, 0, none⟩) 7 (List.replicate 7 cryZ) (by decide) w (by have h := (S.get ((hF 65 (by simp)).trans rfl : F 65 = pt b65 (.cells (madeCells (Value.cells (.agg [iv 0, iv 0, iv 0, iv 0, iv 0, iv 0, iv 0].toArray)) (7 * 7)) 46 (0, 0)))).1; rw [made7] at h; exact rd_pt h (by decide) (by decide) (by decide))) ?_ (fun _ => ⟨_, _, (⟨none, 9, rfl, Nat.le_refl 9, rfl⟩ : CrR (bookB 1 (List.replicate 7 cryZ)) none 0 _ _)⟩))
  rintro v66 i66 ⟨a66, c66, rfl, h66, rfl⟩
  refine AW.cons rfl rfl (sp_bsS 67 [.tmp 52, .tmp 53, .tmp 54, .tmp 55, .tmp 56, .tmp 57, .tmp 58, .tmp 59, .tmp 60, .tmp 61, .tmp 62, .tmp 63, .tmp 64, .tmp 66] (([(sp0, (none, 0), (none, 0)), (ownB, (none, 0), (a53, c53)), (ownB, (none, 0), (a54, c54)), (ownB, (none, 0), (a55, c55)), (ownB, (none, 0), (a56, c56)), (ownB, (none, 0), (a57, c57)), (ownB, (none, 0), (a58, c58)), (ownB, (none, 0), (a59, c59)), (ownB, (none, 0), (a60, c60)), (ownB, (none, 0), (a61, c61)), (ownB, (none, 0), (a62, c62)), (ownB, (none, 0), (a63, c63)), (sp12, (none, 0), (a64, c64)), (sp13, (none, 0), (a66, c66))] : List BX).flatMap bxL) sl_72_26_7 zs_26_7 rfl rfl rfl rfl rfl rfl (fun b67 => ?_))
  refine AW.cons rfl rfl (sp_asg rfl ?_)
  refine AW.nil ?_
  intro _ S
  refine W.seq (W.region S ?_)
  refine AS.cons (sp_move rfl ?_)
  refine AS.cons (sp_iaS 67 (a := some ⟨b67, 0, none⟩) (n := 14) (s := 7) (i := 1) rfl rfl rfl sl_72_26_7 (by omega) ?_)
  refine AS.cons (sp_fa rfl fo_26_0_0 ?_)
  refine AS.cons (sp_stSo 67 0 (a := some ⟨b67, 0, none⟩) (n := 14) (s := 7) (i := 1) (vs := [iv 11]) (r := ([(sp0, (none, 0), (none, 0)), (sp1, (none, 0), (a53, c53)), (ownB, (none, 0), (a54, c54)), (ownB, (none, 0), (a55, c55)), (ownB, (none, 0), (a56, c56)), (ownB, (none, 0), (a57, c57)), (ownB, (none, 0), (a58, c58)), (ownB, (none, 0), (a59, c59)), (ownB, (none, 0), (a60, c60)), (ownB, (none, 0), (a61, c61)), (ownB, (none, 0), (a62, c62)), (ownB, (none, 0), (a63, c63)), (sp12, (none, 0), (a64, c64)), (sp13, (none, 0), (a66, c66))] : List BX).flatMap bxL) rfl rfl rfl rfl sz_3_1 rfl rfl (by decide) ?_)
  refine AS.nil ?_
  intro _ S
  refine W.seq (W.region S ?_)
  refine AS.cons (sp_move rfl ?_)
  refine AS.cons (sp_iaS 67 (a := some ⟨b67, 0, none⟩) (n := 14) (s := 7) (i := 2) rfl rfl rfl sl_72_26_7 (by omega) ?_)
  refine AS.cons (sp_fa rfl fo_26_1_1 ?_)
  refine AS.cons (sp_stSo 67 1 (a := some ⟨b67, 0, none⟩) (n := 14) (s := 7) (i := 2) (vs := [iv 9]) (r := ([(sp0, (none, 0), (none, 0)), (sp1, (none, 0), (a53, c53)), (sp2, (none, 0), (a54, c54)), (ownB, (none, 0), (a55, c55)), (ownB, (none, 0), (a56, c56)), (ownB, (none, 0), (a57, c57)), (ownB, (none, 0), (a58, c58)), (ownB, (none, 0), (a59, c59)), (ownB, (none, 0), (a60, c60)), (ownB, (none, 0), (a61, c61)), (ownB, (none, 0), (a62, c62)), (ownB, (none, 0), (a63, c63)), (sp12, (none, 0), (a64, c64)), (sp13, (none, 0), (a66, c66))] : List BX).flatMap bxL) rfl rfl rfl rfl sz_3_1 rfl rfl (by decide) ?_)
  refine AS.nil ?_
  intro _ S
  refine W.seq (W.region S ?_)
  refine AS.cons (sp_move rfl ?_)
  refine AS.cons (sp_bsS 75 [.const (.int .i64 24)] ([iv 24] : List Value) sl_22_3_1 zs_3_1 rfl rfl rfl rfl rfl rfl (fun b75 => ?_))
  refine AS.cons (sp_iaS 67 (a := some ⟨b67, 0, none⟩) (n := 14) (s := 7) (i := 3) rfl rfl rfl sl_72_26_7 (by omega) ?_)
  refine AS.cons (sp_fa rfl fo_26_2_2 ?_)
  refine AS.cons (sp_stSo 67 2 (a := some ⟨b67, 0, none⟩) (n := 14) (s := 7) (i := 3) (vs := [.slice (some ⟨b75, 0, none⟩) 1 1]) (r := ([(sp0, (none, 0), (none, 0)), (sp1, (none, 0), (a53, c53)), (sp2, (none, 0), (a54, c54)), (sp3, (some ⟨b75, 0, none⟩, 1), (a55, c55)), (ownB, (none, 0), (a56, c56)), (ownB, (none, 0), (a57, c57)), (ownB, (none, 0), (a58, c58)), (ownB, (none, 0), (a59, c59)), (ownB, (none, 0), (a60, c60)), (ownB, (none, 0), (a61, c61)), (ownB, (none, 0), (a62, c62)), (ownB, (none, 0), (a63, c63)), (sp12, (none, 0), (a64, c64)), (sp13, (none, 0), (a66, c66))] : List BX).flatMap bxL) rfl rfl rfl rfl sz_22_1 rfl rfl (by decide) ?_)
  refine AS.nil ?_
  intro _ S
  refine W.seq (W.region S ?_)
  refine AS.cons (sp_move rfl ?_)
  refine AS.cons (sp_bsS 79 [.const (.int .i64 3), .const (.int .i64 3)] ([iv 3, iv 3] : List Value) sl_22_3_1 zs_3_1 rfl rfl rfl rfl rfl rfl (fun b79 => ?_))
  refine AS.cons (sp_iaS 67 (a := some ⟨b67, 0, none⟩) (n := 14) (s := 7) (i := 4) rfl rfl rfl sl_72_26_7 (by omega) ?_)
  refine AS.cons (sp_fa rfl fo_26_2_2 ?_)
  refine AS.cons (sp_stSo 67 2 (a := some ⟨b67, 0, none⟩) (n := 14) (s := 7) (i := 4) (vs := [.slice (some ⟨b79, 0, none⟩) 2 2]) (r := ([(sp0, (none, 0), (none, 0)), (sp1, (none, 0), (a53, c53)), (sp2, (none, 0), (a54, c54)), (sp3, (some ⟨b75, 0, none⟩, 1), (a55, c55)), (sp4, (some ⟨b79, 0, none⟩, 2), (a56, c56)), (ownB, (none, 0), (a57, c57)), (ownB, (none, 0), (a58, c58)), (ownB, (none, 0), (a59, c59)), (ownB, (none, 0), (a60, c60)), (ownB, (none, 0), (a61, c61)), (ownB, (none, 0), (a62, c62)), (ownB, (none, 0), (a63, c63)), (sp12, (none, 0), (a64, c64)), (sp13, (none, 0), (a66, c66))] : List BX).flatMap bxL) rfl rfl rfl rfl sz_22_1 rfl rfl (by decide) ?_)
  refine AS.nil ?_
  intro _ S
  refine W.seq (W.region S ?_)
  refine AS.cons (sp_move rfl ?_)
  refine AS.cons (sp_iaS 67 (a := some ⟨b67, 0, none⟩) (n := 14) (s := 7) (i := 5) rfl rfl rfl sl_72_26_7 (by omega) ?_)
  refine AS.cons (sp_fa rfl fo_26_3_3 ?_)
  refine AS.cons (sp_iaa rfl rfl ar_23_2_3_1 (by omega) ?_)
  refine AS.cons (sp_stSo 67 3 (a := some ⟨b67, 0, none⟩) (n := 14) (s := 7) (i := 5) (vs := [iv (-6)]) (r := ([(sp0, (none, 0), (none, 0)), (sp1, (none, 0), (a53, c53)), (sp2, (none, 0), (a54, c54)), (sp3, (some ⟨b75, 0, none⟩, 1), (a55, c55)), (sp4, (some ⟨b79, 0, none⟩, 2), (a56, c56)), (sp5, (none, 0), (a57, c57)), (ownB, (none, 0), (a58, c58)), (ownB, (none, 0), (a59, c59)), (ownB, (none, 0), (a60, c60)), (ownB, (none, 0), (a61, c61)), (ownB, (none, 0), (a62, c62)), (ownB, (none, 0), (a63, c63)), (sp12, (none, 0), (a64, c64)), (sp13, (none, 0), (a66, c66))] : List BX).flatMap bxL) rfl rfl rfl rfl sz_3_1 rfl rfl (by decide) ?_)
  refine AS.nil ?_
  intro _ S
  refine W.seq (W.region S ?_)
  refine AS.cons (sp_move rfl ?_)
  refine AS.cons (sp_iaS 67 (a := some ⟨b67, 0, none⟩) (n := 14) (s := 7) (i := 6) rfl rfl rfl sl_72_26_7 (by omega) ?_)
  refine AS.cons (sp_fa rfl fo_26_3_3 ?_)
  refine AS.cons (sp_iaa rfl rfl ar_23_2_3_1 (by omega) ?_)
  refine AS.cons (sp_stSo 67 4 (a := some ⟨b67, 0, none⟩) (n := 14) (s := 7) (i := 6) (vs := [iv 16]) (r := ([(sp0, (none, 0), (none, 0)), (sp1, (none, 0), (a53, c53)), (sp2, (none, 0), (a54, c54)), (sp3, (some ⟨b75, 0, none⟩, 1), (a55, c55)), (sp4, (some ⟨b79, 0, none⟩, 2), (a56, c56)), (sp5, (none, 0), (a57, c57)), (sp6, (none, 0), (a58, c58)), (ownB, (none, 0), (a59, c59)), (ownB, (none, 0), (a60, c60)), (ownB, (none, 0), (a61, c61)), (ownB, (none, 0), (a62, c62)), (ownB, (none, 0), (a63, c63)), (sp12, (none, 0), (a64, c64)), (sp13, (none, 0), (a66, c66))] : List BX).flatMap bxL) rfl rfl rfl rfl sz_3_1 rfl rfl (by decide) ?_)
  refine AS.nil ?_
  intro _ S
  refine W.seq (W.region S ?_)
  refine AS.cons (sp_move rfl ?_)
  refine AS.cons (sp_iaS 67 (a := some ⟨b67, 0, none⟩) (n := 14) (s := 7) (i := 7) rfl rfl rfl sl_72_26_7 (by omega) ?_)
  refine AS.cons (sp_fa rfl fo_26_5_6 ?_)
  refine AS.cons (sp_ldSo 67 6 (a := some ⟨b67, 0, none⟩) (n := 14) (s := 7) (i := 7) (v := .slice a59 2 c59) rfl rfl sc_24 rfl (by decide) ?_)
  refine AS.cons (sp_iaS 59 (a := a59) (n := 2) (s := 7) (i := 0) rfl rfl rfl sl_24_46_7 (by omega) ?_)
  refine AS.cons (sp_fa rfl fo_46_0_0 ?_)
  refine AS.cons (sp_stSo 59 0 (a := a59) (n := 2) (s := 7) (i := 0) (vs := [iv 2]) (r := ([⟨2, 0, 0, 1, 1, 1, 2⟩, cry2] : List Cry).flatMap cyL) rfl rfl rfl rfl sz_3_1 rfl rfl (by decide) ?_)
  refine AS.nil ?_
  intro _ S
  refine W.seq (W.region S ?_)
  refine AS.cons (sp_move rfl ?_)
  refine AS.cons (sp_iaS 67 (a := some ⟨b67, 0, none⟩) (n := 14) (s := 7) (i := 8) rfl rfl rfl sl_72_26_7 (by omega) ?_)
  refine AS.cons (sp_fa rfl fo_26_5_6 ?_)
  refine AS.cons (sp_ldSo 67 6 (a := some ⟨b67, 0, none⟩) (n := 14) (s := 7) (i := 8) (v := .slice a60 2 c60) rfl rfl sc_24 rfl (by decide) ?_)
  refine AS.cons (sp_iaS 60 (a := a60) (n := 2) (s := 7) (i := 0) rfl rfl rfl sl_24_46_7 (by omega) ?_)
  refine AS.cons (sp_fa rfl fo_46_1_1 ?_)
  refine AS.cons (sp_stSo 60 1 (a := a60) (n := 2) (s := 7) (i := 0) (vs := [iv 31]) (r := ([⟨0, 31, 0, 1, 1, 1, 2⟩, cry2] : List Cry).flatMap cyL) rfl rfl rfl rfl sz_3_1 rfl rfl (by decide) ?_)
  refine AS.nil ?_
  intro _ S
  refine W.seq (W.draw S mixed (fun i => ([KD.q [], KD.q [67], KD.q [], KD.q [67], KD.e [] [], KD.q [61], KD.q [], KD.e [61] [61]] : List KD)[i]?) [6] [4, 0, 1, 2, 3, 5, 6, 7] (by kernel_rfl) ?_)
  refine AW.cons rfl rfl (sp_call [] rfl rfl cf_57 (fun F w _ S => point _ _ w) ?_)
  refine AW.cons rfl rfl (sp_move rfl ?_)
  refine AW.cons rfl rfl (sp_iaS 67 (a := some ⟨b67, 0, none⟩) (n := 14) (s := 7) (i := 9) rfl rfl rfl sl_72_26_7 (by omega) ?_)
  refine AW.cons rfl rfl (sp_fa rfl fo_26_5_6 ?_)
  refine AW.cons rfl rfl (sp_ldSo 67 6 (a := some ⟨b67, 0, none⟩) (n := 14) (s := 7) (i := 9) (v := .slice a61 2 c61) rfl rfl sc_24 rfl (by decide) ?_)
  refine AW.cons rfl rfl (sp_iaS 61 (a := a61) (n := 2) (s := 7) (i := 0) rfl rfl rfl sl_24_46_7 (by omega) ?_)
  refine AW.cons rfl rfl (sp_fa rfl fo_46_4_5 ?_)
  refine AW.cons rfl rfl (sp_stSo 61 5 (a := a61) (n := 2) (s := 7) (i := 0) (vs := [iv 2, iv 1]) (r := ([⟨0, 0, 0, 1, 1, 2, 1⟩, cry2] : List Cry).flatMap cyL) rfl rfl rfl rfl sz_44_2 rfl rfl (by decide) ?_)
  refine AW.nil ?_
  intro _ S
  refine W.seq (W.draw S mixed (fun i => ([KD.q [], KD.q [67], KD.q [], KD.q [67], KD.e [] [], KD.q [62], KD.q [], KD.e [62] [62]] : List KD)[i]?) [6] [4, 0, 1, 2, 3, 5, 6, 7] (by kernel_rfl) ?_)
  refine AW.cons rfl rfl (sp_call [] rfl rfl cf_57 (fun F w _ S => point _ _ w) ?_)
  refine AW.cons rfl rfl (sp_move rfl ?_)
  refine AW.cons rfl rfl (sp_iaS 67 (a := some ⟨b67, 0, none⟩) (n := 14) (s := 7) (i := 10) rfl rfl rfl sl_72_26_7 (by omega) ?_)
  refine AW.cons rfl rfl (sp_fa rfl fo_26_5_6 ?_)
  refine AW.cons rfl rfl (sp_ldSo 67 6 (a := some ⟨b67, 0, none⟩) (n := 14) (s := 7) (i := 10) (v := .slice a62 2 c62) rfl rfl sc_24 rfl (by decide) ?_)
  refine AW.cons rfl rfl (sp_iaS 62 (a := a62) (n := 2) (s := 7) (i := 1) rfl rfl rfl sl_24_46_7 (by omega) ?_)
  refine AW.cons rfl rfl (sp_fa rfl fo_46_3_3 ?_)
  refine AW.cons rfl rfl (sp_stSo 62 3 (a := a62) (n := 2) (s := 7) (i := 1) (vs := [iv (-1), iv 0]) (r := ([cry1, ⟨1, 1, 0, -1, 0, -2, 1⟩] : List Cry).flatMap cyL) rfl rfl rfl rfl sz_44_2 rfl rfl (by decide) ?_)
  refine AW.nil ?_
  intro _ S
  refine W.seq (W.region S ?_)
  refine AS.cons (sp_move rfl ?_)
  refine AS.cons (sp_iaS 67 (a := some ⟨b67, 0, none⟩) (n := 14) (s := 7) (i := 11) rfl rfl rfl sl_72_26_7 (by omega) ?_)
  refine AS.cons (sp_fa rfl fo_26_5_6 ?_)
  refine AS.cons (sp_ldSo 67 6 (a := some ⟨b67, 0, none⟩) (n := 14) (s := 7) (i := 11) (v := .slice a63 2 c63) rfl rfl sc_24 rfl (by decide) ?_)
  refine AS.cons (sp_iaS 63 (a := a63) (n := 2) (s := 7) (i := 1) rfl rfl rfl sl_24_46_7 (by omega) ?_)
  refine AS.cons (sp_fa rfl fo_46_2_2 ?_)
  refine AS.cons (sp_stSo 63 2 (a := a63) (n := 2) (s := 7) (i := 1) (vs := [iv 2]) (r := ([cry1, ⟨1, 1, 2, -1, 1, -2, 1⟩] : List Cry).flatMap cyL) rfl rfl rfl rfl sz_3_1 rfl rfl (by decide) ?_)
  refine AS.nil ?_
  intro _ S
  refine W.seq (W.seq (W.region S ?_))
  refine AS.cons (sp_asg rfl ?_)
  refine AS.nil ?_
  intro _ S
  refine W.forget [(1, .slice (some ⟨b67, 0, none⟩) 14 14), (2, iv 0)] ⟨rfl, rfl, trivial⟩ (fun σ => ?_)
  have S := S.forget ((67, slc 26 7 (.slice (some ⟨b67, 0, none⟩) 14 14) 14 ((spoilt (a53, c53) (a54, c54) (a55, c55) (a56, c56) (a57, c57) (a58, c58) (a59, c59) (a60, c60) (a61, c61) (a62, c62) (a63, c63) (a64, c64) (a66, c66) (some ⟨b75, 0, none⟩, 1) (some ⟨b79, 0, none⟩, 2)).flatMap bxL)) :: spK (a53, c53) (a54, c54) (a55, c55) (a56, c56) (a57, c57) (a58, c58) (a59, c59) (a60, c60) (a61, c61) (a62, c62) (a63, c63) (a64, c64) (a66, c66) (some ⟨b75, 0, none⟩, 1) (some ⟨b79, 0, none⟩, 2)) ⟨rfl, rfl, rfl, rfl, rfl, rfl, rfl, rfl, rfl, rfl, rfl, rfl, rfl, rfl, rfl, rfl, trivial⟩
  refine W.block ?_
  refine W.loopS S [0, 2, 3, 4, 5, 6, 7, 8, 9, 10, 11, 12, 13, 14, 15, 16, 17, 18, 19, 20, 21, 122, 123, 124, 125, 126, 127, 128, 129, 130, 131, 132, 133, 134, 135, 136, 137, 138, 139, 140, 141, 142, 143, 144, 145, 146, 147, 148, 149, 150, 151, 152, 153, 154, 155, 156, 157, 158, 159, 160, 161, 162, 163, 164, 165, 166, 167, 168, 169, 170, 171, 172, 173, 174, 175, 176, 177, 178, 179, 180, 181, 182, 183, 184, 185, 186, 187, 188, 189, 190, 191, 192, 193, 194, 195, 196, 197, 198, 199, 200, 201, 202, 203, 204, 205, 206, 207, 208, 209, 210, 211, 212, 213, 214, 215, 216, 217, 218, 219, 220, 221, 222, 223, 224, 225, 226, 227, 228, 229, 230, 231, 232, 233, 234, 235, 236, 237, 238, 239, 240, 241, 242, 243] [133, 149, 199] (fun (j : Nat) => [(2, iv j)]) (fun _ => []) (fun j => j ≤ 14) (fun j => 14 - j) 0 (by omega) ⟨rfl, trivial⟩ trivial ?_
  rintro j σ1 M w2 hj S
  refine W.seq (W.seq (W.region S ?_))
  refine AS.cons (sp_move (v := .int _ _) rfl ?_)
  refine AS.cons (sp_move rfl ?_)
  refine AS.cons (sp_len rfl sl_72_26_7 ?_)
  refine AS.cons (sp_lss rfl rfl ?_)
  refine AS.nil ?_
  intro _ S
  refine W.condd rfl (fun c125 => ?_) (fun c125 => ?_)
  · skip
    have hlt : j < 14 := by omega
    obtain ⟨x, hx⟩ : ∃ x, (spoilt (a53, c53) (a54, c54) (a55, c55) (a56, c56) (a57, c57) (a58, c58) (a59, c59) (a60, c60) (a61, c61) (a62, c62) (a63, c63) (a64, c64) (a66, c66) (some ⟨b75, 0, none⟩, 1) (some ⟨b79, 0, none⟩, 2))[j]? = some x := ⟨_, List.getElem?_eq_getElem (show j < 14 from hlt)⟩
    have hxm := List.mem_of_getElem? hx
    have hok := spoilt_ok _ _ _ _ _ _ _ _ _ _ _ _ _ _ _ x hxm
    have hq : ∀ (F : Nat → HP) (w0 w : World), AllEq (spK (a53, c53) (a54, c54) (a55, c55) (a56, c56) (a57, c57) (a58, c58) (a59, c59) (a60, c60) (a61, c61) (a62, c62) (a63, c63) (a64, c64) (a66, c66) (some ⟨b75, 0, none⟩, 1) (some ⟨b79, 0, none⟩, 2)) F → St no w0 w F [] → Ints w x.2.1.1 x.2.1.2 x.1.land ∧ Cries w x.2.2.1 x.2.2.2 x.1.cries := fun F w0 w h S => spoilt_rd _ _ _ _ _ _ _ _ _ _ _ _ _ _ _ S h x hxm
    have hv := rdL_flat (f := bxL) (s := 7) (fun _ => rfl) hx
    refine W.skip ?_
    refine W.seq (W.block ?_)
    refine W.seq (W.region S ?_)
    refine AS.cons (sp_move rfl ?_)
    refine AS.cons (sp_move (v := .int _ _) rfl ?_)
    refine AS.cons (sp_iaS 67 (a := some ⟨b67, 0, none⟩) (n := 14) (s := 7) (i := (j : Int)) rfl rfl rfl sl_72_26_7 (by omega) ?_)
    refine AS.cons (sp_ldaSo 67 (a := some ⟨b67, 0, none⟩) (n := 14) (s := 7) (i := (j : Int)) (vs := bxL x) rfl rfl ag_26_7 hv (by decide) ?_)
    refine AS.cons (sp_call1 133 [53, 54, 55, 56, 57, 58, 59, 60, 61, 62, 63, 64, 66, 75, 79] _ rfl rfl cf_15 (fun F w hF S => by have hi := hq F _ w (AllEq.of hF (by intro p hp; simp only [spK, List.mem_cons, List.not_mem_nil, or_false] at hp ⊢; rcases hp with rfl | rfl | rfl | rfl | rfl | rfl | rfl | rfl | rfl | rfl | rfl | rfl | rfl | rfl | rfl <;> simp) ⟨rfl, rfl, rfl, rfl, rfl, rfl, rfl, rfl, rfl, rfl, rfl, rfl, rfl, rfl, rfl, trivial⟩) S; have h := seenP x.1 x.2.1.1 x.2.1.2 x.2.2.1 x.2.2.2 (-1) w hi.1 hi.2; rw [bad_seen hok] at h; exact h) ?_ (by simp))
    rintro v133 i133 ⟨a133, c133, h133, rfl, rfl⟩
    refine AS.cons (sp_move rfl ?_)
    refine AS.cons (sp_ext rfl rfl ?_)
    refine AS.cons (sp_ext rfl rfl ?_)
    refine AS.cons (sp_asg rfl ?_)
    refine AS.cons (sp_asg (v := .int _ _) rfl ?_)
    refine AS.nil ?_
    intro _ S
    refine W.seq (W.region S ?_)
    refine AS.cons (sp_move rfl ?_)
    refine AS.cons (sp_move (v := .int _ _) rfl ?_)
    refine AS.cons (sp_iaS 67 (a := some ⟨b67, 0, none⟩) (n := 14) (s := 7) (i := (j : Int)) rfl rfl rfl sl_72_26_7 (by omega) ?_)
    refine AS.cons (sp_ldaSo 67 (a := some ⟨b67, 0, none⟩) (n := 14) (s := 7) (i := (j : Int)) (vs := bxL x) rfl rfl ag_26_7 hv (by decide) ?_)
    refine AS.cons (sp_call [53, 54, 55, 56, 57, 58, 59, 60, 61, 62, 63, 64, 66, 75, 79] rfl rfl cf_20 (fun F w hF S => by have hi := hq F _ w (AllEq.of hF (by intro p hp; simp only [spK, List.mem_cons, List.not_mem_nil, or_false] at hp ⊢; rcases hp with rfl | rfl | rfl | rfl | rfl | rfl | rfl | rfl | rfl | rfl | rfl | rfl | rfl | rfl | rfl <;> simp) ⟨rfl, rfl, rfl, rfl, rfl, rfl, rfl, rfl, rfl, rfl, rfl, rfl, rfl, rfl, rfl, trivial⟩) S; have h := right x.1 x.2.1.1 x.2.1.2 x.2.2.1 x.2.2.2  w (hK.ext S.mod) hi.1 hi.2; rw [bad_chk hok] at h; exact h) ?_)
    refine AS.cons (sp_move rfl ?_)
    refine AS.cons (sp_ext rfl rfl ?_)
    refine AS.cons (sp_ext rfl rfl ?_)
    refine AS.cons (sp_asg (v := .bool _) rfl ?_)
    refine AS.cons (sp_asg (v := .int _ _) rfl ?_)
    refine AS.nil ?_
    intro _ S
    refine W.seq (W.region S ?_)
    refine AS.cons (sp_move rfl ?_)
    refine AS.cons (sp_move (v := .int _ _) rfl ?_)
    refine AS.cons (sp_iaS 67 (a := some ⟨b67, 0, none⟩) (n := 14) (s := 7) (i := (j : Int)) rfl rfl rfl sl_72_26_7 (by omega) ?_)
    refine AS.cons (sp_ldaSo 67 (a := some ⟨b67, 0, none⟩) (n := 14) (s := 7) (i := (j : Int)) (vs := bxL x) rfl rfl ag_26_7 hv (by decide) ?_)
    refine AS.cons (sp_call1 149 [53, 54, 55, 56, 57, 58, 59, 60, 61, 62, 63, 64, 66, 75, 79] _ rfl rfl cf_22 (fun F w hF S => by have hi := hq F _ w (AllEq.of hF (by intro p hp; simp only [spK, List.mem_cons, List.not_mem_nil, or_false] at hp ⊢; rcases hp with rfl | rfl | rfl | rfl | rfl | rfl | rfl | rfl | rfl | rfl | rfl | rfl | rfl | rfl | rfl <;> simp) ⟨rfl, rfl, rfl, rfl, rfl, rfl, rfl, rfl, rfl, rfl, rfl, rfl, rfl, rfl, rfl, trivial⟩) S; have h := whereP x.1 x.2.1.1 x.2.1.2 x.2.2.1 x.2.2.2 (-1) w (hK.ext S.mod) hi.1 hi.2; rw [bad_ask hok] at h; exact h) ?_ (by simp))
    rintro v149 i149 ⟨a149, c149, h149, rfl, rfl⟩
    refine AS.cons (sp_move rfl ?_)
    refine AS.cons (sp_ext rfl rfl ?_)
    refine AS.cons (sp_ext rfl rfl ?_)
    refine AS.cons (sp_asg rfl ?_)
    refine AS.cons (sp_asg (v := .int _ _) rfl ?_)
    refine AS.nil ?_
    intro _ S
    refine W.seq (W.region S ?_)
    refine AS.cons (sp_move rfl ?_)
    refine AS.cons (sp_move (v := .int _ _) rfl ?_)
    refine AS.cons (sp_iaS 67 (a := some ⟨b67, 0, none⟩) (n := 14) (s := 7) (i := (j : Int)) rfl rfl rfl sl_72_26_7 (by omega) ?_)
    refine AS.cons (sp_ldaSo 67 (a := some ⟨b67, 0, none⟩) (n := 14) (s := 7) (i := (j : Int)) (vs := bxL x) rfl rfl ag_26_7 hv (by decide) ?_)
    refine AS.cons (sp_call [53, 54, 55, 56, 57, 58, 59, 60, 61, 62, 63, 64, 66, 75, 79] rfl rfl cf_24 (fun F w hF S => by have hi := hq F _ w (AllEq.of hF (by intro p hp; simp only [spK, List.mem_cons, List.not_mem_nil, or_false] at hp ⊢; rcases hp with rfl | rfl | rfl | rfl | rfl | rfl | rfl | rfl | rfl | rfl | rfl | rfl | rfl | rfl | rfl <;> simp) ⟨rfl, rfl, rfl, rfl, rfl, rfl, rfl, rfl, rfl, rfl, rfl, rfl, rfl, rfl, rfl, trivial⟩) S; have h := canP x.1 x.2.1.1 x.2.1.2 x.2.2.1 x.2.2.2 (-1) (-1) w (hK.ext S.mod) hi.1 hi.2; rw [bad_ask hok] at h; exact h) ?_)
    refine AS.cons (sp_move rfl ?_)
    refine AS.cons (sp_ext rfl rfl ?_)
    refine AS.cons (sp_ext rfl rfl ?_)
    refine AS.cons (sp_asg (v := .bool _) rfl ?_)
    refine AS.cons (sp_asg (v := .int _ _) rfl ?_)
    refine AS.nil ?_
    intro _ S
    refine W.seq (W.region S ?_)
    refine AS.cons (sp_move rfl ?_)
    refine AS.cons (sp_move (v := .int _ _) rfl ?_)
    refine AS.cons (sp_iaS 67 (a := some ⟨b67, 0, none⟩) (n := 14) (s := 7) (i := (j : Int)) rfl rfl rfl sl_72_26_7 (by omega) ?_)
    refine AS.cons (sp_ldaSo 67 (a := some ⟨b67, 0, none⟩) (n := 14) (s := 7) (i := (j : Int)) (vs := bxL x) rfl rfl ag_26_7 hv (by decide) ?_)
    refine AS.cons (sp_call [53, 54, 55, 56, 57, 58, 59, 60, 61, 62, 63, 64, 66, 75, 79] rfl rfl cf_26 (fun F w hF S => by have hi := hq F _ w (AllEq.of hF (by intro p hp; simp only [spK, List.mem_cons, List.not_mem_nil, or_false] at hp ⊢; rcases hp with rfl | rfl | rfl | rfl | rfl | rfl | rfl | rfl | rfl | rfl | rfl | rfl | rfl | rfl | rfl <;> simp) ⟨rfl, rfl, rfl, rfl, rfl, rfl, rfl, rfl, rfl, rfl, rfl, rfl, rfl, rfl, rfl, trivial⟩) S; have h := apartP x.1 x.2.1.1 x.2.1.2 x.2.2.1 x.2.2.2 (-1) w (hK.ext S.mod) hi.1 hi.2; rw [bad_ask hok] at h; exact h) ?_)
    refine AS.cons (sp_move rfl ?_)
    refine AS.cons (sp_ext rfl rfl ?_)
    refine AS.cons (sp_ext rfl rfl ?_)
    refine AS.cons (sp_asg (v := .int _ _) rfl ?_)
    refine AS.cons (sp_asg (v := .int _ _) rfl ?_)
    refine AS.nil ?_
    intro _ S
    refine W.seq (W.region S ?_)
    refine AS.cons (sp_move rfl ?_)
    refine AS.cons (sp_move (v := .int _ _) rfl ?_)
    refine AS.cons (sp_iaS 67 (a := some ⟨b67, 0, none⟩) (n := 14) (s := 7) (i := (j : Int)) rfl rfl rfl sl_72_26_7 (by omega) ?_)
    refine AS.cons (sp_ldaSo 67 (a := some ⟨b67, 0, none⟩) (n := 14) (s := 7) (i := (j : Int)) (vs := bxL x) rfl rfl ag_26_7 hv (by decide) ?_)
    refine AS.cons (sp_call [53, 54, 55, 56, 57, 58, 59, 60, 61, 62, 63, 64, 66, 75, 79] rfl rfl cf_29 (fun F w hF S => by have hi := hq F _ w (AllEq.of hF (by intro p hp; simp only [spK, List.mem_cons, List.not_mem_nil, or_false] at hp ⊢; rcases hp with rfl | rfl | rfl | rfl | rfl | rfl | rfl | rfl | rfl | rfl | rfl | rfl | rfl | rfl | rfl <;> simp) ⟨rfl, rfl, rfl, rfl, rfl, rfl, rfl, rfl, rfl, rfl, rfl, rfl, rfl, rfl, rfl, trivial⟩) S; have h := shotP x.1 x.2.1.1 x.2.1.2 x.2.2.1 x.2.2.2 (-1) 0 0 w (hK.ext S.mod) hi.1 hi.2; rw [bad_shot hok] at h; exact h) ?_)
    refine AS.cons (sp_move rfl ?_)
    refine AS.cons (sp_ext rfl rfl ?_)
    refine AS.cons (sp_ext rfl rfl ?_)
    refine AS.cons (sp_asg (v := .int _ _) rfl ?_)
    refine AS.cons (sp_asg (v := .int _ _) rfl ?_)
    refine AS.nil ?_
    intro _ S
    refine W.seq (W.region S ?_)
    refine AS.cons (sp_move rfl ?_)
    refine AS.cons (sp_move (v := .int _ _) rfl ?_)
    refine AS.cons (sp_iaS 67 (a := some ⟨b67, 0, none⟩) (n := 14) (s := 7) (i := (j : Int)) rfl rfl rfl sl_72_26_7 (by omega) ?_)
    refine AS.cons (sp_ldaSo 67 (a := some ⟨b67, 0, none⟩) (n := 14) (s := 7) (i := (j : Int)) (vs := bxL x) rfl rfl ag_26_7 hv (by decide) ?_)
    refine AS.cons (sp_call [53, 54, 55, 56, 57, 58, 59, 60, 61, 62, 63, 64, 66, 75, 79] rfl rfl cf_31 (fun F w hF S => by have hi := hq F _ w (AllEq.of hF (by intro p hp; simp only [spK, List.mem_cons, List.not_mem_nil, or_false] at hp ⊢; rcases hp with rfl | rfl | rfl | rfl | rfl | rfl | rfl | rfl | rfl | rfl | rfl | rfl | rfl | rfl | rfl <;> simp) ⟨rfl, rfl, rfl, rfl, rfl, rfl, rfl, rfl, rfl, rfl, rfl, rfl, rfl, rfl, rfl, trivial⟩) S; have h := soonP x.1 x.2.1.1 x.2.1.2 x.2.2.1 x.2.2.2 0 0 w (hK.ext S.mod) hi.1 hi.2; rw [bad_soon hok] at h; exact h) ?_)
    refine AS.cons (sp_move rfl ?_)
    refine AS.cons (sp_ext rfl rfl ?_)
    refine AS.cons (sp_ext rfl rfl ?_)
    refine AS.cons (sp_ext rfl rfl ?_)
    refine AS.cons (sp_asg (v := .int _ _) rfl ?_)
    refine AS.cons (sp_asg (v := .int _ _) rfl ?_)
    refine AS.cons (sp_asg (v := .int _ _) rfl ?_)
    refine AS.nil ?_
    intro _ S
    refine W.seq (W.region S ?_)
    refine AS.cons (sp_move rfl ?_)
    refine AS.cons (sp_move (v := .int _ _) rfl ?_)
    refine AS.cons (sp_iaS 67 (a := some ⟨b67, 0, none⟩) (n := 14) (s := 7) (i := (j : Int)) rfl rfl rfl sl_72_26_7 (by omega) ?_)
    refine AS.cons (sp_ldaSo 67 (a := some ⟨b67, 0, none⟩) (n := 14) (s := 7) (i := (j : Int)) (vs := bxL x) rfl rfl ag_26_7 hv (by decide) ?_)
    refine AS.cons (sp_build (cyL ⟨2, 0, 0, 0, 0, 0, 0⟩) (by kernel_rfl) ?_)
    refine AS.cons (sp_call [53, 54, 55, 56, 57, 58, 59, 60, 61, 62, 63, 64, 66, 75, 79] rfl rfl cf_33 (fun F w hF S => by have hi := hq F _ w (AllEq.of hF (by intro p hp; simp only [spK, List.mem_cons, List.not_mem_nil, or_false] at hp ⊢; rcases hp with rfl | rfl | rfl | rfl | rfl | rfl | rfl | rfl | rfl | rfl | rfl | rfl | rfl | rfl | rfl <;> simp) ⟨rfl, rfl, rfl, rfl, rfl, rfl, rfl, rfl, rfl, rfl, rfl, rfl, rfl, rfl, rfl, trivial⟩) S; have h := fitsP x.1 x.2.1.1 x.2.1.2 x.2.2.1 x.2.2.2 ⟨2, 0, 0, 0, 0, 0, 0⟩ w (hK.ext S.mod) hi.1 hi.2; rw [bad_fits hok] at h; exact h) ?_)
    refine AS.cons (sp_move rfl ?_)
    refine AS.cons (sp_ext rfl rfl ?_)
    refine AS.cons (sp_ext rfl rfl ?_)
    refine AS.cons (sp_asg (v := .bool _) rfl ?_)
    refine AS.cons (sp_asg (v := .int _ _) rfl ?_)
    refine AS.nil ?_
    intro _ S
    refine W.seq (W.region S ?_)
    refine AS.cons (sp_move rfl ?_)
    refine AS.cons (sp_move (v := .int _ _) rfl ?_)
    refine AS.cons (sp_iaS 67 (a := some ⟨b67, 0, none⟩) (n := 14) (s := 7) (i := (j : Int)) rfl rfl rfl sl_72_26_7 (by omega) ?_)
    refine AS.cons (sp_ldaSo 67 (a := some ⟨b67, 0, none⟩) (n := 14) (s := 7) (i := (j : Int)) (vs := bxL x) rfl rfl ag_26_7 hv (by decide) ?_)
    refine AS.cons (sp_call1 199 [53, 54, 55, 56, 57, 58, 59, 60, 61, 62, 63, 64, 66, 75, 79] _ rfl rfl cf_35 (fun F w hF S => by have hi := hq F _ w (AllEq.of hF (by intro p hp; simp only [spK, List.mem_cons, List.not_mem_nil, or_false] at hp ⊢; rcases hp with rfl | rfl | rfl | rfl | rfl | rfl | rfl | rfl | rfl | rfl | rfl | rfl | rfl | rfl | rfl <;> simp) ⟨rfl, rfl, rfl, rfl, rfl, rfl, rfl, rfl, rfl, rfl, rfl, rfl, rfl, rfl, rfl, trivial⟩) S; have h := wrongP x.1 x.2.1.1 x.2.1.2 x.2.2.1 x.2.2.2  w (hK.ext S.mod) hi.1 hi.2; rw [bad_wrong hok] at h; exact h) ?_ (by simp))
    rintro v199 i199 ⟨a199, c199, h199, rfl, rfl⟩
    refine AS.cons (sp_move rfl ?_)
    refine AS.cons (sp_ext rfl rfl ?_)
    refine AS.cons (sp_ext rfl rfl ?_)
    refine AS.cons (sp_asg rfl ?_)
    refine AS.cons (sp_asg (v := .int _ _) rfl ?_)
    refine AS.nil ?_
    intro _ S
    refine W.seq (W.region S ?_)
    refine AS.cons (sp_move rfl ?_)
    refine AS.cons (sp_move (v := .int _ _) rfl ?_)
    refine AS.cons (sp_iaS 67 (a := some ⟨b67, 0, none⟩) (n := 14) (s := 7) (i := (j : Int)) rfl rfl rfl sl_72_26_7 (by omega) ?_)
    refine AS.cons (sp_ldaSo 67 (a := some ⟨b67, 0, none⟩) (n := 14) (s := 7) (i := (j : Int)) (vs := bxL x) rfl rfl ag_26_7 hv (by decide) ?_)
    refine AS.cons (sp_call [53, 54, 55, 56, 57, 58, 59, 60, 61, 62, 63, 64, 66, 75, 79] rfl rfl cf_18 (fun F w hF S => by have hi := hq F _ w (AllEq.of hF (by intro p hp; simp only [spK, List.mem_cons, List.not_mem_nil, or_false] at hp ⊢; rcases hp with rfl | rfl | rfl | rfl | rfl | rfl | rfl | rfl | rfl | rfl | rfl | rfl | rfl | rfl | rfl <;> simp) ⟨rfl, rfl, rfl, rfl, rfl, rfl, rfl, rfl, rfl, rfl, rfl, rfl, rfl, rfl, rfl, trivial⟩) S; have h := check x.1 x.2.1.1 x.2.1.2 x.2.2.1 x.2.2.2  w hi.1 hi.2; rw [bad_chk hok] at h; exact h) ?_)
    refine AS.cons (sp_neq rfl rfl ?_)
    refine AS.cons (sp_move (v := .bool _) rfl ?_)
    refine AS.split 208 rfl (fun g208 => ?_) (fun g208 => ?_)
    · exact absurd g208 (by decide)
    · skip
      refine AS.cons (sp_move (v := .int _ _) rfl ?_)
      refine AS.cons (sp_neq rfl rfl ?_)
      refine AS.cons (sp_pick_f rfl (v := .bool _) rfl ?_)
      refine AS.cons (sp_move (v := .bool _) rfl ?_)
      refine AS.split 212 rfl (fun g212 => ?_) (fun g212 => ?_)
      · exact absurd g212 (by decide)
      · skip
        refine AS.cons (sp_move (v := .int _ _) rfl ?_)
        refine AS.cons (sp_neq rfl rfl ?_)
        refine AS.cons (sp_pick_f rfl (v := .bool _) rfl ?_)
        refine AS.cons (sp_move (v := .bool _) rfl ?_)
        refine AS.split 216 rfl (fun g216 => ?_) (fun g216 => ?_)
        · exact absurd g216 (by decide)
        · skip
          refine AS.cons (sp_move (v := .int _ _) rfl ?_)
          refine AS.cons (sp_neq rfl rfl ?_)
          refine AS.cons (sp_pick_f rfl (v := .bool _) rfl ?_)
          refine AS.cons (sp_move (v := .bool _) rfl ?_)
          refine AS.split 220 rfl (fun g220 => ?_) (fun g220 => ?_)
          · exact absurd g220 (by decide)
          · skip
            refine AS.cons (sp_move (v := .int _ _) rfl ?_)
            refine AS.cons (sp_neq rfl rfl ?_)
            refine AS.cons (sp_pick_f rfl (v := .bool _) rfl ?_)
            refine AS.cons (sp_move (v := .bool _) rfl ?_)
            refine AS.split 224 rfl (fun g224 => ?_) (fun g224 => ?_)
            · exact absurd g224 (by decide)
            · skip
              refine AS.cons (sp_move (v := .int _ _) rfl ?_)
              refine AS.cons (sp_neq rfl rfl ?_)
              refine AS.cons (sp_pick_f rfl (v := .bool _) rfl ?_)
              refine AS.cons (sp_move (v := .bool _) rfl ?_)
              refine AS.split 228 rfl (fun g228 => ?_) (fun g228 => ?_)
              · exact absurd g228 (by decide)
              · skip
                refine AS.cons (sp_move (v := .int _ _) rfl ?_)
                refine AS.cons (sp_neq rfl rfl ?_)
                refine AS.cons (sp_pick_f rfl (v := .bool _) rfl ?_)
                refine AS.cons (sp_move (v := .bool _) rfl ?_)
                refine AS.split 232 rfl (fun g232 => ?_) (fun g232 => ?_)
                · exact absurd g232 (by decide)
                · skip
                  refine AS.cons (sp_move (v := .int _ _) rfl ?_)
                  refine AS.cons (sp_neq rfl rfl ?_)
                  refine AS.cons (sp_pick_f rfl (v := .bool _) rfl ?_)
                  refine AS.cons (sp_move (v := .bool _) rfl ?_)
                  refine AS.split 236 rfl (fun g236 => ?_) (fun g236 => ?_)
                  · exact absurd g236 (by decide)
                  · skip
                    refine AS.cons (sp_move (v := .int _ _) rfl ?_)
                    refine AS.cons (sp_neq rfl rfl ?_)
                    refine AS.cons (sp_pick_f rfl (v := .bool _) rfl ?_)
                    refine AS.cons (sp_move (v := .bool _) rfl ?_)
                    refine AS.split 240 rfl (fun g240 => ?_) (fun g240 => ?_)
                    · exact absurd g240 (by decide)
                    · skip
                      refine AS.cons (sp_move (v := .int _ _) rfl ?_)
                      refine AS.cons (sp_neq rfl rfl ?_)
                      refine AS.cons (sp_pick_f rfl (v := .bool _) rfl ?_)
                      refine AS.nil ?_
                      intro _ S
                      refine W.cond rfl (fun c243 => ?_) (fun c243 => ?_)
                      · exact absurd c243 (by decide)
                      · skip
                        refine W.skip ?_
                        refine W.region S ?_
                        refine AS.cons (sp_move (v := .int _ _) rfl ?_)
                        refine AS.cons (sp_add rfl rfl (by first | omega | (simp only [decide_eq_true_eq, decide_eq_false_iff_not] at *; omega)) ?_)
                        refine AS.cons (sp_asg (v := .int _ _) rfl ?_)
                        refine AS.nil ?_
                        intro _ S
                        exact ⟨j + 1, _, by omega, by omega, ⟨by simp [upd], trivial⟩, trivial, by repeat (first | exact Agr.refl _ _ | exact Agr.msk _ _ _ | refine Agr.upd ?_ _ rfl | refine Agr.upds ?_ rfl | refine Agr.mskIn ?_ rfl), by repeat (first | exact Agr.refl _ _ | exact Agr.msk _ _ _ | refine Agr.upd ?_ _ rfl | refine Agr.upds ?_ rfl | refine Agr.mskIn ?_ rfl), rfl, S⟩
  · skip
    refine W.exit ?_
    refine W.forget [] trivial (fun σ27 => ?_)
    have S := S.forget [] trivial
    refine W.seq (W.region S ?_)
    refine AS.cons (sp_call1 245 [] _ rfl rfl cf_58 (fun F w _ S => tornF w) ?_ (by simp))
    rintro v245 i245 ⟨a245, c245, rfl, h245, rfl⟩
    refine AS.cons (sp_call1 246 [245] _ rfl rfl cf_15 (fun F w hF S => by have h := seenP tornB none 0 a245 c245 3 w (ints_nil w) (S.slc_rd (k := 245) ((hF 245 (by simp)).trans rfl) (by decide)); rw [t_seen] at h; exact h) ?_ (by simp))
    rintro v246 i246 ⟨a246, c246, h246, rfl, rfl⟩
    refine AS.cons (sp_move rfl ?_)
    refine AS.cons (sp_ext rfl rfl ?_)
    refine AS.cons (sp_ext rfl rfl ?_)
    refine AS.cons (sp_asg rfl ?_)
    refine AS.cons (sp_asg (v := .int _ _) rfl ?_)
    refine AS.nil ?_
    intro _ S
    refine W.seq (W.region S ?_)
    refine AS.cons (sp_call1 250 [] _ rfl rfl cf_58 (fun F w _ S => tornF w) ?_ (by simp))
    rintro v250 i250 ⟨a250, c250, rfl, h250, rfl⟩
    refine AS.cons (sp_call1 251 [250] _ rfl rfl cf_22 (fun F w hF S => by have h := whereP tornB none 0 a250 c250 31 w (hK.ext S.mod) (ints_nil w) (S.slc_rd (k := 250) ((hF 250 (by simp)).trans rfl) (by decide)); rw [t_whr] at h; exact h) ?_ (by simp))
    rintro v251 i251 ⟨a251, c251, h251, rfl, rfl⟩
    refine AS.cons (sp_move rfl ?_)
    refine AS.cons (sp_ext rfl rfl ?_)
    refine AS.cons (sp_ext rfl rfl ?_)
    refine AS.cons (sp_asg rfl ?_)
    refine AS.cons (sp_asg (v := .int _ _) rfl ?_)
    refine AS.nil ?_
    intro _ S
    refine W.seq (W.region S ?_)
    refine AS.cons (sp_call1 255 [] _ rfl rfl cf_58 (fun F w _ S => tornF w) ?_ (by simp))
    rintro v255 i255 ⟨a255, c255, rfl, h255, rfl⟩
    refine AS.cons (sp_call [255] rfl rfl cf_24 (fun F w hF S => by have h := canP tornB none 0 a255 c255 0 24 w (hK.ext S.mod) (ints_nil w) (S.slc_rd (k := 255) ((hF 255 (by simp)).trans rfl) (by decide)); rw [t_can] at h; exact h) ?_)
    refine AS.cons (sp_move rfl ?_)
    refine AS.cons (sp_ext rfl rfl ?_)
    refine AS.cons (sp_ext rfl rfl ?_)
    refine AS.cons (sp_asg (v := .bool _) rfl ?_)
    refine AS.cons (sp_asg (v := .int _ _) rfl ?_)
    refine AS.nil ?_
    intro _ S
    refine W.seq (W.region S ?_)
    refine AS.cons (sp_call1 260 [] _ rfl rfl cf_58 (fun F w _ S => tornF w) ?_ (by simp))
    rintro v260 i260 ⟨a260, c260, rfl, h260, rfl⟩
    refine AS.cons (sp_call [260] rfl rfl cf_26 (fun F w hF S => by have h := apartP tornB none 0 a260 c260 (-1) w (hK.ext S.mod) (ints_nil w) (S.slc_rd (k := 260) ((hF 260 (by simp)).trans rfl) (by decide)); rw [t_apart] at h; exact h) ?_)
    refine AS.cons (sp_move rfl ?_)
    refine AS.cons (sp_ext rfl rfl ?_)
    refine AS.cons (sp_ext rfl rfl ?_)
    refine AS.cons (sp_asg (v := .int _ _) rfl ?_)
    refine AS.cons (sp_asg (v := .int _ _) rfl ?_)
    refine AS.nil ?_
    intro _ S
    refine W.seq (W.region S ?_)
    refine AS.cons (sp_call1 265 [] _ rfl rfl cf_58 (fun F w _ S => tornF w) ?_ (by simp))
    rintro v265 i265 ⟨a265, c265, rfl, h265, rfl⟩
    refine AS.cons (sp_call [265] rfl rfl cf_29 (fun F w hF S => by have h := shotP tornB none 0 a265 c265 0 11 1 w (hK.ext S.mod) (ints_nil w) (S.slc_rd (k := 265) ((hF 265 (by simp)).trans rfl) (by decide)); rw [t_shot] at h; exact h) ?_)
    refine AS.cons (sp_move rfl ?_)
    refine AS.cons (sp_ext rfl rfl ?_)
    refine AS.cons (sp_ext rfl rfl ?_)
    refine AS.cons (sp_asg (v := .int _ _) rfl ?_)
    refine AS.cons (sp_asg (v := .int _ _) rfl ?_)
    refine AS.nil ?_
    intro _ S
    refine W.seq (W.region S ?_)
    refine AS.cons (sp_call1 270 [] _ rfl rfl cf_58 (fun F w _ S => tornF w) ?_ (by simp))
    rintro v270 i270 ⟨a270, c270, rfl, h270, rfl⟩
    refine AS.cons (sp_call [270] rfl rfl cf_29 (fun F w hF S => by have h := shotP tornB none 0 a270 c270 0 1 0 w (hK.ext S.mod) (ints_nil w) (S.slc_rd (k := 270) ((hF 270 (by simp)).trans rfl) (by decide)); rw [t_shot'] at h; exact h) ?_)
    refine AS.cons (sp_move rfl ?_)
    refine AS.cons (sp_ext rfl rfl ?_)
    refine AS.cons (sp_ext rfl rfl ?_)
    refine AS.cons (sp_asg (v := .int _ _) rfl ?_)
    refine AS.cons (sp_asg (v := .int _ _) rfl ?_)
    refine AS.nil ?_
    intro _ S
    refine W.seq (W.region S ?_)
    refine AS.cons (sp_call1 275 [] _ rfl rfl cf_58 (fun F w _ S => tornF w) ?_ (by simp))
    rintro v275 i275 ⟨a275, c275, rfl, h275, rfl⟩
    refine AS.cons (sp_call [275] rfl rfl cf_31 (fun F w hF S => by have h := soonP tornB none 0 a275 c275 0 1 w (hK.ext S.mod) (ints_nil w) (S.slc_rd (k := 275) ((hF 275 (by simp)).trans rfl) (by decide)); rw [t_soon] at h; exact h) ?_)
    refine AS.cons (sp_move rfl ?_)
    refine AS.cons (sp_ext rfl rfl ?_)
    refine AS.cons (sp_ext rfl rfl ?_)
    refine AS.cons (sp_ext rfl rfl ?_)
    refine AS.cons (sp_asg (v := .int _ _) rfl ?_)
    refine AS.cons (sp_asg (v := .int _ _) rfl ?_)
    refine AS.cons (sp_asg (v := .int _ _) rfl ?_)
    refine AS.nil ?_
    intro _ S
    refine W.seq (W.region S ?_)
    refine AS.cons (sp_call1 281 [] _ rfl rfl cf_58 (fun F w _ S => tornF w) ?_ (by simp))
    rintro v281 i281 ⟨a281, c281, rfl, h281, rfl⟩
    refine AS.cons (sp_call [] rfl rfl cf_57 (fun F w _ S => point _ _ w) ?_)
    refine AS.cons (sp_call [] rfl rfl cf_57 (fun F w _ S => point _ _ w) ?_)
    refine AS.cons (sp_call [] rfl rfl cf_59 (fun F w _ S => criesF _ _ _ _ _ _ _ w) ?_)
    refine AS.cons (sp_call [281] rfl rfl cf_33 (fun F w hF S => by have h := fitsP tornB none 0 a281 c281 ⟨0, 0, 0, 0, 1, 1, 1⟩ w (hK.ext S.mod) (ints_nil w) (S.slc_rd (k := 281) ((hF 281 (by simp)).trans rfl) (by decide)); rw [t_fits] at h; exact h) ?_)
    refine AS.cons (sp_move rfl ?_)
    refine AS.cons (sp_ext rfl rfl ?_)
    refine AS.cons (sp_ext rfl rfl ?_)
    refine AS.cons (sp_asg (v := .bool _) rfl ?_)
    refine AS.cons (sp_asg (v := .int _ _) rfl ?_)
    refine AS.nil ?_
    intro _ S
    refine W.seq (W.seq (W.region S ?_))
    refine AS.cons (sp_move (v := .int _ _) rfl ?_)
    refine AS.cons (sp_neq rfl rfl ?_)
    refine AS.cons (sp_move (v := .bool _) rfl ?_)
    refine AS.split 290 rfl (fun g290 => ?_) (fun g290 => ?_)
    · exact absurd g290 (by decide)
    · skip
      refine AS.cons (sp_move (v := .int _ _) rfl ?_)
      refine AS.cons (sp_neq rfl rfl ?_)
      refine AS.cons (sp_pick_f rfl (v := .bool _) rfl ?_)
      refine AS.cons (sp_move (v := .bool _) rfl ?_)
      refine AS.split 294 rfl (fun g294 => ?_) (fun g294 => ?_)
      · exact absurd g294 (by decide)
      · skip
        refine AS.cons (sp_move (v := .int _ _) rfl ?_)
        refine AS.cons (sp_neq rfl rfl ?_)
        refine AS.cons (sp_pick_f rfl (v := .bool _) rfl ?_)
        refine AS.cons (sp_move (v := .bool _) rfl ?_)
        refine AS.split 298 rfl (fun g298 => ?_) (fun g298 => ?_)
        · exact absurd g298 (by decide)
        · skip
          refine AS.cons (sp_move (v := .int _ _) rfl ?_)
          refine AS.cons (sp_neq rfl rfl ?_)
          refine AS.cons (sp_pick_f rfl (v := .bool _) rfl ?_)
          refine AS.cons (sp_move (v := .bool _) rfl ?_)
          refine AS.split 302 rfl (fun g302 => ?_) (fun g302 => ?_)
          · exact absurd g302 (by decide)
          · skip
            refine AS.cons (sp_move (v := .int _ _) rfl ?_)
            refine AS.cons (sp_neq rfl rfl ?_)
            refine AS.cons (sp_pick_f rfl (v := .bool _) rfl ?_)
            refine AS.cons (sp_move (v := .bool _) rfl ?_)
            refine AS.split 306 rfl (fun g306 => ?_) (fun g306 => ?_)
            · exact absurd g306 (by decide)
            · skip
              refine AS.cons (sp_move (v := .int _ _) rfl ?_)
              refine AS.cons (sp_neq rfl rfl ?_)
              refine AS.cons (sp_pick_f rfl (v := .bool _) rfl ?_)
              refine AS.cons (sp_move (v := .bool _) rfl ?_)
              refine AS.split 310 rfl (fun g310 => ?_) (fun g310 => ?_)
              · exact absurd g310 (by decide)
              · skip
                refine AS.cons (sp_move (v := .int _ _) rfl ?_)
                refine AS.cons (sp_neq rfl rfl ?_)
                refine AS.cons (sp_pick_f rfl (v := .bool _) rfl ?_)
                refine AS.cons (sp_move (v := .bool _) rfl ?_)
                refine AS.split 314 rfl (fun g314 => ?_) (fun g314 => ?_)
                · exact absurd g314 (by decide)
                · skip
                  refine AS.cons (sp_move (v := .int _ _) rfl ?_)
                  refine AS.cons (sp_neq rfl rfl ?_)
                  refine AS.cons (sp_pick_f rfl (v := .bool _) rfl ?_)
                  refine AS.nil ?_
                  intro _ S
                  refine W.cond rfl (fun c317 => ?_) (fun c317 => ?_)
                  · exact absurd c317 (by decide)
                  · skip
                    refine W.skip ?_
                    refine W.forget [] trivial (fun σ37 => ?_)
                    have S := S.forget [] trivial
                    refine W.seq (W.region S ?_)
                    refine AS.cons (sp_call1 319 [] _ rfl rfl cf_58 (fun F w _ S => tornF w) ?_ (by simp))
                    rintro v319 i319 ⟨a319, c319, rfl, h319, rfl⟩
                    refine AS.cons (sp_call1 320 [319] _ rfl rfl cf_22 (fun F w hF S => by have h := whereP tornB none 0 a319 c319 0 w (hK.ext S.mod) (ints_nil w) (S.slc_rd (k := 319) ((hF 319 (by simp)).trans rfl) (by decide)); rw [u_whr] at h; exact h) ?_ (by simp))
                    rintro v320 i320 ⟨a320, c320, h320, rfl, rfl⟩
                    refine AS.cons (sp_move rfl ?_)
                    refine AS.cons (sp_ext rfl rfl ?_)
                    refine AS.cons (sp_ext rfl rfl ?_)
                    refine AS.cons (sp_asg (v := .int _ _) rfl ?_)
                    refine AS.nil ?_
                    intro _ S
                    refine W.seq (W.region S ?_)
                    refine AS.cons (sp_call1 324 [] _ rfl rfl cf_58 (fun F w _ S => tornF w) ?_ (by simp))
                    rintro v324 i324 ⟨a324, c324, rfl, h324, rfl⟩
                    refine AS.cons (sp_call [324] rfl rfl cf_24 (fun F w hF S => by have h := canP tornB none 0 a324 c324 0 0 w (hK.ext S.mod) (ints_nil w) (S.slc_rd (k := 324) ((hF 324 (by simp)).trans rfl) (by decide)); rw [u_can] at h; exact h) ?_)
                    refine AS.cons (sp_move rfl ?_)
                    refine AS.cons (sp_ext rfl rfl ?_)
                    refine AS.cons (sp_ext rfl rfl ?_)
                    refine AS.cons (sp_asg (v := .int _ _) rfl ?_)
                    refine AS.nil ?_
                    intro _ S
                    refine W.seq (W.region S ?_)
                    refine AS.cons (sp_call1 329 [] _ rfl rfl cf_58 (fun F w _ S => tornF w) ?_ (by simp))
                    rintro v329 i329 ⟨a329, c329, rfl, h329, rfl⟩
                    refine AS.cons (sp_call [329] rfl rfl cf_26 (fun F w hF S => by have h := apartP tornB none 0 a329 c329 0 w (hK.ext S.mod) (ints_nil w) (S.slc_rd (k := 329) ((hF 329 (by simp)).trans rfl) (by decide)); rw [u_whr] at h; exact h) ?_)
                    refine AS.cons (sp_move rfl ?_)
                    refine AS.cons (sp_ext rfl rfl ?_)
                    refine AS.cons (sp_ext rfl rfl ?_)
                    refine AS.cons (sp_asg (v := .int _ _) rfl ?_)
                    refine AS.nil ?_
                    intro _ S
                    refine W.seq (W.region S ?_)
                    refine AS.cons (sp_call1 334 [] _ rfl rfl cf_58 (fun F w _ S => tornF w) ?_ (by simp))
                    rintro v334 i334 ⟨a334, c334, rfl, h334, rfl⟩
                    refine AS.cons (sp_call [334] rfl rfl cf_29 (fun F w hF S => by have h := shotP tornB none 0 a334 c334 0 1 1 w (hK.ext S.mod) (ints_nil w) (S.slc_rd (k := 334) ((hF 334 (by simp)).trans rfl) (by decide)); rw [u_shot] at h; exact h) ?_)
                    refine AS.cons (sp_move rfl ?_)
                    refine AS.cons (sp_ext rfl rfl ?_)
                    refine AS.cons (sp_ext rfl rfl ?_)
                    refine AS.cons (sp_asg (v := .int _ _) rfl ?_)
                    refine AS.nil ?_
                    intro _ S
                    refine W.seq (W.region S ?_)
                    refine AS.cons (sp_call1 339 [] _ rfl rfl cf_58 (fun F w _ S => tornF w) ?_ (by simp))
                    rintro v339 i339 ⟨a339, c339, rfl, h339, rfl⟩
                    refine AS.cons (sp_call [339] rfl rfl cf_31 (fun F w hF S => by have h := soonP tornB none 0 a339 c339 1 1 w (hK.ext S.mod) (ints_nil w) (S.slc_rd (k := 339) ((hF 339 (by simp)).trans rfl) (by decide)); rw [u_soon] at h; exact h) ?_)
                    refine AS.cons (sp_move rfl ?_)
                    refine AS.cons (sp_ext rfl rfl ?_)
                    refine AS.cons (sp_ext rfl rfl ?_)
                    refine AS.cons (sp_ext rfl rfl ?_)
                    refine AS.cons (sp_asg (v := .int _ _) rfl ?_)
                    refine AS.nil ?_
                    intro _ S
                    refine W.seq (W.region S ?_)
                    refine AS.cons (sp_call1 345 [] _ rfl rfl cf_60 (fun F w _ S => landF w) ?_ (by simp))
                    rintro v345 i345 ⟨a345, c345, rfl, h345, rfl⟩
                    refine AS.cons (sp_call1 346 [345] _ rfl rfl cf_35 (fun F w hF S => by have h := wrongP landB a345 c345 none 0  w (hK.ext S.mod) (S.slc_rd (k := 345) ((hF 345 (by simp)).trans rfl) (by decide)) (cries_nil w); rw [l_wrong] at h; exact h) ?_ (by simp))
                    rintro v346 i346 ⟨a346, c346, h346, rfl, rfl⟩
                    refine AS.cons (sp_move rfl ?_)
                    refine AS.cons (sp_ext rfl rfl ?_)
                    refine AS.cons (sp_ext rfl rfl ?_)
                    refine AS.cons (sp_asg (v := .int _ _) rfl ?_)
                    refine AS.nil ?_
                    intro _ S
                    refine W.seq (W.region S ?_)
                    refine AS.cons (sp_call1 350 [] _ rfl rfl cf_55 (fun F w _ S => ownF w) ?_ (by simp))
                    rintro v350 i350 ⟨a350, c350, rfl, h350, rfl⟩
                    refine AS.cons (sp_call [350] rfl rfl cf_29 (fun F w hF S => by have h := shotP ownB none 0 a350 c350 1 3 4 w (hK.ext S.mod) (ints_nil w) (S.slc_rd (k := 350) ((hF 350 (by simp)).trans rfl) (by decide)); rw [o_shot] at h; exact h) ?_)
                    refine AS.cons (sp_move rfl ?_)
                    refine AS.cons (sp_ext rfl rfl ?_)
                    refine AS.cons (sp_ext rfl rfl ?_)
                    refine AS.cons (sp_asg (v := .int _ _) rfl ?_)
                    refine AS.nil ?_
                    intro _ S
                    refine W.seq (W.region S ?_)
                    refine AS.cons (sp_call1 355 [] _ rfl rfl cf_55 (fun F w _ S => ownF w) ?_ (by simp))
                    rintro v355 i355 ⟨a355, c355, rfl, h355, rfl⟩
                    refine AS.cons (sp_call [355] rfl rfl cf_31 (fun F w hF S => by have h := soonP ownB none 0 a355 c355 3 3 w (hK.ext S.mod) (ints_nil w) (S.slc_rd (k := 355) ((hF 355 (by simp)).trans rfl) (by decide)); rw [o_soon] at h; exact h) ?_)
                    refine AS.cons (sp_move rfl ?_)
                    refine AS.cons (sp_ext rfl rfl ?_)
                    refine AS.cons (sp_ext rfl rfl ?_)
                    refine AS.cons (sp_ext rfl rfl ?_)
                    refine AS.cons (sp_asg (v := .int _ _) rfl ?_)
                    refine AS.nil ?_
                    intro _ S
                    refine W.seq (W.seq (W.region S ?_))
                    refine AS.cons (sp_move (v := .int _ _) rfl ?_)
                    refine AS.cons (sp_neq rfl rfl ?_)
                    refine AS.cons (sp_move (v := .bool _) rfl ?_)
                    refine AS.split 362 rfl (fun g362 => ?_) (fun g362 => ?_)
                    · exact absurd g362 (by decide)
                    · skip
                      refine AS.cons (sp_move (v := .int _ _) rfl ?_)
                      refine AS.cons (sp_neq rfl rfl ?_)
                      refine AS.cons (sp_pick_f rfl (v := .bool _) rfl ?_)
                      refine AS.cons (sp_move (v := .bool _) rfl ?_)
                      refine AS.split 366 rfl (fun g366 => ?_) (fun g366 => ?_)
                      · exact absurd g366 (by decide)
                      · skip
                        refine AS.cons (sp_move (v := .int _ _) rfl ?_)
                        refine AS.cons (sp_neq rfl rfl ?_)
                        refine AS.cons (sp_pick_f rfl (v := .bool _) rfl ?_)
                        refine AS.cons (sp_move (v := .bool _) rfl ?_)
                        refine AS.split 370 rfl (fun g370 => ?_) (fun g370 => ?_)
                        · exact absurd g370 (by decide)
                        · skip
                          refine AS.cons (sp_move (v := .int _ _) rfl ?_)
                          refine AS.cons (sp_neq rfl rfl ?_)
                          refine AS.cons (sp_pick_f rfl (v := .bool _) rfl ?_)
                          refine AS.cons (sp_move (v := .bool _) rfl ?_)
                          refine AS.split 374 rfl (fun g374 => ?_) (fun g374 => ?_)
                          · exact absurd g374 (by decide)
                          · skip
                            refine AS.cons (sp_move (v := .int _ _) rfl ?_)
                            refine AS.cons (sp_neq rfl rfl ?_)
                            refine AS.cons (sp_pick_f rfl (v := .bool _) rfl ?_)
                            refine AS.cons (sp_move (v := .bool _) rfl ?_)
                            refine AS.split 378 rfl (fun g378 => ?_) (fun g378 => ?_)
                            · exact absurd g378 (by decide)
                            · skip
                              refine AS.cons (sp_move (v := .int _ _) rfl ?_)
                              refine AS.cons (sp_neq rfl rfl ?_)
                              refine AS.cons (sp_pick_f rfl (v := .bool _) rfl ?_)
                              refine AS.cons (sp_move (v := .bool _) rfl ?_)
                              refine AS.split 382 rfl (fun g382 => ?_) (fun g382 => ?_)
                              · exact absurd g382 (by decide)
                              · skip
                                refine AS.cons (sp_move (v := .int _ _) rfl ?_)
                                refine AS.cons (sp_neq rfl rfl ?_)
                                refine AS.cons (sp_pick_f rfl (v := .bool _) rfl ?_)
                                refine AS.cons (sp_move (v := .bool _) rfl ?_)
                                refine AS.split 386 rfl (fun g386 => ?_) (fun g386 => ?_)
                                · exact absurd g386 (by decide)
                                · skip
                                  refine AS.cons (sp_move (v := .int _ _) rfl ?_)
                                  refine AS.cons (sp_neq rfl rfl ?_)
                                  refine AS.cons (sp_pick_f rfl (v := .bool _) rfl ?_)
                                  refine AS.nil ?_
                                  intro _ S
                                  refine W.cond rfl (fun c389 => ?_) (fun c389 => ?_)
                                  · exact absurd c389 (by decide)
                                  · skip
                                    refine W.skip ?_
                                    refine W.forget [] trivial (fun σ47 => ?_)
                                    have S := S.forget [] trivial
                                    refine W.seq (W.region S ?_)
                                    refine AS.cons (sp_call1 391 [] _ rfl rfl cf_55 (fun F w _ S => ownF w) ?_ (by simp))
                                    rintro v391 i391 ⟨a391, c391, rfl, h391, rfl⟩
                                    refine AS.cons (sp_call1 392 [391] _ rfl rfl cf_15 (fun F w hF S => by have h := seenP ownB none 0 a391 c391 1 w (ints_nil w) (S.slc_rd (k := 391) ((hF 391 (by simp)).trans rfl) (by decide)); rw [p_seen, p_seenE] at h; exact h) ?_ (by simp))
                                    rintro v392 i392 ⟨a392, c392, h392, rfl, rfl⟩
                                    refine AS.cons (sp_move rfl ?_)
                                    refine AS.cons (sp_ext rfl rfl ?_)
                                    refine AS.cons (sp_ext rfl rfl ?_)
                                    refine AS.cons (sp_asg rfl ?_)
                                    refine AS.cons (sp_asg (v := .int _ _) rfl ?_)
                                    refine AS.nil ?_
                                    intro _ S
                                    refine W.seq (W.region S ?_)
                                    refine AS.cons (sp_call1 396 [] _ rfl rfl cf_55 (fun F w _ S => ownF w) ?_ (by simp))
                                    rintro v396 i396 ⟨a396, c396, rfl, h396, rfl⟩
                                    refine AS.cons (sp_call1 397 [396] _ rfl rfl cf_22 (fun F w hF S => by have h := whereP ownB none 0 a396 c396 1 w (hK.ext S.mod) (ints_nil w) (S.slc_rd (k := 396) ((hF 396 (by simp)).trans rfl) (by decide)); rw [p_where, ask_own (by decide)] at h; exact h) ?_ (by simp))
                                    rintro v397 i397 ⟨a397, c397, h397, rfl, rfl⟩
                                    refine AS.cons (sp_move rfl ?_)
                                    refine AS.cons (sp_ext rfl rfl ?_)
                                    refine AS.cons (sp_ext rfl rfl ?_)
                                    refine AS.cons (sp_asg rfl ?_)
                                    refine AS.cons (sp_asg (v := .int _ _) rfl ?_)
                                    refine AS.nil ?_
                                    intro _ S
                                    refine W.seq (W.region S ?_)
                                    refine AS.cons (sp_call1 401 [] _ rfl rfl cf_55 (fun F w _ S => ownF w) ?_ (by simp))
                                    rintro v401 i401 ⟨a401, c401, rfl, h401, rfl⟩
                                    refine AS.cons (sp_call [401] rfl rfl cf_24 (fun F w hF S => by have h := canP ownB none 0 a401 c401 0 22 w (hK.ext S.mod) (ints_nil w) (S.slc_rd (k := 401) ((hF 401 (by simp)).trans rfl) (by decide)); rw [p_can, ask_own (by decide)] at h; exact h) ?_)
                                    refine AS.cons (sp_move rfl ?_)
                                    refine AS.cons (sp_ext rfl rfl ?_)
                                    refine AS.cons (sp_ext rfl rfl ?_)
                                    refine AS.cons (sp_asg (v := .bool _) rfl ?_)
                                    refine AS.cons (sp_asg (v := .int _ _) rfl ?_)
                                    refine AS.nil ?_
                                    intro _ S
                                    refine W.seq (W.region S ?_)
                                    refine AS.cons (sp_call1 406 [] _ rfl rfl cf_55 (fun F w _ S => ownF w) ?_ (by simp))
                                    rintro v406 i406 ⟨a406, c406, rfl, h406, rfl⟩
                                    refine AS.cons (sp_call [406] rfl rfl cf_26 (fun F w hF S => by have h := apartP ownB none 0 a406 c406 0 w (hK.ext S.mod) (ints_nil w) (S.slc_rd (k := 406) ((hF 406 (by simp)).trans rfl) (by decide)); rw [p_apart, ask_own (by decide)] at h; exact h) ?_)
                                    refine AS.cons (sp_move rfl ?_)
                                    refine AS.cons (sp_ext rfl rfl ?_)
                                    refine AS.cons (sp_ext rfl rfl ?_)
                                    refine AS.cons (sp_asg (v := .int _ _) rfl ?_)
                                    refine AS.cons (sp_asg (v := .int _ _) rfl ?_)
                                    refine AS.nil ?_
                                    intro _ S
                                    refine W.seq (W.region S ?_)
                                    refine AS.cons (sp_call1 411 [] _ rfl rfl cf_55 (fun F w _ S => ownF w) ?_ (by simp))
                                    rintro v411 i411 ⟨a411, c411, rfl, h411, rfl⟩
                                    refine AS.cons (sp_call [411] rfl rfl cf_29 (fun F w hF S => by have h := shotP ownB none 0 a411 c411 1 4 4 w (hK.ext S.mod) (ints_nil w) (S.slc_rd (k := 411) ((hF 411 (by simp)).trans rfl) (by decide)); rw [p_shotV, p_shotE] at h; exact h) ?_)
                                    refine AS.cons (sp_move rfl ?_)
                                    refine AS.cons (sp_ext rfl rfl ?_)
                                    refine AS.cons (sp_ext rfl rfl ?_)
                                    refine AS.cons (sp_asg (v := .int _ _) rfl ?_)
                                    refine AS.cons (sp_asg (v := .int _ _) rfl ?_)
                                    refine AS.nil ?_
                                    intro _ S
                                    refine W.seq (W.region S ?_)
                                    refine AS.cons (sp_call1 416 [] _ rfl rfl cf_55 (fun F w _ S => ownF w) ?_ (by simp))
                                    rintro v416 i416 ⟨a416, c416, rfl, h416, rfl⟩
                                    refine AS.cons (sp_call [416] rfl rfl cf_31 (fun F w hF S => by have h := soonP ownB none 0 a416 c416 4 4 w (hK.ext S.mod) (ints_nil w) (S.slc_rd (k := 416) ((hF 416 (by simp)).trans rfl) (by decide)); rw [p_soonV, p_soonS, p_soonE] at h; exact h) ?_)
                                    refine AS.cons (sp_move rfl ?_)
                                    refine AS.cons (sp_ext rfl rfl ?_)
                                    refine AS.cons (sp_ext rfl rfl ?_)
                                    refine AS.cons (sp_ext rfl rfl ?_)
                                    refine AS.cons (sp_asg (v := .int _ _) rfl ?_)
                                    refine AS.cons (sp_asg (v := .int _ _) rfl ?_)
                                    refine AS.cons (sp_asg (v := .int _ _) rfl ?_)
                                    refine AS.nil ?_
                                    intro _ S
                                    refine W.seq (W.region S ?_)
                                    refine AS.cons (sp_call1 422 [] _ rfl rfl cf_55 (fun F w _ S => ownF w) ?_ (by simp))
                                    rintro v422 i422 ⟨a422, c422, rfl, h422, rfl⟩
                                    refine AS.cons (sp_call [] rfl rfl cf_57 (fun F w _ S => point _ _ w) ?_)
                                    refine AS.cons (sp_call [] rfl rfl cf_57 (fun F w _ S => point _ _ w) ?_)
                                    refine AS.cons (sp_call [] rfl rfl cf_59 (fun F w _ S => criesF _ _ _ _ _ _ _ w) ?_)
                                    refine AS.cons (sp_call [422] rfl rfl cf_33 (fun F w hF S => by have h := fitsP ownB none 0 a422 c422 cry5 w (hK.ext S.mod) (ints_nil w) (S.slc_rd (k := 422) ((hF 422 (by simp)).trans rfl) (by decide)); rw [p_fitsV, p_fitsE] at h; exact h) ?_)
                                    refine AS.cons (sp_move rfl ?_)
                                    refine AS.cons (sp_ext rfl rfl ?_)
                                    refine AS.cons (sp_ext rfl rfl ?_)
                                    refine AS.cons (sp_asg (v := .bool _) rfl ?_)
                                    refine AS.cons (sp_asg (v := .int _ _) rfl ?_)
                                    refine AS.nil ?_
                                    intro _ S
                                    refine W.seq (W.region S ?_)
                                    refine AS.cons (sp_call1 430 [] _ rfl rfl cf_61 (fun F w _ S => stillF w) ?_ (by simp))
                                    rintro v430 i430 ⟨a430, c430, rfl, h430, rfl⟩
                                    refine AS.cons (sp_call1 431 [430] _ rfl rfl cf_22 (fun F w hF S => by have h := whereP stillB none 0 a430 c430 30 w (hK.ext S.mod) (ints_nil w) (S.slc_rd (k := 430) ((hF 430 (by simp)).trans rfl) (by decide)); rw [p_still, ask_still (by decide)] at h; exact h) ?_ (by simp))
                                    rintro v431 i431 ⟨a431, c431, h431, rfl, rfl⟩
                                    refine AS.cons (sp_move rfl ?_)
                                    refine AS.cons (sp_ext rfl rfl ?_)
                                    refine AS.cons (sp_ext rfl rfl ?_)
                                    refine AS.cons (sp_asg rfl ?_)
                                    refine AS.cons (sp_asg (v := .int _ _) rfl ?_)
                                    refine AS.nil ?_
                                    intro _ S
                                    refine W.seq (W.region S ?_)
                                    refine AS.cons (sp_call1 435 [] _ rfl rfl cf_55 (fun F w _ S => ownF w) ?_ (by simp))
                                    rintro v435 i435 ⟨a435, c435, rfl, h435, rfl⟩
                                    refine AS.cons (sp_call1 436 [435] _ rfl rfl cf_35 (fun F w hF S => by have h := wrongP ownB none 0 a435 c435  w (hK.ext S.mod) (ints_nil w) (S.slc_rd (k := 435) ((hF 435 (by simp)).trans rfl) (by decide)); rw [p_wrongL, p_wrongE] at h; exact h) ?_ (by simp))
                                    rintro v436 i436 ⟨a436, c436, h436, rfl, rfl⟩
                                    refine AS.cons (sp_move rfl ?_)
                                    refine AS.cons (sp_ext rfl rfl ?_)
                                    refine AS.cons (sp_ext rfl rfl ?_)
                                    refine AS.cons (sp_asg rfl ?_)
                                    refine AS.cons (sp_asg (v := .int _ _) rfl ?_)
                                    refine AS.nil ?_
                                    intro _ S
                                    refine W.seq (W.region S ?_)
                                    refine AS.cons (sp_call1 440 [] _ rfl rfl cf_58 (fun F w _ S => tornF w) ?_ (by simp))
                                    rintro v440 i440 ⟨a440, c440, rfl, h440, rfl⟩
                                    refine AS.cons (sp_call [440] rfl rfl cf_20 (fun F w hF S => by have h := right tornB none 0 a440 c440  w (hK.ext S.mod) (ints_nil w) (S.slc_rd (k := 440) ((hF 440 (by simp)).trans rfl) (by decide)); rw [p_right, p_chk] at h; exact h) ?_)
                                    refine AS.cons (sp_move rfl ?_)
                                    refine AS.cons (sp_ext rfl rfl ?_)
                                    refine AS.cons (sp_ext rfl rfl ?_)
                                    refine AS.cons (sp_asg (v := .bool _) rfl ?_)
                                    refine AS.cons (sp_asg (v := .int _ _) rfl ?_)
                                    refine AS.nil ?_
                                    intro _ S
                                    refine W.seq (W.region S ?_)
                                    refine AS.cons (sp_move (v := .int _ _) rfl ?_)
                                    refine AS.cons (sp_eql rfl rfl ?_)
                                    refine AS.cons (sp_move (v := .bool _) rfl ?_)
                                    refine AS.split 446 rfl (fun g446 => ?_) (fun g446 => ?_)
                                    · skip
                                      refine AS.cons (sp_move rfl ?_)
                                      refine AS.cons (sp_bs 448 [.const (.int .i64 3), .const (.int .i64 4), .const (.int .i64 7), .const (.int .i64 8), .const (.int .i64 9), .const (.int .i64 12), .const (.int .i64 13), .const (.int .i64 14), .const (.int .i64 18), .const (.int .i64 19)] _ sl_22_3_1 zs_3_1 rfl rfl rfl rfl rfl rfl (fun b448 => ?_))
                                      refine AS.cons (sp_call [392, 448] rfl rfl cf_17 (fun F w hF S => same a392 c392 [3, 4, 7, 8, 9, 12, 13, 14, 18, 19] _ 10 [3, 4, 7, 8, 9, 12, 13, 14, 18, 19] w (S.slc_rd (k := 392) ((hF 392 (by simp)).trans rfl) (by decide)) (rd_pt (S.get ((hF 448 (by simp)).trans rfl)).1 rfl (by decide) (by decide))) ?_)
                                      refine AS.cons (sp_pick_t rfl (v := .bool _) rfl ?_)
                                      refine AS.cons (sp_move (v := .bool _) rfl ?_)
                                      refine AS.split 451 rfl (fun g451 => ?_) (fun g451 => ?_)
                                      · skip
                                        refine AS.cons (sp_move (v := .int _ _) rfl ?_)
                                        refine AS.cons (sp_eql rfl rfl ?_)
                                        refine AS.cons (sp_pick_t rfl (v := .bool _) rfl ?_)
                                        refine AS.cons (sp_move (v := .bool _) rfl ?_)
                                        refine AS.split 455 rfl (fun g455 => ?_) (fun g455 => ?_)
                                        · skip
                                          refine AS.cons (sp_move rfl ?_)
                                          refine AS.cons (sp_bs 457 [.const (.int .i64 3), .const (.int .i64 7), .const (.int .i64 8), .const (.int .i64 9), .const (.int .i64 12), .const (.int .i64 13), .const (.int .i64 14), .const (.int .i64 19)] _ sl_22_3_1 zs_3_1 rfl rfl rfl rfl rfl rfl (fun b457 => ?_))
                                          refine AS.cons (sp_call [397, 457] rfl rfl cf_17 (fun F w hF S => same a397 c397 [3, 7, 8, 9, 12, 13, 14, 19] _ 8 [3, 7, 8, 9, 12, 13, 14, 19] w (S.slc_rd (k := 397) ((hF 397 (by simp)).trans rfl) (by decide)) (rd_pt (S.get ((hF 457 (by simp)).trans rfl)).1 rfl (by decide) (by decide))) ?_)
                                          refine AS.cons (sp_pick_t rfl (v := .bool _) rfl ?_)
                                          refine AS.cons (sp_move (v := .bool _) rfl ?_)
                                          refine AS.split 460 rfl (fun g460 => ?_) (fun g460 => ?_)
                                          · skip
                                            refine AS.cons (sp_move (v := .int _ _) rfl ?_)
                                            refine AS.cons (sp_eql rfl rfl ?_)
                                            refine AS.cons (sp_pick_t rfl (v := .bool _) rfl ?_)
                                            refine AS.cons (sp_move (v := .bool _) rfl ?_)
                                            refine AS.split 464 rfl (fun g464 => ?_) (fun g464 => ?_)
                                            · skip
                                              refine AS.cons (sp_move (v := .bool _) rfl ?_)
                                              refine AS.cons (sp_not rfl ?_)
                                              refine AS.cons (sp_pick_t rfl (v := .bool _) rfl ?_)
                                              refine AS.cons (sp_move (v := .bool _) rfl ?_)
                                              refine AS.split 468 rfl (fun g468 => ?_) (fun g468 => ?_)
                                              · skip
                                                refine AS.cons (sp_move (v := .int _ _) rfl ?_)
                                                refine AS.cons (sp_eql rfl rfl ?_)
                                                refine AS.cons (sp_pick_t rfl (v := .bool _) rfl ?_)
                                                refine AS.cons (sp_move (v := .bool _) rfl ?_)
                                                refine AS.split 472 rfl (fun g472 => ?_) (fun g472 => ?_)
                                                · skip
                                                  refine AS.cons (sp_move (v := .int _ _) rfl ?_)
                                                  refine AS.cons (sp_eql rfl rfl ?_)
                                                  refine AS.cons (sp_pick_t rfl (v := .bool _) rfl ?_)
                                                  refine AS.cons (sp_move (v := .bool _) rfl ?_)
                                                  refine AS.split 476 rfl (fun g476 => ?_) (fun g476 => ?_)
                                                  · skip
                                                    refine AS.cons (sp_move (v := .int _ _) rfl ?_)
                                                    refine AS.cons (sp_eql rfl rfl ?_)
                                                    refine AS.cons (sp_pick_t rfl (v := .bool _) rfl ?_)
                                                    refine AS.cons (sp_move (v := .bool _) rfl ?_)
                                                    refine AS.split 480 rfl (fun g480 => ?_) (fun g480 => ?_)
                                                    · skip
                                                      refine AS.cons (sp_move (v := .int _ _) rfl ?_)
                                                      refine AS.cons (sp_eql rfl rfl ?_)
                                                      refine AS.cons (sp_pick_t rfl (v := .bool _) rfl ?_)
                                                      refine AS.cons (sp_move (v := .bool _) rfl ?_)
                                                      refine AS.split 484 rfl (fun g484 => ?_) (fun g484 => ?_)
                                                      · skip
                                                        refine AS.cons (sp_move (v := .int _ _) rfl ?_)
                                                        refine AS.cons (sp_eql rfl rfl ?_)
                                                        refine AS.cons (sp_pick_t rfl (v := .bool _) rfl ?_)
                                                        refine AS.cons (sp_move (v := .bool _) rfl ?_)
                                                        refine AS.split 488 rfl (fun g488 => ?_) (fun g488 => ?_)
                                                        · skip
                                                          refine AS.cons (sp_move (v := .int _ _) rfl ?_)
                                                          refine AS.cons (sp_eql rfl rfl ?_)
                                                          refine AS.cons (sp_pick_t rfl (v := .bool _) rfl ?_)
                                                          refine AS.cons (sp_move (v := .bool _) rfl ?_)
                                                          refine AS.split 492 rfl (fun g492 => ?_) (fun g492 => ?_)
                                                          · skip
                                                            refine AS.cons (sp_move (v := .int _ _) rfl ?_)
                                                            refine AS.cons (sp_eql rfl rfl ?_)
                                                            refine AS.cons (sp_pick_t rfl (v := .bool _) rfl ?_)
                                                            refine AS.cons (sp_move (v := .bool _) rfl ?_)
                                                            refine AS.split 496 rfl (fun g496 => ?_) (fun g496 => ?_)
                                                            · skip
                                                              refine AS.cons (sp_move (v := .int _ _) rfl ?_)
                                                              refine AS.cons (sp_eql rfl rfl ?_)
                                                              refine AS.cons (sp_pick_t rfl (v := .bool _) rfl ?_)
                                                              refine AS.cons (sp_move (v := .bool _) rfl ?_)
                                                              refine AS.split 500 rfl (fun g500 => ?_) (fun g500 => ?_)
                                                              · skip
                                                                refine AS.cons (sp_move (v := .bool _) rfl ?_)
                                                                refine AS.cons (sp_not rfl ?_)
                                                                refine AS.cons (sp_pick_t rfl (v := .bool _) rfl ?_)
                                                                refine AS.cons (sp_move (v := .bool _) rfl ?_)
                                                                refine AS.split 504 rfl (fun g504 => ?_) (fun g504 => ?_)
                                                                · skip
                                                                  refine AS.cons (sp_move (v := .int _ _) rfl ?_)
                                                                  refine AS.cons (sp_eql rfl rfl ?_)
                                                                  refine AS.cons (sp_pick_t rfl (v := .bool _) rfl ?_)
                                                                  refine AS.cons (sp_move (v := .bool _) rfl ?_)
                                                                  refine AS.split 508 rfl (fun g508 => ?_) (fun g508 => ?_)
                                                                  · skip
                                                                    refine AS.cons (sp_move rfl ?_)
                                                                    refine AS.cons (sp_bs 510 [.const (.int .i64 7), .const (.int .i64 8), .const (.int .i64 14)] _ sl_22_3_1 zs_3_1 rfl rfl rfl rfl rfl rfl (fun b510 => ?_))
                                                                    refine AS.cons (sp_call [431, 510] rfl rfl cf_17 (fun F w hF S => same a431 c431 [7, 8, 14] _ 3 [7, 8, 14] w (S.slc_rd (k := 431) ((hF 431 (by simp)).trans rfl) (by decide)) (rd_pt (S.get ((hF 510 (by simp)).trans rfl)).1 rfl (by decide) (by decide))) ?_)
                                                                    refine AS.cons (sp_pick_t rfl (v := .bool _) rfl ?_)
                                                                    refine AS.cons (sp_move (v := .bool _) rfl ?_)
                                                                    refine AS.split 513 rfl (fun g513 => ?_) (fun g513 => ?_)
                                                                    · skip
                                                                      refine AS.cons (sp_move (v := .int _ _) rfl ?_)
                                                                      refine AS.cons (sp_eql rfl rfl ?_)
                                                                      refine AS.cons (sp_pick_t rfl (v := .bool _) rfl ?_)
                                                                      refine AS.cons (sp_move (v := .bool _) rfl ?_)
                                                                      refine AS.split 517 rfl (fun g517 => ?_) (fun g517 => ?_)
                                                                      · skip
                                                                        refine AS.cons (sp_move rfl ?_)
                                                                        refine AS.cons (sp_len rfl sl_22_3_1 ?_)
                                                                        refine AS.cons (sp_eql rfl rfl ?_)
                                                                        refine AS.cons (sp_pick_t rfl (v := .bool _) rfl ?_)
                                                                        refine AS.cons (sp_move (v := .bool _) rfl ?_)
                                                                        refine AS.split 522 rfl (fun g522 => ?_) (fun g522 => ?_)
                                                                        · skip
                                                                          refine AS.cons (sp_move (v := .int _ _) rfl ?_)
                                                                          refine AS.cons (sp_eql rfl rfl ?_)
                                                                          refine AS.cons (sp_pick_t rfl (v := .bool _) rfl ?_)
                                                                          refine AS.cons (sp_move (v := .bool _) rfl ?_)
                                                                          refine AS.split 526 rfl (fun g526 => ?_) (fun g526 => ?_)
                                                                          · skip
                                                                            refine AS.cons (sp_move (v := .bool _) rfl ?_)
                                                                            refine AS.cons (sp_not rfl ?_)
                                                                            refine AS.cons (sp_pick_t rfl (v := .bool _) rfl ?_)
                                                                            refine AS.cons (sp_move (v := .bool _) rfl ?_)
                                                                            refine AS.cons (sp_pick_t rfl (v := .bool true) rfl ?_)
                                                                            refine AS.cons (sp_move (v := .bool _) rfl ?_)
                                                                            refine AS.split 532 rfl (fun g532 => ?_) (fun g532 => ?_)
                                                                            · skip
                                                                              refine AS.cons (sp_call [] rfl rfl cf_28 (fun F w _ S => cried w (hK.ext S.mod)) ?_)
                                                                              refine AS.cons (sp_pick_t rfl (v := .bool _) rfl ?_)
                                                                              refine AS.cons (sp_asg (v := .bool _) rfl ?_)
                                                                              refine AS.nil ?_
                                                                              intro _ S
                                                                              refine W.ret ?_
                                                                              exact ret1 rfl rfl S fun w' S' => ⟨rfl, S'.mod⟩
                                                                            · exact absurd g532 (by decide)
                                                                          · exact absurd g526 (by decide)
                                                                        · exact absurd g522 (by decide)
                                                                      · exact absurd g517 (by decide)
                                                                    · exact absurd g513 (by decide)
                                                                  · exact absurd g508 (by decide)
                                                                · exact absurd g504 (by decide)
                                                              · exact absurd g500 (by decide)
                                                            · exact absurd g496 (by decide)
                                                          · exact absurd g492 (by decide)
                                                        · exact absurd g488 (by decide)
                                                      · exact absurd g484 (by decide)
                                                    · exact absurd g480 (by decide)
                                                  · exact absurd g476 (by decide)
                                                · exact absurd g472 (by decide)
                                              · exact absurd g468 (by decide)
                                            · exact absurd g464 (by decide)
                                          · exact absurd g460 (by decide)
                                        · exact absurd g455 (by decide)
                                      · exact absurd g451 (by decide)
                                    · exact absurd g446 (by decide)
end
end Go.Proofs.YtmpclgepoemneaaDoor
