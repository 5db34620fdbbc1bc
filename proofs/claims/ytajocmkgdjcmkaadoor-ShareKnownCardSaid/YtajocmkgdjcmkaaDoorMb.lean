/-
  Lemmas of this proof, several texts one behind the other; no condition beyond what each says.
-/
import Derived.Test.YtajocmkgdjcmkaaDoorMa
/-
  Fields of elements of slices of one's own; what need not be known any more is let go.
-/
namespace Go.Hu
open Go.RowKit
theorem ovw_app : ∀ {l vs r ys : List Value}, ovw l vs = some r → ovw (l ++ ys) vs = some (r ++ ys)
  | l, [], r, ys, h => by simp [ovw] at h ⊢; rw [h]
  | [], _ :: _, r, ys, h => by simp [ovw] at h
  | x :: l, v :: vs, r, ys, h => by
    simp only [ovw] at h
    cases e : ovw l vs with
    | none => rw [e] at h; cases h
    | some r' =>
      rw [e] at h
      cases h
      simp only [List.cons_append, ovw, ovw_app e]
theorem spl_app : ∀ {l : List Value} {o : Nat} {vs r ys : List Value}, spl l o vs = some r → spl (l ++ ys) o vs = some (r ++ ys)
  | l, 0, vs, r, ys, h => by
    have h' : ovw l vs = some r := by cases l <;> exact h
    have := ovw_app (ys := ys) h'
    show spl (l ++ ys) 0 vs = some (r ++ ys)
    cases hl : l ++ ys <;> (rw [hl] at this; exact this)
  | [], o + 1, vs, r, ys, h => by simp [spl] at h
  | x :: l, o + 1, vs, r, ys, h => by
    simp only [spl] at h
    cases e : spl l o vs with
    | none => rw [e] at h; cases h
    | some r' =>
      rw [e] at h
      cases h
      simp only [List.cons_append, spl, spl_app e]
section
variable {P : Program} {rd : Option Nat} {B : Nat → Prop} {w0 : World} {Ds : List Nat} {ops : Array Oper} {m : Option KD} {ρ : Nat → Value} {L : Nat → HP} {next : (Nat → Value) → (Nat → HP) → Prop}
variable {d : Tmp} {ty : TypeId} {pos : String} {aft : Array Edge} {g : Option (Nat × Bool)}
/-- Laid into a field of an element of a slice of one's own. -/
theorem sp_stSo (k j : Nat) {x y : Operand} {T E s n cap : Nat} {a : Option Addr} {i : Int} {xs vs r : List Value} {v : Value} (hx : ev ρ x = .pointer (some ⟨(elA a i s).block, (elA a i s).off + j, none⟩)) (hy : ev ρ y = v) (hk : L k = slc E s (.slice a n cap) n xs)
    (hv : v.cells = vs.toArray) (hT : szB P T vs.length = true) (h1 : oneB vs = true) (hs : spl xs (i.toNat * s + j) vs = some r) (hn : 0 < n) (h : next ρ (upd L k (slc E s (.slice a n cap) n r)))
    (hg : gd ops ⟨none, .store T x y, ty, pos, aft, g⟩ ρ = true := by rfl) (hm : okk m (.e [k] [k]) := by first | exact trivial | exact rfl) : SP P rd B w0 Ds ops m ⟨none, .store T x y, ty, pos, aft, g⟩ ρ L next := by
  refine SP.e [k] [k] (fun _ U => U = [(k, slc E s (.slice a n cap) n r)]) hg hm (fun v U h _ => by subst h; rfl) (fun _ => ⟨undef, _, rfl⟩) (fun a' F w ho hF S => ?_) (fun v U hU => by subst hU; exact h)
  have e := ho x (by simp [Op.operands])
  have e' := ho y (by simp [Op.operands])
  have hFk := (hF k (by simp)).trans hk
  obtain ⟨b, cap', cur, heq, hcap, hxl, hcl, ht, S'⟩ := S.slc_open hFk hn
  injection heq with e1 e2 e3
  subst e1 e3
  have hb := (S'.get (upd_same _ _ _)).1
  have hrl := (spl_spec hs).1
  have hlen : r.length = xs.length := by
    have h2 := spl_spec hs
    have : ∀ {l : List Value} {o : Nat} {vs r : List Value}, spl l o vs = some r → r.length = l.length := by
      have ho : ∀ {l vs r : List Value}, ovw l vs = some r → r.length = l.length := by
        intro l
        induction l with
        | nil => intro vs r h; cases vs with | nil => simp [ovw] at h; rw [h] | cons v vs => simp [ovw] at h
        | cons x l ih =>
          intro vs r h
          cases vs with
          | nil => simp [ovw] at h; rw [← h]
          | cons v vs =>
            simp only [ovw] at h
            cases e : ovw l vs with
            | none => rw [e] at h; cases h
            | some r' => rw [e] at h; cases h; simp [ih e]
      intro l
      induction l with
      | nil =>
        intro o vs r h
        cases o with
        | zero => exact ho (l := []) h
        | succ o => simp [spl] at h
      | cons x l ih =>
        intro o vs r h
        cases o with
        | zero => exact ho (l := x :: l) h
        | succ o =>
          simp only [spl] at h
          cases e : spl l o vs with
          | none => rw [e] at h; cases h
          | some r' => rw [e] at h; cases h; simp [ih e]
    exact this hs
  have hcur : cur = xs ++ cur.drop (n * s) := by rw [← ht, List.take_append_drop]
  have hs' : spl cur (i.toNat * s + j) vs = some (r ++ cur.drop (n * s)) := by
    have := spl_app (ys := cur.drop (n * s)) hs
    rwa [← hcur] at this
  obtain ⟨w', hrun, hmod, hb'⟩ := run_storeVar_at (P := P) (vs := vs) (v := v) hv hT h1 hb hs'
  refine opW.of_skip (w' := w') (by intro c hc; cases hc) ?_ ⟨_, rfl, ?_⟩
  · simp only [elA, Option.getD_some, Nat.zero_add] at e hx
    simp [execOp, e, e', hx, hy, Instr.storeAt, Instr.sureAddr, hrun]
  · have S2 := S'.mod1 (k := k) (b := b) (upd_same _ _ _) hmod hb'
    rw [upd_upd] at S2
    have S3 := S2.weak (k := k) (i := slc E s (.slice (some ⟨b, 0, none⟩) n cap) n r) (by
      intro f hf
      rw [upd_same] at hf
      refine slc_of_pt hf (hlen.trans hxl) hcap ?_ ?_
      · rw [List.length_append, hlen, List.length_drop]; omega
      · rw [← hxl, ← hlen]; exact List.take_left)
    rwa [upd_upd] at S3
theorem St.slc_cs {w : World} (S : St B w0 w L Ds) {k E s n cap : Nat} {a : Option Addr} {xs : List Value} (h : L k = slc E s (.slice a n cap) n xs) (hn : 0 < n) : ∃ b, a = some ⟨b, 0, none⟩ ∧ Cs w b 0 xs := by
  obtain ⟨b, cap', cur, heq, _, _, _, ht, S'⟩ := S.slc_open h hn
  injection heq with h1 h2 h3
  refine ⟨b, h1, fun j u hu => ?_⟩
  rw [cell_of_block (S'.get (upd_same _ _ _)).1]
  rw [← ht, List.getElem?_take] at hu
  split at hu
  · simpa using hu
  · cases hu
/-- A field of an element of a slice of one's own, and the whole element. -/
theorem sp_ldSo (k j : Nat) {x : Operand} {T E s n cap : Nat} {a : Option Addr} {i : Int} {xs : List Value} {v : Value} (hx : ev ρ x = .pointer (some ⟨(elA a i s).block, (elA a i s).off + j, none⟩)) (hk : L k = slc E s (.slice a n cap) n xs) (hT : scB P T = true)
    (hv : xs[i.toNat * s + j]? = some v) (hn : 0 < n) (h : next (upd ρ d v) L) (hg : gd ops ⟨some d, .load T x, ty, pos, aft, g⟩ ρ = true := by rfl) (hm : okk m (.q [k]) := by first | exact trivial | exact rfl) :
    SP P rd B w0 Ds ops m ⟨some d, .load T x, ty, pos, aft, g⟩ ρ L next := by
  refine SP.q [k] v hg hm (fun a' F w ho hF S => ?_) h
  have e := ho x (by simp [Op.operands])
  obtain ⟨b, rfl, hc⟩ := S.slc_cs ((hF k (by simp)).trans hk) hn
  have hcc := hc _ _ hv
  rw [Nat.zero_add] at hcc
  have hrun := run_loadVar_sc (P := P) hT hcc
  simp only [elA, Option.getD_some, Nat.zero_add] at hx
  simp [execOp, e, hx, Instr.loadAt, Instr.sureAddr, hrun]
theorem sp_ldaSo (k : Nat) {x : Operand} {T E s n cap : Nat} {a : Option Addr} {i : Int} {xs vs : List Value} (hx : ev ρ x = .pointer (some (elA a i s))) (hk : L k = slc E s (.slice a n cap) n xs) (hT : agB P T vs.length = true)
    (hv : rdL xs (i.toNat * s) vs.length = some vs) (hn : 0 < n) (h : next (upd ρ d (.agg vs.toArray)) L) (hg : gd ops ⟨some d, .load T x, ty, pos, aft, g⟩ ρ = true := by rfl) (hm : okk m (.q [k]) := by first | exact trivial | exact rfl) :
    SP P rd B w0 Ds ops m ⟨some d, .load T x, ty, pos, aft, g⟩ ρ L next := by
  refine SP.q [k] (.agg vs.toArray) hg hm (fun a' F w ho hF S => ?_) h
  have e := ho x (by simp [Op.operands])
  obtain ⟨b, rfl, hc⟩ := S.slc_cs ((hF k (by simp)).trans hk) hn
  have hcs : Cs w b (i.toNat * s) vs := fun j u hu => by
    have hj := (List.getElem?_eq_some_iff.1 hu).1
    have h1 := (rdL_spec hv).2 j hj
    rw [hu] at h1
    have := hc _ _ h1
    rwa [Nat.zero_add] at this
  have hrun := run_loadVar_ag (P := P) hT hcs
  simp only [elA, Option.getD_some, Nat.zero_add] at hx
  simp [execOp, e, hx, Instr.loadAt, Instr.sureAddr, hrun]
end
theorem W.forget {P : Program} {rd : Option Nat} {N : Nat} {c : Code} {Q : Post} {ρ : Nat → Value} {Ds : List Nat} {w : World} (us : List (Nat × Value)) (hu : AllEq us ρ) (h : ∀ σ, W P rd N c Q (upds us σ) Ds w) : W P rd N c Q ρ Ds w := by
  have := h ρ
  rwa [hu.upds] at this
/-- All pieces but these are let go. -/
theorem St.forget {B : Nat → Prop} {w0 w : World} {L : Nat → HP} {Ds : List Nat} (S : St B w0 w L Ds) (hs : List (Nat × HP)) (h : AllEq hs L) : St B w0 w (upds hs eL) Ds := by
  obtain ⟨m, fs, h1, h2, h3, h4, h5⟩ := S
  have key : ∀ (hs : List (Nat × HP)), AllEq hs L → ∀ j, upds hs eL j = if j ∈ hs.map (·.1) then L j else emp := by
    intro hs
    induction hs with
    | nil => intro _ j; simp [upds, eL]
    | cons p r ih =>
      intro h j
      obtain ⟨k, v⟩ := p
      obtain ⟨hk, hr⟩ := h
      simp only [upds, upd_apply, List.map_cons, List.mem_cons]
      by_cases e : j = k
      · subst e; simp [hk]
      · simp only [e, if_false, false_or]; exact ih hr j
  refine ⟨m, fun j => if j ∈ hs.map (·.1) then fs j else fnone, fun j => ?_, fun i j b hij hi => ?_, fun j b o hj => ?_, h4, fun D hD => ⟨(h5 D hD).1, (h5 D hD).2.1, fun j => ?_⟩⟩
  · rw [key hs h j]
    split
    · next e => simp only [e, if_true]; exact h1 j
    · next e => simp only [e, if_false]; exact emp_fnone
  · simp only at hi ⊢
    split at hi
    · split
      · exact h2 i j b hij hi
      · rfl
    · exact absurd rfl hi
  · simp only at hj
    split at hj
    · exact h3 j b o hj
    · cases hj
  · simp only
    split
    · exact (h5 D hD).2.2 j
    · rfl
/-! ### Longer ways between the operations of a region that draws its order -/
section
variable {P : Program} {rd : Option Nat} {B : Nat → Prop} {w0 : World} {Ds : List Nat} {N : Nat} {ops : Array Oper}
def pairsL (ops : Array Oper) (md : Nat → Option KD) (es : List Nat) : List Nat → Bool
  | [] => true
  | p :: r => (r.all fun i => aheadB ops md p i || path ops es 20 p i) && pairsL ops md es r
def chkL2 (ops : Array Oper) (md : Nat → Option KD) (es ord : List Nat) : Bool :=
  (nodupB ord && Nat.beq ord.length ops.size) && ((List.range ops.size).all (mem ord)) && acycB ops && pairsL ops md es ord && (ord.all fun i => (md i).isSome && (ops[i]?).isSome)
theorem pairsL_spec {md : Nat → Option KD} {es : List Nat} : ∀ {l : List Nat}, pairsL ops md es l = true → ∀ pre i post, l = pre ++ i :: post → ∀ p ∈ pre, aheadB ops md p i = true ∨ path ops es 20 p i = true
  | [], _, pre, i, post, e, p, hp => by cases pre <;> simp at e
  | x :: r, h, pre, i, post, e, p, hp => by
    simp only [pairsL, Bool.and_eq_true, List.all_eq_true, Bool.or_eq_true] at h
    cases pre with
    | nil => cases hp
    | cons y pre =>
      simp only [List.cons_append, List.cons.injEq] at e
      obtain ⟨rfl, e⟩ := e
      rcases List.mem_cons.1 hp with rfl | hp
      · exact h.1 i (by rw [e]; simp)
      · exact pairsL_spec h.2 pre i post e p hp
theorem AW.anyL {md : Nat → Option KD} {K : (Nat → Value) → (Nat → HP) → Prop} {Q : Exit → Act → World → Prop} {n : Nat} {dl : List Deferred} {es ord : List Nat} (hok : okR N ops = true) (hchk : chkL2 ops md es ord = true)
    (hK : ∀ ρ L a w, K ρ L → Env N a ρ → a.defers = dl → St B w0 w L Ds → Q .normal a w) :
    ∀ (fuel : Nat) (listed : Array Bool) (ρ : Nat → Value) (L : Nat → HP) (a : Act) (w : World), listed.size = ops.size → closedL ops listed → (remL ord listed).length ≤ fuel →
      AW P rd B w0 Ds ops md K (remL ord listed) ρ L → Env N a ρ → a.defers = dl → St B w0 w L Ds → wpAnyIn (FW rd) n P .any ops Q fuel listed a w := by
  unfold chkL2 at hchk
  simp only [Bool.and_eq_true, List.all_eq_true, List.mem_range] at hchk
  obtain ⟨⟨⟨⟨⟨hnd, _⟩, hall⟩, hac⟩, hpairs⟩, hsome⟩ := hchk
  have hnd := nodupB_spec hnd
  have inord : ∀ i, i < ops.size → i ∈ ord := fun i hi => (mem_iff ord i).1 (hall i hi)
  -- nothing ready: nothing left
  have done : ∀ listed : Array Bool, listed.size = ops.size → Region.ready .any ops listed = [] → remL ord listed = [] := by
    intro listed hsz hr
    have key : ∀ i, i < ops.size → listed.getD i true = true := by
      intro i
      induction i using Nat.strongRecOn with
      | _ i ih =>
        intro hi
        cases hl : listed.getD i true with
        | true => rfl
        | false =>
          have ho : ops[i]? = some ops[i] := Array.getElem?_eq_getElem hi
          have : i ∈ Region.ready .any ops listed := by
            rw [mem_ready]
            refine ⟨hl, ops[i], ho, fun e he hb => ?_⟩
            unfold acycB at hac
            rw [List.all_eq_true] at hac
            have h1 := hac i (List.mem_range.2 hi)
            simp only [ho, List.all_eq_true, Bool.or_eq_true, Bool.not_eq_true'] at h1
            have h2 := h1 e (by simpa using he)
            rcases h2 with h2 | h2
            · rw [hb] at h2; cases h2
            · have hlt := blt_t.1 h2
              have := ih e.on hlt (by omega)
              have hsz' : e.on < listed.size := by omega
              simpa [hsz'] using this
          rw [hr] at this; cases this
    unfold remL
    rw [List.filter_eq_nil_iff]
    intro i hi
    by_cases hlt : i < ops.size
    · simp [key i hlt]
    · have hge : listed.size ≤ i := by omega
      simp [Array.getElem?_eq_none hge]
  intro fuel
  induction fuel with
  | zero =>
    intro listed ρ L a w hsz hcl hlen h he hdl S
    have hnil : remL ord listed = [] := List.length_eq_zero_iff.1 (Nat.le_zero.1 hlen)
    refine ⟨?_, ?_⟩
    · cases hr : Region.ready .any ops listed with
      | nil => rfl
      | cons i r =>
        have hi : i ∈ Region.ready .any ops listed := by rw [hr]; simp
        obtain ⟨hl, o, ho, _⟩ := mem_ready.1 hi
        have : i ∈ remL ord listed := List.mem_filter.2 ⟨inord i (Array.getElem?_eq_some_iff.1 ho).1, by rw [hl]; rfl⟩
        rw [hnil] at this; cases this
    · rw [hnil] at h
      exact hK ρ L a w h he hdl S
  | succ fuel ih =>
    intro listed ρ L a w hsz hcl hlen h he hdl S
    refine ⟨fun hr => ?_, fun i hi => ?_⟩
    · rw [done listed hsz hr] at h
      exact hK ρ L a w h he hdl S
    · obtain ⟨hl, oi, hoi, hready⟩ := mem_ready.1 hi
      have hin : i < ops.size := (Array.getElem?_eq_some_iff.1 hoi).1
      have hmem : i ∈ remL ord listed := List.mem_filter.2 ⟨inord i hin, by rw [hl]; rfl⟩
      obtain ⟨pre, post, hsplit⟩ := List.append_of_mem hmem
      obtain ⟨l1, l2, hord, hl1, hl2⟩ := filter_split _ _ _ _ _ hsplit
      have hmi : ∃ mi, md i = some mi := by
        exact Option.isSome_iff_exists.1 (hsome i (inord i hin)).1
      obtain ⟨mi, hmi⟩ := hmi
      have hoki := okR_get hok hoi
      have hpre : ∀ p ∈ pre, ∃ op mp, ops[p]? = some op ∧ md p = some mp ∧ Ahead ops op oi mp mi := by
        intro p hp
        have hp1 : p ∈ l1 := by rw [← hl1] at hp; exact (List.mem_filter.1 hp).1
        have hpl : listed.getD p true = false := by
          have := (List.mem_filter.1 (hl1 ▸ hp : p ∈ l1.filter _)).2
          simpa using this
        rcases pairsL_spec hpairs l1 i l2 hord p hp1 with h1 | h1
        · obtain ⟨op, oi', mp, mi', e1, e2, e3, e4, e5⟩ := aheadB_spec h1
          rw [hoi] at e2; cases e2
          rw [hmi] at e4; cases e4
          exact ⟨op, mp, e1, e3, e5⟩
        · have := path_listed hsz hcl 20 p i oi hoi hready h1
          exfalso
          have hlt : p < listed.size := by
            rcases Nat.lt_or_ge p listed.size with h' | h'
            · exact h'
            · simp [Array.getElem?_eq_none h'] at this
          simp [hlt] at this hpl
          rw [this] at hpl; cases hpl
      rw [hsplit] at h
      obtain ⟨O, hv, hnext⟩ := AW.front hoi hmi hoki he S pre hpre h
      have hrem : remL ord (listed.setIfInBounds i true) = pre ++ post := by
        have hnot : ∀ x ∈ l1 ++ l2, x ≠ i := by
          intro x hx e
          subst e
          rw [hord] at hnd
          have := List.nodup_append.1 hnd
          rcases List.mem_append.1 hx with hx | hx
          · exact this.2.2 x hx x (by simp) rfl
          · exact (List.nodup_cons.1 this.2.1).1 hx
        have same : ∀ l : List Nat, (∀ x ∈ l, x ≠ i) → l.filter (fun j => !(listed.setIfInBounds i true).getD j true) = l.filter fun j => !listed.getD j true := by
          intro l hl
          refine List.filter_congr fun x hx => ?_
          rw [getD_set_ne true (Ne.symm (hl x hx))]
        unfold remL
        rw [hord, List.filter_append, List.filter_cons, same l1 (fun x hx => hnot x (by simp [hx])), same l2 (fun x hx => hnot x (by simp [hx])), hl1, hl2]
        have : (!(listed.setIfInBounds i true).getD i true) = false := by
          have hlt : i < listed.size := by omega
          simp [hlt]
        rw [this]; rfl
      have hcl' : closedL ops (listed.setIfInBounds i true) := by
        intro q o ho hq e hee hb
        by_cases hqi : q = i
        · subst hqi
          rw [hoi] at ho; cases ho
          exact getD_set_true (hready e hee hb)
        · rw [getD_set_ne true (Ne.symm hqi)] at hq
          exact getD_set_true (hcl q o ho hq e hee hb)
      have hlen' : (remL ord (listed.setIfInBounds i true)).length ≤ fuel := by
        rw [hrem]; rw [hsplit] at hlen
        simp only [List.length_append, List.length_cons] at hlen ⊢
        omega
      have go : ∀ v U w', O v U → St B w0 w' (upds U L) Ds → wpAnyIn (FW rd) n P .any ops Q fuel (listed.setIfInBounds i true) (a.put oi.dst v) w' := fun v U w' hO S' =>
        ih _ _ _ _ _ (by simpa using hsz) hcl' hlen' (by rw [hrem]; exact hnext v U hO) (he.put _ _) ((put_defers_eq _ _ _).trans hdl) S'
      have hs := hv.sound hoki he S
      unfold wpOpIn
      simp only [hoi]
      rw [wanted_gd hok he oi]
      cases hg : gd ops oi ρ with
      | true =>
        simp only [if_true]
        exact (hs.1 hg).step fun v w' ⟨U, hO, S'⟩ => go v U w' hO S'
      | false =>
        obtain ⟨U, hO, S'⟩ := hs.2 hg
        simp only [Bool.false_eq_true, if_false]
        exact ⟨fun _ _ => trivial, go undef U w hO S'⟩
theorem AW.drawL {md : Nat → Option KD} {K : (Nat → Value) → (Nat → HP) → Prop} {Q : Exit → Act → World → Prop} {n id : Nat} {dl : List Deferred} (es : List Nat) {ord : List Nat} (hm : P.follows .mixedOrders = true) (hok : okR N ops = true) (hchk : chkL2 ops md es ord = true)
    (hK : ∀ ρ L a w, K ρ L → Env N a ρ → a.defers = dl → St B w0 w L Ds → Q .normal a w) {ρ : Nat → Value} {L : Nat → HP} {a : Act} {w : World}
    (h : AW P rd B w0 Ds ops md K ord ρ L) (he : Env N a ρ) (hdl : a.defers = dl) (S : St B w0 w L Ds) : (Code.region id ops true).wpIn (FW rd) n P Q a w := by
  refine wpIn_region_any hm ?_
  have hall : remL ord (Array.replicate ops.size false) = ord := by
    unfold remL
    rw [List.filter_eq_self]
    intro i hi
    have h1 := hchk
    unfold chkL2 at h1
    simp only [Bool.and_eq_true, List.all_eq_true] at h1
    have h2 := (h1.2 i hi).2
    have hlt : i < ops.size := by
      cases e : ops[i]? with
      | none => rw [e] at h2; cases h2
      | some o => exact (Array.getElem?_eq_some_iff.1 e).1
    simp [hlt]
  have hlen : ord.length ≤ ops.size := by
    have h1 := hchk
    unfold chkL2 at h1
    simp only [Bool.and_eq_true, List.all_eq_true] at h1
    exact Nat.le_of_eq (beq_t.1 h1.1.1.1.1.2)
  exact AW.anyL hok hchk hK ops.size _ ρ L a _ (by simp) (fun q o ho hq => by
      have hlt : q < ops.size := (Array.getElem?_eq_some_iff.1 ho).1
      simp [hlt] at hq) (by rw [hall]; exact hlen) (by rw [hall]; exact h) he hdl S.drew
end
section
variable {P : Program} {rd : Option Nat} {N : Nat} {Q : Post} {ρ : Nat → Value} {Ds : List Nat} {w : World} {B : Nat → Prop} {w0 : World} {L : Nat → HP}
theorem W.drawL {id : Nat} {ops : Array Oper} (S : St B w0 w L Ds) (hm : P.follows .mixedOrders = true) (md : Nat → Option KD) (es ord : List Nat) (hchk : chkL2 ops md es ord = true)
    (h : AW P rd B w0 Ds ops md (fun ρ' L' => ∀ w', St B w0 w' L' Ds → Q .normal ρ' Ds w') ord ρ L) : W P rd N (.region id ops true) Q ρ Ds w := by
  intro ok n a he hd
  exact AW.drawL es hm ok hchk (fun ρ' L' a' w' hK he' hd' S' => ⟨ρ', Ds, he', hd', hK w' S'⟩) h he hd S
end
end Go.Hu

/-
  The rest of a slice.
-/
namespace Go.Hu
open Go.RowKit
/-- Where the rest of a slice begins. -/
def dropA (a : Option Addr) (cap k s : Nat) : Option Addr := if cap = k then a else a.map fun z => z.add (k * s)
section
variable {P : Program} {rd : Option Nat} {B : Nat → Prop} {w0 : World} {Ds : List Nat} {ops : Array Oper} {m : Option KD} {ρ : Nat → Value} {L : Nat → HP} {next : (Nat → Value) → (Nat → HP) → Prop}
variable {d : Tmp} {ty : TypeId} {pos : String} {aft : Array Edge} {g : Option (Nat × Bool)}
/-- x[l:] -/
theorem sp_slL {x yl : Operand} {T E s len cap : Nat} {a : Option Addr} {l' : Int} (hx : ev ρ x = .slice a len cap) (hl : ev ρ yl = .int .i64 l') (hT : slB P T E s = true) (hr : 0 ≤ l' ∧ l' ≤ len) (hc : len ≤ cap)
    (h : next (upd ρ d (.slice (dropA a cap l'.toNat s) (len - l'.toNat) (cap - l'.toNat))) L) (hg : gd ops ⟨some d, .slice T x (some yl) none none, ty, pos, aft, g⟩ ρ = true := by rfl) (hm : okk m (.q []) := by first | exact trivial | exact rfl) :
    SP P rd B w0 Ds ops m ⟨some d, .slice T x (some yl) none none, ty, pos, aft, g⟩ ρ L next := by
  refine SP.q [] (.slice (dropA a cap l'.toNat s) (len - l'.toNat) (cap - l'.toNat)) hg hm (fun a' F w ho _ _ => ?_) h
  have e1 := ho x (by simp [Op.operands])
  have e2 := ho yl (by simp [Op.operands])
  have hz : (sizeOf E).run P w = .ok s w := szB_run (slB_sz hT)
  have h1 : l' ≤ cap := by omega
  have key : (if cap = l'.toNat then a else a.map fun z => z.add (l'.toNat * s)) = dropA a cap l'.toNat s := rfl
  simp [execOp, e1, e2, hx, hl, Instr.sliceAt, Instr.slice, run_underlying (slB_und hT), Instr.sliceBounds, Instr.sliceBound, asIntOf, hr.1, hr.2, hz, dropA]
theorem Rd.drop {w : World} {a : Option Addr} {c n s : Nat} {xs : List Value} (h : Rd w (.slice a n c) n s xs) {k : Nat} (hk : k ≤ n) : Rd w (.slice (dropA a c k s) (n - k) (c - k)) (n - k) s (xs.drop (k * s)) := by
  refine ⟨by rw [List.length_drop, h.1, Nat.sub_mul], Nat.le_trans (Nat.sub_le _ _) h.2.1, ?_⟩
  rcases h.2.2 with ⟨rfl, a', c', he⟩ | ⟨b, off, cap, he, hc, hcs⟩
  · exact .inl ⟨by omega, _, _, by rw [show 0 - k = 0 by omega]⟩
  · injection he with h1 h2 h3
    subst h1 h3
    by_cases e : c = k
    · exact .inl ⟨by omega, _, _, by rw [show n - k = 0 by omega]⟩
    have ed : dropA (some ⟨b, off, Option.none⟩) c k s = some ⟨b, off + k * s, Option.none⟩ := by unfold dropA; rw [if_neg e]; simp [Addr.add]
    rw [ed]
    refine .inr ⟨b, off + k * s, c - k, rfl, by omega, fun j u hu => ?_⟩
    rw [List.getElem?_drop] at hu
    have := hcs _ u hu
    rwa [show off + (k * s + j) = off + k * s + j by omega] at this
end
/-- A piece goes under another key; what lay there is let go. -/
theorem St.rename {B : Nat → Prop} {w0 w : World} {L : Nat → HP} {Ds : List Nat} (S : St B w0 w L Ds) (k k' : Nat) (_hk : k ≠ k') : St B w0 w (upd (upd L k' emp) k (L k')) Ds := by
  obtain ⟨m, fs, h1, h2, h3, h4, h5⟩ := S
  have key : ∀ j, upd (upd fs k' fnone) k (fs k') j = if j = k then fs k' else if j = k' then fnone else fs j := fun j => by simp only [upd_apply]
  refine ⟨m, upd (upd fs k' fnone) k (fs k'), fun j => ?_, fun i j b hij hi => ?_, fun j b o hj => ?_, h4, fun D hD => ⟨(h5 D hD).1, (h5 D hD).2.1, fun j => ?_⟩⟩
  · rw [key]
    simp only [upd_apply]
    split
    · exact h1 k'
    · split
      · exact emp_fnone
      · exact h1 j
  · rw [key] at hi ⊢
    split at hi
    · next e =>
      split
      · next e' => exact absurd (e.trans e'.symm) hij
      · split
        · rfl
        · next e2 => exact h2 k' j b (fun e3 => e2 e3.symm) hi
    · split at hi
      · exact absurd rfl hi
      · next e1 e2 =>
        split
        · exact h2 i k' b e2 hi
        · split
          · rfl
          · exact h2 i j b hij hi
  · rw [key] at hj
    split at hj
    · exact h3 k' b o hj
    · split at hj
      · cases hj
      · exact h3 j b o hj
  · rw [key]
    split
    · exact (h5 D hD).2.2 k'
    · split
      · rfl
      · exact (h5 D hD).2.2 j
end Go.Hu

/-
  Slices of slices and of arrays; what is cut out of the middle of a slice of one's own; a memory that holds slices by numbers.
-/
namespace Go.Hu
open Go.RowKit
def fput (f : Frag) (b : Nat) (o : Obj) : Frag := fun x => if x = b then some o else f x
theorem fput_same (f : Frag) (b : Nat) (o : Obj) : fput f b o b = some o := by simp [fput]
theorem fput_ne (f : Frag) {b x : Nat} (o : Obj) (h : x ≠ b) : fput f b o x = f x := by simp [fput, h]
section
variable {B : Nat → Prop} {w0 w : World} {L : Nat → HP} {Ds : List Nat}
/-- A block within the piece under a key becomes another object. -/
theorem St.chgM (S : St B w0 w L Ds) (k : Nat) : ∃ f, L k f ∧ (∀ b o, f b = some o → w.heap[b]? = some o) ∧
    ∀ (b : Nat) (o o' : Obj) (w' : World) (i : HP), f b = some o → Mod (· = b) w w' → w'.heap[b]? = some o' → i (fput f b o') → St B w0 w' (upd L k i) Ds := by
  obtain ⟨m, hs, h1, h2, h3, h4, h5⟩ := S
  refine ⟨hs k, h1 k, fun b o hb => (h3 k b o hb).1, fun b o o' w' ip hkb E ho hip => ?_⟩
  have hg := h3 k b o hkb
  have hne : ∀ j, j ≠ k → hs j b = none := fun j hj => h2 k j b (Ne.symm hj) (by rw [hkb]; simp)
  have keep : ∀ x ob, x ≠ b → w.heap[x]? = some ob → w'.heap[x]? = some ob := fun x ob hx hb => (E.block x (lt_of_some hb) hx).trans hb
  refine ⟨⟨E.os.trans m.os, E.tape.trans m.tape, E.output.trans m.output, Nat.le_trans m.size E.size, fun x hx hB => ?_⟩, upd hs k (fput (hs k) b o'), fun j => ?_, fun i j x hij hi => ?_, fun j x ob hj => ?_, h4, fun D hD => ?_⟩
  · have hxb : x ≠ b := by
      rintro rfl
      rcases hg.2 with hh | hh
      · omega
      · exact hB hh
    exact (E.block x (Nat.lt_of_lt_of_le hx m.size) hxb).trans (m.block x hx hB)
  · rw [upd_apply, upd_apply]; split
    · exact hip
    · exact h1 j
  · have key : ∀ i x, upd hs k (fput (hs k) b o') i x ≠ none → hs i x ≠ none := fun i x h => by
      rw [upd_apply] at h; split at h
      · next e =>
        by_cases hx : x = b
        · rw [hx, e, hkb]; simp
        · rw [fput_ne _ _ hx] at h; rw [e]; exact h
      · exact h
    have h' := h2 i j x hij (key i x hi)
    cases e : upd hs k (fput (hs k) b o') j x with
    | none => rfl
    | some z => exact absurd h' (key j x (by rw [e]; simp))
  · rw [upd_apply] at hj; split at hj
    · by_cases hx : x = b
      · rw [hx, fput_same] at hj; injection hj with hj; rw [hx, ← hj]; exact ⟨ho, hg.2⟩
      · rw [fput_ne _ _ hx] at hj; exact ⟨keep x ob hx (h3 k x ob hj).1, (h3 k x ob hj).2⟩
    · next e =>
      have hx : x ≠ b := by rintro rfl; rw [hne j e] at hj; cases hj
      exact ⟨keep x ob hx (h3 j x ob hj).1, (h3 j x ob hj).2⟩
  · have hD' := h5 D hD
    have hx : D ≠ b := by rintro rfl; have := hD'.2.2 k; rw [hkb] at this; cases this
    refine ⟨keep D _ hx hD'.1, hD'.2.1, fun j => ?_⟩
    rw [upd_apply]; split
    · rw [fput_ne _ _ hx]; exact hD'.2.2 k
    · exact hD'.2.2 j
/-- The piece under a key is lent: which blocks it may change. -/
theorem St.lendX (S : St B w0 w L Ds) (K K' : Nat) :
    ∃ Bp : Nat → Prop, St Bp w w (upd eL K' (L K)) [] ∧ (∀ w' i, St Bp w w' (upd eL 0 i) [] → St B w0 w' (upd L K i) Ds) ∧ (∀ x, Bp x → w0.heap.size ≤ x ∨ B x) ∧ ∀ k b o, k ≠ K → L k = pt b o → ¬ Bp b := by
  obtain ⟨Bp, hBp, h1, h2⟩ : ∃ Bp : Nat → Prop, (∃ hs : Nat → Frag, (∀ x, Bp x ↔ hs K x ≠ none) ∧ (∀ k, L k (hs k)) ∧ (∀ i j b, i ≠ j → hs i b ≠ none → hs j b = none) ∧ (∀ k b o, hs k b = some o → w.heap[b]? = some o ∧ (w0.heap.size ≤ b ∨ B b))) ∧ St Bp w w (upd eL K' (L K)) [] ∧ ∀ w' i, St Bp w w' (upd eL 0 i) [] → St B w0 w' (upd L K i) Ds := by
    obtain ⟨m, hs, h1, h2, h3, h4, h5⟩ := S
    refine ⟨fun b => hs K b ≠ none, ⟨hs, fun _ => Iff.rfl, h1, h2, h3⟩, ⟨Mod.refl _ w, upd (fun _ => fnone) K' (hs K), fun j => ?_, fun i j b hij hi => ?_, fun j b o hj => ?_, List.nodup_nil, fun D hD => by cases hD⟩, ?_⟩
    · simp only [upd_apply]; split
      · exact h1 K
      · exact emp_fnone
    · simp only [upd_apply] at hi ⊢
      split at hi
      · next e => rw [if_neg (fun e' => hij (e.trans e'.symm))]; rfl
      · exact absurd rfl hi
    · simp only [upd_apply] at hj; split at hj
      · exact ⟨(h3 K b o hj).1, .inr (by rw [hj]; simp)⟩
      · cases hj
    · intro w' i S'
      obtain ⟨m', hr, r1, r2, r3, _, _⟩ := S'
      have old : ∀ j b o, hs j b = some o → b < w.heap.size := fun j b o e => lt_of_some (h3 j b o e).1
      have keep : ∀ j b o, j ≠ K → hs j b = some o → w'.heap[b]? = some o := fun j b o hj e => by
        refine (m'.block b (old j b o e) ?_).trans (h3 j b o e).1
        intro hn; exact hn (h2 j K b hj (by rw [e]; simp))
      have r0 : ∀ b o, hr 0 b = some o → w'.heap[b]? = some o ∧ (w.heap.size ≤ b ∨ hs K b ≠ none) := fun b o e => r3 0 b o e
      refine ⟨⟨m'.os.trans m.os, m'.tape.trans m.tape, m'.output.trans m.output, Nat.le_trans m.size m'.size, fun x hx hB => ?_⟩, upd hs K (hr 0), fun j => ?_, fun j j' b hij hi => ?_, fun j b o hj => ?_, h4, fun D hD => ?_⟩
      · refine (m'.block x (Nat.lt_of_lt_of_le hx m.size) ?_).trans (m.block x hx hB)
        intro hn
        cases e : hs K x with
        | none => exact hn e
        | some o =>
          rcases (h3 K x o e).2 with h | h
          · omega
          · exact hB h
      · simp only [upd_apply]; split
        · have := r1 0; rwa [upd_same] at this
        · exact h1 j
      · simp only [upd_apply] at hi ⊢
        split at hi
        · next e =>
          rw [if_neg (fun e' => hij (e.trans e'.symm))]
          cases e3 : hr 0 b with
          | none => exact absurd e3 hi
          | some o =>
            cases e2 : hs j' b with
            | none => rfl
            | some o' =>
              rcases (r0 b o e3).2 with h | h
              · have := old j' b o' e2; omega
              · rw [h2 K j' b (fun e' => hij (e.trans e')) h] at e2; cases e2
        · next e =>
          split
          · cases e3 : hr 0 b with
            | none => rfl
            | some o =>
              cases e2 : hs j b with
              | none => exact absurd e2 hi
              | some o' =>
                rcases (r0 b o e3).2 with h | h
                · have := old j b o' e2; omega
                · rw [h2 K j b (fun e' => e e'.symm) h] at e2; cases e2
          · exact h2 j j' b hij hi
      · simp only [upd_apply] at hj; split at hj
        · refine ⟨(r0 b o hj).1, ?_⟩
          rcases (r0 b o hj).2 with h | h
          · exact .inl (Nat.le_trans m.size h)
          · cases e : hs K b with
            | none => exact absurd e h
            | some o' => exact (h3 K b o' e).2
        · next e => exact ⟨keep j b o e hj, (h3 j b o hj).2⟩
      · have hD' := h5 D hD
        refine ⟨(m'.block D (lt_of_some hD'.1) (fun hn => hn (hD'.2.2 K))).trans hD'.1, hD'.2.1, fun j => ?_⟩
        simp only [upd_apply]; split
        · cases e3 : hr 0 D with
          | none => rfl
          | some o =>
            rcases (r0 D o e3).2 with h | h
            · have := lt_of_some hD'.1; omega
            · exact absurd (hD'.2.2 K) h
        · exact hD'.2.2 j
  obtain ⟨hs, e1, e2, e3, e4⟩ := hBp
  refine ⟨Bp, h1, h2, fun x hx => ?_, fun k b o hk hl hb => ?_⟩
  · have := (e1 x).1 hx
    cases e : hs K x with
    | none => exact absurd e this
    | some o => exact (e4 K x o e).2
  · have hkb : hs k b = some o := by have := e2 k; rw [hl] at this; exact this.1
    exact (e1 b).1 hb (e3 k K b hk (by rw [hkb]; simp))
end
section
variable {P : Program} {rd : Option Nat} {B : Nat → Prop} {w0 : World} {Ds : List Nat} {ops : Array Oper} {m : Option KD} {ρ : Nat → Value} {L : Nat → HP} {next : (Nat → Value) → (Nat → HP) → Prop}
variable {d : Tmp} {ty : TypeId} {pos : String} {aft : Array Edge} {g : Option (Nat × Bool)}
/-- x[l:h] -/
theorem sp_slLH {x yl yh : Operand} {T E s len cap : Nat} {a : Option Addr} {l' h' : Int} (hx : ev ρ x = .slice a len cap) (hl : ev ρ yl = .int .i64 l') (hh : ev ρ yh = .int .i64 h') (hT : slB P T E s = true) (hr : 0 ≤ l' ∧ l' ≤ h' ∧ h' ≤ cap)
    (h : next (upd ρ d (.slice (dropA a cap l'.toNat s) (h'.toNat - l'.toNat) (cap - l'.toNat))) L) (hg : gd ops ⟨some d, .slice T x (some yl) (some yh) none, ty, pos, aft, g⟩ ρ = true := by rfl) (hm : okk m (.q []) := by first | exact trivial | exact rfl) :
    SP P rd B w0 Ds ops m ⟨some d, .slice T x (some yl) (some yh) none, ty, pos, aft, g⟩ ρ L next := by
  refine SP.q [] (.slice (dropA a cap l'.toNat s) (h'.toNat - l'.toNat) (cap - l'.toNat)) hg hm (fun a' F w ho _ _ => ?_) h
  have e1 := ho x (by simp [Op.operands])
  have e2 := ho yl (by simp [Op.operands])
  have e3 := ho yh (by simp [Op.operands])
  have hz : (sizeOf E).run P w = .ok s w := szB_run (slB_sz hT)
  obtain ⟨ln, rfl⟩ : ∃ ln : Nat, l' = ln := ⟨l'.toNat, by omega⟩
  obtain ⟨hn, rfl⟩ : ∃ hn : Nat, h' = hn := ⟨h'.toNat, by omega⟩
  have h0 : ln ≤ hn := by omega
  have h1 : hn ≤ cap := by omega
  simp [execOp, e1, e2, e3, hx, hl, hh, Instr.sliceAt, Instr.slice, run_underlying (slB_und hT), Instr.sliceBounds, Instr.sliceBound, asIntOf, h0, h1, hz, dropA, Result.andThen]
/-- x[l:h:m], whatever it is. -/
theorem sp_slF {x yl yh ym : Operand} {T E s len cap : Nat} {a : Option Addr} {l' h' m' : Int} (hx : ev ρ x = .slice a len cap) (hl : ev ρ yl = .int .i64 l') (hh : ev ρ yh = .int .i64 h') (hmm : ev ρ ym = .int .i64 m') (hT : slB P T E s = true) (hr : 0 ≤ l' ∧ l' ≤ h' ∧ h' ≤ m' ∧ m' ≤ cap)
    (h : next (upd ρ d (.slice (dropA a m'.toNat l'.toNat s) (h'.toNat - l'.toNat) (m'.toNat - l'.toNat))) L) (hg : gd ops ⟨some d, .slice T x (some yl) (some yh) (some ym), ty, pos, aft, g⟩ ρ = true := by rfl) (hm : okk m (.q []) := by first | exact trivial | exact rfl) :
    SP P rd B w0 Ds ops m ⟨some d, .slice T x (some yl) (some yh) (some ym), ty, pos, aft, g⟩ ρ L next := by
  refine SP.q [] (.slice (dropA a m'.toNat l'.toNat s) (h'.toNat - l'.toNat) (m'.toNat - l'.toNat)) hg hm (fun a' F w ho _ _ => ?_) h
  have e1 := ho x (by simp [Op.operands])
  have e2 := ho yl (by simp [Op.operands])
  have e3 := ho yh (by simp [Op.operands])
  have e4 := ho ym (by simp [Op.operands])
  have hz : (sizeOf E).run P w = .ok s w := szB_run (slB_sz hT)
  obtain ⟨ln, rfl⟩ : ∃ ln : Nat, l' = ln := ⟨l'.toNat, by omega⟩
  obtain ⟨hn, rfl⟩ : ∃ hn : Nat, h' = hn := ⟨h'.toNat, by omega⟩
  obtain ⟨mn, rfl⟩ : ∃ mn : Nat, m' = mn := ⟨m'.toNat, by omega⟩
  have h0 : ln ≤ hn := by omega
  have h1 : hn ≤ mn := by omega
  have h2 : mn ≤ cap := by omega
  simp [execOp, e1, e2, e3, e4, hx, hl, hh, hmm, Instr.sliceAt, Instr.slice, run_underlying (slB_und hT), Instr.sliceBounds, Instr.sliceBound, asIntOf, h0, h1, h2, hz, dropA, Result.andThen]
/-- A whole array, as a slice. -/
theorem sp_slA {x : Operand} {T E s len b off : Nat} (hx : ev ρ x = .pointer (some ⟨b, off, none⟩)) (hT : arB P T len E s = true)
    (h : next (upd ρ d (.slice (some ⟨b, off, none⟩) len len)) L) (hg : gd ops ⟨some d, .slice T x none none none, ty, pos, aft, g⟩ ρ = true := by rfl) (hm : okk m (.q []) := by first | exact trivial | exact rfl) :
    SP P rd B w0 Ds ops m ⟨some d, .slice T x none none none, ty, pos, aft, g⟩ ρ L next := by
  refine SP.q [] (.slice (some ⟨b, off, none⟩) len len) hg hm (fun a' F w ho _ _ => ?_) h
  have e1 := ho x (by simp [Op.operands])
  have hz : (sizeOf E).run P w = .ok s w := szB_run (arB_sz hT)
  have hl := (arB_und hT).2
  have hne : ¬ len = 0 := by omega
  simp [execOp, e1, hx, Instr.sliceAt, run_underlying (arB_und hT).1, Instr.sureAddr, Instr.sliceBounds, hz, Addr.add, Result.andThen]
/-- array[:h:m] -/
theorem sp_slA3 {x yh ym : Operand} {T E s len b off : Nat} {h' m' : Int} (hx : ev ρ x = .pointer (some ⟨b, off, none⟩)) (hh : ev ρ yh = .int .i64 h') (hmm : ev ρ ym = .int .i64 m') (hT : arB P T len E s = true) (hr : 0 ≤ h' ∧ h' ≤ m' ∧ m' ≤ len)
    (h : next (upd ρ d (.slice (some ⟨b, off, none⟩) h'.toNat m'.toNat)) L) (hg : gd ops ⟨some d, .slice T x none (some yh) (some ym), ty, pos, aft, g⟩ ρ = true := by rfl) (hm : okk m (.q []) := by first | exact trivial | exact rfl) :
    SP P rd B w0 Ds ops m ⟨some d, .slice T x none (some yh) (some ym), ty, pos, aft, g⟩ ρ L next := by
  refine SP.q [] (.slice (some ⟨b, off, none⟩) h'.toNat m'.toNat) hg hm (fun a' F w ho _ _ => ?_) h
  have e1 := ho x (by simp [Op.operands])
  have e2 := ho yh (by simp [Op.operands])
  have e3 := ho ym (by simp [Op.operands])
  have hz : (sizeOf E).run P w = .ok s w := szB_run (arB_sz hT)
  obtain ⟨hn, rfl⟩ : ∃ hn : Nat, h' = hn := ⟨h'.toNat, by omega⟩
  obtain ⟨mn, rfl⟩ : ∃ mn : Nat, m' = mn := ⟨m'.toNat, by omega⟩
  have h1 : hn ≤ mn := by omega
  have h2 : mn ≤ len := by omega
  simp [execOp, e1, e2, e3, hx, hh, hmm, Instr.sliceAt, run_underlying (arB_und hT).1, Instr.sureAddr, Instr.sliceBounds, Instr.sliceBound, asIntOf, h1, h2, hz, Result.andThen, Addr.add]
theorem setRow_mod (w : World) (b : Nat) (r : Array Value) : Mod (· = b) w (w.setRow b r) := ⟨rfl, rfl, rfl, by simp [World.setRow], fun k _ hk => setRow_other w b k _ hk⟩
/-- append(x[:i], x[j:]...), x a slice of one's own: what stands from j on moves down to i. -/
theorem sp_appSelf (K : Nat) {x y : Operand} {T E n cap i j : Nat} {a : Option Addr} {xs : List Value} (hx : ev ρ x = .slice a i cap) (hy : ev ρ y = .slice (dropA a cap j 1) (n - j) (cap - j)) (hT : slB P T E 1 = true) (hz : zsB P E 1 = true) (hK : L K = slc E 1 (.slice a n cap) n xs)
    (h1 : oneB xs = true) (hij : i < j ∧ j ≤ n) (hc : n ≤ cap)
    (h : next (upd ρ d (.slice a (i + (n - j)) cap)) (upd L K (slc E 1 (.slice a n cap) n (xs.take i ++ xs.drop j ++ xs.drop (i + (n - j)))))) (hg : gd ops ⟨some d, .call ⟨.builtin .append, #[x, y], #[T, T]⟩, ty, pos, aft, g⟩ ρ = true := by rfl) (hm : okk m (.e [K] [K]) := by first | exact trivial | exact rfl) :
    SP P rd B w0 Ds ops m ⟨some d, .call ⟨.builtin .append, #[x, y], #[T, T]⟩, ty, pos, aft, g⟩ ρ L next := by
  refine SP.e [K] [K] (fun r U => r = .slice a (i + (n - j)) cap ∧ U = [(K, slc E 1 (.slice a n cap) n (xs.take i ++ xs.drop j ++ xs.drop (i + (n - j))))]) hg hm (fun v U h _ => by obtain ⟨_, rfl⟩ := h; rfl) (fun _ => ⟨_, _, rfl, rfl⟩) (fun a' F w ho hF S => ?_) (fun r U hU => by obtain ⟨rfl, rfl⟩ := hU; exact h)
  have e1 := ho x (by simp [Op.operands, Call.operands])
  have e2 := ho y (by simp [Op.operands, Call.operands])
  have hFk := (hF K (by simp)).trans hK
  obtain ⟨b, cap', cur, he, hcn, hxl, hcl, ht, S1⟩ := S.slc_open hFk (by omega)
  injection he with ha _ hcap
  subst ha hcap
  obtain ⟨i', z, hi, his, hiz, hs0, hby, hzs⟩ := zsB_spec hz
  have hu := slB_und hT
  rw [Nat.mul_one] at hxl hcl ht
  have hb := (S1.get (upd_same _ _ _)).1
  have hdl : (xs.drop j).length = (n - j) * i'.size := by rw [his, List.length_drop, hxl, Nat.mul_one]
  have hone : ∀ u ∈ xs.drop j, u.oneCell' = true := fun u hu => (List.all_eq_true.1 h1) u (List.mem_of_mem_drop hu)
  obtain ⟨ad, had⟩ : ∃ ad, dropA (some ⟨b, 0, none⟩) cap j 1 = some ad ∧ ∀ t u, (xs.drop j)[t]? = some u → w.cell? (ad.add t) = some u := by
    by_cases ecj : cap = j
    · refine ⟨⟨b, 0, none⟩, by unfold dropA; rw [if_pos ecj], fun t u hu => ?_⟩
      rw [List.drop_of_length_le (by omega)] at hu; simp at hu
    · refine ⟨⟨b, j, none⟩, by unfold dropA; rw [if_neg ecj, Option.map_some, add_plain]; simp, fun t u hu => ?_⟩
      rw [add_plain, cell_of_block hb, List.getElem?_toArray]
      rw [List.getElem?_drop, ← ht, List.getElem?_take] at hu
      split at hu
      · exact hu
      · cases hu
  have hr := run_append_room (P := P) w T ty E i' hu hi b i cap cur.toArray hb ad (n - j) (cap - j) (xs.drop j) hdl had.2 hone (by omega) (by rw [his, List.length_drop, hxl]; simp; omega)
  obtain ⟨cur2, hcur2⟩ : ∃ cur2, cur2 = cur.take i ++ xs.drop j ++ cur.drop (i + (n - j)) := ⟨_, rfl⟩
  have hrow : (cur.toArray.toList.take (i * i'.size) ++ xs.drop j ++ cur.toArray.toList.drop (i * i'.size + (xs.drop j).length)).toArray = cur2.toArray := by
    rw [hcur2, his, List.length_drop, hxl, Nat.mul_one]
  rw [hrow] at hr
  refine opW.of_run (w' := w.setRow b cur2.toArray) (by intro c hc; cases hc) (v := .slice (some ⟨b, 0, none⟩) (i + (n - j)) cap) ?_ ⟨_, ⟨rfl, rfl⟩, ?_⟩
  · simp [execOp, resolve, invoke, builtin, e1, e2, hx, hy, had.1, hr]
  · have S2 := S1.mod1 (upd_same _ _ _) (setRow_mod w b cur2.toArray) (setRow_heap w b cur.toArray _ E (0, 0) hb)
    rw [upd_upd] at S2
    have hti : cur.take i = xs.take i := by rw [← ht, List.take_take, Nat.min_eq_left (by omega)]
    have S3 := S2.weak (k := K) (i := slc E 1 (.slice (some ⟨b, 0, none⟩) n cap) n (xs.take i ++ xs.drop j ++ xs.drop (i + (n - j)))) (fun f hf => by
      rw [upd_same] at hf
      refine slc_of_pt hf ?_ hc ?_ ?_
      · simp only [List.length_append, List.length_take, List.length_drop, hxl]; omega
      · rw [hcur2]; simp only [List.length_append, List.length_take, List.length_drop, hxl]; omega
      · have hll : (xs.take i ++ xs.drop j).length = i + (n - j) := by rw [List.length_append, List.length_take, List.length_drop, hxl]; omega
        rw [hcur2, hti, Nat.mul_one, List.take_append, List.take_of_length_le (by omega), hll]
        congr 1
        rw [← ht, List.drop_take])
    rwa [upd_upd] at S3
/-- clear(x[l:h]) -/
theorem sp_clear (K : Nat) {y : Operand} {T E n cap l h' : Nat} {a : Option Addr} {xs : List Value} {z : Value} (hy : ev ρ y = .slice (dropA a cap l 1) (h' - l) (cap - l)) (hT : slB P T E 1 = true) (hzv : zvP P E z) (hzc : z.cells = #[z]) (hz1 : z.oneCell' = true) (hK : L K = slc E 1 (.slice a n cap) n xs)
    (hlh : l < h' ∧ h' ≤ n)
    (h : next ρ (upd L K (slc E 1 (.slice a n cap) n (xs.take l ++ List.replicate (h' - l) z ++ xs.drop h')))) (hg : gd ops ⟨none, .call ⟨.builtin .clear, #[y], #[T]⟩, ty, pos, aft, g⟩ ρ = true := by rfl) (hm : okk m (.e [K] [K]) := by first | exact trivial | exact rfl) :
    SP P rd B w0 Ds ops m ⟨none, .call ⟨.builtin .clear, #[y], #[T]⟩, ty, pos, aft, g⟩ ρ L next := by
  refine SP.e [K] [K] (fun _ U => U = [(K, slc E 1 (.slice a n cap) n (xs.take l ++ List.replicate (h' - l) z ++ xs.drop h'))]) hg hm (fun v U h _ => by subst h; rfl) (fun _ => ⟨undef, _, rfl⟩) (fun a' F w ho hF S => ?_) (fun r U hU => by subst hU; exact h)
  have e1 := ho y (by simp [Op.operands, Call.operands])
  have hFk := (hF K (by simp)).trans hK
  obtain ⟨b, cap', cur, he, hcn, hxl, hcl, ht, S1⟩ := S.slc_open hFk (by omega)
  injection he with ha _ hcap
  subst ha hcap
  have hu := slB_und hT
  rw [Nat.mul_one] at hxl hcl ht
  have hb := (S1.get (upd_same _ _ _)).1
  have hda : dropA (some ⟨b, 0, none⟩) cap l 1 = some ⟨b, l, none⟩ := by unfold dropA; rw [if_neg (by omega), Option.map_some, add_plain]; simp
  have hzl : (Builtin.zeroCells z.cells (h' - l)).toList = List.replicate (h' - l) z := by
    rw [hzc]
    simp [Builtin.zeroCells]
    apply List.ext_getElem
    · simp
    · intro i h1 h2
      simp
      rw [Nat.mod_one]; rfl
  have hst := run_storeCells_at P b l E (List.replicate (h' - l) z) 0 cur.toArray w hb (by simp; omega) (fun v hv => by rw [(List.mem_replicate.1 hv).2]; exact hz1)
  obtain ⟨cur2, hcur2⟩ : ∃ cur2, cur2 = cur.take l ++ List.replicate (h' - l) z ++ cur.drop h' := ⟨_, rfl⟩
  have hrow : (cur.toArray.toList.take (l + 0) ++ List.replicate (h' - l) z ++ cur.toArray.toList.drop (l + 0 + (List.replicate (h' - l) z).length)).toArray = cur2.toArray := by
    rw [hcur2, List.length_replicate, Nat.add_zero, show l + (h' - l) = h' by omega]
  rw [hrow] at hst
  have hcr : (Builtin.clear_ #[T] ty #[.slice (some ⟨b, l, none⟩) (h' - l) (cap - l)]).run P w = .ok (.tuple #[]) (w.setRow b cur2.toArray) := by
    obtain ⟨t, ht'⟩ : ∃ t, h' - l = t + 1 := ⟨h' - l - 1, by omega⟩
    rw [ht'] at hzl hst ⊢
    simp only [Builtin.clear_]
    simp [run_underlying hu, hzv w, hzl, hst]
  refine opW.of_run (w' := w.setRow b cur2.toArray) (by intro c hc; cases hc) (v := .tuple #[]) ?_ ⟨_, rfl, ?_⟩
  · simp [execOp, resolve, invoke, builtin, e1, hy, hda, hcr]
  · have S2 := S1.mod1 (upd_same _ _ _) (setRow_mod w b cur2.toArray) (setRow_heap w b cur.toArray _ E (0, 0) hb)
    rw [upd_upd] at S2
    have S3 := S2.weak (k := K) (i := slc E 1 (.slice (some ⟨b, 0, none⟩) n cap) n (xs.take l ++ List.replicate (h' - l) z ++ xs.drop h')) (fun f hf => by
      rw [upd_same] at hf
      refine slc_of_pt hf ?_ hcn ?_ ?_
      · simp only [List.length_append, List.length_take, List.length_drop, List.length_replicate, hxl]; omega
      · rw [hcur2]; simp only [List.length_append, List.length_take, List.length_drop, List.length_replicate]; omega
      · have hti : cur.take l = xs.take l := by rw [← ht, List.take_take, Nat.min_eq_left (by omega)]
        have hll : (xs.take l ++ List.replicate (h' - l) z).length = h' := by rw [List.length_append, List.length_take, List.length_replicate, hxl]; omega
        rw [hcur2, hti, Nat.mul_one, List.take_append, List.take_of_length_le (by omega), hll]
        congr 1
        rw [← ht, List.drop_take])
    rwa [upd_upd] at S3
/-- Fewer of a slice of one's own. -/
theorem slc_short {E n k cap : Nat} {a : Option Addr} {xs : List Value} (hk : k ≤ n) (hk0 : 0 < n) {f : Frag} (h : slc E 1 (.slice a n cap) n xs f) : slc E 1 (.slice a k cap) k (xs.take k) f := by
  refine ⟨by rw [List.length_take, h.1]; omega, ?_⟩
  rcases h.2 with ⟨he, h0, _⟩ | ⟨b, cap', cur, he, hc, hcl, ht, hp⟩
  · omega
  · injection he with h1 h2 h3
    subst h1 h3
    exact .inr ⟨b, cap, cur, rfl, by omega, hcl, by rw [Nat.mul_one] at ht ⊢; rw [← ht, List.take_take, Nat.min_eq_left hk], hp⟩
/-- A field of a struct's value. -/
theorem sp_fld {x : Operand} {T f : Nat} {l : List Value} {v : Value} (hx : ev ρ x = .agg l.toArray) (hr : ∀ w, (Instr.field T (.agg l.toArray) f).run P w = .ok v w)
    (h : next (upd ρ d v) L) (hg : gd ops ⟨some d, .field T x f, ty, pos, aft, g⟩ ρ = true := by rfl) (hm : okk m (.q []) := by first | exact trivial | exact rfl) :
    SP P rd B w0 Ds ops m ⟨some d, .field T x f, ty, pos, aft, g⟩ ρ L next := by
  refine SP.q [] v hg hm (fun a' F w ho _ _ => ?_) h
  have e1 := ho x (by simp [Op.operands])
  simp [execOp, e1, hx, hr]
end
end Go.Hu

/-
  Maps of one's own: slices by numbers (what is remembered), and counts by pairs of numbers.
-/
namespace Go.Hu
open Go.RowKit
/-! ### Slices by numbers -/
/-- Within this piece of the heap a slice reads so. -/
def InH (E : TypeId) (h : Frag) (v : Value) (xs : List Value) : Prop := ∃ (blk cap : Nat) (cur : List Value), v = .slice (some ⟨blk, 0, none⟩) xs.length cap ∧ xs.length ≤ cap ∧ h blk = some (.cells cur.toArray E (0, 0)) ∧ cur.take xs.length = xs ∧ cap ≤ cur.length
def CaP (T : TypeId) (F : Int → List Value) (m : Nat) : HP := fun h => ∃ (es : Array MapEntry) (ck : Nat), h m = some (.map es ck) ∧ ∀ e ∈ es.toList, ∃ s, e.key = .int .i64 s ∧ InH T h e.val (F s)
def CaR (T : TypeId) (F : Int → List Value) (m : Nat) (s : Int) (v : Value) (is : Bool) : HP := fun h => CaP T F m h ∧ (is = true → InH T h v (F s))
theorem CaR.weak {T : TypeId} {F : Int → List Value} {m : Nat} {s : Int} {v : Value} {is : Bool} {h : Frag} (H : CaR T F m s v is h) : CaP T F m h := H.1
theorem InH.sub {T : TypeId} {h h' : Frag} {v : Value} {xs : List Value} (H : InH T h v xs) (hs : ∀ b cs E fr, h b = some (.cells cs E fr) → h' b = some (.cells cs E fr)) : InH T h' v xs := by
  obtain ⟨blk, cap, cur, h1, h2, h3, h4⟩ := H
  exact ⟨blk, cap, cur, h1, h2, hs _ _ _ _ h3, h4⟩
theorem CaP_new {T : TypeId} {F : Int → List Value} {m : Nat} {h : Frag} (H : pt m (.map #[] 0) h) : CaP T F m h := ⟨#[], 0, H.1, fun e he => by simp at he⟩
theorem InH_slc {E : Nat} {v : Value} {xs : List Value} {n : Nat} {h : Frag} (H : slc E 1 v n xs h) (hn : 0 < n) : InH E h v xs := by
  have hl : xs.length = n := by rw [H.1, Nat.mul_one]
  rcases H.2 with ⟨_, h0, _⟩ | ⟨b, cap, cur, he, hc, hcl, ht, hp⟩
  · omega
  · exact ⟨b, cap, cur, by rw [he, hl], by omega, hp.1, by rw [hl]; rw [Nat.mul_one] at ht; exact ht, by rw [Nat.mul_one] at hcl; exact hcl⟩
section
variable {B : Nat → Prop} {w0 w : World} {L : Nat → HP} {Ds : List Nat}
theorem InH_rd {T : TypeId} {f : Frag} {v : Value} {xs : List Value} (H : InH T f v xs) (hf : ∀ b o, f b = some o → w.heap[b]? = some o) (hn : xs.length ≤ 9223372036854775807) : Rd w v xs.length 1 xs := by
  obtain ⟨blk, cap, cur, h1, h2, h3, h4, _⟩ := H
  refine ⟨by rw [Nat.mul_one], hn, .inr ⟨blk, 0, cap, h1, h2, fun j u hu => ?_⟩⟩
  rw [cell_of_block (hf _ _ h3), List.getElem?_toArray, Nat.zero_add]
  rw [← h4, List.getElem?_take] at hu
  split at hu
  · exact hu
  · cases hu
theorem St.caR_rd (S : St B w0 w L Ds) {k m T : Nat} {F : Int → List Value} {s : Int} {v : Value} (h : L k = CaR T F m s v true) (hn : (F s).length ≤ 9223372036854775807) : Rd w v (F s).length 1 (F s) := by
  obtain ⟨f, h1, h2, _⟩ := S.chg k
  rw [h] at h1
  exact InH_rd (h1.2 rfl) h2 hn
theorem St.caR_form (S : St B w0 w L Ds) {k m T : Nat} {F : Int → List Value} {s : Int} {v : Value} (h : L k = CaR T F m s v true) : ∃ a c, v = .slice a (F s).length c ∧ (F s).length ≤ c := by
  obtain ⟨f, h1, h2, _⟩ := S.chg k
  rw [h] at h1
  obtain ⟨blk, cap, cur, h3, h4, _⟩ := h1.2 rfl
  exact ⟨_, cap, h3, h4⟩
end
/-- Of what is remembered only the slice is kept. -/
theorem St.sub {B : Nat → Prop} {w0 w : World} {L : Nat → HP} {Ds : List Nat} (S : St B w0 w L Ds) (k : Nat) {i : HP} (h : ∀ f, L k f → ∃ g : Frag, (∀ b o, g b = some o → f b = some o) ∧ i g) : St B w0 w (upd L k i) Ds := by
  obtain ⟨m, hs, h1, h2, h3, h4, h5⟩ := S
  obtain ⟨g, hg, hi⟩ := h _ (h1 k)
  have key : ∀ j x o, upd hs k g j x = some o → hs j x = some o := fun j x o hj => by
    rw [upd_apply] at hj; split at hj
    · next e => rw [e]; exact hg x o hj
    · exact hj
  have keyn : ∀ j x, upd hs k g j x ≠ none → hs j x ≠ none := fun j x hj => by
    cases e : upd hs k g j x with
    | none => exact absurd e hj
    | some o => rw [key j x o e]; simp
  refine ⟨m, upd hs k g, fun j => ?_, fun i j b hij hi => ?_, fun j b o hj => h3 j b o (key j b o hj), h4, fun D hD => ⟨(h5 D hD).1, (h5 D hD).2.1, fun j => ?_⟩⟩
  · rw [upd_apply, upd_apply]; split
    · exact hi
    · exact h1 j
  · have h' := h2 i j b hij (keyn i b hi)
    cases e : upd hs k g j b with
    | none => rfl
    | some z => exact absurd h' (keyn j b (by rw [e]; simp))
  · cases e : upd hs k g j D with
    | none => rfl
    | some z => exact absurd ((h5 D hD).2.2 j) (keyn j D (by rw [e]; simp))
theorem St.caR_slc {B : Nat → Prop} {w0 w : World} {L : Nat → HP} {Ds : List Nat} (S : St B w0 w L Ds) {k m T : Nat} {F : Int → List Value} {s : Int} {a : Option Addr} {c : Nat} (h : L k = CaR T F m s (.slice a (F s).length c) true) : St B w0 w (upd L k (slc T 1 (.slice a (F s).length c) (F s).length (F s))) Ds := by
  refine S.sub k fun f hf => ?_
  rw [h] at hf
  obtain ⟨blk, cap, cur, h1, h2, h3, h4, h5⟩ := hf.2 rfl
  injection h1 with h1 _ h6
  subst h1 h6
  refine ⟨fone blk (.cells cur.toArray T (0, 0)), fun b o hb => ?_, slc_of_pt (pt_fone _ _) (by rw [Nat.mul_one]) h2 (by rw [Nat.mul_one]; exact h5) (by rw [Nat.mul_one]; exact h4)⟩
  unfold fone at hb; split at hb
  · next e => rw [e, h3]; exact hb
  · cases hb
def keyI (P : Program) (M K E : Nat) : Bool := (match P.underlying M with
  | some (.map k e) => Nat.beq k K && Nat.beq e E
  | _ => false) && (match P.underlying K with
  | some (.int .i64) => true
  | _ => false)
theorem keyI_spec {P : Program} {M K E : Nat} (h : keyI P M K E = true) : P.underlying M = some (.map K E) ∧ P.underlying K = some (.int .i64) := by
  unfold keyI at h
  simp only [Bool.and_eq_true] at h
  refine ⟨?_, ?_⟩
  · cases hu : P.underlying M with
    | none => rw [hu] at h; cases h.1
    | some d => rw [hu] at h; cases d <;> first | (cases h.1; done) | (simp only [Bool.and_eq_true] at h; rw [beq_t.1 h.1.1, beq_t.1 h.1.2])
  · have h2 := h.2
    split at h2
    · next e => exact e
    · cases h2
section
variable {P : Program} {w : World} {M K E : Nat}
theorem keyI_check' (h : keyI P M K E = true) (em : Bool) (n : Nat) (a : Int) : (Instr.checkKey em (n + 1) K (.int .i64 a)).run P w = .ok () w := by
  simp only [Instr.checkKey, Sem.run_bind, run_underlying (keyI_spec h).2, Result.andThen_ok, Sem.run_pure]
theorem keyI_check (h : keyI P M K E = true) (em : Bool) (a : Int) : (Instr.checkKey em 10000 K (.int .i64 a)).run P w = .ok () w := keyI_check' h em 9999 a
theorem findI (s : Int) : ∀ (es : List MapEntry) (i : Nat), (∀ e ∈ es, ∃ s, e.key = .int .i64 s) → (Instr.findNow (.int .i64) (.int .i64 s) es i = some none ∧ ∀ e ∈ es, e.key ≠ .int .i64 s) ∨ ∃ j e, Instr.findNow (.int .i64) (.int .i64 s) es i = some (some (i + j, e.val)) ∧ es[j]? = some e ∧ e.key = .int .i64 s
  | [], i, _ => .inl ⟨rfl, fun e he => by cases he⟩
  | e :: es, i, hk => by
    obtain ⟨t, ht⟩ := hk e (by simp)
    by_cases hst : s = t
    · subst hst
      exact .inr ⟨0, e, by simp [Instr.findNow, Instr.sameNow, ht], by simp, ht⟩
    · have hb : (s == t) = false := by simpa using hst
      rcases findI s es (i + 1) (fun e he => hk e (by simp [he])) with ⟨h1, h2⟩ | ⟨j, e', h1, h2, h3⟩
      · refine .inl ⟨by simp [Instr.findNow, Instr.sameNow, ht, hb, h1], fun e' he' => ?_⟩
        rcases List.mem_cons.1 he' with rfl | he'
        · rw [ht]; intro hh; injection hh with _ hh; exact hst hh.symm
        · exact h2 e' he'
      · exact .inr ⟨j + 1, e', by simp [Instr.findNow, Instr.sameNow, ht, hb, h1]; omega, by simpa using h2, h3⟩
theorem run_findKeyI (h : keyI P M K E = true) (s : Int) (es : List MapEntry) {r : Option (Nat × Value)} (hr : Instr.findNow (.int .i64) (.int .i64 s) es 0 = some r) : (Instr.findKey K (.int .i64 s) es).run P w = .ok r w := by
  simp [Instr.findKey, run_underlying (keyI_spec h).2, hr, Result.andThen]
end
theorem sameB_int (a : Int) : Instr.sameBits 10000 (.int .i64 a) (.int .i64 a) = true := by
  rw [show (10000 : Nat) = 9999 + 1 from rfl]; simp [Instr.sameBits]
theorem setObj_run {P : Program} {w : World} {b ck : Nat} {es : Array MapEntry} (h : w.heap[b]? = some (.map es ck)) (o' : Obj) : (setObj b o').run P w = .ok () (w.putObj b o') := by simp [setObj, Sem.run, h, World.putObj]
section
variable {P : Program} {rd : Option Nat} {B : Nat → Prop} {w0 : World} {Ds : List Nat} {ops : Array Oper} {m : Option KD} {ρ : Nat → Value} {L : Nat → HP} {next : (Nat → Value) → (Nat → HP) → Prop}
variable {d : Tmp} {ty : TypeId} {pos : String} {aft : Array Edge} {g : Option (Nat × Bool)}
/-- Whether, and what, is remembered of a number. -/
theorem sp_lkC (k : Nat) {x y : Operand} {M K E b T : Nat} {F : Int → List Value} {s : Int} (hx : ev ρ x = .map (some b)) (hy : ev ρ y = .int .i64 s) (hM : keyI P M K E = true) (hk : L k = CaP T F b) (hz : zvP P E (.slice none 0 0))
    (h : ∀ v is, next (upd ρ d (.tuple #[v, .bool is])) (upd L k (CaR T F b s v is))) (hg : gd ops ⟨some d, .lookup M x y true, ty, pos, aft, g⟩ ρ = true := by rfl) (hm : okk m (.e [k] [k]) := by first | exact trivial | exact rfl) : SP P rd B w0 Ds ops m ⟨some d, .lookup M x y true, ty, pos, aft, g⟩ ρ L next := by
  refine SP.e [k] [k] (fun r U => ∃ v is, r = .tuple #[v, .bool is] ∧ U = [(k, CaR T F b s v is)]) hg hm (fun v U h _ => by obtain ⟨_, _, _, rfl⟩ := h; rfl) (fun _ => ⟨_, _, undef, false, rfl, rfl⟩) (fun a f w ho hF S => ?_) (fun r U hU => by obtain ⟨v, is, rfl, rfl⟩ := hU; exact h v is)
  have e := ho x (by simp [Op.operands])
  have e' := ho y (by simp [Op.operands])
  have hFk := (hF k (by simp)).trans hk
  obtain ⟨f, hf1, hf2, hf3⟩ := S.chg k
  rw [hFk] at hf1
  have hca := hf1
  obtain ⟨es, ck, hes, hal⟩ := hf1
  have hb := hf2 _ _ hes
  rcases findI s es.toList 0 (fun e he => by obtain ⟨s, h1, _⟩ := hal e he; exact ⟨s, h1⟩) with ⟨h1, _⟩ | ⟨j, en, h1, h2, h3⟩
  · have hr : (Instr.lookup M (.map (some b)) (.int .i64 s) true).run P w = .ok (.tuple #[.slice none 0 0, .bool false]) w := by
      simp [Instr.lookup, run_underlying (keyI_spec hM).1, MapKept.run_getObj_map hb, keyI_check hM, run_findKeyI hM s _ h1, hz w, Result.andThen]
    refine opW.of_run (w' := w) (by intro c hc; cases hc) (v := .tuple #[.slice none 0 0, .bool false]) ?_ ⟨_, ⟨_, _, rfl, rfl⟩, hf3 _ ⟨hca, fun h => by cases h⟩⟩
    simp [execOp, e, e', hx, hy, hr]
  · have hr : (Instr.lookup M (.map (some b)) (.int .i64 s) true).run P w = .ok (.tuple #[en.val, .bool true]) w := by
      simp [Instr.lookup, run_underlying (keyI_spec hM).1, MapKept.run_getObj_map hb, keyI_check hM, run_findKeyI hM s _ h1, Result.andThen]
    refine opW.of_run (w' := w) (by intro c hc; cases hc) (v := .tuple #[en.val, .bool true]) ?_ ⟨_, ⟨_, _, rfl, rfl⟩, hf3 _ ⟨hca, fun _ => ?_⟩⟩
    · simp [execOp, e, e', hx, hy, hr]
    · obtain ⟨t, ht, hin⟩ := hal en (List.mem_of_getElem? h2)
      rw [h3] at ht; injection ht with _ ht; subst ht; exact hin
theorem arr_modify_mem {es : Array MapEntry} {j : Nat} {f : MapEntry → MapEntry} {e : MapEntry} (h : e ∈ (es.modify j f).toList) : e ∈ es.toList ∨ ∃ e0 ∈ es.toList, es[j]? = some e0 ∧ e = f e0 := by
  rw [Array.toList_modify] at h
  obtain ⟨i, hi, he⟩ := List.mem_iff_getElem.1 h
  rw [List.getElem_modify] at he
  split at he
  · next hij =>
    subst hij
    have hi' : j < es.toList.length := by simpa using hi
    exact .inr ⟨_, List.getElem_mem hi', by rw [← Array.getElem?_toList, List.getElem?_eq_getElem hi'], he.symm⟩
  · exact .inl (he ▸ List.getElem_mem _)
/-- A slice of one's own is remembered. -/
theorem sp_muC (k j : Nat) {x y z : Operand} {M K E b n : Nat} {F : Int → List Value} {s : Int} {v : Value} {E0 : Nat} (hkj : k ≠ j) (hx : ev ρ x = .map (some b)) (hy : ev ρ y = .int .i64 s) (hz : ev ρ z = v) (hM : keyI P M K E = true) (hk : ∀ f, L k f → CaP E0 F b f) (hj : L j = slc E0 1 v n (F s)) (hn : 0 < n)
    (h : next ρ (upd (upd L j emp) k (CaR E0 F b s v true))) (hg : gd ops ⟨none, .mapUpdate M x y z, ty, pos, aft, g⟩ ρ = true := by rfl) (hm : okk m (.e [k, j] [k, j]) := by first | exact trivial | exact rfl) : SP P rd B w0 Ds ops m ⟨none, .mapUpdate M x y z, ty, pos, aft, g⟩ ρ L next := by
  refine SP.e [k, j] [k, j] (fun _ U => U = [(k, CaR E0 F b s v true), (j, emp)]) hg hm (fun v U h _ => by subst h; rfl) (fun _ => ⟨undef, _, rfl⟩) (fun a G w ho hF S => ?_) (fun r U hU => by subst hU; exact h)
  have e := ho x (by simp [Op.operands])
  have e' := ho y (by simp [Op.operands])
  have e2 := ho z (by simp [Op.operands])
  have S1 := S.fold (k := k) (k' := j) hkj
  obtain ⟨f, hf1, hf2, hf3⟩ := S1.chgM k
  rw [upd_same, hF k (by simp), hF j (by simp), hj] at hf1
  obtain ⟨g1, g2, hg1, hg2, hdj, rfl⟩ := hf1
  obtain ⟨es, ck, hes, hal⟩ := hk _ hg1
  have hin := InH_slc hg2 hn
  have hfm : (fun b => (g1 b).or (g2 b)) b = some (.map es ck) := by simp [hes]
  have hb := hf2 _ _ hfm
  have sub1 : ∀ (o' : Obj) (b' : Nat) cs E fr, g1 b' = some (.cells cs E fr) → fput (fun b => (g1 b).or (g2 b)) b o' b' = some (.cells cs E fr) := fun o' b' cs E fr hh => by
    have hne : b' ≠ b := fun e => by rw [e, hes] at hh; cases hh
    rw [fput_ne _ _ hne]; simp [hh]
  have sub2 : ∀ (o' : Obj) (b' : Nat) cs E fr, g2 b' = some (.cells cs E fr) → fput (fun b => (g1 b).or (g2 b)) b o' b' = some (.cells cs E fr) := fun o' b' cs E fr hh => by
    have hnn : g1 b' = none := by
      cases e : g1 b' with
      | none => rfl
      | some o => rw [hdj b' (by rw [e]; simp)] at hh; cases hh
    have hne : b' ≠ b := fun e => by rw [e, hes] at hnn; cases hnn
    rw [fput_ne _ _ hne]; simp [hnn, hh]
  obtain ⟨es', ck', hrun, hes'⟩ : ∃ es' ck', (Instr.mapUpdate M (.map (some b)) (.int .i64 s) v).run P w = .ok () (w.putObj b (.map es' ck')) ∧ ∀ e ∈ es'.toList, e ∈ es.toList ∨ (e.key = .int .i64 s ∧ e.val = v) := by
    rcases findI s es.toList 0 (fun e he => by obtain ⟨s, h1, _⟩ := hal e he; exact ⟨s, h1⟩) with ⟨h1, _⟩ | ⟨t, en, h1, h2, h3⟩
    · refine ⟨es.push { key := .int .i64 s, val := v, born := ck }, ck + 1, ?_, fun e he => ?_⟩
      · simp [Instr.mapUpdate, run_underlying (keyI_spec hM).1, MapKept.run_getObj_map hb, keyI_check hM, run_findKeyI hM s _ h1, setObj_run hb, Result.andThen]
      · simp at he
        rcases he with he | rfl
        · exact .inl (by simpa using he)
        · exact .inr ⟨rfl, rfl⟩
    · refine ⟨es.modify t fun e => { e with key := .int .i64 s, val := v }, ck, ?_, fun e he => ?_⟩
      · have hgt : es[t]? = some en := by rw [← Array.getElem?_toList]; exact h2
        simp [Instr.mapUpdate, run_underlying (keyI_spec hM).1, MapKept.run_getObj_map hb, keyI_check hM, run_findKeyI hM s _ h1, setObj_run hb, hgt, h3, Instr.keyThatStays, sameB_int, Result.andThen]
      · rcases arr_modify_mem he with he | ⟨e0, _, _, rfl⟩
        · exact .inl he
        · exact .inr ⟨rfl, rfl⟩
  refine opW.of_skip (w' := w.putObj b (.map es' ck')) (by intro c hc; cases hc) ?_ ⟨_, rfl, ?_⟩
  · simp [execOp, e, e', e2, hx, hy, hz, hrun]
  · have S2 := hf3 b _ (.map es' ck') (w.putObj b (.map es' ck')) (CaR E0 F b s v true) hfm (Mod.putObj (· = b) w _ rfl) (World.putObj_heap_same (lt_of_some hb)) ⟨⟨es', ck', fput_same _ _ _, fun e he => by
      rcases hes' e he with he | ⟨h1, h2⟩
      · obtain ⟨t, ht, hin⟩ := hal e he
        exact ⟨t, ht, hin.sub (sub1 _)⟩
      · exact ⟨s, h1, by rw [h2]; exact hin.sub (sub2 _)⟩⟩, fun _ => hin.sub (sub2 _)⟩
    rw [upd_upd] at S2
    exact S2
end
/-! ### Counts by pairs of numbers -/
def gtL : List (Int × Int × Int) → Int → Int → Option (Nat × Int)
  | [], _, _ => none
  | p :: l, x, y => if p.1 = x ∧ p.2.1 = y then some (0, p.2.2) else (gtL l x y).map fun q => (q.1 + 1, q.2)
def cnL (l : List (Int × Int × Int)) (x y : Int) : Int := match gtL l x y with | some q => q.2 | none => 0
def upL : List (Int × Int × Int) → Int → Int → Int → List (Int × Int × Int)
  | [], _, _, _ => []
  | p :: l, x, y, n => if p.1 = x ∧ p.2.1 = y then (x, y, n) :: l else p :: upL l x y n
theorem gtL_upL {x y : Int} {n : Int} (x' y' : Int) : ∀ {l : List (Int × Int × Int)}, (gtL l x y).isSome = true → gtL (upL l x y n) x' y' = if x' = x ∧ y' = y then (gtL l x y).map fun q => (q.1, n) else gtL l x' y'
  | [], h => by simp [gtL] at h
  | p :: l, h => by
    by_cases hp : p.1 = x ∧ p.2.1 = y
    · by_cases hq : x' = x ∧ y' = y
      · obtain ⟨rfl, rfl⟩ := hq
        simp [upL, gtL, hp]
      · have h1 : ¬ (x = x' ∧ y = y') := fun e => hq ⟨e.1.symm, e.2.symm⟩
        have h2 : ¬ (p.1 = x' ∧ p.2.1 = y') := by rw [hp.1, hp.2]; exact h1
        simp only [upL, if_pos hp, gtL, if_neg h1, if_neg h2, if_neg hq]
    · have hs : (gtL l x y).isSome = true := by simpa [gtL, hp] using h
      have ih := gtL_upL (n := n) x' y' hs
      by_cases hq : x' = x ∧ y' = y
      · obtain ⟨rfl, rfl⟩ := hq
        rw [if_pos ⟨rfl, rfl⟩] at ih ⊢
        simp only [upL, if_neg hp, gtL, ih, Option.map_map]
        rfl
      · rw [if_neg hq] at ih ⊢
        simp only [upL, if_neg hp, gtL, ih]
theorem cnL_upL {l : List (Int × Int × Int)} {x y n : Int} (h : (gtL l x y).isSome = true) (x' y' : Int) : cnL (upL l x y n) x' y' = if x' = x ∧ y' = y then n else cnL l x' y' := by
  unfold cnL
  rw [gtL_upL x' y' h]
  by_cases hq : x' = x ∧ y' = y
  · rw [if_pos hq, if_pos hq]
    cases e : gtL l x y with
    | none => rw [e] at h; cases h
    | some q => rfl
  · rw [if_neg hq, if_neg hq]
theorem gtL_snoc {x y : Int} (x' y' n : Int) : ∀ {l : List (Int × Int × Int)}, gtL l x y = none → gtL (l ++ [(x, y, n)]) x' y' = if x' = x ∧ y' = y then some (l.length, n) else gtL l x' y'
  | [], _ => by
    by_cases hq : x' = x ∧ y' = y
    · simp [gtL, hq]
    · have : ¬ (x = x' ∧ y = y') := fun e => hq ⟨e.1.symm, e.2.symm⟩
      simp [gtL, hq, this]
  | p :: l, h => by
    have hp : ¬ (p.1 = x ∧ p.2.1 = y) := fun hp => by simp [gtL, hp] at h
    have hl : gtL l x y = none := by simpa [gtL, hp] using h
    have ih := gtL_snoc x' y' n hl
    by_cases hq : x' = x ∧ y' = y
    · obtain ⟨rfl, rfl⟩ := hq
      rw [if_pos ⟨rfl, rfl⟩] at ih ⊢
      simp only [List.cons_append, gtL, if_neg hp, ih, Option.map_some, List.length_cons]
    · rw [if_neg hq] at ih ⊢
      simp only [List.cons_append, gtL, ih]
theorem upL_mod {f : MapEntry → MapEntry} {x y n : Int} (hf : ∀ e : MapEntry, e.key = pr x y → ((f e).key, (f e).val) = (pr x y, Value.int .i64 n)) : ∀ {l : List (Int × Int × Int)} {es : List MapEntry} {j : Nat} {u : Int}, es.map (fun e => (e.key, e.val)) = l.map (fun p => (pr p.1 p.2.1, Value.int .i64 p.2.2)) → gtL l x y = some (j, u) → (es.modify j f).map (fun e => (e.key, e.val)) = (upL l x y n).map fun p => (pr p.1 p.2.1, Value.int .i64 p.2.2)
  | [], _, _, _, _, h => by simp [gtL] at h
  | p :: l, [], _, _, he, _ => by simp at he
  | p :: l, e :: es, j, u, he, h => by
    simp only [List.map_cons, List.cons.injEq, Prod.mk.injEq] at he
    by_cases hp : p.1 = x ∧ p.2.1 = y
    · simp only [gtL, if_pos hp, Option.some.injEq, Prod.mk.injEq] at h
      obtain ⟨rfl, _⟩ := h
      simp only [List.modify_zero_cons, upL, if_pos hp, List.map_cons, he.2]
      rw [hf e (by rw [he.1.1, hp.1, hp.2])]
    · simp only [gtL, if_neg hp] at h
      cases hg : gtL l x y with
      | none => rw [hg] at h; cases h
      | some q =>
        rw [hg] at h
        simp only [Option.map_some, Option.some.injEq, Prod.mk.injEq] at h
        obtain ⟨rfl, rfl⟩ := h
        have ih := upL_mod hf he.2 hg
        simp only [List.modify_succ_cons, upL, if_neg hp, List.map_cons, ih, he.1.1, he.1.2]
theorem upL_same {x y : Int} : ∀ {l : List (Int × Int × Int)} {j : Nat} {u : Int}, gtL l x y = some (j, u) → upL l x y u = l
  | [], _, _, h => by simp [gtL] at h
  | p :: l, j, u, h => by
    by_cases hp : p.1 = x ∧ p.2.1 = y
    · simp only [gtL, if_pos hp, Option.some.injEq, Prod.mk.injEq] at h
      simp only [upL, if_pos hp]
      obtain ⟨a, b, c⟩ := p
      simp at hp h
      rw [hp.1, hp.2, h.2]
    · simp only [gtL, if_neg hp] at h
      cases hg : gtL l x y with
      | none => rw [hg] at h; cases h
      | some q =>
        rw [hg] at h
        simp only [Option.map_some, Option.some.injEq, Prod.mk.injEq] at h
        obtain ⟨_, rfl⟩ := h
        simp only [upL, if_neg hp, upL_same hg]
theorem gtL_key {x y : Int} : ∀ {l : List (Int × Int × Int)} {es : List MapEntry} {j : Nat} {u : Int}, es.map (fun e => (e.key, e.val)) = l.map (fun p => (pr p.1 p.2.1, Value.int .i64 p.2.2)) → gtL l x y = some (j, u) → ∃ e, es[j]? = some e ∧ e.key = pr x y ∧ e.val = .int .i64 u
  | [], _, _, _, _, h => by simp [gtL] at h
  | p :: l, [], _, _, he, _ => by simp at he
  | p :: l, e :: es, j, u, he, h => by
    simp only [List.map_cons, List.cons.injEq, Prod.mk.injEq] at he
    by_cases hp : p.1 = x ∧ p.2.1 = y
    · simp only [gtL, if_pos hp, Option.some.injEq, Prod.mk.injEq] at h
      obtain ⟨rfl, rfl⟩ := h
      exact ⟨e, by simp, by rw [he.1.1, hp.1, hp.2], he.1.2⟩
    · simp only [gtL, if_neg hp] at h
      cases hg : gtL l x y with
      | none => rw [hg] at h; cases h
      | some q =>
        rw [hg] at h
        simp only [Option.map_some, Option.some.injEq, Prod.mk.injEq] at h
        obtain ⟨rfl, rfl⟩ := h
        obtain ⟨e', h1, h2⟩ := gtL_key he.2 hg
        exact ⟨e', by simpa using h1, h2⟩
section
variable {P : Program} {w : World} {M K E : Nat}
theorem find_gt (h : keyB P M K E = true) (x y : Int) : ∀ (l : List (Int × Int × Int)) (es : List MapEntry) (i : Nat), es.map (fun e => (e.key, e.val)) = l.map (fun p => (pr p.1 p.2.1, Value.int .i64 p.2.2)) →
    (Instr.findAsking K (pr x y) es i).run P w = .ok ((gtL l x y).map fun q => (i + q.1, .int .i64 q.2)) w := by
  intro l
  induction l with
  | nil => intro es i he; cases es with | nil => simp [Instr.findAsking, gtL] | cons e es => simp at he
  | cons p l ih =>
    intro es i he
    cases es with
    | nil => simp at he
    | cons e es =>
      simp only [List.map_cons, List.cons.injEq, Prod.mk.injEq] at he
      by_cases hp : p.1 = x ∧ p.2.1 = y
      · simp only [Instr.findAsking, he.1.1, Sem.run_bind, key_eq h, Result.andThen_ok, he.1.2, gtL, if_pos hp]
        simp [hp.1, hp.2]
      · have : (decide (x = p.1) && decide (y = p.2.1)) = false := by
          simp only [Bool.and_eq_false_iff, decide_eq_false_iff_not]
          by_cases h1 : x = p.1
          · exact .inr fun h2 => hp ⟨h1.symm, h2.symm⟩
          · exact .inl h1
        simp only [Instr.findAsking, he.1.1, Sem.run_bind, key_eq h, this, Result.andThen_ok, gtL, if_neg hp]
        have hh := ih es (i + 1) he.2
        simp only [Bool.false_eq_true, if_false, hh, Option.map_map]
        congr 1
        cases gtL l x y with
        | none => rfl
        | some q => simp; omega
end
def BornOk (es : Array MapEntry) (ck : Nat) : Prop := (es.toList.map (·.born)).Nodup ∧ ∀ e ∈ es.toList, e.born < ck
/-- A map of one's own that counts. -/
def MnP (b : Nat) (q : Int → Int → Int) : HP := fun h => ∃ es ck l, MapIs es l ∧ BornOk es ck ∧ (∀ x y, q x y = cnL l x y) ∧ pt b (.map es ck) h
/-- .. and has an entry with this mark. -/
def MnE (b : Nat) (q : Int → Int → Int) (x y : Int) (st : Int) : HP := fun h => ∃ es ck l j u e, MapIs es l ∧ BornOk es ck ∧ (∀ x y, q x y = cnL l x y) ∧ gtL l x y = some (j, u) ∧ es[j]? = some e ∧ (e.born : Int) = st ∧ pt b (.map es ck) h
theorem MnP_new {b : Nat} {h : Frag} (H : pt b (.map #[] 0) h) : MnP b (fun _ _ => 0) h := ⟨#[], 0, [], rfl, ⟨List.nodup_nil, fun e he => by simp at he⟩, fun _ _ => rfl, H⟩
theorem sameB_pr (x y : Int) : Instr.sameBits 10000 (pr x y) (pr x y) = true := by
  rw [show (10000 : Nat) = 9998 + 1 + 1 from rfl]; simp [Instr.sameBits]
theorem born_modify {es : Array MapEntry} {j : Nat} {f : MapEntry → MapEntry} (hf : ∀ e, (f e).born = e.born) : (es.modify j f).toList.map (·.born) = es.toList.map (·.born) := by
  rw [Array.toList_modify]
  apply List.ext_getElem
  · simp
  · intro i h1 h2
    simp only [List.getElem_map, List.getElem_modify]
    split
    · exact hf _
    · rfl
theorem BornOk.modify {es : Array MapEntry} {ck j : Nat} {f : MapEntry → MapEntry} (h : BornOk es ck) (hf : ∀ e, (f e).born = e.born) : BornOk (es.modify j f) ck := by
  refine ⟨by rw [born_modify hf]; exact h.1, fun e he => ?_⟩
  rcases arr_modify_mem he with he | ⟨e0, he0, _, rfl⟩
  · exact h.2 e he
  · rw [hf]; exact h.2 e0 he0
section
variable {P : Program} {rd : Option Nat} {B : Nat → Prop} {w0 : World} {Ds : List Nat} {ops : Array Oper} {m : Option KD} {ρ : Nat → Value} {L : Nat → HP} {next : (Nat → Value) → (Nat → HP) → Prop}
variable {d : Tmp} {ty : TypeId} {pos : String} {aft : Array Edge} {g : Option (Nat × Bool)}
theorem sp_lkN (k : Nat) {x y : Operand} {M K E b : Nat} {q : Int → Int → Int} {u v : Int} (hx : ev ρ x = .map (some b)) (hy : ev ρ y = pr u v) (hM : keyB P M K E = true) (hk : L k = MnP b q) (hz : zvP P E (.int .i64 0))
    (h : next (upd ρ d (.int .i64 (q u v))) L) (hg : gd ops ⟨some d, .lookup M x y false, ty, pos, aft, g⟩ ρ = true := by rfl) (hm : okk m (.q [k]) := by first | exact trivial | exact rfl) : SP P rd B w0 Ds ops m ⟨some d, .lookup M x y false, ty, pos, aft, g⟩ ρ L next := by
  refine SP.q [k] (.int .i64 (q u v)) hg hm (fun a F w ho hF S => ?_) h
  have e := ho x (by simp [Op.operands])
  have e' := ho y (by simp [Op.operands])
  have hFk := (hF k (by simp)).trans hk
  obtain ⟨f, hf1, hf2, _⟩ := S.chg k
  rw [hFk] at hf1
  obtain ⟨es, ck, l, hes, hbo, hq, hpt⟩ := hf1
  have hb := hf2 _ _ hpt.1
  obtain ⟨hM1, _⟩ := keyB_spec hM
  have h1 := findKey_ask (w := w) hM u v hes
  rw [find_gt hM u v l es.toList 0 hes] at h1
  have hqv := hq u v
  unfold cnL at hqv
  have hr : (Instr.lookup M (.map (some b)) (pr u v) false).run P w = .ok (.int .i64 (q u v)) w := by
    cases hgt : gtL l u v with
    | none => rw [hgt] at h1 hqv; simp at hqv h1; simp [Instr.lookup, run_underlying hM1, MapKept.run_getObj_map hb, key_check hM, h1, hz w, Result.andThen, hqv]
    | some p => rw [hgt] at h1 hqv; simp at hqv h1; simp [Instr.lookup, run_underlying hM1, MapKept.run_getObj_map hb, key_check hM, h1, Result.andThen, hqv]
  simp [execOp, e, e', hx, hy, hr]
theorem sp_me (k : Nat) {x y : Operand} {M K E b : Nat} {q : Int → Int → Int} {u v : Int} (hx : ev ρ x = .map (some b)) (hy : ev ρ y = pr u v) (hM : keyB P M K E = true) (hk : L k = MnP b q) (hz : zvP P E (.int .i64 0))
    (h : ∀ st, next (upd ρ d (.tuple #[.int .i64 (q u v), .int .i64 st])) (upd L k (MnE b q u v st))) (hg : gd ops ⟨some d, .mapEntry M x y, ty, pos, aft, g⟩ ρ = true := by rfl) (hm : okk m (.e [k] [k]) := by first | exact trivial | exact rfl) : SP P rd B w0 Ds ops m ⟨some d, .mapEntry M x y, ty, pos, aft, g⟩ ρ L next := by
  refine SP.e [k] [k] (fun r U => ∃ st, r = .tuple #[.int .i64 (q u v), .int .i64 st] ∧ U = [(k, MnE b q u v st)]) hg hm (fun v U h _ => by obtain ⟨_, _, rfl⟩ := h; rfl) (fun _ => ⟨_, _, 0, rfl, rfl⟩) (fun a F w ho hF S => ?_) (fun r U hU => by obtain ⟨st, rfl, rfl⟩ := hU; exact h st)
  have e := ho x (by simp [Op.operands])
  have e' := ho y (by simp [Op.operands])
  have hFk := (hF k (by simp)).trans hk
  obtain ⟨f, hf1, hf2, hf3⟩ := S.chg k
  rw [hFk] at hf1
  obtain ⟨es, ck, l, hes, hbo, hq, hpt⟩ := hf1
  have hb := hf2 _ _ hpt.1
  have S1 := hf3 _ hpt
  obtain ⟨hM1, _⟩ := keyB_spec hM
  have h1 := findKey_ask (w := w) hM u v hes
  rw [find_gt hM u v l es.toList 0 hes] at h1
  have hqv := hq u v
  unfold cnL at hqv
  have fin : ∀ (es' : Array MapEntry) (ck' : Nat) (st : Int), (Instr.mapEntry M (.map (some b)) (pr u v)).run P w = .ok (.tuple #[.int .i64 (q u v), .int .i64 st]) (w.putObj b (.map es' ck')) → (∀ f, pt b (.map es' ck') f → MnE b q u v st f) → opW P rd ⟨some d, .mapEntry M x y, ty, pos, aft, g⟩ a w (fun r w' => ∃ U, (∃ st, r = .tuple #[.int .i64 (q u v), .int .i64 st] ∧ U = [(k, MnE b q u v st)]) ∧ St B w0 w' (upds U F) Ds) := fun es' ck' st hrun hp => by
    refine opW.of_run (w' := w.putObj b (.map es' ck')) (by intro c hc; cases hc) (v := .tuple #[.int .i64 (q u v), .int .i64 st]) ?_ ⟨_, ⟨st, rfl, rfl⟩, ?_⟩
    · simp [execOp, e, e', hx, hy, hrun]
    · have S2 := S1.put (upd_same _ _ _) (.map es' ck')
      rw [upd_upd] at S2
      have S3 := S2.weak (k := k) (i := MnE b q u v st) (fun f hf => by rw [upd_same] at hf; exact hp f hf)
      rwa [upd_upd] at S3
  cases hgt : gtL l u v with
  | none =>
    rw [hgt] at h1 hqv; simp at hqv h1
    refine fin (es.push { key := pr u v, val := .int .i64 0, born := ck }) (ck + 1) ck ?_ (fun f hf => ?_)
    · simp [Instr.mapEntry, run_underlying hM1, MapKept.run_getObj_map hb, key_check hM, h1, hz w, setObj_run hb, Result.andThen, hqv, goInt]
    · refine ⟨_, _, l ++ [(u, v, 0)], l.length, 0, { key := pr u v, val := .int .i64 0, born := ck }, ?_, ⟨?_, ?_⟩, fun x' y' => ?_, ?_, ?_, rfl, hf⟩
      · simp [MapIs] at hes ⊢; simp [hes]
      · rw [Array.toList_push, List.map_append, List.map_singleton]
        refine List.nodup_append.2 ⟨hbo.1, by simp, fun a ha c hc => ?_⟩
        obtain ⟨e0, he0, rfl⟩ := List.mem_map.1 ha
        have := hbo.2 e0 he0
        simp at hc; subst hc; omega
      · intro e0 he0
        simp at he0
        rcases he0 with he0 | rfl
        · have := hbo.2 e0 (by simpa using he0); omega
        · exact Nat.lt_succ_self ck
      · rw [hq x' y']; unfold cnL; rw [gtL_snoc x' y' 0 hgt]
        by_cases hh : x' = u ∧ y' = v
        · rw [if_pos hh, hh.1, hh.2, hgt]
        · rw [if_neg hh]
      · rw [gtL_snoc u v 0 hgt, if_pos ⟨rfl, rfl⟩]
      · have hsz : es.size = l.length := by have := congrArg List.length hes; simpa using this
        rw [← hsz]; simp
  | some p =>
    obtain ⟨j, n⟩ := p
    rw [hgt] at h1 hqv; simp at hqv h1
    obtain ⟨e0, he0, hk0, hv0⟩ := gtL_key hes hgt
    have hgj : es[j]? = some e0 := by rw [← Array.getElem?_toList]; exact he0
    refine fin (es.modify j fun e => { e with key := pr u v }) ck e0.born ?_ (fun f hf => ?_)
    · simp [Instr.mapEntry, run_underlying hM1, MapKept.run_getObj_map hb, key_check hM, h1, setObj_run hb, Result.andThen, hqv, hgj, hk0, Instr.keyThatStays, sameB_pr, goInt]
    · refine ⟨_, _, l, j, n, { e0 with key := pr u v }, ?_, hbo.modify (f := fun e => { e with key := pr u v }) (fun _ => rfl), hq, hgt, ?_, rfl, hf⟩
      · unfold MapIs
        rw [Array.toList_modify]
        apply List.ext_getElem
        · have := congrArg List.length hes; simpa using this
        · intro i h1 h2
          have hh := congrArg (fun z => z[i]?) hes
          simp only [List.getElem_map, List.getElem_modify]
          simp only [List.getElem?_map] at hh
          have hi1 : i < es.toList.length := by simpa using h1
          have hi2 : i < l.length := by simpa using h2
          rw [List.getElem?_eq_getElem hi1, List.getElem?_eq_getElem hi2] at hh
          simp only [Option.map_some, Option.some.injEq] at hh
          rw [← hh]
          split
          · next e => subst e; rw [List.getElem?_eq_getElem hi1] at he0; injection he0 with he0; rw [he0, hk0]
          · rfl
      · rw [Array.getElem?_modify, if_pos rfl, hgj]; rfl
theorem sp_es (k : Nat) {x y z : Operand} {M b : Nat} {q : Int → Int → Int} {u v st n : Int} (hx : ev ρ x = .map (some b)) (hy : ev ρ y = .int .i64 st) (hz : ev ρ z = .int .i64 n) (hk : L k = MnE b q u v st)
    (h : next ρ (upd L k (MnP b (fun x y => if x = u ∧ y = v then n else q x y)))) (hg : gd ops ⟨none, .entryStore M x y z, ty, pos, aft, g⟩ ρ = true := by rfl) (hm : okk m (.e [k] [k]) := by first | exact trivial | exact rfl) : SP P rd B w0 Ds ops m ⟨none, .entryStore M x y z, ty, pos, aft, g⟩ ρ L next := by
  refine SP.e [k] [k] (fun _ U => U = [(k, MnP b (fun x y => if x = u ∧ y = v then n else q x y))]) hg hm (fun v U h _ => by subst h; rfl) (fun _ => ⟨undef, _, rfl⟩) (fun a F w ho hF S => ?_) (fun r U hU => by subst hU; exact h)
  have e := ho x (by simp [Op.operands])
  have e' := ho y (by simp [Op.operands])
  have e2 := ho z (by simp [Op.operands])
  have hFk := (hF k (by simp)).trans hk
  obtain ⟨f, hf1, hf2, hf3⟩ := S.chg k
  rw [hFk] at hf1
  obtain ⟨es, ck, l, j, n0, e0, hes, hbo, hq, hgt, hgj, hst, hpt⟩ := hf1
  have hb := hf2 _ _ hpt.1
  have S1 := hf3 _ hpt
  have hidx : es.findIdx? (fun e => (e.born : Int) == st) = some j := by
    have hj : j < es.toList.length := by rw [Array.length_toList]; exact (Array.getElem?_eq_some_iff.1 hgj).1
    have hj0 : es.toList[j] = e0 := by
      have := hgj; rw [← Array.getElem?_toList, List.getElem?_eq_getElem hj] at this; exact Option.some.inj this
    rw [show es = es.toList.toArray by simp, List.findIdx?_toArray, List.findIdx?_eq_some_iff_getElem]
    refine ⟨hj, by rw [hj0]; simpa using hst, fun i hi => ?_⟩
    have hi' : i < es.toList.length := by omega
    have hne := (List.pairwise_iff_getElem.1 hbo.1) i j (by simpa using hi') (by simpa using hj) hi
    simp only [List.getElem_map, hj0] at hne
    simp only [ne_eq, Bool.not_eq_true, beq_eq_false_iff_ne]
    omega
  have hr : (Instr.entryStore M (.map (some b)) (.int .i64 st) (.int .i64 n)).run P w = .ok () (w.putObj b (.map (es.modify j fun e => { e with val := .int .i64 n }) ck)) := by
    simp [Instr.entryStore, MapKept.run_getObj_map hb, asInt, asIntOf, hidx, setObj_run hb, Result.andThen]
  refine opW.of_skip (w' := w.putObj b (.map (es.modify j fun e => { e with val := .int .i64 n }) ck)) (by intro c hc; cases hc) ?_ ⟨_, rfl, ?_⟩
  · simp [execOp, e, e', e2, hx, hy, hz, hr]
  · have S2 := S1.put (upd_same _ _ _) (.map (es.modify j fun e => { e with val := .int .i64 n }) ck)
    rw [upd_upd] at S2
    have S3 := S2.weak (k := k) (i := MnP b (fun x y => if x = u ∧ y = v then n else q x y)) (fun f hf => by
      rw [upd_same] at hf
      refine ⟨_, _, upL l u v n, ?_, hbo.modify (f := fun e => { e with val := .int .i64 n }) (fun _ => rfl), fun x' y' => ?_, hf⟩
      · unfold MapIs; rw [Array.toList_modify]; exact upL_mod (fun e he => by rw [he]) hes hgt
      · rw [cnL_upL (by rw [hgt]; rfl)]
        show (if x' = u ∧ y' = v then n else q x' y') = _
        rw [hq x' y'])
    rwa [upd_upd] at S3
end
end Go.Hu

/-
  Functions that are ranged over, with a piece of memory that they change, and loops that are left in the midst.
-/
namespace Go.Hu
open Go.RowKit
/-- What a call of yield runs is a round; it ends with going on (true) or not. -/
def Yx (P : Program) (l : Nat) (args : List Value) (w : World) (R : Bool → World → Prop) : Prop :=
  ∃ f tmps assign body, (Instr.yield l args.toArray).run P w = .ok (.round l f tmps assign body) w ∧ ∀ n, RoundIn (FW none) n P l f tmps assign body w (fun e w' => ∃ b, e = .returned (.bool b) ∧ R b w')
/-- The piece Pc may be changed, but no block of Pr. -/
def Lent (Pc : HP) (Pr : Nat → Prop) (I : World → Prop) : Prop := ∀ W, I W → ∃ Bp : Nat → Prop, (∀ x, Pr x → ¬ Bp x) ∧ St Bp W W (upd eL 0 Pc) [] ∧ ∀ W', St Bp W W' (upd eL 0 Pc) [] → I W'
theorem Lent.ext {Pc : HP} {Pr : Nat → Prop} {I : World → Prop} (h : Lent Pc Pr I) {a b : World} (hI : I a) (E : Ext a b) : I b := by
  obtain ⟨Bp, _, S, k⟩ := h a hI
  exact k b (S.ext E)
/-- Called with a yield, gf yields these items, in this order, until it is told to stop, and returns; it changes the piece Pc alone. D: what it asks of the memory. -/
def IterX (P : Program) (gf : Nat) (lb : List Value) {α : Type} (enc : α → List Value) (items : List α) (Pc : HP) (Pr : Nat → Prop) (D : World → Prop) : Prop :=
  ∀ (l : Nat) (I : Nat → World → Prop) (X : World → Prop), (∀ k, Lent Pc Pr (I k)) → Lent Pc Pr X → (∀ k W, I k W → D W) →
    (∀ k x W, items[k]? = some x → I k W → Yx P l (enc x) W (fun b W' => (b = true ∧ I (k + 1) W') ∨ (b = false ∧ X W'))) → ∀ W, I 0 W →
    Ct P gf (Value.func (.yield l) #[] #[] :: lb).toArray W (fun _ W' => I items.length W' ∨ X W')
theorem opW_yieldx {P : Program} {rd : Option Nat} {dst : Option Tmp} {ty : TypeId} {pos : String} {aft : Array Edge} {g : Option (Nat × Bool)} {x : Operand} {xs : List Operand} {ats : Array TypeId} {a : Act} {ρ : Nat → Value} {w : World} {l : Nat} {args : List Value} {R : Bool → World → Prop}
    (ho : ∀ y ∈ (⟨dst, .call ⟨.value x, xs.toArray, ats⟩, ty, pos, aft, g⟩ : Oper).op.operands, a.eval y = ev ρ y) (hx : ev ρ x = .func (.yield l) #[] #[]) (hargs : xs.map (ev ρ) = args) (hy : Yx P l args w R) :
    opW P rd ⟨dst, .call ⟨.value x, xs.toArray, ats⟩, ty, pos, aft, g⟩ a w (fun v w' => ∃ b, v = .bool b ∧ R b w') := by
  have hx' : a.eval x = .func (.yield l) #[] #[] := (ho x (by simp [Op.operands, Call.operands])).trans hx
  have hargs' : xs.toArray.map a.eval = args.toArray := by
    rw [← hargs, List.map_toArray]
    congr 1
    exact List.map_congr_left fun y hy => ho y (by simp [Op.operands, Call.operands, hy])
  intro n
  obtain ⟨f, tmps, assign, body, hrun, hround⟩ := hy
  refine ⟨fun _ _ => trivial, ?_⟩
  rw [Oper.semAt_eq _ _ _ (by intro c hc; cases hc)]
  have hr : (execOp a.eval ⟨dst, .call ⟨.value x, xs.toArray, ats⟩, ty, pos, aft, g⟩).run P w = .ok (.round l f tmps assign body) w := by
    simp only [List.map_toArray] at hargs'
    simp [execOp, resolve, hx', Deferred.ofValue, invoke, hargs', hrun]
  rw [hr]
  refine ⟨fun h => (FW_depth _ h).elim, RoundIn.mono (hround _) ?_⟩
  rintro e w' ⟨b, rfl, hR⟩
  exact ⟨.bool b, rfl, b, rfl, hR⟩
/-- A round's end: on, or out by a return or an exit. -/
def bdQ (K1 : (Nat → Value) → List Nat → World → Prop) (K2 : Code → (Nat → Value) → List Nat → World → Prop) : Post := fun e ρ Ds w => match e with
  | .normal => K1 ρ Ds w
  | .ret => K2 .ret ρ Ds w
  | .exit id => K2 (.exit id) ρ Ds w
  | _ => False
section
variable {P : Program} {N : Nat} {Q : Post} {ρ : Nat → Value} {w : World} {B : Nat → Prop} {w0 : World} {L : Nat → HP}
set_option maxHeartbeats 1000000 in
/-- The loop over a function that changes the piece under kc. kl, kd: keys for the loop's own record and for its rounds' deferred calls; z: how the loop may be left in the midst. -/
theorem W.rangeX {g : Operand} {ps : List Nat} {assign body : Code} {α β : Type} {enc : α → List Value} {items : List α} {Pc : HP} {Pr : Nat → Prop} {D : World → Prop} {gf : Nat} {lb : List Value} (kl kd : Nat) (K : List Nat) (kc : Nat) (hs : Nat → List (Nat × HP)) (hX : β → List (Nat × HP)) (jmp : β → Code)
    (it : IterX P gf lb enc items Pc Pr D) (S : St B w0 w L []) (hg : ev ρ g = .func (.func gf) #[] lb.toArray) (hcf : cfB P gf = true) (hps : ∀ x, (enc x).length = ps.length) (hh : AllEq (hs 0) L)
    (hK : mem K kl = false ∧ mem K kd = false ∧ Nat.beq kl kd = false) (hk2 : ∀ k, (hs k).all (fun p => mem K p.1) = true) (hk3 : ∀ z, (hX z).all (fun p => mem K p.1) = true)
    (hkc : Nat.beq kc kl = false) (hc1 : ∀ k M, upds (hs k) (msk (kl :: kd :: K) L M) kc = Pc) (hc2 : ∀ z M, upds (hX z) (msk (kl :: kd :: K) L M) kc = Pc)
    (hp1 : ∀ x, Pr x → (x < w0.heap.size ∧ ¬ B x) ∨ ∃ j o, j ≠ kc ∧ (∀ k M, upds (hs k) (msk (kl :: kd :: K) L M) j = pt x o) ∧ (∀ z M, upds (hX z) (msk (kl :: kd :: K) L M) j = pt x o))
    (hD : ∀ k M w1, St B w0 w1 (upds (hs k) (msk (kl :: kd :: K) L M)) [] → D w1)
    (round : ∀ k x l M w1, items[k]? = some x → St B w0 w1 (upds (hs k) (msk (kl :: kd :: K) L M)) [] →
      W P (some l) N assign (nrm fun ρ1 Ds1 w2 => ∃ L1, Agr K (upds (hs k) (msk (kl :: kd :: K) L M)) L1 ∧ Ds1 = [] ∧ St B w0 w2 L1 [] ∧ ∀ r w3, St B w0 w3 (upd L1 kl r) [] →
        W P (some l) N body (bdQ (fun _ Ds3 w4 => ∃ L3, AllEq (hs (k + 1)) L3 ∧ Agr (kl :: K) L1 L3 ∧ L3 kl = r ∧ Ds3 = [] ∧ St B w0 w4 L3 []) (fun c _ Ds3 w4 => ∃ z L3, jmp z = c ∧ AllEq (hX z) L3 ∧ Agr (kl :: K) L1 L3 ∧ L3 kl = r ∧ Ds3 = [] ∧ St B w0 w4 L3 [])) ρ1 [] w3) (updp ρ ps (enc x)) [] w1)
    (next : ∀ d M w1, St B w0 w1 (upds (hs items.length) (msk (kl :: kd :: K) L M)) [d] → Q .normal ρ [d] w1)
    (stop : ∀ z d M w1, St B w0 w1 (upds (hX z) (msk (kl :: kd :: K) L M)) [d] → okC N (jmp z) = true ∧ W P none N (jmp z) Q ρ [d] w1) : W P none N (.rangeFunc g ps.toArray assign body) Q ρ [] w := by
  intro ok n a he hd
  have hkl : mem K kl = false := hK.1
  have hkd : mem K kd = false := hK.2.1
  have hne : kl ≠ kd := fun e => by have := hK.2.2; rw [e, Nat.beq_refl] at this; cases this
  have hcl : kc ≠ kl := fun e => by rw [e, Nat.beq_refl] at hkc; cases hkc
  simp only [okC, Bool.and_eq_true] at ok
  obtain ⟨ok1, ok2, ok3, ok4⟩ := ok
  have hgv := (he.eval ok1).trans hg
  have hd0 : a.defers = [] := by simpa using hd
  refine wpIn_rangeFunc ?_
  intro fn hfn
  obtain ⟨rec, hrec⟩ : ∃ rec : LoopState → Option Code → Loop, rec = fun st pe => { state := st, pending := pe, fn, tmps := a.tmps, params := ps.toArray, assign, body, defers := w.heap.size } := ⟨_, rfl⟩
  have S1 := S.alloc kd (.deferred (some []))
  have S2 := S1.alloc kl (.loop (rec .ready none))
  have hsz : (w.alloc (.deferred (some []))).heap.size = w.heap.size + 1 := by simp
  rw [hsz] at S2
  obtain ⟨l, hl⟩ : ∃ l, w.heap.size + 1 = l := ⟨_, rfl⟩
  obtain ⟨d, hdd⟩ : ∃ d, w.heap.size = d := ⟨_, rfl⟩
  have hdl : w0.heap.size ≤ d := by rw [← hdd]; exact S.mod.size
  have henter := run_enterLoop_outer (P := P) (w := w) fn a.tmps ps.toArray assign body
  have hrw : (w.alloc (.deferred (some []))).alloc (.loop { state := .ready, pending := none, fn, tmps := a.tmps, params := ps.toArray, assign, body, defers := w.heap.size }) = (w.alloc (.deferred (some []))).alloc (.loop (rec .ready none)) := by rw [hrec]
  rw [hrw] at henter
  obtain ⟨w1, hw1⟩ : ∃ w1, (w.alloc (.deferred (some []))).alloc (.loop (rec .ready none)) = w1 := ⟨_, rfl⟩
  rw [hw1] at henter S2
  rw [hl, hdd] at S2 henter
  obtain ⟨I, hI⟩ : ∃ I : Nat → World → Prop, I = fun k v => ∃ L', AllEq (hs k) L' ∧ Agr (kl :: kd :: K) L L' ∧ L' kl = pt l (.loop (rec .ready none)) ∧ L' kd = pt d (.deferred (some [])) ∧ St B w0 v L' [] := ⟨_, rfl⟩
  obtain ⟨X, hXd⟩ : ∃ X : World → Prop, X = fun v => ∃ z L', AllEq (hX z) L' ∧ Agr (kl :: kd :: K) L L' ∧ L' kl = pt l (.loop (rec .done (some (jmp z)))) ∧ L' kd = pt d (.deferred (some [])) ∧ St B w0 v L' [] := ⟨_, rfl⟩
  have hAgr0 : Agr (kl :: kd :: K) L (upd (upd L kd (pt d (.deferred (some [])))) kl (pt l (.loop (rec .ready none)))) := by
    refine Agr.upd (Agr.upd (Agr.refl _ _) _ ?_) _ ?_
    · rw [mem_iff]; simp
    · rw [mem_iff]; simp
  have hI0 : I 0 w1 := by
    rw [hI]
    exact ⟨_, (hh.other (hk2 0) hkd).other (hk2 0) hkl, hAgr0, upd_same _ _ _, by rw [upd_ne _ _ (Ne.symm hne), upd_same], S2⟩
  have lendG : ∀ (us : List (Nat × HP)) (L' : Nat → HP) (v : World), AllEq us L' → Agr (kl :: kd :: K) L L' → St B w0 v L' [] → (∀ M, upds us (msk (kl :: kd :: K) L M) kc = Pc) → (∀ x, Pr x → (x < w0.heap.size ∧ ¬ B x) ∨ ∃ j o, j ≠ kc ∧ ∀ M, upds us (msk (kl :: kd :: K) L M) j = pt x o) →
      ∃ Bp : Nat → Prop, (∀ x, Pr x → ¬ Bp x) ∧ St Bp v v (upd eL 0 Pc) [] ∧ ∀ W', St Bp v W' (upd eL 0 Pc) [] → St B w0 W' L' [] := fun us L' v h1 h2 Sv hc hp => by
    have hform := form h2 h1
    have hLc : L' kc = Pc := by rw [hform]; exact hc L'
    obtain ⟨Bp, T1, T2, T3, T4⟩ := Sv.lendX kc 0
    rw [hLc] at T1
    refine ⟨Bp, fun x hx hb => ?_, T1, fun W' S' => ?_⟩
    · rcases hp x hx with ⟨p1, p2⟩ | ⟨j, o, p1, p2⟩
      · rcases T3 x hb with h | h
        · omega
        · exact p2 h
      · exact T4 j x o p1 (by rw [hform]; exact p2 L') hb
    · have := T2 W' Pc S'
      rwa [← hLc, upd_self] at this
  have lendI : ∀ k, Lent Pc Pr (I k) := fun k v hv => by
    rw [hI] at hv
    obtain ⟨L', h1, h2, h3, h4, Sv⟩ := hv
    obtain ⟨Bp, b1, b2, b3⟩ := lendG (hs k) L' v h1 h2 Sv (hc1 k) (fun x hx => by
      rcases hp1 x hx with h | ⟨j, o, p1, p2, _⟩
      · exact .inl h
      · exact .inr ⟨j, o, p1, p2 k⟩)
    exact ⟨Bp, b1, b2, fun W' S' => by rw [hI]; exact ⟨L', h1, h2, h3, h4, b3 W' S'⟩⟩
  have lendX : Lent Pc Pr X := fun v hv => by
    rw [hXd] at hv
    obtain ⟨z, L', h1, h2, h3, h4, Sv⟩ := hv
    obtain ⟨Bp, b1, b2, b3⟩ := lendG (hX z) L' v h1 h2 Sv (hc2 z) (fun x hx => by
      rcases hp1 x hx with h | ⟨j, o, p1, _, p2⟩
      · exact .inl h
      · exact .inr ⟨j, o, p1, p2 z⟩)
    exact ⟨Bp, b1, b2, fun W' S' => by rw [hXd]; exact ⟨z, L', h1, h2, h3, h4, b3 W' S'⟩⟩
  have hIx : ∀ k x v, items[k]? = some x → I k v → Yx P l (enc x) v (fun b W' => (b = true ∧ I (k + 1) W') ∨ (b = false ∧ X W')) := by
    intro k x v hx hIk
    rw [hI] at hIk
    obtain ⟨L', h1, h2, h3, h4, Sv⟩ := hIk
    have hform := form h2 h1
    have hlv := (Sv.get h3).1
    have hy := run_yield (P := P) (args := (enc x).toArray) hlv (by rw [hrec]; simp [hps])
    refine ⟨fn, ((rec .ready none).params.zip (enc x).toArray).foldl (fun tmps (t, a) => tmps.setIfInBounds t a) (rec .ready none).tmps, assign, body, by rw [hy, hrec], fun n' => ?_⟩
    refine roundIn_of_wpIn (F := FW none) trivial ?_
    have hr := round k x l L' v hx (by rw [← hform]; exact Sv)
    rw [← hform] at hr
    have henv : Env N { tmps := ((rec .ready none).params.zip (enc x).toArray).foldl (fun tmps (t, a) => tmps.setIfInBounds t a) (rec .ready none).tmps, defers := [] } (updp ρ ps (enc x)) := by
      have e1 : ((rec .ready none).params.zip (enc x).toArray).foldl (fun tmps (t, a) => tmps.setIfInBounds t a) (rec .ready none).tmps = (ps.zip (enc x)).foldl (fun tmps (p, v) => tmps.setIfInBounds p v) a.tmps := by
        rw [hrec]; simp
      rw [e1]
      exact Env_params ps (enc x) a.tmps ρ he
    have hass := hr ok3 n' _ henv rfl
    refine wpIn_mono (F := FW (some l)) hass ?_
    rintro e a2 w2 ⟨ρ1, Ds1, he1, hd1, hq1⟩
    cases e with
    | normal =>
      obtain ⟨L1, g1, rfl, Sw2, hbody⟩ := hq1
      have hL1 : L1 kl = pt l (.loop (rec .ready none)) := (g1 kl hkl).trans h3
      have hb2 := (Sw2.get hL1).1
      refine ⟨_, run_beginRound hb2 (by rw [hrec]), ?_⟩
      have Sw3 := Sw2.put hL1 (.loop { rec .ready none with state := .busy })
      have hd1' : a2.defers = [] := by simpa using hd1
      have hAg : ∀ (L3 : Nat → HP), Agr (kl :: K) L1 L3 → ∀ (r : HP), Agr (kl :: kd :: K) L (upd L3 kl r) := fun L3 k2 r t ht => by
        have ht1 : t ∉ kl :: kd :: K := fun h => by rw [(mem_iff _ _).2 h] at ht; cases ht
        simp only [List.mem_cons, not_or] at ht1
        have m1 : mem K t = false := by cases hm : mem K t with | false => rfl | true => exact absurd ((mem_iff _ _).1 hm) ht1.2.2
        have m2 : mem (kl :: K) t = false := by
          cases hm : mem (kl :: K) t with
          | false => rfl
          | true => have := (mem_iff _ _).1 hm; simp [ht1.1, ht1.2.2] at this
        rw [upd_ne _ _ ht1.1, k2 t m2, g1 t m1]
        exact h2 t ht
      have hKd : ∀ (L3 : Nat → HP), Agr (kl :: K) L1 L3 → ∀ (r : HP), upd L3 kl r kd = pt d (.deferred (some [])) := fun L3 k2 r => by
        have m2 : mem (kl :: K) kd = false := by
          cases hm : mem (kl :: K) kd with
          | false => rfl
          | true =>
            have := (mem_iff _ _).1 hm
            rcases List.mem_cons.1 this with h | h
            · exact absurd h.symm hne
            · rw [(mem_iff _ _).2 h] at hkd; cases hkd
        rw [upd_ne _ _ (Ne.symm hne), k2 kd m2, g1 kd hkd]
        exact h4
      have hstop : ∀ (c : Code) (L3 : Nat → HP) (z : β) (w4 : World), jmp z = c → AllEq (hX z) L3 → Agr (kl :: K) L1 L3 → L3 kl = pt l (.loop { rec .ready none with state := .busy }) → St B w0 w4 L3 [] →
          ∃ v w', (Instr.endRound l (some c)).run P w4 = .ok v w' ∧ ∃ b, Ending.returned v = .returned (.bool b) ∧ ((b = true ∧ I (k + 1) w') ∨ (b = false ∧ X w')) := fun c L3 z w4 hz k1 k2 k3 Sw4 => by
        have hb4 := (Sw4.get k3).1
        refine ⟨_, _, run_endRound (some c) hb4, false, rfl, .inr ⟨rfl, ?_⟩⟩
        have Sw5 := Sw4.put k3 (.loop { ({ rec .ready none with state := .busy } : Loop) with state := if (some c : Option Code).isNone then .ready else .done, pending := some c })
        have hrr : ({ ({ rec .ready none with state := .busy } : Loop) with state := if (some c : Option Code).isNone then .ready else .done, pending := some c } : Loop) = rec .done (some (jmp z)) := by rw [hrec, hz]; rfl
        rw [hrr] at Sw5 ⊢
        rw [hXd]
        exact ⟨z, _, k1.other (hk3 _) hkl, hAg L3 k2 _, upd_same _ _ _, hKd L3 k2 _, Sw5⟩
      refine wpIn_mono (F := FW (some l)) (hbody _ _ Sw3 ok4 n' a2 he1 hd1) ?_
      rintro e a4 w4 ⟨ρ4, Ds4, he4, hd4, hq4⟩
      cases e with
      | normal =>
        obtain ⟨L3, k1, k2, k3, rfl, Sw4⟩ := hq4
        have hb4 := (Sw4.get k3).1
        refine ⟨_, _, run_endRound none hb4, true, rfl, .inl ⟨rfl, ?_⟩⟩
        have Sw5 := Sw4.put k3 (.loop { ({ rec .ready none with state := .busy } : Loop) with state := if (none : Option Code).isNone then .ready else .done, pending := none })
        have hrr : ({ ({ rec .ready none with state := .busy } : Loop) with state := if (none : Option Code).isNone then .ready else .done, pending := none } : Loop) = rec .ready none := by rw [hrec]; rfl
        rw [hrr] at Sw5 ⊢
        rw [hI]
        exact ⟨_, k1.other (hk2 _) hkl, hAg L3 k2 _, upd_same _ _ _, hKd L3 k2 _, Sw5⟩
      | ret =>
        obtain ⟨z, L3, hz, k1, k2, k3, rfl, Sw4⟩ := hq4
        exact hstop _ L3 z w4 hz k1 k2 k3 Sw4
      | exit id =>
        obtain ⟨z, L3, hz, k1, k2, k3, rfl, Sw4⟩ := hq4
        exact hstop _ L3 z w4 hz k1 k2 k3 Sw4
      | _ => exact hq4.elim
    | _ => exact hq1.elim
  have hcall := it l I X lendI lendX
    (fun k v hk => by rw [hI] at hk; obtain ⟨L', c1, c2, c3, c4, c5⟩ := hk; exact hD k L' v (by rw [← form c2 c1]; exact c5)) hIx w1 hI0
  refine ⟨l, [{ target := .collected d, args := #[] }], w1, { target := .fn (.func gf) lb.toArray, args := #[.func (.yield l) #[] #[]] }, w1, gf, (Value.func (.yield l) #[] #[] :: lb).toArray, w1, henter, ?_, fun _ _ => trivial, ?_, fun h => (FW_depth _ h).elim, ?_⟩
  · simp only [resolve, hgv]
    simp [go_sem]
  · have e1 : (#[Value.func (.yield l) #[] #[]] ++ lb.toArray) = (Value.func (.yield l) #[] #[] :: lb).toArray := by simp
    simp only [invoke, e1]
    exact cfB_run hcf _ _
  · refine CallsIn.mono ((callsIn_wide (P := P)).2 hcall) ?_
    rintro e w3 ⟨v, rfl, hIn⟩
    have hA6 : ∀ L' : Nat → HP, Agr (kl :: kd :: K) L L' → Agr (kl :: kd :: K) L (upd (upd L' kl emp) kd emp) := fun L' c2 => by
      refine Agr.upd (Agr.upd c2 _ ?_) _ ?_
      · rw [mem_iff]; simp
      · rw [mem_iff]; simp
    rcases hIn with hIn | hIn
    · rw [hI] at hIn
      obtain ⟨L', c1, c2, c3, c4, c5⟩ := hIn
      have hend := run_endLoop (P := P) (c5.get c3).1 (by rw [hrec]; simp)
      have hpend : (rec .ready none).pending = none := by rw [hrec]
      refine ⟨(rec .ready none).pending, _, hend, ?_⟩
      rw [hpend]
      have S5 := (c5.put c3 (.loop { rec .ready none with state := .exhausted })).drop kl
      have S6 := S5.mark (k := kd) (d := d) (by rw [upd_upd, upd_ne _ _ (Ne.symm hne)]; exact c4) hdl
      rw [upd_upd] at S6
      have hL6 : AllEq (hs items.length) (upd (upd L' kl emp) kd emp) := (c1.other (hk2 _) hkl).other (hk2 _) hkd
      refine ⟨ρ, [d], he, by simp [mark, hd0], next d (upd (upd L' kl emp) kd emp) _ ?_⟩
      rw [← form (hA6 L' c2) hL6]
      have hrr : ({ rec .ready none with state := .exhausted } : Loop) = { rec .ready none with state := .exhausted, pending := none } := by rw [hrec]
      rw [hrr] at S6
      exact S6
    · rw [hXd] at hIn
      obtain ⟨z, L', c1, c2, c3, c4, c5⟩ := hIn
      have hend := run_endLoop (P := P) (c5.get c3).1 (by rw [hrec]; simp)
      have hpend : (rec .done (some (jmp z))).pending = some (jmp z) := by rw [hrec]
      refine ⟨(rec .done (some (jmp z))).pending, _, hend, ?_⟩
      rw [hpend]
      have S5 := (c5.put c3 (.loop { rec .done (some (jmp z)) with state := .exhausted })).drop kl
      have S6 := S5.mark (k := kd) (d := d) (by rw [upd_upd, upd_ne _ _ (Ne.symm hne)]; exact c4) hdl
      rw [upd_upd] at S6
      have hL6 : AllEq (hX z) (upd (upd L' kl emp) kd emp) := (c1.other (hk3 _) hkl).other (hk3 _) hkd
      have hrr : ({ rec .done (some (jmp z)) with state := .exhausted } : Loop) = { rec .done (some (jmp z)) with state := .exhausted, pending := some (jmp z) } := by rw [hrec]
      rw [hrr] at S6
      rw [form (hA6 L' c2) hL6] at S6
      obtain ⟨hok, hst⟩ := stop z d (upd (upd L' kl emp) kd emp) _ S6
      exact hst hok n _ he (by simp [mark, hd0])
end
end Go.Hu

/-
  Rows of whole numbers, and pairs of them, compared.
-/
namespace Go.Hu
open Go.RowKit
theorem eqP_ints {P : Program} {T E n : Nat} (hT : arB P T n E 1 = true) (hE : P.underlying E = some (.int .i64)) {l r : List Int} (hl : l.length = n) (hr : r.length = n) : eqP P T (l.map (Value.int .i64)) (r.map (Value.int .i64)) (l == r) := by
  intro w
  obtain ⟨i, hi, his⟩ := szB_info (arB_sz hT)
  have hE' : scB P E = true := by unfold scB; rw [hE]
  rw [show (10000 : Nat) = 9999 + 1 from rfl, run_equalIn_array w 9999 (t := T) (e := E) (n := n) (i := i) _ _ (arB_und hT).1 hi]
  have hc : P.cellsOf E = 1 := by rw [Program.cellsOf, hi]; simp [his]
  rw [hc]
  have key : ∀ (k j : Nat), j + k = n → (Op.eqItems 9999 E 1 (l.map (Value.int .i64)).toArray (r.map (Value.int .i64)).toArray (List.range' j k)).run P w = .ok (l.drop j == r.drop j) w := by
    intro k
    induction k with
    | zero => intro j hj; rw [List.drop_of_length_le (by omega), List.drop_of_length_le (by omega)]; simp [Op.eqItems]
    | succ k ih =>
      intro j hj
      obtain ⟨p, hp⟩ : ∃ p, l[j]? = some p := ⟨_, List.getElem?_eq_getElem (by omega)⟩
      obtain ⟨q, hq⟩ : ∃ q, r[j]? = some q := ⟨_, List.getElem?_eq_getElem (by omega)⟩
      have e1 : (part E (l.map (Value.int .i64)).toArray (j * 1)).run P w = .ok (.int .i64 p) w := by simp [part, scB_run hE', hp]
      have e2 : (part E (r.map (Value.int .i64)).toArray (j * 1)).run P w = .ok (.int .i64 q) w := by simp [part, scB_run hE', hq]
      have e3 := run_equalIn_int (P := P) w 9998 E .i64 .i64 p q hE
      have d1 : l.drop j = p :: l.drop (j + 1) := by rw [List.drop_eq_getElem_cons (by omega)]; congr 1; rw [List.getElem?_eq_getElem (by omega)] at hp; exact Option.some.inj hp
      have d2 : r.drop j = q :: r.drop (j + 1) := by rw [List.drop_eq_getElem_cons (by omega)]; congr 1; rw [List.getElem?_eq_getElem (by omega)] at hq; exact Option.some.inj hq
      rw [List.range'_succ, d1, d2]
      simp only [Op.eqItems, Sem.run_bind, e1, e2, e3, Result.andThen_ok]
      have := ih (j + 1) (by omega)
      cases hpq : (p == q)
      · simp [hpq]
      · simp only [Bool.not_true, Bool.false_eq_true, if_false, this]
        simp [hpq]
  have := key n 0 (by omega)
  simp only [List.drop_zero] at this
  rw [← List.range_eq_range'] at this
  exact this
theorem eqP_pr {P : Program} {M K E : Nat} (h : keyB P M K E = true) (a b c d : Int) : eqP P K [.int .i64 a, .int .i64 b] [.int .i64 c, .int .i64 d] (decide (a = c) && decide (b = d)) := fun w => by
  have := key_eq (w := w) h a b c d
  unfold Op.equal at this
  exact this
end Go.Hu

/-
  Calls with the world in sight; cells of a slice in the midst of a block.
-/
namespace Go.Hu
open Go.RowKit
section
variable {P : Program} {rd : Option Nat} {N : Nat} {Q : Post} {ρ : Nat → Value} {Ds : List Nat} {w : World} {ops : Array Oper}
variable {dst : Option Tmp} {ty : TypeId} {pos : String} {aft : Array Edge} {g : Option (Nat × Bool)}
theorem OW.call {i : Nat} {r : List Nat} {x : Operand} {xs : Array Operand} {ats : Array TypeId} {f : FuncId} {fs cs vs : List Value} {R : Value → World → Prop} (ho : ops[i]? = some ⟨dst, .call ⟨.value x, xs, ats⟩, ty, pos, aft, g⟩)
    (hx : ev ρ x = .func (.func f) fs.toArray cs.toArray) (hargs : cargs ρ fs xs.toList cs = vs) (hf : cfB P f = true) (hc : Ct P f vs.toArray w R)
    (hn : ∀ v w', R v w' → OW P rd N ops Q r (updo ρ dst v) Ds w') (hg : gd ops ⟨dst, .call ⟨.value x, xs, ats⟩, ty, pos, aft, g⟩ ρ = true := by rfl) : OW P rd N ops Q (i :: r) ρ Ds w := by
  refine OW.raw R ho hg (fun a hop => ?_) hn
  have e1 : a.eval x = ev ρ x := hop x (by simp [Op.operands, Call.operands])
  have e2 : xs.map a.eval = xs.map (ev ρ) := Array.map_congr_left fun y hy => hop y (by simp [Op.operands, Call.operands]; exact .inr hy)
  exact opW_call (e1.trans hx) (cargs_eq e2 hargs) hf hc
theorem OW.yield {i : Nat} {r : List Nat} {x : Operand} {xs : List Operand} {ats : Array TypeId} {l : Nat} {args : List Value} {R : Bool → World → Prop} (ho : ops[i]? = some ⟨dst, .call ⟨.value x, xs.toArray, ats⟩, ty, pos, aft, g⟩)
    (hx : ev ρ x = .func (.yield l) #[] #[]) (hargs : xs.map (ev ρ) = args) (hy : Yx P l args w R)
    (hn : ∀ b w', R b w' → OW P rd N ops Q r (updo ρ dst (.bool b)) Ds w') (hg : gd ops ⟨dst, .call ⟨.value x, xs.toArray, ats⟩, ty, pos, aft, g⟩ ρ = true := by rfl) : OW P rd N ops Q (i :: r) ρ Ds w := by
  refine OW.raw (fun v w' => ∃ b, v = .bool b ∧ R b w') ho hg (fun a hop => opW_yieldx hop hx hargs hy) ?_
  rintro v w' ⟨b, rfl, hR⟩
  exact hn b w' hR
end
theorem Rd.mod {B : Nat → Prop} {w w' : World} {a : Option Addr} {c n s : Nat} {xs : List Value} (h : Rd w (.slice a n c) n s xs) (E : Mod B w w') (hB : ∀ z, a = some z → ¬ B z.block) : Rd w' (.slice a n c) n s xs := by
  refine ⟨h.1, h.2.1, ?_⟩
  rcases h.2.2 with h0 | ⟨b, off, cap, he, hc, hcs⟩
  · exact .inl h0
  · injection he with h1 h2 h3
    subst h1 h3
    refine .inr ⟨b, off, c, rfl, hc, fun j u hu => ?_⟩
    have hj := hcs j u hu
    have hlt : b < w.heap.size := by
      unfold World.cell? at hj
      cases e : w.heap[b]? with
      | none => simp [e] at hj
      | some o => exact lt_of_some e
    have hbl := E.block b hlt (hB _ rfl)
    unfold World.cell? at hj ⊢
    simp only [hbl]
    exact hj
theorem rd_off {w : World} {b off n c E : Nat} {fr : Nat × Nat} {l vs : List Value} (h : w.heap[b]? = some (.cells l.toArray E fr)) (hv : rdL l off n = some vs) (hn : n ≤ 9223372036854775807) (hc : n ≤ c) : Rd w (.slice (some ⟨b, off, none⟩) n c) n 1 vs := by
  obtain ⟨h1, h2⟩ := rdL_spec hv
  refine ⟨by rw [h1, Nat.mul_one], hn, .inr ⟨b, off, c, rfl, hc, fun j u hu => ?_⟩⟩
  have hj : j < n := by rw [← h1]; exact (List.getElem?_eq_some_iff.1 hu).1
  rw [cell_of_block h, List.getElem?_toArray, h2 j hj, hu]
section
variable {P : Program} {fn : Func} {R : Value → World → Prop} {B : Nat → Prop} {w0 w : World} {L : Nat → HP} {Ds : List Nat} {ρ : Nat → Value}
theorem retc2 {t T u x : Nat} (k : Nat) {b n : Nat} {E : TypeId} {fr : Nat × Nat} {l : List Value} (hT : agB P T n = true) (hr : fn.results = #[.cell t T, .tmp u, .tmp x]) (ht : Nat.blt t fn.ntmps = true) (hu : Nat.blt u fn.ntmps = true) (hxn : Nat.blt x fn.ntmps = true) (hx : ρ t = .pointer (some ⟨b, 0, none⟩)) (hk : L k = pt b (.cells l.toArray E fr)) (hn : l.length = n) (S : St B w0 w L Ds)
    (hR : ∀ w', St B w0 w' L [] → R (.tuple #[.agg l.toArray, ρ u, ρ x]) w') : retQ P fn R .ret ρ Ds w :=
  ⟨B, w0, L, S, fun w' tmps S' h => ⟨.tuple #[.agg l.toArray, ρ u, ρ x], by
    have e1 := getD_of h ht
    have e2 := getD_of h hu
    have e3 := getD_of h hxn
    simp only [Array.getD_eq_getD_getElem?] at e1 e2 e3
    simp [results, hr, e1, hx, e2, e3, asAddr, cell_load S' hk (hn ▸ hT)], hR w' S'⟩⟩
theorem retss {t T u U : Nat} (k k' : Nat) {b b' : Nat} {E E' : TypeId} {fr fr' : Nat × Nat} {v v' : Value} (hT : scB P T = true) (hU : scB P U = true) (hr : fn.results = #[.cell t T, .cell u U]) (ht : Nat.blt t fn.ntmps = true) (hu : Nat.blt u fn.ntmps = true) (hx : ρ t = .pointer (some ⟨b, 0, none⟩)) (hy : ρ u = .pointer (some ⟨b', 0, none⟩)) (hk : L k = pt b (.cells [v].toArray E fr)) (hk' : L k' = pt b' (.cells [v'].toArray E' fr')) (S : St B w0 w L Ds)
    (hR : ∀ w', St B w0 w' L [] → R (.tuple #[v, v']) w') : retQ P fn R .ret ρ Ds w :=
  ⟨B, w0, L, S, fun w' tmps S' h => ⟨.tuple #[v, v'], by
    have e1 := getD_of h ht
    have e2 := getD_of h hu
    have h1 : (loadVar T ⟨b, 0, none⟩).run P w' = .ok v w' := run_loadVar_sc hT (by rw [cell_of_block (S'.get hk).1]; rfl)
    have h2 : (loadVar U ⟨b', 0, none⟩).run P w' = .ok v' w' := run_loadVar_sc hU (by rw [cell_of_block (S'.get hk').1]; rfl)
    simp only [Array.getD_eq_getD_getElem?] at e1 e2
    simp [results, hr, e1, hx, e2, hy, asAddr, h1, h2], hR w' S'⟩⟩
end
section
variable {P : Program} {rd : Option Nat} {B : Nat → Prop} {w0 : World} {Ds : List Nat} {ops : Array Oper} {m : Option KD} {ρ : Nat → Value} {L : Nat → HP} {next : (Nat → Value) → (Nat → HP) → Prop}
variable {d : Tmp} {ty : TypeId} {pos : String} {aft : Array Edge} {g : Option (Nat × Bool)}
/-- A call to which the piece under k is lent; what is not of that piece is told. -/
theorem sp_callX {x : Operand} {xs : Array Operand} {ats : Array TypeId} {f : FuncId} {fs cs vs : List Value} (k kc : Nat) (ks : List Nat) (R : Value → HP → Prop) (hx : ev ρ x = .func (.func f) fs.toArray cs.toArray) (hargs : cargs ρ fs xs.toList cs = vs) (hf : cfB P f = true)
    (hc : ∀ (F : Nat → HP) (w : World), (∀ j ∈ k :: ks, F j = L j) → St B w0 w F Ds → ∀ Bp : Nat → Prop, St Bp w w (upd eL kc (L k)) [] → (∀ x, Bp x → w0.heap.size ≤ x ∨ B x) → (∀ j bl o, j ≠ k → F j = pt bl o → ¬ Bp bl) → Ct P f vs.toArray w (fun u w' => ∃ i, R u i ∧ St Bp w w' (upd eL 0 i) []))
    (h : ∀ u i, R u i → next (upd ρ d u) (upd L k i)) (hne : m.isSome = true → ∃ u i, R u i) (hg : gd ops ⟨some d, .call ⟨.value x, xs, ats⟩, ty, pos, aft, g⟩ ρ = true := by rfl) (hm : okk m (.e (k :: ks) [k]) := by first | exact trivial | exact rfl) : SP P rd B w0 Ds ops m ⟨some d, .call ⟨.value x, xs, ats⟩, ty, pos, aft, g⟩ ρ L next := by
  refine SP.e (k :: ks) [k] (fun u U => ∃ i, R u i ∧ U = [(k, i)]) hg hm (fun v U h _ => by obtain ⟨_, _, rfl⟩ := h; rfl) (fun hs => by obtain ⟨u, i, h⟩ := hne hs; exact ⟨u, _, i, h, rfl⟩) (fun a F w ho hF S => ?_) (fun u U hU => by obtain ⟨i, hR, rfl⟩ := hU; exact h u i hR)
  have e := ho x (by simp [Op.operands, Call.operands])
  have e' : xs.map a.eval = xs.map (ev ρ) := Array.map_congr_left fun y hy => ho y (by simp [Op.operands, Call.operands]; exact .inr hy)
  obtain ⟨Bp, T1, T2, T3, T4⟩ := S.lendX k kc
  rw [hF k (by simp)] at T1
  refine opW.mono (opW_call (e.trans hx) (cargs_eq e' hargs) hf (hc F w hF S Bp T1 T3 T4)) ?_
  rintro u w' ⟨i, hR, S'⟩
  exact ⟨[(k, i)], ⟨i, hR, rfl⟩, T2 w' i S'⟩
end
end Go.Hu

/-
  A region that draws its order, by what holds whichever operations have run; an entry of a map counted up.
-/
namespace Go.Hu
open Go.RowKit
section
variable {P : Program} {rd : Option Nat} {N : Nat} {ops : Array Oper} {Ds : List Nat}
theorem SP.opW {B : Nat → Prop} {w0 w : World} {o : Oper} {ρ : Nat → Value} {L : Nat → HP} {next : (Nat → Value) → (Nat → HP) → Prop} (h : SP P rd B w0 Ds ops none o ρ L next) (hok : okO N o = true) (hg : gd ops o ρ = true) (S : St B w0 w L Ds) {a : Act} (he : Env N a ρ) :
    opW P rd o a w (fun v w' => ∃ U, next (updo ρ o.dst v) (upds U L) ∧ St B w0 w' (upds U L) Ds) := by
  obtain ⟨O, hv, hnx⟩ := h
  exact ((hv.sound hok he S).1 hg).mono fun v w' ⟨U, hO, S'⟩ => ⟨U, hnx v U hO, S'⟩
theorem anyI {J : Array Bool → (Nat → Value) → World → Prop} {Q : Exit → Act → World → Prop} {n : Nat} {dl : List Deferred} (hok : okR N ops = true) (hac : acycB ops = true)
    (step : ∀ (listed : Array Bool) (i : Nat) (o : Oper) (ρ : Nat → Value) (w : World) (a : Act), listed.size = ops.size → ops[i]? = some o → listed.getD i true = false → (∀ e ∈ o.after, Region.binds .any e = true → listed.getD e.on false = true) → J listed ρ w → Env N a ρ →
      gd ops o ρ = true ∧ opW P rd o a w (fun v w' => J (listed.setIfInBounds i true) (updo ρ o.dst v) w'))
    (fin : ∀ (listed : Array Bool) (ρ : Nat → Value) (w : World) (a : Act), (∀ i, i < ops.size → listed.getD i false = true) → J listed ρ w → Env N a ρ → a.defers = dl → Q .normal a w) :
    ∀ (fuel : Nat) (listed : Array Bool) (ρ : Nat → Value) (w : World) (a : Act), listed.size = ops.size → ((List.range ops.size).filter fun i => !listed.getD i true).length ≤ fuel → J listed ρ w → Env N a ρ → a.defers = dl → wpAnyIn (FW rd) n P .any ops Q fuel listed a w := by
  have done : ∀ listed : Array Bool, listed.size = ops.size → Region.ready .any ops listed = [] → ∀ i, i < ops.size → listed.getD i true = true := by
    intro listed hsz hr i
    induction i using Nat.strongRecOn with
    | _ i ih =>
      intro hi
      cases hl : listed.getD i true with
      | true => rfl
      | false =>
        have ho : ops[i]? = some ops[i] := Array.getElem?_eq_getElem hi
        have : i ∈ Region.ready .any ops listed := by
          rw [mem_ready]
          refine ⟨hl, ops[i], ho, fun e he hb => ?_⟩
          have h0 := hac
          unfold acycB at h0
          rw [List.all_eq_true] at h0
          have h1 := h0 i (List.mem_range.2 hi)
          simp only [ho, List.all_eq_true, Bool.or_eq_true, Bool.not_eq_true'] at h1
          have h2 := h1 e (by simpa using he)
          rcases h2 with h2 | h2
          · rw [hb] at h2; cases h2
          · have hlt := blt_t.1 h2
            have := ih e.on hlt (by omega)
            have hsz' : e.on < listed.size := by omega
            simpa [hsz'] using this
        rw [hr] at this; cases this
  have toF : ∀ listed : Array Bool, listed.size = ops.size → (∀ i, i < ops.size → listed.getD i true = true) → ∀ i, i < ops.size → listed.getD i false = true := fun listed hsz h i hi => by
    have := h i hi
    have hlt : i < listed.size := by omega
    simpa [hlt] using this
  intro fuel
  induction fuel with
  | zero =>
    intro listed ρ w a hsz hlen hJ he hdl
    have hall : ∀ i, i < ops.size → listed.getD i true = true := fun i hi => by
      cases hl : listed.getD i true with
      | true => rfl
      | false =>
        have : i ∈ (List.range ops.size).filter fun i => !listed.getD i true := List.mem_filter.2 ⟨List.mem_range.2 hi, by rw [hl]; rfl⟩
        rw [List.length_eq_zero_iff.1 (Nat.le_zero.1 hlen)] at this; cases this
    refine ⟨?_, fin listed ρ w a (toF listed hsz hall) hJ he hdl⟩
    cases hr : Region.ready .any ops listed with
    | nil => rfl
    | cons i r =>
      have hi : i ∈ Region.ready .any ops listed := by rw [hr]; simp
      obtain ⟨hl, o, ho, _⟩ := mem_ready.1 hi
      rw [hall i (Array.getElem?_eq_some_iff.1 ho).1] at hl; cases hl
  | succ fuel ih =>
    intro listed ρ w a hsz hlen hJ he hdl
    refine ⟨fun hr => fin listed ρ w a (toF listed hsz (done listed hsz hr)) hJ he hdl, fun i hi => ?_⟩
    obtain ⟨hl, oi, hoi, hready⟩ := mem_ready.1 hi
    have hin : i < ops.size := (Array.getElem?_eq_some_iff.1 hoi).1
    obtain ⟨hg, hop⟩ := step listed i oi ρ w a hsz hoi hl hready hJ he
    have hlen' : ((List.range ops.size).filter fun j => !(listed.setIfInBounds i true).getD j true).length ≤ fuel := by
      have hsub : (List.range ops.size).filter (fun j => !(listed.setIfInBounds i true).getD j true) = ((List.range ops.size).filter fun j => !listed.getD j true).erase i := by
        rw [List.Nodup.erase_eq_filter (List.nodup_range.filter _), List.filter_filter]
        refine List.filter_congr fun j hj => ?_
        by_cases e : j = i
        · subst e
          have hlt : j < listed.size := by omega
          simp [hlt]
        · rw [getD_set_ne true (Ne.symm e)]
          simp [e]
      have hm : i ∈ (List.range ops.size).filter fun j => !listed.getD j true := List.mem_filter.2 ⟨List.mem_range.2 hin, by rw [hl]; rfl⟩
      rw [hsub, List.length_erase_of_mem hm]; omega
    unfold wpOpIn
    simp only [hoi]
    rw [wanted_gd hok he oi, hg]
    simp only [if_true]
    exact hop.step fun v w' hJ' => ih _ _ _ _ (by simpa using hsz) hlen' hJ' (he.put _ _) ((put_defers_eq _ _ _).trans hdl)
end
theorem MnE.weak {b : Nat} {q : Int → Int → Int} {x y st : Int} {f : Frag} (h : MnE b q x y st f) : MnP b q f := by
  obtain ⟨es, ck, l, j, u, e, h1, h2, h3, _, _, _, h7⟩ := h
  exact ⟨es, ck, l, h1, h2, h3, h7⟩
theorem lkN_run {P : Program} {B : Nat → Prop} {w0 w : World} {L : Nat → HP} {Ds : List Nat} {M K E b k : Nat} {q : Int → Int → Int} (u v : Int) (S : St B w0 w L Ds) (hk : L k = MnP b q) (hM : keyB P M K E = true) (hz : zvP P E (.int .i64 0)) :
    (Instr.lookup M (.map (some b)) (pr u v) false).run P w = .ok (.int .i64 (q u v)) w := by
  obtain ⟨f, hf1, hf2, _⟩ := S.chg k
  rw [hk] at hf1
  obtain ⟨es, ck, l, hes, hbo, hq, hpt⟩ := hf1
  have hb := hf2 _ _ hpt.1
  obtain ⟨hM1, _⟩ := keyB_spec hM
  have h1 := findKey_ask (w := w) hM u v hes
  rw [find_gt hM u v l es.toList 0 hes] at h1
  have hqv := hq u v
  unfold cnL at hqv
  cases hgt : gtL l u v with
  | none => rw [hgt] at h1 hqv; simp at hqv h1; simp [Instr.lookup, run_underlying hM1, MapKept.run_getObj_map hb, key_check hM, h1, hz w, Result.andThen, hqv]
  | some p => rw [hgt] at h1 hqv; simp at hqv h1; simp [Instr.lookup, run_underlying hM1, MapKept.run_getObj_map hb, key_check hM, h1, Result.andThen, hqv]
/-- m[k]++, m a map of one's own that counts. -/
theorem W.incr {P : Program} {rd : Option Nat} {N : Nat} {Q : Post} {ρ : Nat → Value} {Ds : List Nat} {w : World} {B : Nat → Prop} {w0 : World} {L : Nat → HP} {id : Nat} {ops : Array Oper} {mt kt s0 s1 s2 s3 s4 s5 M K E E1 E2 bm bk kk km : Nat} {q : Int → Int → Int} {u v : Int} {fr : Nat × Nat} {Ek : TypeId}
    {y0 y1 y2 y3 y4 y5 y6 : TypeId} {p0 p1 p2 p3 p4 p5 p6 : String} {a0 a1 a2 a3 a4 a5 a6 : Array Edge}
    (S : St B w0 w L Ds) (hm : P.follows .mixedOrders = true) (hac : acycB ops = true) (hsz : ops.size = 7)
    (h0 : ops[0]? = some ⟨some s0, .move (.tmp mt), y0, p0, a0, none⟩) (h1 : ops[1]? = some ⟨some s1, .load K (.tmp kt), y1, p1, a1, none⟩) (h2 : ops[2]? = some ⟨some s2, .lookup M (.tmp s0) (.tmp s1) false, y2, p2, a2, none⟩)
    (h3 : ops[3]? = some ⟨some s3, .binOp .add E1 (.tmp s2) (.const (.int .i64 1)) E2, y3, p3, a3, none⟩) (h4 : ops[4]? = some ⟨some s4, .mapEntry M (.tmp s0) (.tmp s1), y4, p4, a4, none⟩) (h5 : ops[5]? = some ⟨some s5, .extract (.tmp s4) 1, y5, p5, a5, none⟩)
    (h6 : ops[6]? = some ⟨none, .entryStore M (.tmp s0) (.tmp s5) (.tmp s3), y6, p6, a6, none⟩)
    (hd : (dir ops 0 2 && dir ops 1 2 && dir ops 2 3 && dir ops 0 4 && dir ops 1 4 && dir ops 4 5 && dir ops 0 6 && dir ops 5 6 && dir ops 3 6 && dir ops 4 6 && dir ops 2 6) = true)
    (hs : [s0, s1, s2, s3, s4, s5].Nodup) (hmk : mt ∉ [s0, s1, s2, s3, s4, s5] ∧ kt ∉ [s0, s1, s2, s3, s4, s5])
    (hmt : ρ mt = .map (some bm)) (hkt : ρ kt = .pointer (some ⟨bk, 0, none⟩)) (hkk : L kk = pt bk (.cells [.int .i64 u, .int .i64 v].toArray Ek fr)) (hkm : L km = MnP bm q) (hne : kk ≠ km)
    (hM : keyB P M K E = true) (hK : agB P K 2 = true) (hz : zvP P E (.int .i64 0)) (hr : -9223372036854775808 ≤ q u v + 1 ∧ q u v + 1 ≤ 9223372036854775807)
    (next : ∀ σ w', St B w0 w' (upd L km (MnP bm (fun x y => if x = u ∧ y = v then q u v + 1 else q x y))) Ds → Q .normal (msk [s0, s1, s2, s3, s4, s5] ρ σ) Ds w') : W P rd N (.region id ops true) Q ρ Ds w := by
  intro ok n a he hdl
  have hok : okR N ops = true := ok
  simp only [Bool.and_eq_true] at hd
  obtain ⟨⟨⟨⟨⟨⟨⟨⟨⟨⟨d02, d12⟩, d23⟩, d04⟩, d14⟩, d45⟩, d06⟩, d56⟩, d36⟩, d46⟩, d26⟩ := hd
  obtain ⟨hmt', hkt'⟩ := hmk
  simp only [List.mem_cons, List.not_mem_nil, or_false, not_or] at hmt' hkt'
  have hs' := hs
  simp only [List.nodup_cons, List.mem_cons, List.not_mem_nil, or_false, not_or, List.nodup_nil, and_true, not_false_eq_true] at hs'
  obtain ⟨⟨n01, n02, n03, n04, n05⟩, ⟨n12, n13, n14, n15⟩, ⟨n23, n24, n25⟩, ⟨n34, n35⟩, n45⟩ := hs'
  obtain ⟨q', hq'⟩ : ∃ q' : Int → Int → Int, q' = fun x y => if x = u ∧ y = v then q u v + 1 else q x y := ⟨_, rfl⟩
  rw [← hq'] at next
  refine wpIn_region_any hm ?_
  have dirL : ∀ (listed : Array Bool) (p i : Nat) (o : Oper), ops[i]? = some o → dir ops p i = true → (∀ e ∈ o.after, Region.binds .any e = true → listed.getD e.on false = true) → listed.getD p false = true := fun listed p i o ho hdir hr => by
    unfold dir at hdir
    rw [ho] at hdir
    simp only [List.any_eq_true, Bool.and_eq_true] at hdir
    obtain ⟨e, he, hb, hon⟩ := hdir
    have := hr e (by simpa using he) hb
    rwa [beq_t.1 hon] at this
  obtain ⟨sl, hsl⟩ : ∃ sl : Nat → Nat, sl = fun j => ([s0, s1, s2, s3, s4, s5][j]?).getD 0 := ⟨_, rfl⟩
  obtain ⟨va, hva⟩ : ∃ va : Int → Nat → Value, va = fun st j => (([.map (some bm), pr u v, .int .i64 (q u v), .int .i64 (q u v + 1), .tuple #[.int .i64 (q u v), .int .i64 st], .int .i64 st] : List Value)[j]?).getD undef := ⟨_, rfl⟩
  have slm : ∀ j, j < 6 → sl j ∈ [s0, s1, s2, s3, s4, s5] := fun j hj => by
    rw [hsl]; simp only
    rw [List.getElem?_eq_getElem (by simpa using hj)]; exact List.getElem_mem _
  have sli : ∀ j k, j < 6 → k < 6 → j ≠ k → sl j ≠ sl k := fun j k hj hk hjk => by
    rw [hsl]; simp only
    rw [List.getElem?_eq_getElem (by simpa using hj), List.getElem?_eq_getElem (by simpa using hk)]
    have hp := List.pairwise_iff_getElem.1 hs
    rcases Nat.lt_or_gt_of_ne hjk with h | h
    · exact hp j k (by simpa using hj) (by simpa using hk) h
    · exact fun e => hp k j (by simpa using hk) (by simpa using hj) h e.symm
  have vas : ∀ st st' j, j ≠ 4 → j ≠ 5 → va st j = va st' j := fun st st' j h4 h5 => by
    rw [hva]
    match j with
    | 0 => rfl
    | 1 => rfl
    | 2 => rfl
    | 3 => rfl
    | 4 => exact absurd rfl h4
    | 5 => exact absurd rfl h5
    | j + 6 => rfl
  obtain ⟨pc, hpc⟩ : ∃ pc : Bool → Bool → Int → HP, pc = fun b6 b4 st => if b6 = true then MnP bm q' else if b4 = true then MnE bm q u v st else MnP bm q := ⟨_, rfl⟩
  obtain ⟨J, hJ⟩ : ∃ J : Array Bool → (Nat → Value) → World → Prop, J = fun listed ρ' w' =>
    Agr [s0, s1, s2, s3, s4, s5] ρ ρ' ∧ (listed.getD 5 false = true → listed.getD 4 false = true) ∧ (listed.getD 6 false = true → listed.getD 2 false = true ∧ listed.getD 4 false = true) ∧
    ∃ st, (∀ j, j < 6 → listed.getD j false = true → ρ' (sl j) = va st j) ∧ St B w0 w' (upd L km (pc (listed.getD 6 false) (listed.getD 4 false) st)) Ds := ⟨_, rfl⟩
  have hf : ∀ i, (Array.replicate ops.size false).getD i false = false := fun i => by
    by_cases h : i < ops.size <;> simp [h]
  have hJ0 : J (Array.replicate ops.size false) ρ w.drew := by
    rw [hJ]
    refine ⟨Agr.refl _ _, fun h => ?_, fun h => ?_, 0, fun j _ h => ?_, ?_⟩
    · rw [hf] at h; cases h
    · rw [hf] at h; cases h
    · rw [hf] at h; cases h
    · rw [hf, hf, hpc]
      simp only [Bool.false_eq_true, if_false]
      rw [← hkm, upd_self]; exact S.drew
  refine anyI (J := J) hok hac ?_ ?_ ops.size _ ρ _ a (by simp) ?_ hJ0 he hdl
  · intro listed i o ρ' w' a' hlsz hoi hli hready hJ' he'
    rw [hJ] at hJ'
    obtain ⟨j0, j5, j6, st, j7, j9⟩ := hJ'
    have hi7 : i < 7 := by rw [← hsz]; exact (Array.getElem?_eq_some_iff.1 hoi).1
    have hmt2 : ev ρ' (.tmp mt) = .map (some bm) := (j0 mt (by cases e : mem [s0, s1, s2, s3, s4, s5] mt with | false => rfl | true => have := (mem_iff _ _).1 e; simp [hmt'] at this)).trans hmt
    have hkt2 : ev ρ' (.tmp kt) = .pointer (some ⟨bk, 0, none⟩) := (j0 kt (by cases e : mem [s0, s1, s2, s3, s4, s5] kt with | false => rfl | true => have := (mem_iff _ _).1 e; simp [hkt'] at this)).trans hkt
    have hlf : listed.getD i false = false := by
      have hlt : i < listed.size := by omega
      simpa [hlt] using hli
    have gs : (listed.setIfInBounds i true).getD i false = true := by
      have hlt : i < listed.size := by omega
      simp [hlt]
    have gn : ∀ j, i ≠ j → (listed.setIfInBounds i true).getD j false = listed.getD j false := fun j hij => getD_set_ne false hij
    -- a step that yields its value
    have put : i ≠ 4 → i < 6 → ∀ (w2 : World), St B w0 w2 (upd L km (pc (listed.getD 6 false) (listed.getD 4 false) st)) Ds → J (listed.setIfInBounds i true) (upd ρ' (sl i) (va st i)) w2 := fun hi4 hi6 w2 S2 => by
      rw [hJ]
      refine ⟨j0.upd _ ((mem_iff _ _).2 (slm i hi6)), fun h => ?_, fun h => ?_, st, fun j hj h => ?_, ?_⟩
      · rw [gn 4 hi4]
        by_cases e : i = 5
        · subst e; exact dirL listed 4 5 o hoi d45 hready
        · rw [gn 5 e] at h; exact j5 h
      · rw [gn 6 (by omega)] at h
        rw [gn 4 hi4]
        refine ⟨?_, (j6 h).2⟩
        by_cases e : i = 2
        · subst e; exact gs
        · rw [gn 2 e]; exact (j6 h).1
      · by_cases e : i = j
        · subst e; exact upd_same _ _ _
        · rw [gn j e] at h; rw [upd_ne _ _ (sli j i hj hi6 (Ne.symm e))]; exact j7 j hj h
      · rw [gn 6 (by omega), gn 4 hi4]; exact S2
    match i, hi7 with
    | 0, _ =>
      rw [h0] at hoi; cases hoi
      refine ⟨rfl, (SP.opW (ops := ops) (o := ⟨some s0, .move (.tmp mt), y0, p0, a0, none⟩) (next := fun a b => a = upd ρ' s0 (.map (some bm)) ∧ b = _) (sp_move (x := .tmp mt) (v := .map (some bm)) hmt2 ⟨rfl, rfl⟩ rfl) (okR_get hok h0) rfl j9 he').mono ?_⟩
      rintro x w2 ⟨U, ⟨e1, e2⟩, S2⟩
      rw [e2] at S2
      have := put (by decide) (by decide) w2 S2
      rw [hsl, hva] at this
      rw [e1]; exact this
    | 1, _ =>
      rw [h1] at hoi; cases hoi
      refine ⟨rfl, (SP.opW (ops := ops) (o := ⟨some s1, .load K (.tmp kt), y1, p1, a1, none⟩) (next := fun a b => a = upd ρ' s1 (pr u v) ∧ b = _) (sp_ldw (x := .tmp kt) kk hkt2 ((upd_ne _ _ hne).trans hkk) hK ⟨rfl, rfl⟩ rfl) (okR_get hok h1) rfl j9 he').mono ?_⟩
      rintro x w2 ⟨U, ⟨e1, e2⟩, S2⟩
      rw [e2] at S2
      have := put (by decide) (by decide) w2 S2
      rw [hsl, hva] at this
      rw [e1]; exact this
    | 2, _ =>
      rw [h2] at hoi; cases hoi
      have l0 := dirL listed 0 2 _ h2 d02 hready
      have l1 := dirL listed 1 2 _ h2 d12 hready
      have v0 := j7 0 (by decide) l0
      have v1 := j7 1 (by decide) l1
      rw [hsl, hva] at v0 v1
      have l6 : listed.getD 6 false = false := by
        cases e : listed.getD 6 false with
        | false => rfl
        | true => rw [(j6 e).1] at hlf; cases hlf
      obtain ⟨L2, S1, hk2⟩ : ∃ L2, St B w0 w' L2 Ds ∧ L2 km = MnP bm q := by
        rw [l6, hpc] at j9
        simp only [Bool.false_eq_true, if_false] at j9
        by_cases e : listed.getD 4 false = true
        · rw [if_pos e] at j9
          exact ⟨_, j9.weak (k := km) (i := MnP bm q) (fun f hf => by rw [upd_same] at hf; exact hf.weak), upd_same _ _ _⟩
        · rw [if_neg e] at j9
          exact ⟨_, j9, upd_same _ _ _⟩
      have hrun := lkN_run u v S1 hk2 hM hz
      have hoo := he'.operands (okR_get hok h2)
      have x0 : a'.eval (.tmp s0) = .map (some bm) := (hoo (.tmp s0) (by simp [Op.operands])).trans v0
      have x1 : a'.eval (.tmp s1) = pr u v := (hoo (.tmp s1) (by simp [Op.operands])).trans v1
      refine ⟨rfl, opW.of_run (w' := w') (v := .int .i64 (q u v)) (by intro c hc; cases hc) ?_ ?_⟩
      · simp [execOp, x0, x1, hrun]
      · have := put (by decide) (by decide) w' j9
        rw [hsl, hva] at this
        exact this
    | 3, _ =>
      rw [h3] at hoi; cases hoi
      have v2 := j7 2 (by decide) (dirL listed 2 3 _ h3 d23 hready)
      rw [hsl, hva] at v2
      refine ⟨rfl, (SP.opW (ops := ops) (o := ⟨some s3, .binOp .add E1 (.tmp s2) (.const (.int .i64 1)) E2, y3, p3, a3, none⟩) (next := fun a b => a = upd ρ' s3 (.int .i64 (q u v + 1)) ∧ b = _) (sp_add (x := .tmp s2) (y := .const (.int .i64 1)) v2 rfl hr ⟨rfl, rfl⟩ rfl) (okR_get hok h3) rfl j9 he').mono ?_⟩
      rintro x w2 ⟨U, ⟨e1, e2⟩, S2⟩
      rw [e2] at S2
      have := put (by decide) (by decide) w2 S2
      rw [hsl, hva] at this
      rw [e1]; exact this
    | 4, _ =>
      rw [h4] at hoi; cases hoi
      have v0 := j7 0 (by decide) (dirL listed 0 4 _ h4 d04 hready)
      have v1 := j7 1 (by decide) (dirL listed 1 4 _ h4 d14 hready)
      rw [hsl, hva] at v0 v1
      have l6 : listed.getD 6 false = false := by
        cases e : listed.getD 6 false with
        | false => rfl
        | true => rw [(j6 e).2] at hlf; cases hlf
      have l5 : listed.getD 5 false = false := by
        cases e : listed.getD 5 false with
        | false => rfl
        | true => rw [j5 e] at hlf; cases hlf
      rw [l6, hlf, hpc] at j9
      simp only [Bool.false_eq_true, if_false] at j9
      refine ⟨rfl, (SP.opW (ops := ops) (o := ⟨some s4, .mapEntry M (.tmp s0) (.tmp s1), y4, p4, a4, none⟩) (next := fun a b => ∃ st', a = upd ρ' s4 (.tuple #[.int .i64 (q u v), .int .i64 st']) ∧ b = upd (upd L km (MnP bm q)) km (MnE bm q u v st')) (sp_me (x := .tmp s0) (y := .tmp s1) km v0 v1 hM (upd_same _ _ _) hz (fun st' => ⟨st', rfl, rfl⟩) rfl) (okR_get hok h4) rfl j9 he').mono ?_⟩
      rintro x w2 ⟨U, ⟨st', e1, e2⟩, S2⟩
      rw [e2, upd_upd] at S2
      rw [e1, hJ]
      refine ⟨j0.upd _ ((mem_iff _ _).2 (by simp)), fun _ => gs, fun h => ?_, st', fun j hj h => ?_, ?_⟩
      · rw [gn 6 (by decide), l6] at h; cases h
      · by_cases e : 4 = j
        · subst e; rw [hsl, hva]; exact upd_same _ _ _
        · rw [gn j e] at h
          have hj5 : j ≠ 5 := fun e5 => by rw [e5, l5] at h; cases h
          have hne' := sli j 4 hj (by decide) (Ne.symm e)
          rw [hsl] at hne'
          rw [upd_ne _ _ (by rw [hsl]; exact hne'), j7 j hj h]
          exact vas st st' j (Ne.symm e) hj5
      · rw [gn 6 (by decide), l6, gs, hpc]
        simp only [Bool.false_eq_true, if_false, if_true]
        exact S2
    | 5, _ =>
      rw [h5] at hoi; cases hoi
      have v4 := j7 4 (by decide) (dirL listed 4 5 _ h5 d45 hready)
      rw [hsl, hva] at v4
      refine ⟨rfl, (SP.opW (ops := ops) (o := ⟨some s5, .extract (.tmp s4) 1, y5, p5, a5, none⟩) (next := fun a b => a = upd ρ' s5 (.int .i64 st) ∧ b = _) (sp_ext (x := .tmp s4) (v := .int .i64 st) v4 rfl ⟨rfl, rfl⟩ rfl) (okR_get hok h5) rfl j9 he').mono ?_⟩
      rintro x w2 ⟨U, ⟨e1, e2⟩, S2⟩
      rw [e2] at S2
      have := put (by decide) (by decide) w2 S2
      rw [hsl, hva] at this
      rw [e1]; exact this
    | 6, _ =>
      rw [h6] at hoi; cases hoi
      have l4 := dirL listed 4 6 _ h6 d46 hready
      have l2 := dirL listed 2 6 _ h6 d26 hready
      have v0 := j7 0 (by decide) (dirL listed 0 6 _ h6 d06 hready)
      have v5 := j7 5 (by decide) (dirL listed 5 6 _ h6 d56 hready)
      have v3 := j7 3 (by decide) (dirL listed 3 6 _ h6 d36 hready)
      rw [hsl, hva] at v0 v5 v3
      rw [hlf, l4, hpc] at j9
      simp only [Bool.false_eq_true, if_false, if_true] at j9
      refine ⟨rfl, (SP.opW (ops := ops) (o := ⟨none, .entryStore M (.tmp s0) (.tmp s5) (.tmp s3), y6, p6, a6, none⟩) (next := fun a b => a = ρ' ∧ b = upd (upd L km (MnE bm q u v st)) km (MnP bm q')) (sp_es (x := .tmp s0) (y := .tmp s5) (z := .tmp s3) km v0 v5 v3 (upd_same _ _ _) ⟨rfl, by rw [hq']⟩ rfl) (okR_get hok h6) rfl j9 he').mono ?_⟩
      rintro x w2 ⟨U, ⟨e1, e2⟩, S2⟩
      rw [e2, upd_upd] at S2
      rw [e1, hJ]
      refine ⟨j0, fun h => ?_, fun _ => ?_, st, fun j hj h => ?_, ?_⟩
      · rw [gn 5 (by decide)] at h; rw [gn 4 (by decide)]; exact j5 h
      · rw [gn 2 (by decide), gn 4 (by decide)]; exact ⟨l2, l4⟩
      · rw [gn j (by omega)] at h; exact j7 j hj h
      · rw [gs, hpc]
        simp only [if_true]
        exact S2
  · intro listed ρ' w' a' hall hJ' he' hdl'
    rw [hJ] at hJ'
    obtain ⟨j0, _, _, st, _, j9⟩ := hJ'
    rw [hall 6 (by omega), hpc] at j9
    simp only [if_true] at j9
    refine ⟨ρ', Ds, he', hdl', ?_⟩
    have := next ρ' w' j9
    rwa [← j0.eq] at this
  · refine Nat.le_trans (List.length_filter_le _ _) ?_
    simp
section
variable {P : Program} {rd : Option Nat} {B : Nat → Prop} {w0 : World} {Ds : List Nat} {ops : Array Oper} {m : Option KD} {ρ : Nat → Value} {L : Nat → HP} {next : (Nat → Value) → (Nat → HP) → Prop}
variable {d : Tmp} {ty : TypeId} {pos : String} {aft : Array Edge} {g : Option (Nat × Bool)}
/-- A call to which two pieces are lent, one beside the other. -/
theorem sp_callXX {x : Operand} {xs : Array Operand} {ats : Array TypeId} {f : FuncId} {fs cs vs : List Value} (k k2 kc : Nat) (ks : List Nat) (hkk : k ≠ k2) (R : Value → HP → Prop) (hx : ev ρ x = .func (.func f) fs.toArray cs.toArray) (hargs : cargs ρ fs xs.toList cs = vs) (hf : cfB P f = true)
    (hc : ∀ (F : Nat → HP) (w : World), (∀ j ∈ k :: k2 :: ks, F j = L j) → St B w0 w F Ds → ∀ Bp : Nat → Prop, St Bp w w (upd eL kc (sep (L k) (L k2))) [] → (∀ x, Bp x → w0.heap.size ≤ x ∨ B x) → (∀ j bl o, j ≠ k → j ≠ k2 → F j = pt bl o → ¬ Bp bl) → Ct P f vs.toArray w (fun u w' => ∃ i, R u i ∧ St Bp w w' (upd eL 0 i) []))
    (h : ∀ u i, R u i → next (upd ρ d u) (upd (upd L k2 emp) k i)) (hne : m.isSome = true → ∃ u i, R u i) (hg : gd ops ⟨some d, .call ⟨.value x, xs, ats⟩, ty, pos, aft, g⟩ ρ = true := by rfl) (hm : okk m (.e (k :: k2 :: ks) [k, k2]) := by first | exact trivial | exact rfl) : SP P rd B w0 Ds ops m ⟨some d, .call ⟨.value x, xs, ats⟩, ty, pos, aft, g⟩ ρ L next := by
  refine SP.e (k :: k2 :: ks) [k, k2] (fun u U => ∃ i, R u i ∧ U = [(k, i), (k2, emp)]) hg hm (fun v U h _ => by obtain ⟨_, _, rfl⟩ := h; rfl) (fun hs => by obtain ⟨u, i, h⟩ := hne hs; exact ⟨u, _, i, h, rfl⟩) (fun a F w ho hF S => ?_) (fun u U hU => by obtain ⟨i, hR, rfl⟩ := hU; exact h u i hR)
  have e := ho x (by simp [Op.operands, Call.operands])
  have e' : xs.map a.eval = xs.map (ev ρ) := Array.map_congr_left fun y hy => ho y (by simp [Op.operands, Call.operands]; exact .inr hy)
  have S1 := S.fold (k := k) (k' := k2) hkk
  obtain ⟨Bp, T1, T2, T3, T4⟩ := S1.lendX k kc
  rw [upd_same, hF k (by simp), hF k2 (by simp)] at T1
  refine opW.mono (opW_call (e.trans hx) (cargs_eq e' hargs) hf (hc F w hF S Bp T1 T3 (fun j bl o h1 h2 h3 => T4 j bl o h1 (by rw [upd_ne _ _ h1, upd_ne _ _ h2]; exact h3)))) ?_
  rintro u w' ⟨i, hR, S'⟩
  refine ⟨[(k, i), (k2, emp)], ⟨i, hR, rfl⟩, ?_⟩
  have := T2 w' i S'
  rw [upd_upd] at this
  exact this
end
end Go.Hu

/-
  Pairs of whole numbers compared, whatever map.
-/
namespace Go.Hu
open Go.RowKit
def prB (P : Program) (K E : Nat) : Bool := (match P.underlying K with
  | some (.struct fs) => match fs.toList with
    | [f, g] => (f.name != "_") && (g.name != "_") && (Nat.beq f.offset 0 && Nat.beq g.offset 1) && (Nat.beq f.type E && Nat.beq g.type E)
    | _ => false
  | _ => false) && ((match P.underlying E with
  | some (.int .i64) => true
  | _ => false) && !P.stoodInHeld K)
theorem prB_spec {P : Program} {K E : Nat} (h : prB P K E = true) : (∃ f g : Field, P.underlying K = some (.struct #[f, g]) ∧ f.name ≠ "_" ∧ g.name ≠ "_" ∧ f.offset = 0 ∧ g.offset = 1 ∧ f.type = E ∧ g.type = E) ∧ P.underlying E = some (.int .i64) ∧ P.stoodInHeld K = false := by
  unfold prB at h
  simp only [Bool.and_eq_true] at h
  obtain ⟨h2, h3, h4⟩ := h
  refine ⟨?_, ?_, by simpa using h4⟩
  · cases hu : P.underlying K with
    | none => rw [hu] at h2; cases h2
    | some d =>
      rw [hu] at h2
      cases d with
      | struct fs =>
        simp only at h2
        split at h2
        · next f g hfs =>
          simp only [Bool.and_eq_true, bne_iff_ne] at h2
          refine ⟨f, g, ?_, h2.1.1.1, h2.1.1.2, beq_t.1 h2.1.2.1, beq_t.1 h2.1.2.2, beq_t.1 h2.2.1, beq_t.1 h2.2.2⟩
          congr 2; apply Array.ext'; rw [hfs]
        · cases h2
      | _ => cases h2
  · split at h3
    · next e => exact e
    · cases h3
theorem eqP_p2 {P : Program} {K E : Nat} (h : prB P K E = true) (a b c d : Int) : eqP P K [.int .i64 a, .int .i64 b] [.int .i64 c, .int .i64 d] (decide (a = c) && decide (b = d)) := fun w => by
  obtain ⟨⟨f, g, hK, hf, hg, o1, o2, t1, t2⟩, hE, hs⟩ := prB_spec h
  have hfo : P.fieldsOf K = #[f, g] := by simp [Program.fieldsOf, hK]
  have hsc : scB P E = true := by unfold scB; rw [hE]
  rw [show (10000 : Nat) = 9999 + 1 from rfl, run_equalIn_struct w 9999 K _ _ (by rw [hfo]; exact hK) hs, hfo]
  simp only [Op.eqFields, o1, o2, t1, t2]
  have e1 : ∀ (x y : Int), (part E [Value.int .i64 x, Value.int .i64 y].toArray 0).run P w = .ok (.int .i64 x) w := fun x y => by simp [part, scB_run hsc]
  have e2 : ∀ (x y : Int), (part E [Value.int .i64 x, Value.int .i64 y].toArray 1).run P w = .ok (.int .i64 y) w := fun x y => by simp [part, scB_run hsc]
  have e3 : ∀ (x y : Int), (Op.equalIn 9999 E (.int .i64 x) (.int .i64 y)).run P w = .ok (x == y) w := fun x y => run_equalIn_int w 9998 E .i64 .i64 x y hE
  by_cases hac : a = c
  · by_cases hbd : b = d
    · subst hac hbd; simp [Sem.run_bind, e1, e2, e3, hf, hg]
    · have : (b == d) = false := by simpa using hbd
      subst hac; simp [Sem.run_bind, e1, e2, e3, this, hbd, hf, hg]
  · have : (a == c) = false := by simpa using hac
    simp [Sem.run_bind, e1, e3, this, hac, hf, hg]
end Go.Hu
