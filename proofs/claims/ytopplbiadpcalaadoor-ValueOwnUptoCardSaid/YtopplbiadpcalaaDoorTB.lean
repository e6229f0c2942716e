/- Part 2 of 4 of a proof: lemmas; the statement is proved in the last part. -/
import Derived.Test.YtopplbiadpcalaaDoorTA
import Derived.Orders
import Derived.Test.YtopplbiadpcalaaDoorRows
import Derived.OpenShut
import Derived.Carry
import Derived.WideShapes
import Derived.ChangeSame
import Derived.Shelf.LaysM
import Derived.Shelf.LaysC
import Derived.Shelf.Small.Strs
import Derived.Shelf.Strconv.Itoa4
import Derived.Shelf.Strconv.ToError
import Derived.Shelf.Strconv.ErrVarParseInt
import Derived.Test.YtopplbiadpcalaaDoorProg
import Derived.Test.YtopplbiadpcalaaDoorChecked
import Derived.KernelRfl
import Derived.Lib.ItoaNum
import Derived.Lib.ParseIntB
import Derived.IntWalk
import Derived.Laws.StructEq
set_option linter.unusedVariables false
set_option linter.unusedSimpArgs false
/- The small abstract machine: what is kept of a state tells the truth. -/
namespace Go.Proofs.YtopplbiadpcalaaDoor.U
open Go Go.RowKit

section
variable {P : Program} {T : Tab} {C : Nat → Option Sp} {ρ : Type} {cx : Cx} {ψ : Nat → Value} {st : St} {a : Act} {w : World} {out : ρ} {Q : Exit → Act → World → Prop}
/-! ### Where ways meet -/
def srcV (ψ : Nat → Value) : Option Nat → Value
  | some r => ψ r
  | none => .slice none 0 0
/-- Where a key of the pruned state comes from. -/
def rowVal (ψ : Nat → Value) : List Rw → Nat → Value
  | [], b => ψ b
  | (r', s, _) :: q, b => match Nat.beq r' b with
    | true => srcV ψ s
    | false => rowVal ψ q b
theorem rowVal_not {rows : List Rw} {b : Nat} (h : b ∉ rows.map Prod.fst) : rowVal ψ rows b = ψ b := by
  induction rows with
  | nil => rfl
  | cons p q ih =>
    obtain ⟨r', s, o⟩ := p
    simp only [List.map_cons, List.mem_cons, not_or] at h
    simp only [rowVal]
    have : Nat.beq r' b = false := by rw [Bool.eq_false_iff]; intro e; exact h.1 (Nat.eq_of_beq_eq_true e).symm
    rw [this]
    exact ih h.2
theorem rowVal_mem {rows : List Rw} (hd : distinct (rows.map Prod.fst) = true) {r' : Nat} {s : Option Nat} {o : Ob} (h : (r', s, o) ∈ rows) : rowVal ψ rows r' = srcV ψ s := by
  induction rows with
  | nil => cases h
  | cons p q ih =>
    obtain ⟨r1, s1, o1⟩ := p
    simp only [List.map_cons, distinct, Bool.and_eq_true, Bool.not_eq_true'] at hd
    simp only [rowVal]
    rcases List.mem_cons.1 h with he | h
    · simp only [Prod.mk.injEq] at he
      obtain ⟨rfl, rfl, rfl⟩ := he
      rw [show Nat.beq r' r' = true from Nat.beq_refl r']
    · have hm : r' ∈ q.map Prod.fst := List.mem_map_of_mem h
      have : Nat.beq r1 r' = false := by
        rw [Bool.eq_false_iff]
        intro e
        rw [Nat.eq_of_beq_eq_true e] at hd
        rw [any_mem.2 hm] at hd
        exact absurd hd.1 (by decide)
      rw [this]
      exact ih hd.2 h
/-- A cast cell's own rows: what they were. -/
def RowsOk (hp : Heap) (rows : List Rw) : Prop := ∀ r' s ob, (r', s, ob) ∈ rows → ∃ k e, (s = none ∧ ob = .row k e [] none false) ∨ ∃ r xs nil, s = some r ∧ getH hp r = some (.row k e xs nil false) ∧ ob = .row k e xs none false
theorem RowsOk.app {hp : Heap} {r1 r2 : List Rw} (h1 : RowsOk hp r1) (h2 : RowsOk hp r2) : RowsOk hp (r1 ++ r2) := fun r' s ob h => by
  rcases List.mem_append.1 h with h | h
  · exact h1 r' s ob h
  · exact h2 r' s ob h
/-- What is to hold of the whole list of rows: that it tells the truth of the new keys. -/
def Tells (ψ ψ' : Nat → Value) (bks : List Nat) (rows : List Rw) : Prop := (∀ r' s ob, (r', s, ob) ∈ rows → ψ' r' = srcV ψ s) ∧ ∀ b ∈ bks, ψ' b = ψ b
theorem castL_ok (h : Rel cx ψ st a w) {bks : List Nat} {ct : Ct} {x : L} {c : Cs L} (hc : castL st.hp bks ct x = some c) : RowsOk st.hp c.rows ∧ ∀ {v : Value}, RL ψ (RO cx ψ st.hp) w x v → ∀ (ψ' : Nat → Value) (ro' : Addr → Prop), Tells ψ ψ' bks c.rows → ∀ (fz : List Nat), (∀ r ∈ c.frz, r ∈ fz) → (∀ p, RO cx ψ (upsH st.hp (fz.map Up.frz)) p → ro' p) → RL ψ' ro' w c.v v := by
  have hkeep : ∀ {y : L} {v : Value}, RL ψ (RO cx ψ st.hp) w y v → ∀ (ψ' : Nat → Value) (ro' : Addr → Prop), ∀ (fz : List Nat), (∀ r ∈ rowsIn st.hp [y], r ∈ fz) → (∀ p, RO cx ψ (upsH st.hp (fz.map Up.frz)) p → ro' p) → (∀ b, (frzL st.hp y).ref = some b → ψ' b = ψ b) → RL ψ' ro' w (frzL st.hp y) v := by
    intro y v hv ψ' ro' fz hfz hro href
    have := (frzs_ok h (cs := [y]) (vs := [v]) ⟨hv, trivial⟩ fz hfz).1
    exact RL.move this href fun p u h1 h2 => ⟨hro p h1, h2⟩
  have hnr : ∀ y : L, (∀ b off, y ≠ .ptr b off) → (∀ r sz i off, y ≠ .rel r sz i off) → ∀ b, (frzL st.hp y).ref = some b → False := by
    intro y h1 h2 b hb
    cases y with
    | ptr b off => exact h1 _ _ rfl
    | rel r sz i off => exact h2 _ _ _ _ rfl
    | rs r =>
      simp only [frzL] at hb
      split at hb <;> cases hb
    | _ => cases hb
  unfold castL at hc
  split at hc
  · rename_i b off
    obtain rfl := Option.some.inj hc
    refine ⟨(fun _ _ _ h => by cases h), fun hv ψ' ro' ht fz _ hro => ?_⟩
    simp only
    cases hb : bks.any (Nat.beq b) with
    | true =>
      obtain ⟨g, h1, h2⟩ := hv
      exact ⟨g, by rw [ht.2 b (any_mem.1 hb)]; exact h1, h2⟩
    | false => trivial
  · obtain rfl := Option.some.inj hc
    exact ⟨(fun _ _ _ h => by cases h), fun _ _ _ _ _ _ _ => trivial⟩
  · rename_i h1 h2
    obtain rfl := Option.some.inj hc
    refine ⟨(fun _ _ _ h => by cases h), fun hv ψ' ro' ht fz hfz hro => hkeep hv ψ' ro' fz hfz hro fun b hb => (hnr x h1 h2 b hb).elim⟩
  · rename_i k e
    obtain rfl := Option.some.inj hc
    refine ⟨(fun _ _ _ h => by cases h), fun hv ψ' ro' ht fz hfz hro => ?_⟩
    exact ⟨none, 0, hv, Nat.le_refl _, fun b hb => (nomatch hb), fun h0 => by simp at h0⟩
  · rename_i k e _
    split at hc
    · rename_i k' e' xs hs
      split at hc
      · rename_i hk
        subst hk
        split at hc
        · rename_i he
          obtain rfl := Nat.eq_of_beq_eq_true he
          obtain rfl := Option.some.inj hc
          refine ⟨(fun _ _ _ h => by cases h), fun hv ψ' ro' ht fz hfz hro => ?_⟩
          have hy : ∃ nil, frzL st.hp x = .sl k' e' xs nil := by
            rcases sli_nilp hs with ⟨nil, rfl⟩ | ⟨r, nil, fz, rfl, hr⟩
            · exact ⟨nil, rfl⟩
            · exact ⟨nil, by simp only [frzL]; rw [hr]⟩
          obtain ⟨nil, hy⟩ := hy
          have := hkeep hv ψ' ro' fz hfz hro (fun b hb => by rw [hy] at hb; cases hb)
          rw [hy] at this
          obtain ⟨A, c, h1, h2, _, h4⟩ := this
          exact ⟨A, c, h1, h2, fun b hb => (nomatch hb), h4⟩
        · cases hc
      · cases hc
    · cases hc
  · rename_i r' k e
    obtain rfl := Option.some.inj hc
    refine ⟨fun _ _ _ h => ?_, fun hv ψ' ro' ht fz hfz hro => ?_⟩
    · simp only [List.mem_singleton, Prod.mk.injEq] at h
      obtain ⟨rfl, rfl, rfl⟩ := h
      exact ⟨k, e, .inl ⟨rfl, rfl⟩⟩
    · have h1 := ht.1 r' none _ List.mem_cons_self
      have hv : _ = Value.slice none 0 0 := hv
      exact ⟨hv.trans h1.symm, none, 0, 0, hv⟩
  · rename_i r' k e r
    split at hc
    · rename_i k' e' xs nil hr
      split at hc
      · rename_i hk
        subst hk
        split at hc
        · rename_i he
          obtain rfl := Nat.eq_of_beq_eq_true he
          obtain rfl := Option.some.inj hc
          refine ⟨fun _ _ _ h => ?_, fun hv ψ' ro' ht fz hfz hro => ?_⟩
          · simp only [List.mem_singleton, Prod.mk.injEq] at h
            obtain ⟨rfl, rfl, rfl⟩ := h
            exact ⟨k', e', .inr ⟨r, xs, nil, rfl, hr, rfl⟩⟩
          · have h1 := ht.1 r' (some r) _ List.mem_cons_self
            exact ⟨hv.1.trans h1.symm, hv.2⟩
        · cases hc
      · cases hc
    · cases hc
  · rename_i r k e
    split at hc
    · rename_i k' e' xs nil hr
      split at hc
      · rename_i hk
        subst hk
        split at hc
        · rename_i he
          obtain rfl := Nat.eq_of_beq_eq_true he
          obtain rfl := Option.some.inj hc
          refine ⟨fun _ _ _ h => ?_, fun hv ψ' ro' ht fz hfz hro => trivial⟩
          simp only [List.mem_singleton, Prod.mk.injEq] at h
          obtain ⟨rfl, rfl, rfl⟩ := h
          exact ⟨k', e', .inr ⟨_, xs, nil, rfl, hr, rfl⟩⟩
        · cases hc
      · cases hc
    · cases hc
  · cases hc
theorem Tells.left {ψ' : Nat → Value} {bks : List Nat} {r1 r2 : List Rw} (h : Tells ψ ψ' bks (r1 ++ r2)) : Tells ψ ψ' bks r1 := ⟨fun a b c hm => h.1 a b c (List.mem_append_left _ hm), h.2⟩
theorem Tells.right {ψ' : Nat → Value} {bks : List Nat} {r1 r2 : List Rw} (h : Tells ψ ψ' bks (r1 ++ r2)) : Tells ψ ψ' bks r2 := ⟨fun a b c hm => h.1 a b c (List.mem_append_right _ hm), h.2⟩
def OkLs (cx : Cx) (ψ : Nat → Value) (st : St) (w : World) (bks : List Nat) (xs : List L) (c : Cs (List L)) : Prop :=
  RowsOk st.hp c.rows ∧ ∀ {vs : List Value}, RLs ψ (RO cx ψ st.hp) w xs vs → ∀ (ψ' : Nat → Value) (ro' : Addr → Prop), Tells ψ ψ' bks c.rows → ∀ (fz : List Nat), (∀ r ∈ c.frz, r ∈ fz) → (∀ p, RO cx ψ (upsH st.hp (fz.map Up.frz)) p → ro' p) → RLs ψ' ro' w c.v vs
theorem castLs_ok (h : Rel cx ψ st a w) {bks : List Nat} : ∀ {xs : List L} {cts : List Ct} {c : Cs (List L)}, castLs st.hp bks cts xs = some c → OkLs cx ψ st w bks xs c := by
  intro xs
  induction xs with
  | nil =>
    intro cts c hc
    have : c = ⟨[], [], []⟩ := by cases cts <;> exact (Option.some.inj hc).symm
    subst this
    exact ⟨(fun _ _ _ h => by cases h), fun {vs} hv _ _ _ _ _ _ => by cases vs with | nil => trivial | cons _ _ => exact hv.elim⟩
  | cons x xs ih =>
    intro cts c hc
    have key : ∀ (ct : Ct) (cts' : List Ct) (c1 : Cs L) (c2 : Cs (List L)), castL st.hp bks ct x = some c1 → castLs st.hp bks cts' xs = some c2 → OkLs cx ψ st w bks (x :: xs) ⟨c1.v :: c2.v, c1.rows ++ c2.rows, c1.frz ++ c2.frz⟩ := by
      intro ct cts' c1 c2 h1 h2
      obtain ⟨h3, h4⟩ := castL_ok h h1
      obtain ⟨h5, h6⟩ := ih h2
      refine ⟨h3.app h5, fun {vs} hv ψ' ro' ht fz hfz hro => ?_⟩
      cases vs with
      | nil => exact hv.elim
      | cons v vs => exact ⟨h4 hv.1 ψ' ro' ht.left fz (fun r hr => hfz r (List.mem_append_left _ hr)) hro, h6 hv.2 ψ' ro' ht.right fz (fun r hr => hfz r (List.mem_append_right _ hr)) hro⟩
    cases cts with
    | nil =>
      simp only [castLs] at hc
      split at hc
      · rename_i c1 c2 h1 h2
        obtain rfl := Option.some.inj hc
        exact key _ _ _ _ h1 h2
      · cases hc
    | cons ct cts =>
      simp only [castLs] at hc
      split at hc
      · rename_i c1 c2 h1 h2
        obtain rfl := Option.some.inj hc
        exact key _ _ _ _ h1 h2
      · cases hc
theorem castEs_ok (h : Rel cx ψ st a w) {bks : List Nat} : ∀ {xs : List (L ⊕ List L)} {c : Cs (List (L ⊕ List L))}, castEs st.hp bks xs = some c → RowsOk st.hp c.rows ∧ ∀ {vs : List Value}, REs ψ (RO cx ψ st.hp) w xs vs → ∀ (ψ' : Nat → Value) (ro' : Addr → Prop), Tells ψ ψ' bks c.rows → ∀ (fz : List Nat), (∀ r ∈ c.frz, r ∈ fz) → (∀ p, RO cx ψ (upsH st.hp (fz.map Up.frz)) p → ro' p) → REs ψ' ro' w c.v vs := by
  intro xs
  induction xs with
  | nil =>
    intro c hc
    obtain rfl := Option.some.inj hc
    exact ⟨(fun _ _ _ h => by cases h), fun {vs} hv _ _ _ _ _ _ => by cases vs with | nil => trivial | cons _ _ => exact hv.elim⟩
  | cons x xs ih =>
    intro c hc
    cases x with
    | inl x =>
      simp only [castEs] at hc
      split at hc
      · rename_i c1 c2 h1 h2
        obtain rfl := Option.some.inj hc
        obtain ⟨h3, h4⟩ := castL_ok h h1
        obtain ⟨h5, h6⟩ := ih h2
        refine ⟨h3.app h5, fun {vs} hv ψ' ro' ht fz hfz hro => ?_⟩
        cases vs with
        | nil => exact hv.elim
        | cons v vs => exact ⟨h4 hv.1 ψ' ro' ht.left fz (fun r hr => hfz r (List.mem_append_left _ hr)) hro, h6 hv.2 ψ' ro' ht.right fz (fun r hr => hfz r (List.mem_append_right _ hr)) hro⟩
      · cases hc
    | inr cs =>
      simp only [castEs] at hc
      split at hc
      · rename_i c1 c2 h1 h2
        obtain rfl := Option.some.inj hc
        obtain ⟨h3, h4⟩ := castLs_ok h h1
        obtain ⟨h5, h6⟩ := ih h2
        refine ⟨h3.app h5, fun {vs} hv ψ' ro' ht fz hfz hro => ?_⟩
        cases vs with
        | nil => exact hv.elim
        | cons v vs =>
          obtain ⟨⟨us, rfl, hu⟩, hv2⟩ := hv
          exact ⟨⟨us, rfl, h4 hu ψ' ro' ht.left fz (fun r hr => hfz r (List.mem_append_left _ hr)) hro⟩, h6 hv2 ψ' ro' ht.right fz (fun r hr => hfz r (List.mem_append_right _ hr)) hro⟩
      · cases hc
theorem castV_ok (h : Rel cx ψ st a w) {bks : List Nat} {cts : List Ct} {x : SV} {c : Cs SV} (hc : castV st.hp bks cts x = some c) : RowsOk st.hp c.rows ∧ ∀ {v : Value}, RV ψ (RO cx ψ st.hp) w x v → ∀ (ψ' : Nat → Value) (ro' : Addr → Prop), Tells ψ ψ' bks c.rows → ∀ (fz : List Nat), (∀ r ∈ c.frz, r ∈ fz) → (∀ p, RO cx ψ (upsH st.hp (fz.map Up.frz)) p → ro' p) → RV ψ' ro' w c.v v := by
  cases x with
  | l x =>
    simp only [castV] at hc
    split at hc
    · rename_i c1 h1
      obtain rfl := Option.some.inj hc
      exact castL_ok h h1
    · cases hc
  | agg cs =>
    simp only [castV] at hc
    split at hc
    · rename_i c1 h1
      obtain rfl := Option.some.inj hc
      obtain ⟨h2, h3⟩ := castLs_ok h h1
      refine ⟨h2, fun {v} hv ψ' ro' ht fz hfz hro => ?_⟩
      obtain ⟨vs, rfl, hv⟩ := hv
      exact ⟨vs, rfl, h3 hv ψ' ro' ht fz hfz hro⟩
    · cases hc
  | fn f cs =>
    simp only [castV] at hc
    split at hc
    · rename_i c1 h1
      obtain rfl := Option.some.inj hc
      obtain ⟨h2, h3⟩ := castLs_ok h h1
      refine ⟨h2, fun {v} hv ψ' ro' ht fz hfz hro => ?_⟩
      obtain ⟨vs, rfl, hv⟩ := hv
      exact ⟨vs, rfl, h3 hv ψ' ro' ht fz hfz hro⟩
    · cases hc
  | tup es =>
    simp only [castV] at hc
    split at hc
    · rename_i c1 h1
      obtain rfl := Option.some.inj hc
      obtain ⟨h2, h3⟩ := castEs_ok h h1
      refine ⟨h2, fun {v} hv ψ' ro' ht fz hfz hro => ?_⟩
      obtain ⟨vs, rfl, hv⟩ := hv
      exact ⟨vs, rfl, h3 hv ψ' ro' ht fz hfz hro⟩
    · cases hc
theorem castEnv_ok (h : Rel cx ψ st a w) {bks : List Nat} : ∀ {ks : List (Nat × List Ct)} {c : Cs (List (Nat × SV))}, castEnv st.hp bks st.env ks = some c → RowsOk st.hp c.rows ∧ ∀ (ψ' : Nat → Value) (ro' : Addr → Prop), Tells ψ ψ' bks c.rows → ∀ (fz : List Nat), (∀ r ∈ c.frz, r ∈ fz) → (∀ p, RO cx ψ (upsH st.hp (fz.map Up.frz)) p → ro' p) → ∀ d, RV ψ' ro' w (getE c.v d) (a.tmps.getD d undef)
  | [], c, hc => by
    obtain rfl := Option.some.inj hc
    exact ⟨(fun _ _ _ h => by cases h), fun _ _ _ _ _ _ _ => trivial⟩
  | (i, cts) :: r, c, hc => by
    simp only [castEnv] at hc
    split at hc
    · rename_i c1 c2 h1 h2
      obtain rfl := Option.some.inj hc
      obtain ⟨h3, h4⟩ := castV_ok h h1
      obtain ⟨h5, h6⟩ := castEnv_ok h h2
      refine ⟨h3.app h5, fun ψ' ro' ht fz hfz hro d => ?_⟩
      simp only [getE]
      cases hd : Nat.beq i d with
      | true =>
        obtain rfl := Nat.eq_of_beq_eq_true hd
        exact h4 (h.env i) ψ' ro' ht.left fz (fun r hr => hfz r (List.mem_append_left _ hr)) hro
      | false => exact h6 ψ' ro' ht.right fz (fun r hr => hfz r (List.mem_append_right _ hr)) hro d
    · cases hc
theorem castBx_ok (h : Rel cx ψ st a w) {bks : List Nat} : ∀ {ks : List (Nat × List Ct)} {c : Cs Heap}, castBx st.hp bks ks = some c → RowsOk st.hp c.rows ∧ (∀ b o, getH c.v b = some o → b ∈ ks.map Prod.fst ∧ o.live = true ∧ ∃ o', getH st.hp b = some o' ∧ o'.live = true) ∧ ∀ (ψ' : Nat → Value) (ro' : Addr → Prop), Tells ψ ψ' bks c.rows → ∀ (fz : List Nat), (∀ r ∈ c.frz, r ∈ fz) → (∀ p, RO cx ψ (upsH st.hp (fz.map Up.frz)) p → ro' p) → ∀ b o, getH c.v b = some o → OOk ψ' ro' w o (ψ b)
  | [], c, hc => by
    obtain rfl := Option.some.inj hc
    exact ⟨(fun _ _ _ h => by cases h), (fun b o hb => by cases hb), (fun _ _ _ _ _ _ b o hb => by cases hb)⟩
  | (i, cts) :: r, c, hc => by
    simp only [castBx] at hc
    split at hc
    · rename_i t cs hi
      split at hc
      · rename_i c1 c2 h1 h2
        obtain rfl := Option.some.inj hc
        obtain ⟨h3, h4⟩ := castLs_ok h h1
        obtain ⟨h5, h7, h6⟩ := castBx_ok h h2
        refine ⟨h3.app h5, fun b o hb => ?_, fun ψ' ro' ht fz hfz hro b o hb => ?_⟩
        · simp only [getH] at hb
          cases hd : Nat.beq i b with
          | true =>
            obtain rfl := Nat.eq_of_beq_eq_true hd
            rw [hd] at hb
            obtain rfl := Option.some.inj hb
            exact ⟨List.mem_cons_self, rfl, _, hi, rfl⟩
          | false =>
            rw [hd] at hb
            obtain ⟨h8, h9, h10⟩ := h7 b o hb
            exact ⟨List.mem_cons_of_mem _ h8, h9, h10⟩
        · simp only [getH] at hb
          cases hd : Nat.beq i b with
          | true =>
            obtain rfl := Nat.eq_of_beq_eq_true hd
            rw [hd] at hb
            obtain rfl := Option.some.inj hb
            obtain ⟨g, vs, h8, h9, h10⟩ := h.obj i _ hi
            exact ⟨g, vs, h8, h9, h4 h10 ψ' ro' ht.left fz (fun r hr => hfz r (List.mem_append_left _ hr)) hro⟩
          | false =>
            rw [hd] at hb
            exact h6 ψ' ro' ht.right fz (fun r hr => hfz r (List.mem_append_right _ hr)) hro b o hb
      · cases hc
    · cases hc
end
end Go.Proofs.YtopplbiadpcalaaDoor.U

/- The small abstract machine: a pruned state lies in the model's memory as the whole one did. -/
namespace Go.Proofs.YtopplbiadpcalaaDoor.U
open Go Go.RowKit

section
variable {P : Program} {T : Tab} {C : Nat → Option Sp} {ρ : Type} {cx : Cx} {ψ : Nat → Value} {st : St} {a : Act} {w : World} {out : ρ} {Q : Exit → Act → World → Prop}
theorem getH_app (h1 h2 : Heap) (b : Nat) : getH (h1 ++ h2) b = (getH h1 b).or (getH h2 b) := by
  induction h1 with
  | nil => simp [getH]
  | cons p r ih =>
    obtain ⟨i, o⟩ := p
    simp only [List.cons_append, getH]
    cases Nat.beq i b with
    | true => rfl
    | false => exact ih
theorem distinct_ne {l : List Nat} (h : distinct l = true) : l.Nodup := by
  induction l with
  | nil => exact List.nodup_nil
  | cons b bs ih =>
    simp only [distinct, Bool.and_eq_true, Bool.not_eq_true'] at h
    refine List.nodup_cons.2 ⟨fun hm => ?_, ih h.2⟩
    rw [any_mem.2 hm] at h
    exact absurd h.1 (by decide)
theorem srcs_mem {rows : List Rw} {r' r : Nat} {ob : Ob} (h : (r', some r, ob) ∈ rows) : r ∈ srcs rows := by
  induction rows with
  | nil => cases h
  | cons p q ih =>
    obtain ⟨r1, s1, o1⟩ := p
    rcases List.mem_cons.1 h with he | h'
    · simp only [Prod.mk.injEq] at he
      obtain ⟨rfl, rfl, rfl⟩ := he
      simp [srcs]
    · cases s1 with
      | none => exact ih h'
      | some _ => exact List.mem_cons_of_mem _ (ih h')
theorem srcs_inj {rows : List Rw} (hd : (srcs rows).Nodup) {r1 r2 r : Nat} {o1 o2 : Ob} (h1 : (r1, some r, o1) ∈ rows) (h2 : (r2, some r, o2) ∈ rows) : r1 = r2 := by
  induction rows with
  | nil => cases h1
  | cons p q ih =>
    obtain ⟨r3, s3, o3⟩ := p
    cases s3 with
    | none =>
      rcases List.mem_cons.1 h1 with he | h1'
      · simp at he
      · rcases List.mem_cons.1 h2 with he | h2'
        · simp at he
        · exact ih hd h1' h2'
    | some r' =>
      simp only [srcs, List.nodup_cons] at hd
      rcases List.mem_cons.1 h1 with he | h1'
      · simp only [Prod.mk.injEq, Option.some.injEq] at he
        obtain ⟨rfl, rfl, rfl⟩ := he
        rcases List.mem_cons.1 h2 with he | h2'
        · simp only [Prod.mk.injEq, Option.some.injEq] at he
          exact he.1.symm
        · exact absurd (srcs_mem h2') hd.1
      · rcases List.mem_cons.1 h2 with he | h2'
        · simp only [Prod.mk.injEq, Option.some.injEq] at he
          obtain ⟨rfl, rfl, rfl⟩ := he
          exact absurd (srcs_mem h1') hd.1
        · exact ih hd.2 h1' h2'
theorem getH_rows {rows : List Rw} {b : Nat} {o : Ob} (h : getH (rows.map (fun x => (x.1, x.2.2))) b = some o) : ∃ s, (b, s, o) ∈ rows := by
  obtain ⟨⟨r', s, ob⟩, hm, he⟩ := List.mem_map.1 (getH_mem h)
  simp only [Prod.mk.injEq] at he
  obtain ⟨rfl, rfl⟩ := he
  exact ⟨s, hm⟩
theorem Rel.prune (h : Rel cx ψ st a w) {kp : Keep} {st' : St} (hp : st.prune kp = some st') : ∃ ψ', Rel cx ψ' st' a w := by
  unfold St.prune at hp
  simp only at hp
  split at hp
  · rename_i ca cb hca hcb
    split at hp
    · rename_i hok
      obtain rfl := Option.some.inj hp
      simp only [okRows, Bool.and_eq_true] at hok
      obtain ⟨⟨⟨hd1, hd2⟩, hd3⟩, hd4⟩ := hok
      have hd2 := distinct_ne hd2
      obtain ⟨hr1, he1⟩ := castEnv_ok h hca
      obtain ⟨hr2, hb0, hb1⟩ := castBx_ok h hcb
      have hrows := hr1.app hr2
      have hnb : ∀ r' s ob, (r', s, ob) ∈ ca.rows ++ cb.rows → r' ∉ kp.bx.map Prod.fst ∧ (r' ∈ st.pin → s = some r') := by
        intro r' s ob hm
        have := List.all_eq_true.1 hd4 _ hm
        simp only [Bool.and_eq_true, Bool.or_eq_true, Bool.not_eq_true'] at this
        refine ⟨fun hmm => ?_, fun hmm => ?_⟩
        · rw [any_mem.2 hmm] at this; exact absurd this.1 (by decide)
        · rcases this.2 with h2 | h2
          · rw [any_mem.2 hmm] at h2; exact absurd h2 (by decide)
          · cases s with
            | none => cases h2
            | some r => rw [Nat.eq_of_beq_eq_true h2]
      have hsf : ∀ r' r ob, (r', some r, ob) ∈ ca.rows ++ cb.rows → r ∉ ca.frz ++ cb.frz := by
        intro r' r ob hm hf
        have := List.all_eq_true.1 hd3 r (srcs_mem hm)
        rw [any_mem.2 hf] at this
        exact absurd this (by decide)
      refine ⟨rowVal ψ (ca.rows ++ cb.rows), ?_⟩
      have htell : Tells ψ (rowVal ψ (ca.rows ++ cb.rows)) (kp.bx.map Prod.fst) (ca.rows ++ cb.rows) := by
        refine ⟨fun r' s ob hm => rowVal_mem hd1 hm, fun b hb => rowVal_not fun hm => ?_⟩
        obtain ⟨⟨r', s, ob⟩, hm', he⟩ := List.mem_map.1 hm
        simp only at he
        subst he
        exact (hnb r' s ob hm').1 hb
      have hF := h.frzs (ca.frz ++ cb.frz)
      -- what is live in the pruned heap was so in the old one
      have hlive : ∀ b o, getH (cb.v ++ (ca.rows ++ cb.rows).map (fun x => (x.1, x.2.2))) b = some o → o.live = true →
          (∃ s os, (getH (upsH st.hp ((ca.frz ++ cb.frz).map Up.frz)) s = some os ∧ os.live = true ∧ rowVal ψ (ca.rows ++ cb.rows) b = ψ s) ∧ ((s = b ∧ b ∈ kp.bx.map Prod.fst ∧ ∃ t cs, getH st.hp s = some (.box t cs)) ∨ ∃ ob, (b, some s, ob) ∈ ca.rows ++ cb.rows ∧ ∃ k e xs nil, getH st.hp s = some (.row k e xs nil false))) ∨ blk (rowVal ψ (ca.rows ++ cb.rows) b) = none := by
        intro b o hb hl
        rw [getH_app] at hb
        cases hbv : getH cb.v b with
        | some o1 =>
          obtain ⟨h1, _, o', h2, h3⟩ := hb0 b o1 hbv
          left
          have hbox : ∃ t cs, getH st.hp b = some (.box t cs) := by
            clear hb hl h3 h2
            have : ∀ {ks : List (Nat × List Ct)} {c : Cs Heap}, castBx st.hp (kp.bx.map Prod.fst) ks = some c → getH c.v b = some o1 → ∃ t cs, getH st.hp b = some (.box t cs) := by
              intro ks
              induction ks with
              | nil => intro c hc hg; obtain rfl := Option.some.inj hc; cases hg
              | cons p q ih =>
                intro c hc hg
                obtain ⟨i, cts⟩ := p
                simp only [castBx] at hc
                split at hc
                · rename_i t cs hi
                  split at hc
                  · rename_i c1 c2 _ h2
                    obtain rfl := Option.some.inj hc
                    simp only [getH] at hg
                    cases hd : Nat.beq i b with
                    | true => rw [← Nat.eq_of_beq_eq_true hd]; exact ⟨t, cs, hi⟩
                    | false => rw [hd] at hg; exact ih h2 hg
                  · cases hc
                · cases hc
            exact this hcb hbv
          obtain ⟨t, cs, hbox⟩ := hbox
          refine ⟨b, .box t cs, ⟨?_, rfl, htell.2 b h1⟩, .inl ⟨rfl, h1, t, cs, hbox⟩⟩
          rw [getH_frzs, hbox]
          split <;> rfl
        | none =>
          rw [hbv] at hb
          simp only [Option.none_or] at hb
          obtain ⟨s, hm⟩ := getH_rows hb
          have hv := htell.1 b s o hm
          cases s with
          | none => right; rw [hv]; rfl
          | some r =>
            left
            obtain ⟨k, e, h1⟩ := hrows b (some r) o hm
            rcases h1 with ⟨h1, _⟩ | ⟨r2, xs, nil, h1, h2, h3⟩
            · cases h1
            · obtain rfl := Option.some.inj h1
              refine ⟨r, .row k e xs nil false, ⟨?_, rfl, hv⟩, .inr ⟨o, hm, k, e, xs, nil, h2⟩⟩
              rw [getH_frzs, if_neg (hsf b r o hm)]
              exact h2
      have hlb : ∀ g, LB (rowVal ψ (ca.rows ++ cb.rows)) (cb.v ++ (ca.rows ++ cb.rows).map (fun x => (x.1, x.2.2))) g → LB ψ (upsH st.hp ((ca.frz ++ cb.frz).map Up.frz)) g := by
        rintro g ⟨b, o, hb, hl, hk⟩
        rcases hlive b o hb hl with ⟨s, os, ⟨h1, h2, h3⟩, _⟩ | h1
        · exact ⟨s, os, h1, h2, by rw [← h3]; exact hk⟩
        · rw [h1] at hk; cases hk
      have hro : ∀ p, RO cx ψ (upsH st.hp ((ca.frz ++ cb.frz).map Up.frz)) p → RO cx (rowVal ψ (ca.rows ++ cb.rows)) (cb.v ++ (ca.rows ++ cb.rows).map (fun x => (x.1, x.2.2))) p := fun p hp => ⟨hp.1, fun hb => hp.2 (hlb _ hb)⟩
      exact {
        nt := h.nt
        df := h.df
        env := he1 _ _ htell.left (ca.frz ++ cb.frz) (fun r hr => List.mem_append_left _ hr) hro
        obj := fun b o hb => by
          have hb : getH (cb.v ++ (ca.rows ++ cb.rows).map (fun x => (x.1, x.2.2))) b = some o := hb
          rw [getH_app] at hb
          cases hbv : getH cb.v b with
          | some o1 =>
            rw [hbv] at hb
            obtain rfl := Option.some.inj hb
            obtain ⟨h1, _⟩ := hb0 b o1 hbv
            rw [htell.2 b h1]
            exact hb1 _ _ htell.right (ca.frz ++ cb.frz) (fun r hr => List.mem_append_right _ hr) hro b o1 hbv
          | none =>
            rw [hbv] at hb
            simp only [Option.none_or] at hb
            obtain ⟨s, hm⟩ := getH_rows hb
            rw [htell.1 b s o hm]
            obtain ⟨k, e, h1⟩ := hrows b s o hm
            rcases h1 with ⟨rfl, rfl⟩ | ⟨r, xs, nil, rfl, h2, rfl⟩
            · exact ⟨[], World.ownsRow_nil w 0 e k.sz, rfl, fun b hb => (nomatch hb)⟩
            · have h3 : getH (upsH st.hp ((ca.frz ++ cb.frz).map Up.frz)) r = some (.row k e xs nil false) := by
                rw [getH_frzs, if_neg (hsf b r _ hm)]; exact h2
              obtain ⟨us, h4, h5, _⟩ := hF.obj r _ h3
              exact ⟨us, h4, h5.mono (fun p u hpu => ⟨hro p hpu.1, hpu.2⟩), fun b hb => (nomatch hb)⟩
        onew := fun g hg => hF.onew g (hlb g hg)
        oinj := fun b b' o o' g hb hb' hl hl' hk hk' => by
          rcases hlive b o hb hl with ⟨s, os, ⟨h1, h2, h3⟩, h4⟩ | h1
          · rcases hlive b' o' hb' hl' with ⟨s', os', ⟨h1', h2', h3'⟩, h4'⟩ | h1'
            · have hss : s = s' := hF.oinj s s' os os' g h1 h1' h2 h2' (by rw [← h3]; exact hk) (by rw [← h3']; exact hk')
              subst hss
              rcases h4 with ⟨rfl, _, t, cs, h5⟩ | ⟨ob, h5, k, e, xs, nil, h6⟩
              · rcases h4' with ⟨h5', _⟩ | ⟨ob', h5', k, e, xs, nil, h6'⟩
                · exact h5'
                · rw [h5] at h6'; cases h6'
              · rcases h4' with ⟨rfl, _, t, cs, h5'⟩ | ⟨ob', h5', _⟩
                · rw [h5'] at h6; cases h6
                · exact srcs_inj hd2 h5 h5'
            · rw [h1'] at hk'; cases hk'
          · rw [h1] at hk; cases hk
        fr := h.fr
        pin := ⟨h.pin.1, fun b hb => by
          refine Eq.trans ?_ (h.pin.2 b hb)
          by_cases hm : b ∈ (ca.rows ++ cb.rows).map Prod.fst
          · obtain ⟨⟨r', s, ob⟩, hm', he⟩ := List.mem_map.1 hm
            simp only at he
            subst he
            rw [htell.1 r' s ob hm', (hnb r' s ob hm').2 hb]
            rfl
          · exact rowVal_not hm⟩ }
    · cases hp
  · cases hp
end
end Go.Proofs.YtopplbiadpcalaaDoor.U

/- The small abstract machine: what an operation does hangs on its operands, and on the objects they lead to, alone. -/
namespace Go.Proofs.YtopplbiadpcalaaDoor.U
open Go Go.RowKit

def slotsOf (o : Oper) : List Nat := o.op.operands.toList.filterMap fun x => match x with
  | .tmp t => some t
  | _ => none
def refsOf (cs : List L) : List Nat := cs.filterMap L.ref
def opLeaves (o : Oper) (st : St) : List L := o.op.operands.toList.flatMap fun x => (opd st x).leaves
section
variable (T : Tab) (C : Nat → Option Sp)
def callKeys (c : Call) (st : St) : List Nat := match c.callee with
  | .value f => match opd st f with
    | .fn g caps => match C g with
      | some sp =>
        let as0 := c.args.toList.map (opd st)
        let ln := lent st.hp sp.own as0
        let as1 := normAs T st.hp sp.own c.argTypes.toList as0 ++ caps.map SV.l
        reach (upsH st.hp (ln.map Up.frz)) 64 (as1.flatMap SV.leaves) []
      | none => []
    | _ => []
  | _ => []
/-- The objects that an operation looks at. -/
def idleOp : Go.Op → Bool
  | .move _ => true
  | .assign _ => true
  | .pick _ _ _ => true
  | _ => false
def keysOf (o : Oper) (st : St) : List Nat := match idleOp o.op with
  | true => []
  | false => refsOf (opLeaves o st) ++ match o.op with
    | .call c => callKeys T C c st
    | _ => []
end
section
variable {T : Tab} {C : Nat → Option Sp} {st st' : St} {hp hp' : Heap}
/-- Two heaps agree on what cells name. -/
def Ag (hp' hp : Heap) (cs : List L) : Prop := ∀ x ∈ cs, ∀ b, x.ref = some b → getH hp' b = getH hp b
theorem Ag.sub {cs ds : List L} (h : Ag hp' hp cs) (hs : ∀ x ∈ ds, x ∈ cs) : Ag hp' hp ds := fun x hx => h x (hs x hx)
theorem sliOf_ag {x : L} (h : Ag hp' hp [x]) : sliOf hp' x = sliOf hp x := by
  cases x <;> simp only [sliOf]
  rename_i r
  rw [h _ List.mem_cons_self r rfl]
theorem frzL_ag {x : L} (h : Ag hp' hp [x]) : frzL hp' x = frzL hp x := by
  cases x <;> simp only [frzL]
  rename_i r
  rw [h _ List.mem_cons_self r rfl]
theorem rowsIn_ag : ∀ {cs : List L}, Ag hp' hp cs → rowsIn hp' cs = rowsIn hp cs
  | [], _ => rfl
  | x :: cs, h => by
    have ih := rowsIn_ag (cs := cs) (h.sub fun y hy => List.mem_cons_of_mem _ hy)
    cases x <;> simp only [rowsIn, ih]
    rename_i r
    rw [h _ List.mem_cons_self r rfl]
theorem frzUps_ag {cs : List L} (h : Ag hp' hp cs) : frzUps hp' cs = frzUps hp cs := by simp only [frzUps, rowsIn_ag h]
theorem map_frzL_ag {cs : List L} (h : Ag hp' hp cs) : cs.map (frzL hp') = cs.map (frzL hp) := by
  apply List.map_congr_left
  intro x hx
  exact frzL_ag (h.sub fun y hy => by rw [List.mem_singleton.1 hy]; exact hx)
theorem lenL_ag {x : L} (h : Ag hp' hp [x]) (d : TD) : lenL hp' d x = lenL hp d x := by
  unfold lenL
  split <;> first | rfl | rw [sliOf_ag h]
theorem eqV_ag {t : Nat} {x y : SV} (h : Ag hp' hp x.leaves) : eqV T hp' t x y = eqV T hp t x y := by
  unfold eqV
  split
  · split <;> first | rfl | skip
    rename_i r _
    simp only [rowNil]
    rw [h (.rs r) (by simp [SV.leaves]) r rfl]
  · rfl
theorem getH_frzUps_ag {cs : List L} (h : Ag hp' hp cs) {r : Nat} (hr : getH hp' r = getH hp r) : getH (upsH hp' (frzUps hp' cs)) r = getH (upsH hp (frzUps hp cs)) r := by
  simp only [frzUps]
  rw [getH_frzs, getH_frzs, rowsIn_ag h, hr]
theorem cellsOf_leaves {i : TI} {x : SV} {cs : List L} (h : cellsOf i x = some cs) : cs = x.leaves := by
  cases x with
  | l x =>
    simp only [cellsOf] at h
    split at h
    · cases h
    · split at h
      · exact (Option.some.inj h).symm
      · cases h
  | agg cs' =>
    simp only [cellsOf] at h
    split at h
    · exact (Option.some.inj h).symm
    · cases h
  | _ => cases h
theorem partsAt_ag {fs : List (Nat × Nat)} : ∀ {ps : List (Nat × Operand)} {cs : List L}, (∀ x ∈ ps, opd st' x.2 = opd st x.2) → partsAt T st' fs ps cs = partsAt T st fs ps cs
  | [], _, _ => rfl
  | (j, x) :: r, cs, h => by
    simp only [partsAt]
    rw [h _ List.mem_cons_self]
    have ih := fun cs' => partsAt_ag (fs := fs) (ps := r) (cs := cs') fun y hy => h y (List.mem_cons_of_mem _ hy)
    simp only [ih]
theorem elemsOf_ag {i : TI} {k : Kn} : ∀ {ps : List (Nat × Operand)} {n : Nat}, (∀ x ∈ ps, opd st' x.2 = opd st x.2) → (∀ x ∈ ps, Ag st'.hp st.hp (opd st x.2).leaves) → elemsOf T st' i k n ps = elemsOf T st i k n ps
  | [], _, _, _ => rfl
  | (j, x) :: r, n, h, ha => by
    have hx : opd st' x = opd st x := h _ List.mem_cons_self
    have hax : Ag st'.hp st.hp (opd st x).leaves := ha _ List.mem_cons_self
    simp only [elemsOf]
    rw [hx, elemsOf_ag (ps := r) (n := n + 1) (fun y hy => h y (List.mem_cons_of_mem _ hy)) (fun y hy => ha y (List.mem_cons_of_mem _ hy))]
    cases Nat.beq j n with
    | false => rfl
    | true =>
      cases hy : cellsOf i (opd st x) with
      | none => rfl
      | some ys =>
        simp only
        rw [map_frzL_ag (hax.sub fun y hy' => by rw [cellsOf_leaves hy] at hy'; exact hy')]
theorem elemsOf_leaves {i : TI} {k : Kn} : ∀ {ps : List (Nat × Operand)} {n : Nat} {xs : List (den k)} {cs : List L}, elemsOf T st i k n ps = some (xs, cs) → ∀ y ∈ cs, ∃ x ∈ ps, y ∈ (opd st x.2).leaves
  | [], n, xs, cs, h, y, hy => by
    simp only [elemsOf, Option.some.injEq, Prod.mk.injEq] at h
    rw [← h.2] at hy; cases hy
  | (j, x) :: r, n, xs, cs, h, y, hy => by
    simp only [elemsOf] at h
    split at h
    · cases h
    · split at h
      · rename_i ys hys
        split at h
        · split at h
          · rename_i zs cs' hr
            simp only [Option.some.injEq, Prod.mk.injEq] at h
            rw [← h.2] at hy
            rcases List.mem_append.1 hy with hy | hy
            · exact ⟨_, List.mem_cons_self, by rw [← cellsOf_leaves hys]; exact hy⟩
            · obtain ⟨z, hz, hzy⟩ := elemsOf_leaves hr y hy
              exact ⟨z, List.mem_cons_of_mem _ hz, hzy⟩
          · cases h
        · cases h
      · cases h
theorem capsOf_ag : ∀ {xs : List Operand}, (∀ x ∈ xs, opd st' x = opd st x) → capsOf st' xs = capsOf st xs
  | [], _ => rfl
  | x :: r, h => by
    simp only [capsOf]
    rw [h x List.mem_cons_self, capsOf_ag (xs := r) fun y hy => h y (List.mem_cons_of_mem _ hy)]
theorem intOf_ag {x : Operand} (h : opd st' x = opd st x) : intOf st' x = intOf st x := by simp only [intOf, h]
theorem bndV_ag {x : Option Operand} {d : Int} (h : ∀ y, x = some y → opd st' y = opd st y) : bndV st' d x = bndV st d x := by
  cases x with
  | none => rfl
  | some y => exact intOf_ag (h y rfl)
theorem lent_ag : ∀ {own : List Bool} {vs : List SV}, (∀ v ∈ vs, Ag hp' hp v.leaves) → lent hp' own vs = lent hp own vs := by
  intro own vs
  induction vs generalizing own with
  | nil => intro _; cases own with
    | nil => rfl
    | cons b bs => cases b <;> rfl
  | cons v vs ih =>
    intro h
    have h1 := rowsIn_ag (h v List.mem_cons_self)
    have h2 := fun own => ih (own := own) fun u hu => h u (List.mem_cons_of_mem _ hu)
    cases own with
    | nil => simp only [lent, h1, h2]
    | cons b bs => cases b <;> simp only [lent, h1, h2]
theorem normSV_ag {own : Bool} {t : Nat} {v : SV} (h : Ag hp' hp v.leaves) : normSV T hp' own t v = normSV T hp own t v := by
  cases own with
  | true => rfl
  | false =>
    cases v with
    | l x => simp only [normSV]; rw [frzL_ag h]
    | agg cs =>
      have h : Ag hp' hp cs := h
      simp only [normSV]; rw [map_frzL_ag h]
    | _ => rfl
theorem normAs_ag : ∀ {own : List Bool} {ts : List Nat} {vs : List SV}, (∀ v ∈ vs, Ag hp' hp v.leaves) → normAs T hp' own ts vs = normAs T hp own ts vs := by
  intro own ts vs
  induction vs generalizing own ts with
  | nil => intro _; cases own <;> cases ts <;> rfl
  | cons v vs ih =>
    intro h
    have h1 := fun own t => normSV_ag (T := T) (own := own) (t := t) (h v List.mem_cons_self)
    have h2 := fun own ts => ih (own := own) (ts := ts) fun u hu => h u (List.mem_cons_of_mem _ hu)
    cases ts with
    | nil => cases own <;> rfl
    | cons t ts => cases own <;> simp only [normAs, h1, h2]
theorem reach_acc : ∀ {n : Nat} {cs : List L} {acc : List Nat} {b : Nat}, b ∈ acc → b ∈ reach hp n cs acc
  | 0, _, _, _, h => h
  | _ + 1, [], _, _, h => h
  | n + 1, x :: cs, acc, b, h => by
    simp only [reach]
    split
    · exact reach_acc h
    · split
      · exact reach_acc h
      · split
        · exact reach_acc (List.mem_append_left _ h)
        · exact reach_acc (List.mem_append_left _ h)
theorem reach_ag : ∀ {n : Nat} {cs : List L} {acc : List Nat}, (∀ b ∈ reach hp n cs acc, getH hp' b = getH hp b) → reach hp' n cs acc = reach hp n cs acc
  | 0, _, _, _ => rfl
  | n + 1, [], _, _ => rfl
  | n + 1, x :: cs, acc, h => by
    simp only [reach] at h ⊢
    cases hx : x.ref with
    | none => rw [hx] at h; exact reach_ag h
    | some b =>
      rw [hx] at h
      simp only at h ⊢
      cases ha : acc.any (Nat.beq b) with
      | true => rw [ha] at h; exact reach_ag h
      | false =>
        rw [ha] at h
        simp only at h ⊢
        have hb : getH hp' b = getH hp b := by
          refine h b ?_
          split
          · exact reach_acc (List.mem_append_right _ List.mem_cons_self)
          · exact reach_acc (List.mem_append_right _ List.mem_cons_self)
        rw [hb]
        cases hg : getH hp b with
        | some o => rw [hg] at h; exact reach_ag h
        | none => rw [hg] at h; exact reach_ag h
theorem pickH_ag : ∀ {fp : List Nat}, (∀ b ∈ fp, getH hp' b = getH hp b) → pickH hp' fp = pickH hp fp
  | [], _ => rfl
  | b :: fp, h => by
    simp only [pickH]
    rw [h b List.mem_cons_self, pickH_ag fun c hc => h c (List.mem_cons_of_mem _ hc)]
theorem frzs_ag (rs : List Nat) {b : Nat} (h : getH hp' b = getH hp b) : getH (upsH hp' (rs.map Up.frz)) b = getH (upsH hp (rs.map Up.frz)) b := by
  rw [getH_frzs, getH_frzs, h]
theorem idle_loc {o : Oper} (hi : idleOp o.op = true) (hE : ∀ x ∈ o.op.operands.toList, opd st' x = opd st x) : eff0 T C o st' = eff0 T C o st := by
  obtain ⟨dst, op, ty, pos, after, guard⟩ := o
  cases op with
  | move x => simp only [eff0, hE x (by simp [Op.operands])]
  | assign x => simp only [eff0, hE x (by simp [Op.operands])]
  | pick c x y => simp only [eff0, hE c (by simp [Op.operands]), hE x (by simp [Op.operands]), hE y (by simp [Op.operands])]
  | _ => cases hi
theorem eff0_loc {o : Oper} (hE : ∀ x ∈ o.op.operands.toList, opd st' x = opd st x) (hH0 : ∀ b ∈ keysOf T C o st, getH st'.hp b = getH st.hp b) : eff0 T C o st' = eff0 T C o st := by
  cases hid : idleOp o.op with
  | true => exact idle_loc hid hE
  | false =>
  have hH : ∀ b ∈ refsOf (opLeaves o st) ++ (match o.op with | .call c => callKeys T C c st | _ => []), getH st'.hp b = getH st.hp b := fun b hb => hH0 b (by unfold keysOf; rw [hid]; exact hb)
  have hA : ∀ x ∈ o.op.operands.toList, Ag st'.hp st.hp (opd st x).leaves := by
    intro x hx y hy b hb
    refine hH b (List.mem_append_left _ (List.mem_filterMap.2 ⟨y, List.mem_flatMap.2 ⟨x, hx, hy⟩, hb⟩))
  have hAl : ∀ {x : Operand} {y : L}, x ∈ o.op.operands.toList → opd st x = .l y → Ag st'.hp st.hp [y] := by
    intro x y hx hy
    have := hA x hx
    rw [hy] at this
    exact this
  obtain ⟨dst, op, ty, pos, after, guard⟩ := o
  cases op with
  | move x => simp only [eff0, hE x (by simp [Op.operands])]
  | assign x => simp only [eff0, hE x (by simp [Op.operands])]
  | pick c x y => simp only [eff0, hE c (by simp [Op.operands]), hE x (by simp [Op.operands]), hE y (by simp [Op.operands])]
  | binOp bop t x y t' =>
    simp only [eff0, hE x (by simp [Op.operands]), hE y (by simp [Op.operands])]
    split
    · rename_i p q h1 h2
      have := eqV_ag (T := T) (t := t) (x := .l p) (y := .l q) (hp' := st'.hp) (hp := st.hp) (by have := hA x (by simp [Op.operands]); rw [h1] at this; exact this)
      rw [this]
    · rfl
  | unOp uop t x => simp only [eff0, hE x (by simp [Op.operands])]
  | extract x i => simp only [eff0, hE x (by simp [Op.operands])]
  | build t ps =>
    have := fun fs cs => partsAt_ag (T := T) (st := st) (st' := st') (fs := fs) (ps := ps.toList) (cs := cs) (fun x hx => hE x.2 (by simp only [Op.operands]; exact List.mem_map_of_mem hx))
    simp only [eff0, this]
  | field t x j => simp only [eff0, hE x (by simp [Op.operands])]
  | box t x => simp only [eff0, hE x (by simp [Op.operands])]
  | alloc t => rfl
  | load t x =>
    simp only [eff0, hE x (by simp [Op.operands])]
    split
    · rename_i i b off hi h1
      rw [hAl (x := x) (by simp [Op.operands]) h1 _ List.mem_cons_self b rfl]
    · rfl
    · rename_i i r sz j off hi h1
      rw [hAl (x := x) (by simp [Op.operands]) h1 _ List.mem_cons_self r rfl]
    · rfl
  | store t x y =>
    simp only [eff0, hE x (by simp [Op.operands]), hE y (by simp [Op.operands])]
    split
    · rename_i i b off hi h1
      rw [hAl (x := x) (by simp [Op.operands]) h1 _ List.mem_cons_self b rfl]
    · rename_i i r sz j off hi h1
      have hr := hAl (x := x) (by simp [Op.operands]) h1 _ List.mem_cons_self r rfl
      split
      · rename_i ys hc
        have hy := hA y (by simp [Op.operands])
        rw [← cellsOf_leaves hc] at hy
        rw [getH_frzUps_ag hy hr, map_frzL_ag hy, frzUps_ag hy]
      · rfl
    · rfl
  | fieldAddr t x j => simp only [eff0, hE x (by simp [Op.operands])]
  | indexAddr t x y =>
    simp only [eff0, hE x (by simp [Op.operands]), intOf_ag (hE y (by simp [Op.operands]))]
    split
    · split
      · rfl
      · rename_i r h1
        rw [hAl (x := x) (by simp [Op.operands]) h1 _ List.mem_cons_self r rfl]
      · rfl
    · rfl
  | index t x y => simp only [eff0, hE x (by simp [Op.operands]), intOf_ag (hE y (by simp [Op.operands]))]
  | nilCheck x => simp only [eff0, hE x (by simp [Op.operands])]
  | convert t t' x =>
    simp only [eff0, hE x (by simp [Op.operands])]
    split
    · split
      · rfl
      · rfl
      · rfl
      · rename_i e y hd hd' h1
        split
        · split
          · rfl
          · rw [sliOf_ag (hAl (x := x) (by simp [Op.operands]) h1)]
        · rfl
      · rfl
    · rfl
  | slice t x lo hi mx =>
    simp only [eff0, hE x (by simp [Op.operands])]
    have hl := fun d => bndV_ag (st := st) (st' := st') (x := lo) (d := d) (fun y hy => hE y (by subst hy; simp [Op.operands]))
    have hh := fun d => bndV_ag (st := st) (st' := st') (x := hi) (d := d) (fun y hy => hE y (by subst hy; simp [Op.operands]))
    simp only [hl, hh]
    split
    · rfl
    · split
      · rfl
      · rename_i y _ h1
        have := hAl (x := x) (by simp [Op.operands]) h1
        rw [sliOf_ag this, frzUps_ag this]
      · rfl
  | buildSlice t len ps =>
    have he := fun i k => elemsOf_ag (T := T) (st := st) (st' := st') (i := i) (k := k) (ps := ps.toList) (n := 0) (fun x hx => hE x.2 (by simp only [Op.operands]; exact List.mem_map_of_mem hx)) (fun x hx => hA x.2 (by simp only [Op.operands]; exact List.mem_map_of_mem hx))
    simp only [eff0, he]
    split
    · split
      · split
        · rename_i xs cs hp _
          have : Ag st'.hp st.hp cs := by
            intro y hy b hb
            obtain ⟨x, hx, hyx⟩ := elemsOf_leaves hp y hy
            exact hA x.2 (by simp only [Op.operands]; exact List.mem_map_of_mem hx) y hyx b hb
          rw [frzUps_ag this]
        · rfl
      · rfl
    · rfl
  | makeFunc fn first caps =>
    have := capsOf_ag (st := st) (st' := st') (xs := caps.toList) (fun x hx => hE x (by simp only [Op.operands, Array.toList_append, List.mem_append]; exact .inr hx))
    cases fn <;> simp only [eff0, this]
  | call c =>
    obtain ⟨callee, args, ts⟩ := c
    have hargs : ∀ x ∈ args.toList, x ∈ (Op.call ⟨callee, args, ts⟩).operands.toList := by
      intro x hx
      simp only [Op.operands, Call.operands]
      cases callee <;> simp [hx] <;> (try exact .inr (by simpa using hx)) <;> simpa using hx
    have hmap : args.toList.map (opd st') = args.toList.map (opd st) := List.map_congr_left fun x hx => hE x (hargs x hx)
    cases callee with
    | invoke r m => rfl
    | builtin b =>
      cases b with
      | len =>
        simp only [eff0]
        split
        · rename_i x t hx ht
          have hm : x ∈ args.toList := by rw [hx]; exact List.mem_cons_self
          rw [hE x (hargs x hm)]
          split
          · rename_i i v hi h1
            rw [lenL_ag (hAl (hargs x hm) h1)]
          · rfl
        · rfl
      | min => simp only [eff0, hmap]
      | max => simp only [eff0, hmap]
      | append =>
        simp only [eff0]
        split
        · rename_i d x y t t' hx ht
          have hmx : x ∈ args.toList := by rw [hx]; exact List.mem_cons_self
          have hmy : y ∈ args.toList := by rw [hx]; exact List.mem_cons_of_mem _ List.mem_cons_self
          rw [hE x (hargs x hmx), hE y (hargs y hmy)]
          split
          · rename_i e k Y htt hel h1 h2
            rw [sliOf_ag (hAl (hargs y hmy) h2)]
          · rename_i e k r htt hel h1 h2
            rw [hAl (hargs x hmx) h1 _ List.mem_cons_self r rfl]
          · rename_i e k r Y _ htt hel h1 h2
            rw [hAl (hargs x hmx) h1 _ List.mem_cons_self r rfl, sliOf_ag (hAl (hargs y hmy) h2)]
          · rfl
        · rfl
      | _ => rfl
    | value f =>
      have hf : f ∈ (Op.call ⟨.value f, args, ts⟩).operands.toList := by simp [Op.operands, Call.operands]
      simp only [eff0]
      rw [hE f hf, hmap]
      split
      · rename_i g caps hg
        split
        · rename_i sp hsp
          have hAv : ∀ v ∈ args.toList.map (opd st), Ag st'.hp st.hp v.leaves := by
            intro v hv
            obtain ⟨x, hx, rfl⟩ := List.mem_map.1 hv
            exact hA x (hargs x hx)
          have hk : ∀ b ∈ reach (upsH st.hp ((lent st.hp sp.own (args.toList.map (opd st))).map Up.frz)) 64 ((normAs T st.hp sp.own ts.toList (args.toList.map (opd st)) ++ caps.map SV.l).flatMap SV.leaves) [], getH st'.hp b = getH st.hp b := by
            intro b hb
            refine hH b (List.mem_append_right _ ?_)
            simp only [callKeys, hg, hsp]
            exact hb
          rw [lent_ag hAv, normAs_ag hAv]
          have hk2 := fun b hb => frzs_ag (hp' := st'.hp) (hp := st.hp) (lent st.hp sp.own (args.toList.map (opd st))) (hk b hb)
          rw [reach_ag hk2, pickH_ag hk2]
          have hall : ∀ (l : List Nat), (∀ b ∈ l, getH (upsH st'.hp ((lent st.hp sp.own (args.toList.map (opd st))).map Up.frz)) b = getH (upsH st.hp ((lent st.hp sp.own (args.toList.map (opd st))).map Up.frz)) b) → l.all (fun b => (getH (upsH st'.hp ((lent st.hp sp.own (args.toList.map (opd st))).map Up.frz)) b).isSome) = l.all (fun b => (getH (upsH st.hp ((lent st.hp sp.own (args.toList.map (opd st))).map Up.frz)) b).isSome) := by
            intro l
            induction l with
            | nil => intro _; rfl
            | cons b l ih =>
              intro h
              simp only [List.all_cons]
              rw [h b List.mem_cons_self, ih fun c hc => h c (List.mem_cons_of_mem _ hc)]
          rw [hall _ hk2]
        · rfl
      · rfl
  | _ => rfl
theorem effP_loc {e e' : Operand → SV} {op : Go.Op} (hE : ∀ x ∈ op.operands.toList, e' x = e x) : effP T e' op = effP T e op := by
  cases op with
  | binOp b t x y t' =>
    have hx := hE x (by simp [Op.operands])
    have hy := hE y (by simp [Op.operands])
    cases b <;> simp only [effP, hx, hy]
  | makeInterface t x => simp only [effP, hE x (by simp [Op.operands])]
  | convert a b x => simp only [effP, hE x (by simp [Op.operands])]
  | _ => rfl
theorem eff_loc {o : Oper} (hE : ∀ x ∈ o.op.operands.toList, opd st' x = opd st x) (hH : ∀ b ∈ keysOf T C o st, getH st'.hp b = getH st.hp b) : eff T C o st' = eff T C o st := by
  simp only [eff, effP_loc hE, eff0_loc hE hH]
end
end Go.Proofs.YtopplbiadpcalaaDoor.U

/- The small abstract machine: regions whose operations come in any order that the model lets them: definitions; what a run in the order of the text says of any other. -/
namespace Go.Proofs.YtopplbiadpcalaaDoor.U
open Go Go.RowKit

/-- An operation that came: what it did (none: it was passed over); the slots and the objects that it looked at. -/
structure Te where
  o : Oper
  ef : Option Ef
  rd : List Nat
  ks : List Nat
def Te.app (st : St) (te : Te) : St := match te.ef with
  | some ef => st.upd te.o ef
  | none => st.put te.o.dst (.l .undef)
def Te.val (te : Te) : SV := match te.ef with
  | some ef => ef.v
  | none => .l .undef
def Te.ups (te : Te) : List Up := match te.ef with
  | some ef => ef.ups
  | none => []
def Te.wr (te : Te) (d : Nat) : Bool := match te.o.dst with
  | some d' => Nat.beq d' d
  | none => false
def Te.tch (te : Te) (b : Nat) : Bool := te.ups.any fun u => Nat.beq u.key b
def rdOf (ops : Array Oper) (o : Oper) : List Nat := slotsOf o ++ match o.guard with
  | some (j, _) => match dstOf ops j with
    | some s => [s]
    | none => []
  | none => []
def depsOf (o : Oper) : List Nat := o.after.toList.filterMap fun e => cond (Region.binds .any e) (some e.on) none
def addN (l : List Nat) (b : Nat) : List Nat := cond (l.any (Nat.beq b)) l (b :: l)
/-- Whatever comes ahead of each operation in any order. -/
def ancGo : List Oper → List (List Nat) → List (List Nat)
  | [], acc => acc
  | o :: os, acc => ancGo os (acc ++ [(depsOf o).foldl (fun s e => (e :: acc.getD e []).foldl addN s) []])
def ordB (anc : List (List Nat)) (k i : Nat) : Bool := (anc.getD i []).any (Nat.beq k) || (anc.getD k []).any (Nat.beq i)
def Up.obs : Up → List L
  | .put _ o => o.leaves
  | .new _ o => o.leaves
  | _ => []
/-- Key d is named by what an operation gives or leaves. -/
def Te.says (te : Te) (d : Nat) : Bool := te.val.leaves.any (L.refs d) || te.ups.any fun u => u.obs.any (L.refs d)
def Te.news (te : Te) : List Nat := te.ups.filterMap fun u => match u with
  | .new b _ => some b
  | _ => none
/-- Two operations, number i and number k, that may come in either order do not meet. -/
def apart2 (anc : List (List Nat)) (a : Te) (i : Nat) (c : Te) (k : Nat) : Bool :=
  Nat.beq i k || (((match c.o.dst with
      | some d => !(a.rd.any (Nat.beq d) || a.wr d)
      | none => true) && c.ups.all (fun u => !(a.ks.any (Nat.beq u.key) || a.tch u.key))) || ordB anc k i) &&
    a.news.all (fun d => !c.says d || (anc.getD k []).any (Nat.beq i))
def saidNot (st : St) (d : Nat) : Bool := st.env.all (fun p => p.2.leaves.all fun x => !x.refs d) && st.hp.all (fun p => p.2.leaves.all fun x => !x.refs d)
def okDraw (anc : List (List Nat)) (st0 : St) (tr : List Te) : Bool :=
  let l := tr.zipIdx 0
  l.all (fun a => (depsOf a.1.o).all fun e => Nat.blt e a.2) && l.all (fun a => l.all (fun c => apart2 anc a.1 a.2 c.1 c.2) && a.1.news.all (saidNot st0))
section
variable {ρ : Type} (T : Tab) (C : Nat → Option Sp)
def goT (ops : Array Oper) : List Oper → St → List Te → (St → List Te → Option ρ) → Option ρ
  | [], st, tr, K => K st tr
  | o :: os, st, tr, K => match o.guard with
    | none => doOp T C o st fun st' => goT ops os st' (tr ++ [⟨o, eff T C o st, rdOf ops o, keysOf T C o st⟩]) K
    | some (j, want) => match dstOf ops j with
      | none => none
      | some s => match getE st.env s with
        | .l (.bool b) => match want with
          | true => cond b (doOp T C o (st.put (some s) (.l (.bool true))) fun st' => goT ops os st' (tr ++ [⟨o, eff T C o (st.put (some s) (.l (.bool true))), rdOf ops o, keysOf T C o (st.put (some s) (.l (.bool true)))⟩]) K)
              (goT ops os ((st.put (some s) (.l (.bool false))).put o.dst (.l .undef)) (tr ++ [⟨o, none, rdOf ops o, []⟩]) K)
          | false => cond b (goT ops os ((st.put (some s) (.l (.bool true))).put o.dst (.l .undef)) (tr ++ [⟨o, none, rdOf ops o, []⟩]) K)
              (doOp T C o (st.put (some s) (.l (.bool false))) fun st' => goT ops os st' (tr ++ [⟨o, eff T C o (st.put (some s) (.l (.bool false))), rdOf ops o, keysOf T C o (st.put (some s) (.l (.bool false)))⟩]) K)
        | .l .undef => goT ops os (st.put o.dst (.l .undef)) (tr ++ [⟨o, none, rdOf ops o, []⟩]) K
        | _ => none
/-- A region in any order. -/
def anyOps (ops : Array Oper) (st : St) (K : St → Option ρ) : Option ρ :=
  let anc := ancGo ops.toList []
  goT T C ops ops.toList st [] fun st' tr => match okDraw anc st tr with
    | true => K st'
    | false => none
end

/-! ### Folds over those that came -/
section
variable {α : Type}
def pickF (S : Nat → Bool) (W : Te → Bool) (f : Te → α → α) : List (Te × Nat) → α → α
  | [], x => x
  | (te, k) :: l, x => pickF S W f l (if S k && W te then f te x else x)
theorem pickF_congr {S S' : Nat → Bool} {W : Te → Bool} {f : Te → α → α} : ∀ {l : List (Te × Nat)} {x : α}, (∀ te k, (te, k) ∈ l → W te = true → S k = S' k) → pickF S W f l x = pickF S' W f l x
  | [], _, _ => rfl
  | (te, k) :: l, x, h => by
    simp only [pickF]
    have : (S k && W te) = (S' k && W te) := by
      cases hw : W te with
      | true => rw [h te k List.mem_cons_self hw]
      | false => simp
    rw [this]
    exact pickF_congr fun te' k' hm => h te' k' (List.mem_cons_of_mem _ hm)
theorem pickF_none {S : Nat → Bool} {W : Te → Bool} {f : Te → α → α} : ∀ {l : List (Te × Nat)} {x : α}, (∀ te k, (te, k) ∈ l → W te = true → S k = false) → pickF S W f l x = x
  | [], _, _ => rfl
  | (te, k) :: l, x, h => by
    simp only [pickF]
    have : (S k && W te) = false := by
      cases hw : W te with
      | true => rw [h te k List.mem_cons_self hw]; rfl
      | false => simp
    rw [this, if_neg (by decide)]
    exact pickF_none fun te' k' hm => h te' k' (List.mem_cons_of_mem _ hm)
/-- One more comes, and none behind it in the text that counts has come. -/
theorem pickF_add {S : Nat → Bool} {W : Te → Bool} {f : Te → α → α} {i : Nat} {ti : Te} (hS : S i = false) (hW : W ti = true) : ∀ {tr : List Te} {n : Nat} {x : α}, (ti, i) ∈ tr.zipIdx n → (∀ te k, (te, k) ∈ tr.zipIdx n → W te = true → i < k → S k = false) →
    pickF (fun k => S k || Nat.beq k i) W f (tr.zipIdx n) x = f ti (pickF S W f (tr.zipIdx n) x)
  | [], n, x, hm, _ => by cases hm
  | te :: tr, n, x, hm, h => by
    simp only [List.zipIdx_cons, pickF]
    rcases List.mem_cons.1 (by simpa only [List.zipIdx_cons] using hm) with he | hm'
    · simp only [Prod.mk.injEq] at he
      obtain ⟨rfl, rfl⟩ := he
      rw [show (S i || Nat.beq i i) = true by rw [show Nat.beq i i = true from Nat.beq_refl i]; simp, hW, hS]
      simp only [Bool.and_self, if_true, Bool.false_and, Bool.false_eq_true, if_false]
      have hgt : ∀ te k, (te, k) ∈ tr.zipIdx (i + 1) → i < k := by
        intro te k hk
        have := List.le_snd_of_mem_zipIdx hk
        omega
      rw [pickF_none (S := S) (x := x) fun te k hk hw => h te k (by simp only [List.zipIdx_cons]; exact List.mem_cons_of_mem _ hk) hw (hgt te k hk)]
      refine pickF_none fun te k hk hw => ?_
      have hlt := hgt te k hk
      rw [h te k (by simp only [List.zipIdx_cons]; exact List.mem_cons_of_mem _ hk) hw hlt]
      simp only [Bool.false_or]
      rw [Bool.eq_false_iff]
      intro e
      have := Nat.eq_of_beq_eq_true e
      omega
    · have hne : Nat.beq n i = false := by
        rw [Bool.eq_false_iff]
        intro e
        have h1 := Nat.eq_of_beq_eq_true e
        have h2 := List.le_snd_of_mem_zipIdx hm'
        simp only at h2
        omega
      rw [hne, Bool.or_false]
      exact pickF_add hS hW hm' fun te k hk => h te k (by simp only [List.zipIdx_cons]; exact List.mem_cons_of_mem _ hk)
end
def Up.at_ (o : Option Ob) : Up → Option Ob
  | .put _ x => some x
  | .new _ x => some x
  | .del _ => none
  | .frz _ => o.map Ob.frz
def upsAt (b : Nat) : List Up → Option Ob → Option Ob
  | [], o => o
  | u :: us, o => upsAt b us (cond (Nat.beq u.key b) (u.at_ o) o)
theorem getH_up (hp : Heap) (u : Up) (b : Nat) : getH (u.app hp) b = cond (Nat.beq u.key b) (u.at_ (getH hp b)) (getH hp b) := by
  have hs : ∀ c o, getH (setH hp c o) b = cond (Nat.beq c b) (some o) (getH hp b) := by
    intro c o
    rw [getH_set]
    cases h : Nat.beq c b with
    | true => rw [if_pos (Nat.eq_of_beq_eq_true h).symm]; rfl
    | false => rw [if_neg (Ne.symm (Nat.ne_of_beq_eq_false h))]; rfl
  cases u with
  | put c o => exact hs c o
  | new c o => exact hs c o
  | del c =>
    simp only [Up.app, Up.key, Up.at_]
    rw [getH_del]
    cases h : Nat.beq c b with
    | true => rw [if_pos (Nat.eq_of_beq_eq_true h).symm]; rfl
    | false => rw [if_neg (Ne.symm (Nat.ne_of_beq_eq_false h))]; rfl
  | frz c =>
    simp only [Up.app, Up.key, Up.at_]
    cases hc : getH hp c with
    | none =>
      simp only
      cases h : Nat.beq c b with
      | true => rw [← Nat.eq_of_beq_eq_true h, hc]; rfl
      | false => rfl
    | some o =>
      simp only
      rw [hs]
      cases h : Nat.beq c b with
      | true => rw [← Nat.eq_of_beq_eq_true h, hc]; rfl
      | false => rfl
theorem getH_ups (b : Nat) : ∀ (us : List Up) (hp : Heap), getH (upsH hp us) b = upsAt b us (getH hp b)
  | [], hp => rfl
  | u :: us, hp => by simp only [upsH, upsAt]; rw [getH_ups b us, getH_up]
theorem upsAt_not {b : Nat} : ∀ {us : List Up} {o : Option Ob}, (us.any fun u => Nat.beq u.key b) = false → upsAt b us o = o
  | [], _, _ => rfl
  | u :: us, o, h => by
    simp only [List.any_cons, Bool.or_eq_false_iff] at h
    simp only [upsAt]
    rw [h.1]
    exact upsAt_not h.2
/-- The state after those of S have come, in the order of the text. -/
def runS (S : Nat → Bool) : List (Te × Nat) → St → St
  | [], st => st
  | (te, k) :: l, st => runS S l (if S k then te.app st else st)
theorem app_E (te : Te) (st : St) (d : Nat) : getE (te.app st).env d = if te.wr d then te.val else getE st.env d := by
  have hp : ∀ (st : St) (v : SV), getE (st.put te.o.dst v).env d = if te.wr d then v else getE st.env d := by
    intro st v
    unfold Te.wr
    cases te.o.dst with
    | none => rfl
    | some d' =>
      rw [getE_put]
      show _ = if Nat.beq d' d = true then v else getE st.env d
      by_cases h : d = d'
      · subst h
        rw [if_pos rfl, if_pos (Nat.beq_refl d)]
      · rw [if_neg h, if_neg]
        intro e
        exact h (Nat.eq_of_beq_eq_true e).symm
  unfold Te.app Te.val
  cases te.ef with
  | none => exact hp st _
  | some ef => exact hp { st with hp := upsH st.hp ef.ups } ef.v
theorem app_H (te : Te) (st : St) (b : Nat) : getH (te.app st).hp b = upsAt b te.ups (getH st.hp b) := by
  have hput : ∀ (st : St) (d : Option Nat) (v : SV), (st.put d v).hp = st.hp := by intro st d v; cases d <;> rfl
  unfold Te.app Te.ups
  cases te.ef with
  | none => simp only; rw [hput]; rfl
  | some ef => simp only [St.upd]; rw [hput]; exact getH_ups b ef.ups st.hp
theorem app_nt (te : Te) (st : St) : (te.app st).nt = st.nt ∧ (te.app st).pin = st.pin := by
  unfold Te.app
  cases te.ef with
  | none => cases te.o.dst <;> exact ⟨rfl, rfl⟩
  | some ef => simp only [St.upd]; cases te.o.dst <;> exact ⟨rfl, rfl⟩
theorem runS_E (S : Nat → Bool) (d : Nat) : ∀ (l : List (Te × Nat)) (st : St), getE (runS S l st).env d = pickF S (fun te => te.wr d) (fun te _ => te.val) l (getE st.env d)
  | [], st => rfl
  | (te, k) :: l, st => by
    simp only [runS, pickF]
    rw [runS_E S d l]
    congr 1
    cases S k with
    | false => simp
    | true => simp only [if_true, Bool.true_and]; rw [app_E]
theorem runS_H (S : Nat → Bool) (b : Nat) : ∀ (l : List (Te × Nat)) (st : St), getH (runS S l st).hp b = pickF S (fun te => te.tch b) (fun te o => upsAt b te.ups o) l (getH st.hp b)
  | [], st => rfl
  | (te, k) :: l, st => by
    simp only [runS, pickF]
    rw [runS_H S b l]
    congr 1
    cases S k with
    | false => simp
    | true =>
      simp only [if_true, Bool.true_and]
      rw [app_H]
      cases h : te.tch b with
      | true => simp
      | false => rw [upsAt_not h]; simp
theorem runS_nt (S : Nat → Bool) : ∀ (l : List (Te × Nat)) (st : St), (runS S l st).nt = st.nt ∧ (runS S l st).pin = st.pin
  | [], st => ⟨rfl, rfl⟩
  | (te, k) :: l, st => by
    simp only [runS]
    obtain ⟨h1, h2⟩ := runS_nt S l (if S k then te.app st else st)
    rw [h1, h2]
    cases S k with
    | false => exact ⟨rfl, rfl⟩
    | true => exact app_nt te st
end Go.Proofs.YtopplbiadpcalaaDoor.U

/- The small abstract machine: a run in the order of the text tells of any other order. -/
namespace Go.Proofs.YtopplbiadpcalaaDoor.U
open Go Go.RowKit

def Ext (st st' : St) : Prop := st'.nt = st.nt ∧ st'.pin = st.pin ∧ (∀ d, getE st'.env d = getE st.env d) ∧ ∀ b, getH st'.hp b = getH st.hp b
theorem Ext.refl (st : St) : Ext st st := ⟨rfl, rfl, fun _ => rfl, fun _ => rfl⟩
theorem Ext.trans {a b c : St} (h : Ext a b) (k : Ext b c) : Ext a c := ⟨k.1.trans h.1, k.2.1.trans h.2.1, fun d => (k.2.2.1 d).trans (h.2.2.1 d), fun b => (k.2.2.2 b).trans (h.2.2.2 b)⟩
theorem Ext.app {a b : St} (h : Ext a b) (te : Te) : Ext (te.app a) (te.app b) :=
  ⟨by rw [(app_nt te a).1, (app_nt te b).1]; exact h.1, by rw [(app_nt te a).2, (app_nt te b).2]; exact h.2.1,
    fun d => by rw [app_E, app_E, h.2.2.1], fun c => by rw [app_H, app_H, h.2.2.2]⟩
theorem Ext.ref {a b : St} (h : Ext a b) {s : Nat} {v : SV} (hv : getE a.env s = v) : Ext a (b.put (some s) v) :=
  ⟨h.1, h.2.1, fun d => by
    rw [getE_put]
    split
    · rename_i e; rw [e, hv]
    · exact h.2.2.1 d, h.2.2.2⟩
section
variable {P : Program} {T : Tab} {C : Nat → Option Sp} {ρ : Type} {cx : Cx} {ψ : Nat → Value} {st : St} {a : Act} {w : World} {out : ρ} {Q : Exit → Act → World → Prop}
/-- What a run in the order of the text knows of one operation: 'st' is the state ahead of it. -/
def Knows (T : Tab) (C : Nat → Option Sp) (ops : Array Oper) (st : St) (te : Te) : Prop :=
  te.rd = rdOf ops te.o ∧
  ((∃ ef, te.ef = some ef ∧ eff T C te.o st = some ef ∧ ef.ok = true ∧ st.fit te.o.dst = true ∧ ef.ups.all (Up.fresh st) = true ∧ te.ks = keysOf T C te.o st ∧
      ∀ j want, te.o.guard = some (j, want) → ∃ s, dstOf ops j = some s ∧ getE st.env s = .l (.bool want)) ∨
   (te.ef = none ∧ ∃ j want s, te.o.guard = some (j, want) ∧ dstOf ops j = some s ∧ (getE st.env s = .l (.bool (!want)) ∨ getE st.env s = .l .undef)))
/-- The states ahead of each, one by one. -/
def Trail (T : Tab) (C : Nat → Option Sp) (ops : Array Oper) (st0 : St) (tr : List Te) : Prop :=
  ∀ i te, tr[i]? = some te → ∃ st, Ext (runS (fun _ => true) ((tr.take i).zipIdx 0) st0) st ∧ Knows T C ops st te
theorem runS_app (S : Nat → Bool) : ∀ (l1 l2 : List (Te × Nat)) (st : St), runS S (l1 ++ l2) st = runS S l2 (runS S l1 st)
  | [], _, _ => rfl
  | (te, k) :: l1, l2, st => by simp only [List.cons_append, runS]; exact runS_app S l1 l2 _
theorem runS_snoc (tr : List Te) (te : Te) (st : St) : runS (fun _ => true) ((tr ++ [te]).zipIdx 0) st = te.app (runS (fun _ => true) (tr.zipIdx 0) st) := by
  rw [List.zipIdx_append, runS_app]
  simp [List.zipIdx_cons, runS]
theorem Trail.snoc {ops : Array Oper} {st0 : St} {tr : List Te} (h : Trail T C ops st0 tr) {st : St} (he : Ext (runS (fun _ => true) (tr.zipIdx 0) st0) st) {te : Te} (hk : Knows T C ops st te) : Trail T C ops st0 (tr ++ [te]) := by
  intro i t hi
  rcases Nat.lt_or_ge i tr.length with hlt | hge
  · rw [List.getElem?_append_left hlt] at hi
    obtain ⟨s, h1, h2⟩ := h i t hi
    refine ⟨s, ?_, h2⟩
    rw [List.take_append_of_le_length (by omega)]
    exact h1
  · rw [List.getElem?_append_right hge] at hi
    have h0 : i - tr.length = 0 := by
      rcases Nat.eq_zero_or_pos (i - tr.length) with h | h
      · exact h
      · rw [List.getElem?_eq_none (by simp; omega)] at hi; cases hi
    rw [h0] at hi
    simp at hi
    subst hi
    refine ⟨st, ?_, hk⟩
    rw [show i = tr.length by omega, List.take_left]
    exact he
theorem goT_ok {ops : Array Oper} {st0 : St} : ∀ (os : List Oper) {st : St} {tr : List Te} {K : St → List Te → Option ρ}, goT T C ops os st tr K = some out → Trail T C ops st0 tr → Ext (runS (fun _ => true) (tr.zipIdx 0) st0) st →
    ∃ st' tr', K st' tr' = some out ∧ tr'.map Te.o = tr.map Te.o ++ os ∧ Trail T C ops st0 tr' ∧ Ext (runS (fun _ => true) (tr'.zipIdx 0) st0) st'
  | [], st, tr, K, h, ht, he => ⟨st, tr, h, by simp, ht, he⟩
  | o :: os, st, tr, K, h, ht, he => by
    have run : ∀ {st1 : St}, Ext (runS (fun _ => true) (tr.zipIdx 0) st0) st1 → (∀ j want, o.guard = some (j, want) → ∃ s, dstOf ops j = some s ∧ getE st1.env s = .l (.bool want)) →
        (doOp T C o st1 fun st' => goT T C ops os st' (tr ++ [⟨o, eff T C o st1, rdOf ops o, keysOf T C o st1⟩]) K) = some out → ∃ st' tr', K st' tr' = some out ∧ tr'.map Te.o = tr.map Te.o ++ o :: os ∧ Trail T C ops st0 tr' ∧ Ext (runS (fun _ => true) (tr'.zipIdx 0) st0) st' := by
      intro st1 he1 hg h
      unfold doOp at h
      split at h
      · rename_i ef hef
        split at h
        · rename_i hf
          simp only [Bool.and_eq_true] at hf
          obtain ⟨hok, hk⟩ := cond_some h
          rw [hef] at hk
          have hkn : Knows T C ops st1 ⟨o, some ef, rdOf ops o, keysOf T C o st1⟩ := ⟨rfl, .inl ⟨ef, rfl, hef, hok, hf.1, hf.2, rfl, hg⟩⟩
          obtain ⟨st', tr', h1, h2, h3, h4⟩ := goT_ok os hk (ht.snoc he1 hkn) (by rw [runS_snoc]; exact he1.app _)
          exact ⟨st', tr', h1, by rw [h2]; simp, h3, h4⟩
        · cases h
      · cases h
    have skip : ∀ {st1 : St} (b0 : Bool), Ext (runS (fun _ => true) (tr.zipIdx 0) st0) st1 → (∃ j want s, o.guard = some (j, want) ∧ dstOf ops j = some s ∧ (getE st1.env s = .l (.bool (!want)) ∨ getE st1.env s = .l .undef)) →
        goT T C ops os (st1.put o.dst (.l .undef)) (tr ++ [⟨o, none, rdOf ops o, []⟩]) K = some out → ∃ st' tr', K st' tr' = some out ∧ tr'.map Te.o = tr.map Te.o ++ o :: os ∧ Trail T C ops st0 tr' ∧ Ext (runS (fun _ => true) (tr'.zipIdx 0) st0) st' := by
      intro st1 _ he1 hg h
      have hkn : Knows T C ops st1 ⟨o, none, rdOf ops o, []⟩ := ⟨rfl, .inr ⟨rfl, hg⟩⟩
      obtain ⟨st', tr', h1, h2, h3, h4⟩ := goT_ok os h (ht.snoc he1 hkn) (by rw [runS_snoc]; exact he1.app ⟨o, none, rdOf ops o, []⟩)
      exact ⟨st', tr', h1, by rw [h2]; simp, h3, h4⟩
    simp only [goT] at h
    split at h
    · rename_i hg
      exact run he (fun j want h => by rw [hg] at h; cases h) h
    · rename_i j want hg
      split at h
      · cases h
      · rename_i s hs
        split at h
        · rename_i b hb
          have hb0 : getE (runS (fun _ => true) (tr.zipIdx 0) st0).env s = .l (.bool b) := by rw [← he.2.2.1]; exact hb
          have hgs : ∀ {v : SV}, getE (st.put (some s) v).env s = v := by intro v; rw [getE_put, if_pos rfl]
          cases want <;> cases b <;> simp only [cond_true, cond_false] at h
          · exact run (he.ref hb0) (fun j' want' h' => by rw [hg] at h'; simp only [Option.some.injEq, Prod.mk.injEq] at h'; obtain ⟨rfl, rfl⟩ := h'; exact ⟨s, hs, hgs⟩) h
          · exact skip true (he.ref hb0) ⟨j, false, s, hg, hs, .inl hgs⟩ h
          · exact skip true (he.ref hb0) ⟨j, true, s, hg, hs, .inl hgs⟩ h
          · exact run (he.ref hb0) (fun j' want' h' => by rw [hg] at h'; simp only [Option.some.injEq, Prod.mk.injEq] at h'; obtain ⟨rfl, rfl⟩ := h'; exact ⟨s, hs, hgs⟩) h
        · rename_i hb
          exact skip true he ⟨j, want, s, hg, hs, .inr hb⟩ h
        · cases h
end
end Go.Proofs.YtopplbiadpcalaaDoor.U

/- The small abstract machine: whatever order the operations of a region come in. -/
namespace Go.Proofs.YtopplbiadpcalaaDoor.U
open Go Go.RowKit

theorem addN_mem {l : List Nat} {b x : Nat} (h : x ∈ addN l b) : x = b ∨ x ∈ l := by
  unfold addN at h
  cases hb : l.any (Nat.beq b) with
  | true => rw [hb] at h; exact .inr h
  | false => rw [hb] at h; exact List.mem_cons.1 h
theorem addNs_mem : ∀ {es l : List Nat} {x : Nat}, x ∈ es.foldl addN l → x ∈ es ∨ x ∈ l
  | [], _, _, h => .inr h
  | e :: es, l, x, h => by
    rcases addNs_mem (es := es) h with h | h
    · exact .inl (List.mem_cons_of_mem _ h)
    · rcases addN_mem h with h | h
      · exact .inl (by rw [h]; exact List.mem_cons_self)
      · exact .inr h
theorem ancRow_mem {acc : List (List Nat)} : ∀ {es l : List Nat} {x : Nat}, x ∈ es.foldl (fun s e => (e :: acc.getD e []).foldl addN s) l → x ∈ l ∨ ∃ e ∈ es, x = e ∨ x ∈ acc.getD e []
  | [], _, _, h => .inl h
  | e :: es, l, x, h => by
    rcases ancRow_mem (es := es) h with h | ⟨e', he, h⟩
    · rcases addNs_mem h with h | h
      · rcases List.mem_cons.1 h with h | h
        · exact .inr ⟨e, List.mem_cons_self, .inl h⟩
        · exact .inr ⟨e, List.mem_cons_self, .inr h⟩
      · exact .inl h
    · exact .inr ⟨e', List.mem_cons_of_mem _ he, h⟩
/-- Whatever is closed under what comes ahead. -/
theorem ancGo_ok {R : Nat → Nat → Prop} (hR : ∀ i e k, R i e → R e k → R i k) : ∀ (os : List Oper) (acc : List (List Nat)), (∀ m o, os[m]? = some o → ∀ e ∈ depsOf o, R (acc.length + m) e) → (∀ i k, k ∈ acc.getD i [] → R i k) → ∀ i k, k ∈ (ancGo os acc).getD i [] → R i k
  | [], acc, _, h => h
  | o :: os, acc, hd, h => by
    refine ancGo_ok hR os _ (fun m o' hm e he => ?_) (fun i k hk => ?_)
    · have := hd (m + 1) o' (by simpa using hm) e he
      rw [List.length_append, List.length_singleton, show acc.length + 1 + m = acc.length + (m + 1) by omega]
      exact this
    · rw [List.getD_eq_getElem?_getD] at hk
      rcases Nat.lt_or_ge i acc.length with hlt | hge
      · rw [List.getElem?_append_left hlt] at hk
        exact h i k (by rw [List.getD_eq_getElem?_getD]; exact hk)
      · rw [List.getElem?_append_right hge] at hk
        rcases Nat.eq_zero_or_pos (i - acc.length) with h0 | h0
        · rw [h0] at hk
          simp only [List.getElem?_cons_zero, Option.getD_some] at hk
          have hi : i = acc.length := by omega
          have hd0 := hd 0 o rfl
          rw [Nat.add_zero, ← hi] at hd0
          rcases ancRow_mem hk with h1 | ⟨e, he, h1⟩
          · cases h1
          · rcases h1 with rfl | h1
            · exact hd0 k he
            · exact hR i e k (hd0 e he) (h e k h1)
        · rw [List.getElem?_eq_none (by simp; omega)] at hk
          cases hk
theorem count_set : ∀ (l : List Bool) (i : Nat), l[i]? = some false → (l.set i true).count false + 1 = l.count false
  | [], i, h => by simp at h
  | b :: l, 0, h => by
    simp at h
    subst h
    simp
  | b :: l, i + 1, h => by
    have := count_set l i (by simpa using h)
    cases b <;> simp_all
theorem pickF_ind {α : Type} {S : Nat → Bool} {W : Te → Bool} {f : Te → α → α} (R : α → Prop) : ∀ {l : List (Te × Nat)} {x : α}, R x → (∀ te k, (te, k) ∈ l → S k = true → ∀ x, R x → R (f te x)) → R (pickF S W f l x)
  | [], _, h, _ => h
  | (te, k) :: l, x, h, hf => by
    simp only [pickF]
    refine pickF_ind R ?_ fun te' k' hm => hf te' k' (List.mem_cons_of_mem _ hm)
    split
    · rename_i hc
      simp only [Bool.and_eq_true] at hc
      exact hf te k List.mem_cons_self hc.1 x h
    · exact h
theorem runS_take (tr : List Te) (i : Nat) (st : St) : runS (fun _ => true) ((tr.take i).zipIdx 0) st = runS (fun k => decide (k < i)) (tr.zipIdx 0) st := by
  have : ∀ (tr : List Te) (i n : Nat) (st : St), runS (fun _ => true) ((tr.take i).zipIdx n) st = runS (fun k => decide (k < n + i)) (tr.zipIdx n) st := by
    intro tr
    induction tr with
    | nil => intro i n st; simp [runS]
    | cons te tr ih =>
      intro i n st
      cases i with
      | zero =>
        simp only [List.take_zero, List.zipIdx_nil, runS, Nat.add_zero]
        have hn : ∀ (l : List (Te × Nat)) (st : St), (∀ te k, (te, k) ∈ l → n ≤ k) → runS (fun k => decide (k < n)) l st = st := by
          intro l
          induction l with
          | nil => intro st _; rfl
          | cons p l ih2 =>
            intro st h
            obtain ⟨te', k⟩ := p
            simp only [runS]
            have := h te' k List.mem_cons_self
            rw [if_neg (by simp only [decide_eq_true_eq]; omega)]
            exact ih2 st fun te'' k' hm => h te'' k' (List.mem_cons_of_mem _ hm)
        rw [hn _ st]
        intro te' k hm
        exact List.le_snd_of_mem_zipIdx hm
      | succ i =>
        simp only [List.take_succ_cons, List.zipIdx_cons, runS, if_true]
        rw [if_pos (by simp only [decide_eq_true_eq]; omega), ih i (n + 1)]
        have : (fun k => decide (k < n + 1 + i)) = fun k => decide (k < n + (i + 1)) := by
          funext k
          rw [show n + 1 + i = n + (i + 1) by omega]
        rw [this]
  have h := this tr i 0 st
  rw [h]
  simp
section
variable {P : Program} {G : GB} {T : Tab} {C : Nat → Option Sp} {ρ : Type} {cx : Cx} {ψ : Nat → Value} {st : St} {a : Act} {w : World} {out : ρ} {Q : Exit → Act → World → Prop}
theorem any_go (hT : TOk P T) (hC : COkx P G C cx) {ops : Array Oper} {st0 : St} {tr : List Te} (hto : tr.map Te.o = ops.toList) (htr : Trail T C ops st0 tr) (hok : okDraw (ancGo ops.toList []) st0 tr = true)
    (hend : ∀ ψ a w, Rel cx ψ (runS (fun _ => true) (tr.zipIdx 0) st0) a w → Q .normal a w) :
    ∀ (fuel : Nat) (listed : Array Bool) (ψ : Nat → Value) (a : Act) (w : World), listed.size = ops.size → listed.toList.count false ≤ fuel → (∀ (i : Nat) (o : Oper), ops[i]? = some o → listed.getD i false = true → ∀ e ∈ depsOf o, listed.getD e false = true) →
      Rel cx ψ (runS (fun k => listed.getD k false) (tr.zipIdx 0) st0) a w → wpAny P .any ops Q fuel listed a w := by
  have hlen : tr.length = ops.size := by
    have := congrArg List.length hto
    simpa using this
  simp only [okDraw, Bool.and_eq_true] at hok
  obtain ⟨hdep, hpair⟩ := hok
  have hti : ∀ (i : Nat) (te : Te), tr[i]? = some te → (te, i) ∈ tr.zipIdx 0 := by
    intro i te hi
    exact List.mem_zipIdx_iff_getElem?.2 hi
  have hit : ∀ (i : Nat) (te : Te), (te, i) ∈ tr.zipIdx 0 → tr[i]? = some te := by
    intro i te hi
    exact List.mem_zipIdx_iff_getElem?.1 hi
  have hop : ∀ (i : Nat) (te : Te), tr[i]? = some te → ops[i]? = some te.o := by
    intro i te hi
    have : ops.toList[i]? = some te.o := by rw [← hto, List.getElem?_map, hi]; rfl
    simpa using this
  have hpo : ∀ (i : Nat) (o : Oper), ops[i]? = some o → ∃ te, tr[i]? = some te ∧ te.o = o := by
    intro i o hi
    have h1 : ops.toList[i]? = some o := by simpa using hi
    rw [← hto, List.getElem?_map, Option.map_eq_some_iff] at h1
    exact h1
  have hdlt : ∀ (i : Nat) (o : Oper), ops[i]? = some o → ∀ e ∈ depsOf o, e < i := by
    intro i o hi e he
    obtain ⟨te, h1, rfl⟩ := hpo i o hi
    have := List.all_eq_true.1 (List.all_eq_true.1 hdep _ (hti i te h1)) e he
    exact Nat.blt_eq.mp this
  have hanclt : ∀ i k, k ∈ (ancGo ops.toList []).getD i [] → k < i := by
    refine ancGo_ok (R := fun i k => k < i) (fun i e k h1 h2 => by omega) ops.toList [] (fun m o hm e he => ?_) (fun i k hk => by simp at hk)
    have := hdlt m o (by simpa using hm) e he
    simpa using this
  have hap : ∀ (i k : Nat) (ti tk : Te), tr[i]? = some ti → tr[k]? = some tk → apart2 (ancGo ops.toList []) ti i tk k = true := by
    intro i k ti tk h1 h2
    have := List.all_eq_true.1 hpair _ (hti i ti h1)
    simp only [Bool.and_eq_true] at this
    exact List.all_eq_true.1 this.1 _ (hti k tk h2)
  have hsaid : ∀ (i : Nat) (ti : Te) (d : Nat), tr[i]? = some ti → d ∈ ti.news → saidNot st0 d = true := by
    intro i ti d h1 h2
    have := List.all_eq_true.1 hpair _ (hti i ti h1)
    simp only [Bool.and_eq_true] at this
    exact List.all_eq_true.1 this.2 d h2
  intro fuel
  induction fuel with
  | zero =>
    intro listed ψ a w hsz hcnt hcl h
    have hall : ∀ i, i < ops.size → listed.getD i false = true := by
      intro i hi
      have hi' : i < listed.toList.length := by simp; omega
      cases hb : listed.getD i false with
      | true => rfl
      | false =>
        have h1 : listed.toList[i]? = some false := by
          rw [Array.getD_eq_getD_getElem?] at hb
          have : listed[i]? = some listed[i] := Array.getElem?_eq_getElem (by simpa using hi')
          rw [this] at hb
          simp at hb
          simp [this, hb]
        have := count_set _ _ h1
        omega
    refine ⟨?_, hend ψ a w (h.ext ?_ ?_ ?_ ?_)⟩
    · simp only [Region.ready, List.filter_eq_nil_iff, List.mem_range]
      intro i hi
      have := hall i hi
      rw [Array.getD_eq_getD_getElem?] at this
      have hx : listed[i]? = some listed[i] := Array.getElem?_eq_getElem (by omega)
      rw [hx] at this
      simp at this
      simp [Array.getD_eq_getD_getElem?, hx, this]
    · rw [(runS_nt _ _ _).1, (runS_nt _ _ _).1]
    · rw [(runS_nt _ _ _).2, (runS_nt _ _ _).2]
    · intro d
      rw [runS_E, runS_E]
      refine pickF_congr fun te k hm _ => ?_
      have := (List.getElem?_eq_some_iff.1 (hit k te hm)).1
      exact (hall k (by omega)).symm
    · intro d
      rw [runS_H, runS_H]
      refine pickF_congr fun te k hm _ => ?_
      have := (List.getElem?_eq_some_iff.1 (hit k te hm)).1
      exact (hall k (by omega)).symm
  | succ fuel ih =>
    intro listed ψ a w hsz hcnt hcl h
    have hready : ∀ i, i ∈ Region.ready .any ops listed ↔ ∃ o, ops[i]? = some o ∧ listed.getD i false = false ∧ ∀ e ∈ depsOf o, listed.getD e false = true := by
      intro i
      simp only [Region.ready, List.mem_filter, List.mem_range, Bool.and_eq_true, Bool.not_eq_true']
      constructor
      · rintro ⟨hi, h1, h2⟩
        have hx : listed[i]? = some listed[i] := Array.getElem?_eq_getElem (by omega)
        have ho : ops[i]? = some ops[i] := Array.getElem?_eq_getElem hi
        refine ⟨ops[i], ho, ?_, fun e he => ?_⟩
        · rw [Array.getD_eq_getD_getElem?, hx] at h1 ⊢; exact h1
        · rw [ho] at h2
          simp only [Option.map_some, Option.getD_some, Array.all_eq_true', Bool.or_eq_true, Bool.not_eq_true'] at h2
          obtain ⟨ed, hed, he'⟩ := List.mem_filterMap.1 he
          cases hb : Region.binds .any ed with
          | false => rw [hb] at he'; cases he'
          | true =>
            rw [hb] at he'
            obtain rfl := Option.some.inj he'
            rcases h2 ed (by simpa using hed) with h3 | h3
            · rw [hb] at h3; cases h3
            · exact h3
      · rintro ⟨o, ho, h1, h2⟩
        have hi : i < ops.size := (Array.getElem?_eq_some_iff.1 ho).1
        have hx : listed[i]? = some listed[i] := Array.getElem?_eq_getElem (by omega)
        refine ⟨hi, ?_, ?_⟩
        · rw [Array.getD_eq_getD_getElem?, hx] at h1 ⊢; exact h1
        · rw [ho]
          simp only [Option.map_some, Option.getD_some, Array.all_eq_true', Bool.or_eq_true, Bool.not_eq_true']
          intro ed hed
          cases hb : Region.binds .any ed with
          | false => exact .inl rfl
          | true =>
            right
            refine h2 ed.on (List.mem_filterMap.2 ⟨ed, by simpa using hed, by rw [hb]; rfl⟩)
    refine ⟨fun hr => ?_, fun i hi => ?_⟩
    · -- none is left
      have hall : ∀ i, i < ops.size → listed.getD i false = true := by
        intro i
        induction i using Nat.strongRecOn with
        | _ i ihi =>
          intro hi
          cases hb : listed.getD i false with
          | true => rfl
          | false =>
            have ho : ops[i]? = some ops[i] := Array.getElem?_eq_getElem hi
            have : i ∈ Region.ready .any ops listed := (hready i).2 ⟨_, ho, hb, fun e he => ihi e (hdlt i _ ho e he) (by have := hdlt i _ ho e he; omega)⟩
            rw [hr] at this
            cases this
      refine hend ψ a w (h.ext ?_ ?_ ?_ ?_)
      · rw [(runS_nt _ _ _).1, (runS_nt _ _ _).1]
      · rw [(runS_nt _ _ _).2, (runS_nt _ _ _).2]
      · intro d
        rw [runS_E, runS_E]
        refine pickF_congr fun te k hm _ => ?_
        have := (List.getElem?_eq_some_iff.1 (hit k te hm)).1
        exact (hall k (by omega)).symm
      · intro d
        rw [runS_H, runS_H]
        refine pickF_congr fun te k hm _ => ?_
        have := (List.getElem?_eq_some_iff.1 (hit k te hm)).1
        exact (hall k (by omega)).symm
    · obtain ⟨o, ho, hSi, hdeps⟩ := (hready i).1 hi
      obtain ⟨ti, hti', rfl⟩ := hpo i o ho
      have hilt : i < ops.size := (Array.getElem?_eq_some_iff.1 ho).1
      -- the set with i
      have hS' : ∀ k, (listed.setIfInBounds i true).getD k false = (listed.getD k false || Nat.beq k i) := by
        intro k
        rw [Array.getD_eq_getD_getElem?, Array.getD_eq_getD_getElem?, Array.getElem?_setIfInBounds]
        by_cases hk : i = k
        · subst hk
          rw [if_pos rfl, if_pos (by omega), show Nat.beq i i = true from Nat.beq_refl i]
          simp
        · rw [if_neg hk]
          have : Nat.beq k i = false := by rw [Bool.eq_false_iff]; intro e; exact hk (Nat.eq_of_beq_eq_true e).symm
          rw [this, Bool.or_false]
      have hcl' : ∀ (m : Nat) (o : Oper), ops[m]? = some o → (listed.setIfInBounds i true).getD m false = true → ∀ e ∈ depsOf o, (listed.setIfInBounds i true).getD e false = true := by
        intro m o hm hSm e he
        rw [hS'] at hSm ⊢
        simp only [Bool.or_eq_true] at hSm ⊢
        left
        rcases hSm with h1 | h1
        · exact hcl m o hm h1 e he
        · obtain rfl := Nat.eq_of_beq_eq_true h1
          rw [ho] at hm
          obtain rfl := Option.some.inj hm
          exact hdeps e he
      have hanc' : ∀ m k, k ∈ (ancGo ops.toList []).getD m [] → (listed.setIfInBounds i true).getD m false = true → (listed.setIfInBounds i true).getD k false = true :=
        ancGo_ok (R := fun m k => (listed.setIfInBounds i true).getD m false = true → (listed.setIfInBounds i true).getD k false = true) (fun m e k h1 h2 h3 => h2 (h1 h3)) ops.toList [] (fun m o hm e he hSm => hcl' m o (by simpa using hm) (by simpa using hSm) e he) (fun m k hk => by simp at hk)
      have hanc : ∀ m k, k ∈ (ancGo ops.toList []).getD m [] → listed.getD m false = true → listed.getD k false = true :=
        ancGo_ok (R := fun m k => listed.getD m false = true → listed.getD k false = true) (fun m e k h1 h2 h3 => h2 (h1 h3)) ops.toList [] (fun m o hm e he hSm => hcl m o (by simpa using hm) (by simpa using hSm) e he) (fun m k hk => by simp at hk)
      have hanti : ∀ k, k ∈ (ancGo ops.toList []).getD i [] → listed.getD k false = true := by
        intro k hk
        have := hanc' i k hk (by rw [hS', show Nat.beq i i = true from Nat.beq_refl i]; simp)
        rw [hS'] at this
        simp only [Bool.or_eq_true] at this
        rcases this with h1 | h1
        · exact h1
        · have := hanclt i k hk
          have := Nat.eq_of_beq_eq_true h1
          omega
      have hdesc : ∀ k, i ∈ (ancGo ops.toList []).getD k [] → listed.getD k false = false := by
        intro k hk
        cases hb : listed.getD k false with
        | false => rfl
        | true => rw [hanc k i hk hb] at hSi; cases hSi
      have hord : ∀ k, ordB (ancGo ops.toList []) k i = true → listed.getD k false = decide (k < i) := by
        intro k hk
        simp only [ordB, Bool.or_eq_true] at hk
        rcases hk with hk | hk
        · have hm := any_mem.1 hk
          rw [hanti k hm]
          have := hanclt i k hm
          simp [this]
        · have hm := any_mem.1 hk
          rw [hdesc k hm]
          have := hanclt k i hm
          simp; omega
      -- the state ahead of i in the text
      obtain ⟨sti, hsti, hrd, hkn⟩ := htr i ti hti'
      rw [runS_take] at hsti
      have hpairE : ∀ d te k, (te, k) ∈ tr.zipIdx 0 → te.wr d = true → (d ∈ ti.rd ∨ ti.wr d = true) → k ≠ i → ordB (ancGo ops.toList []) k i = true := by
        intro d te k hm hw hd hne
        have := hap i k ti te hti' (hit k te hm)
        simp only [apart2, Bool.or_eq_true, Bool.and_eq_true] at this
        rcases this with h1 | ⟨h1, _⟩
        · exact absurd (Nat.eq_of_beq_eq_true h1).symm hne
        · rcases h1 with ⟨h1, _⟩ | h1
          · exfalso
            unfold Te.wr at hw
            cases hdst : te.o.dst with
            | none => rw [hdst] at hw; cases hw
            | some d' =>
              rw [hdst] at hw h1
              obtain rfl := Nat.eq_of_beq_eq_true hw
              simp only [Bool.not_eq_true', Bool.or_eq_false_iff] at h1
              rcases hd with hd | hd
              · have := any_mem.2 hd
                rw [h1.1] at this; cases this
              · rw [h1.2] at hd; cases hd
          · exact h1
      have hpairH : ∀ b te k, (te, k) ∈ tr.zipIdx 0 → te.tch b = true → (b ∈ ti.ks ∨ ti.tch b = true) → k ≠ i → ordB (ancGo ops.toList []) k i = true := by
        intro b te k hm hw hd hne
        have := hap i k ti te hti' (hit k te hm)
        simp only [apart2, Bool.or_eq_true, Bool.and_eq_true] at this
        rcases this with h1 | ⟨h1, _⟩
        · exact absurd (Nat.eq_of_beq_eq_true h1).symm hne
        · rcases h1 with ⟨_, h1⟩ | h1
          · exfalso
            unfold Te.tch at hw
            obtain ⟨u, hu, hub⟩ := List.any_eq_true.1 hw
            obtain rfl := Nat.eq_of_beq_eq_true hub
            unfold Te.ups at hu
            cases hef : te.ef with
            | none => rw [hef] at hu; cases hu
            | some ef =>
              have h2 := List.all_eq_true.1 h1 u (by unfold Te.ups; rw [hef] at hu ⊢; exact hu)
              simp only [Bool.not_eq_true', Bool.or_eq_false_iff] at h2
              rcases hd with hd | hd
              · have := any_mem.2 hd
                rw [h2.1] at this; cases this
              · rw [h2.2] at hd; cases hd
          · exact h1
      have hEag : ∀ d, d ∈ ti.rd → getE (runS (fun k => listed.getD k false) (tr.zipIdx 0) st0).env d = getE sti.env d := by
        intro d hd
        rw [hsti.2.2.1, runS_E, runS_E]
        refine pickF_congr fun te k hm hw => ?_
        by_cases hki : k = i
        · subst hki; rw [hSi]; simp
        · exact hord k (hpairE d te k hm hw (.inl hd) hki)
      have hHag : ∀ b, b ∈ ti.ks ∨ ti.tch b = true → getH (runS (fun k => listed.getD k false) (tr.zipIdx 0) st0).hp b = getH sti.hp b := by
        intro b hb
        rw [hsti.2.2.2, runS_H, runS_H]
        refine pickF_congr fun te k hm hw => ?_
        by_cases hki : k = i
        · subst hki; rw [hSi]; simp
        · exact hord k (hpairH b te k hm hw hb hki)
      -- what comes behind
      have hcnt' : (listed.setIfInBounds i true).toList.count false ≤ fuel := by
        have hx : listed.toList[i]? = some false := by
          have hx : listed[i]? = some listed[i] := Array.getElem?_eq_getElem (by omega)
          rw [Array.getD_eq_getD_getElem?, hx] at hSi
          simp only [Option.getD_some] at hSi
          rw [Array.getElem?_toList, hx, hSi]
        have := count_set _ _ hx
        rw [Array.toList_setIfInBounds]
        omega
      have hgo : ∀ ψ' a' w', Rel cx ψ' (ti.app (runS (fun k => listed.getD k false) (tr.zipIdx 0) st0)) a' w' → wpAny P .any ops Q fuel (listed.setIfInBounds i true) a' w' := by
        intro ψ' a' w' h'
        refine ih _ ψ' a' w' (by simpa using hsz) hcnt' hcl' (h'.ext ?_ ?_ ?_ ?_)
        · rw [(runS_nt _ _ _).1, (app_nt _ _).1, (runS_nt _ _ _).1]
        · rw [(runS_nt _ _ _).2, (app_nt _ _).2, (runS_nt _ _ _).2]
        · intro d
          rw [runS_E, app_E, runS_E]
          have hfun : (fun k => (listed.setIfInBounds i true).getD k false) = fun k => listed.getD k false || Nat.beq k i := funext hS'
          rw [hfun]
          cases hw : ti.wr d with
          | true =>
            rw [pickF_add (S := fun k => listed.getD k false) (W := fun te => te.wr d) hSi hw (hti i ti hti') fun te k hm hwk hlt => ?_]
            · simp
            · rw [hord k (hpairE d te k hm hwk (.inr hw) (by omega))]
              simp; omega
          | false =>
            simp only [Bool.false_eq_true, if_false]
            refine pickF_congr fun te k hm hwk => ?_
            have : Nat.beq k i = false := by
              rw [Bool.eq_false_iff]
              intro e
              obtain rfl := Nat.eq_of_beq_eq_true e
              have := hit k te hm
              rw [hti'] at this
              obtain rfl := Option.some.inj this
              rw [hw] at hwk; cases hwk
            simp [this]
        · intro b
          rw [runS_H, app_H, runS_H]
          have hfun : (fun k => (listed.setIfInBounds i true).getD k false) = fun k => listed.getD k false || Nat.beq k i := funext hS'
          rw [hfun]
          cases hw : ti.tch b with
          | true =>
            rw [pickF_add (S := fun k => listed.getD k false) (W := fun te => te.tch b) hSi hw (hti i ti hti') fun te k hm hwk hlt => ?_]
            rw [hord k (hpairH b te k hm hwk (.inr hw) (by omega))]
            simp; omega
          | false =>
            rw [upsAt_not hw]
            refine pickF_congr fun te k hm hwk => ?_
            have : Nat.beq k i = false := by
              rw [Bool.eq_false_iff]
              intro e
              obtain rfl := Nat.eq_of_beq_eq_true e
              have := hit k te hm
              rw [hti'] at this
              obtain rfl := Option.some.inj this
              rw [hw] at hwk; cases hwk
            simp [this]
      have hslot : ∀ j want s, ti.o.guard = some (j, want) → dstOf ops j = some s → s ∈ ti.rd := by
        intro j want s hg hs
        rw [hrd]
        simp only [rdOf, hg, hs]
        exact List.mem_append_right _ List.mem_cons_self
      unfold wpOp
      rw [ho]
      simp only
      rcases hkn with ⟨ef, hef, heff, hok', hfit, hfresh, hks, hguard⟩ | ⟨hef, j, want, s, hg, hs, hv⟩
      · -- it comes
        have hwant : Region.wanted ti.o (yielded ops a.tmps) = true := by
          cases hg : ti.o.guard with
          | none => simp [Region.wanted, hg]
          | some p =>
            obtain ⟨j, want⟩ := p
            obtain ⟨s, hs, hv⟩ := hguard j want hg
            have h1 := h.env s
            rw [hEag s (hslot j want s hg hs), hv] at h1
            simp [Region.wanted, hg, yielded_bool hs h1]
        rw [if_pos hwant]
        left
        have heff' : eff T C ti.o (runS (fun k => listed.getD k false) (tr.zipIdx 0) st0) = some ef := by
          rw [← heff]
          refine eff_loc (fun x hx => ?_) (fun b hb => hHag b (.inl (by rw [hks]; exact hb)))
          cases x with
          | tmp t =>
            refine hEag t ?_
            rw [hrd]
            exact List.mem_append_left _ (List.mem_filterMap.2 ⟨.tmp t, hx, rfl⟩)
          | _ => rfl
        have hups : ti.ups = ef.ups := by unfold Te.ups; rw [hef]
        have hfr : ∀ b ob, Up.new b ob ∈ ef.ups → Free (runS (fun k => listed.getD k false) (tr.zipIdx 0) st0) b ∧ b ∉ (runS (fun k => listed.getD k false) (tr.zipIdx 0) st0).pin := by
          intro b ob hm
          obtain ⟨hf1, hf2⟩ := fresh_ok hfresh b ob hm
          have hnew : b ∈ ti.news := List.mem_filterMap.2 ⟨Up.new b ob, by rw [hups]; exact hm, rfl⟩
          have hs0 := hsaid i ti b hti' hnew
          simp only [saidNot, Bool.and_eq_true, List.all_eq_true, Bool.not_eq_true'] at hs0
          have hsay : ∀ te k, (te, k) ∈ tr.zipIdx 0 → listed.getD k false = true → te.says b = false := by
            intro te k hm hSk
            have := hap i k ti te hti' (hit k te hm)
            simp only [apart2, Bool.or_eq_true, Bool.and_eq_true] at this
            rcases this with h1 | ⟨_, h1⟩
            · rw [← Nat.eq_of_beq_eq_true h1, hSi] at hSk; cases hSk
            · have h2 := List.all_eq_true.1 h1 b hnew
              simp only [Bool.or_eq_true, Bool.not_eq_true'] at h2
              rcases h2 with h2 | h2
              · exact h2
              · rw [hdesc k (any_mem.1 h2)] at hSk; cases hSk
          refine ⟨⟨fun j => ?_, fun c oc hc => ?_⟩, ?_⟩
          · rw [runS_E]
            refine pickF_ind (fun v : SV => ∀ y ∈ v.leaves, ∀ c, y.ref = some c → c ≠ b) ?_ ?_
            · rcases getE_mem (env := st0.env) (d := j) with he | he
              · rw [he]; intro y hy c hc; simp [SV.leaves] at hy; subst hy; cases hc
              · intro y hy; exact refs_ne (hs0.1 _ he y hy)
            · intro te k hm hSk v _ y hy
              have := hsay te k hm hSk
              simp only [Te.says, Bool.or_eq_false_iff, List.any_eq_false] at this
              exact refs_ne (by simpa using this.1 y hy)
          · constructor
            · rintro rfl
              have h1 : ti.tch c = true := List.any_eq_true.2 ⟨Up.new c ob, by rw [hups]; exact hm, Nat.beq_refl c⟩
              rw [hHag c (.inr h1)] at hc
              exact (hf1.2 c oc hc).1 rfl
            · rw [runS_H] at hc
              revert hc
              have hP : ∀ oc, pickF (fun k => listed.getD k false) (fun te => te.tch c) (fun te o => upsAt c te.ups o) (tr.zipIdx 0) (getH st0.hp c) = some oc → ∀ y ∈ oc.leaves, ∀ d, y.ref = some d → d ≠ b := by
                refine pickF_ind (fun oo : Option Ob => ∀ oc, oo = some oc → ∀ y ∈ oc.leaves, ∀ d, y.ref = some d → d ≠ b) ?_ ?_
                · intro oc hoc y hy
                  exact refs_ne (hs0.2 _ (getH_mem hoc) y hy)
                · intro te k hm hSk oo hoo
                  have := hsay te k hm hSk
                  simp only [Te.says, Bool.or_eq_false_iff, List.any_eq_false] at this
                  have hu := this.2
                  clear this
                  revert oo
                  generalize te.ups = us at hu
                  induction us with
                  | nil => intro oo hoo oc hoc; exact hoo oc hoc
                  | cons u us ihu =>
                    intro oo hoo oc hoc
                    simp only [upsAt] at hoc
                    refine ihu (fun x hx => hu x (List.mem_cons_of_mem _ hx)) _ ?_ oc hoc
                    intro oc' hoc'
                    cases hk : Nat.beq u.key c with
                    | false => rw [hk] at hoc'; exact hoo oc' hoc'
                    | true =>
                      rw [hk] at hoc'
                      have huu := hu u List.mem_cons_self
                      simp only [Bool.not_eq_true] at huu
                      cases u with
                      | put c' x =>
                        obtain rfl := Option.some.inj hoc'
                        intro y hy
                        simp only [Up.obs, List.any_eq_false] at huu
                        exact refs_ne (by simpa using huu y hy)
                      | new c' x =>
                        obtain rfl := Option.some.inj hoc'
                        intro y hy
                        simp only [Up.obs, List.any_eq_false] at huu
                        exact refs_ne (by simpa using huu y hy)
                      | del c' => cases hoc'
                      | frz c' =>
                        simp only [Up.at_, cond_true, Option.map_eq_some_iff] at hoc'
                        obtain ⟨o1, ho1, rfl⟩ := hoc'
                        rw [frz_leaves]
                        exact hoo o1 ho1
              exact hP oc
          · rw [(runS_nt _ _ _).2]
            have h2 := hsti.2.1
            rw [(runS_nt _ _ _).2] at h2
            rw [← h2]
            exact hf2
        refine eff_sound hT hC h heff' hok' hfr fun ψ' w' x h' hx => hgo ψ' _ w' ?_
        have hfit' : (runS (fun k => listed.getD k false) (tr.zipIdx 0) st0).fit ti.o.dst = true := by
          have h2 := hsti.1
          rw [(runS_nt _ _ _).1] at h2
          unfold St.fit at hfit ⊢
          rw [(runS_nt _ _ _).1, ← h2]
          exact hfit
        have hput := h'.put' (dst := ti.o.dst) hfit' hx
        have happ : ti.app (runS (fun k => listed.getD k false) (tr.zipIdx 0) st0) = (runS (fun k => listed.getD k false) (tr.zipIdx 0) st0).upd ti.o ef := by
          unfold Te.app; rw [hef]
        rw [happ]
        exact hput
      · -- it is passed over
        have hwant : Region.wanted ti.o (yielded ops a.tmps) = false := by
          have h1 := h.env s
          rw [hEag s (hslot j want s hg hs)] at h1
          rcases hv with hv | hv
          · rw [hv] at h1
            simp [Region.wanted, hg, yielded_bool hs h1]
          · rw [hv] at h1
            simp [Region.wanted, hg, yielded_undef hs h1]
        rw [if_neg (by rw [hwant]; decide)]
        refine hgo ψ _ w ?_
        have happ : ti.app (runS (fun k => listed.getD k false) (tr.zipIdx 0) st0) = (runS (fun k => listed.getD k false) (tr.zipIdx 0) st0).put ti.o.dst (.l .undef) := by
          unfold Te.app; rw [hef]
        rw [happ]
        exact h.skip ti.o.dst
/-- A REGION IN ANY ORDER. -/
theorem anyOps_sound (hm : P.follows .mixedOrders = true) (hT : TOk P T) (hC : COkx P G C cx) {id : Nat} {ops : Array Oper} {K : St → Option ρ} {ψ : Nat → Value} {st : St} {a : Act} {w : World} (h : Rel cx ψ st a w) (hd : anyOps T C ops st K = some out) (hN : Nxt cx K out (Q .normal)) : (Code.region id ops true).wp P Q a w := by
  unfold anyOps at hd
  obtain ⟨st', tr, h1, h2, h3, h4⟩ := goT_ok (st0 := st) ops.toList hd (fun i te hi => by simp at hi) (Ext.refl _)
  split at h1
  · rename_i hok
    refine wp_region_any hm (any_go (cx := cx) hT hC (by simpa using h2) h3 hok (fun ψ a w hr => ?_) ops.size _ ψ a _ (by simp) (by simp) (fun i o _ hf => by simp [Array.getD_eq_getD_getElem?, Array.getElem?_replicate] at hf; split at hf <;> simp at hf) ?_)
    · exact hN ψ st' a w (hr.ext h4.1 h4.2.1 h4.2.2.1 h4.2.2.2) h1
    · refine (h.below (w' := { w with drawn := w.drawn + 1 }) ⟨rfl, rfl, rfl, Nat.le_refl _, fun _ _ => rfl⟩).ext ?_ ?_ ?_ ?_
      · rw [(runS_nt _ _ _).1]
      · rw [(runS_nt _ _ _).2]
      · intro d
        rw [runS_E]
        exact pickF_none fun te k _ _ => by simp [Array.getD_eq_getD_getElem?, Array.getElem?_replicate]; split <;> rfl
      · intro b
        rw [runS_H]
        exact pickF_none fun te k _ _ => by simp [Array.getD_eq_getD_getElem?, Array.getElem?_replicate]; split <;> rfl
  · cases h1
end
end Go.Proofs.YtopplbiadpcalaaDoor.U

/- The small abstract machine: code, and what a whole function answers. -/
namespace Go.Proofs.YtopplbiadpcalaaDoor.U
open Go Go.RowKit

/-- Where the state is pruned: loops by the region that stands first in them, ways that meet by the region that stands first behind. -/
abbrev Live := Nat → Option Keep
def firstR : Code → Option Nat
  | .region id _ _ => some id
  | .seq a b => match firstR a with
    | some i => some i
    | none => firstR b
  | .block _ b => firstR b
  | .loop b => firstR b
  | .scope b => firstR b
  | _ => none
section
variable {ρ : Type} (T : Tab) (C : Nat → Option Sp)
variable (Lv : Live) (Lo : Nat → St → Option ρ)
/-- Behind the first half of a sequence. -/
def seqK (Lv : Live) (b : Code) (exb : St → Option ρ) (K : Exit → St → Option ρ) : Exit → St → Option ρ := fun e st' => match e with
  | .normal => match (firstR b).bind Lv with
    | some kp => match St.prune st' kp with
      | some st'' => exb st''
      | none => none
    | none => exb st'
  | e => K e st'
def blockK (id : Nat) (K : Exit → St → Option ρ) : Exit → St → Option ρ := fun e st' => match e with
  | .exit id' => match Nat.beq id' id with
    | true => K .normal st'
    | false => K (.exit id') st'
  | e => K e st'
def loopK (Lv : Live) (Lo : Nat → St → Option ρ) (id : Nat) (K : Exit → St → Option ρ) : Exit → St → Option ρ := fun e st' => match e with
  | .normal => match Lv id with
    | some kp => match St.prune st' kp with
      | some st'' => Lo id st''
      | none => none
    | none => none
  | e => K e st'
/-- Code; a loop by the oracle 'Lo', which answers for all that comes from there on. -/
def exec : Code → St → (Exit → St → Option ρ) → Option ρ
  | .skip, st, K => K .normal st
  | .region _ ops draw, st, K => match draw with
    | false => doOps T C ops ops.toList st (K .normal)
    | true => anyOps T C ops st (K .normal)
  | .seq a b, st, K => exec a st (seqK Lv b (fun s => exec b s K) K)
  | .cond c a b, st, K => match opd st c with
    | .l (.bool t) => cond t (exec a st K) (exec b st K)
    | _ => none
  | .block id b, st, K => exec b st (blockK id K)
  | .loop b, st, _ => match firstR b with
    | some id => match Lv id with
      | some kp => match St.prune st kp with
        | some st' => Lo id st'
        | none => none
      | none => none
    | none => none
  | .exit id, st, K => K (.exit id) st
  | .ret, st, K => K .ret st
  | _, _, _ => none
/-- The loops of code, each with its body and what comes at the body's end. -/
def loopsOf : Code → (Exit → St → Option ρ) → List (Nat × Code × (Exit → St → Option ρ))
  | .seq a b, K => loopsOf a (seqK Lv b (fun s => exec T C Lv Lo b s K) K) ++ loopsOf b K
  | .cond _ a b, K => loopsOf a K ++ loopsOf b K
  | .block id b, K => loopsOf b (blockK id K)
  | .loop b, K => match firstR b with
    | some id => (id, b, loopK Lv Lo id K) :: loopsOf b (loopK Lv Lo id K)
    | none => []
  | _, _ => []
def findL : List (Nat × Code × (Exit → St → Option ρ)) → Nat → Option (Code × (Exit → St → Option ρ))
  | [], _ => none
  | (i, x) :: r, id => match Nat.beq i id with
    | true => some x
    | false => findL r id
def runL (x : Option (Code × (Exit → St → Option ρ))) (st : St) : Option ρ := match x with
  | some (b, K) => exec T C Lv Lo b st K
  | none => none
def resOf (st : St) : List ResultVar → Option (List SV)
  | [] => some []
  | .tmp t :: r => (resOf st r).map (getE st.env t :: ·)
  | .cell x t :: r => match T t, getE st.env x with
    | some i, .l (.ptr b off) => match getH st.hp b with
      | some (.box _ cs) => match valOf i cs off with
        | some v => (resOf st r).map (v :: ·)
        | none => none
      | _ => none
    | _, _ => none
def toE : SV → Option (L ⊕ List L)
  | .l x => some (.inl x)
  | .agg cs => some (.inr cs)
  | _ => none
def tupOf : List SV → Option (List (L ⊕ List L))
  | [] => some []
  | v :: r => match toE v, tupOf r with
    | some e, some es => some (e :: es)
    | _, _ => none
def retOf : List SV → Option SV
  | [v] => some v
  | vs => (tupOf vs).map .tup
def enterE : List SV → Nat → List (Nat × SV)
  | [], _ => []
  | v :: vs, i => (i, v) :: enterE vs (i + 1)
def enter (args : List SV) (nt : Nat) (hin : Heap) : St := { nt := nt, env := enterE args 0, hp := hin, pin := hin.map Prod.fst }
/-- All references lead to what is kept. -/
def refIn (hp : Heap) (x : L) : Bool := match x.ref with
  | some b => (getH hp b).isSome
  | none => true
def shut (v : SV) (hp : Heap) : Bool := v.leaves.all (refIn hp) && hp.all fun p => p.2.leaves.all (refIn hp)
/-- The results, told as 'kx' says: its slots are the results by their number. -/
def lastK (dec : SV → Heap → Option ρ) (fn : Func) (kx : Keep) (e : Exit) (st : St) : Option ρ := match e with
  | .ret | .normal => match resOf T st fn.results.toList with
    | some vs => match St.prune { st with nt := vs.length, env := enterE vs 0 } kx with
      | some st' => match retOf ((List.range vs.length).map (getE st'.env)) with
        | some v => match shut v st'.hp with
          | true => dec v st'.hp
          | false => none
        | none => none
      | none => none
    | none => none
  | _ => none
def idsOf : Code → List Nat
  | .seq a b => idsOf a ++ idsOf b
  | .cond _ a b => idsOf a ++ idsOf b
  | .block _ b => idsOf b
  | .loop b => match firstR b with
    | some id => id :: idsOf b
    | none => []
  | _ => []
/-- A call, its loops by an oracle. -/
def callG (dec : SV → Heap → Option ρ) (Lo : Nat → St → Option ρ) (fn : Func) (kx : Keep) (args : List SV) (hin : Heap) : Option ρ :=
  match fn.body, Nat.ble args.length fn.ntmps with
  | some c, true => match distinct (idsOf c) with
    | true => exec T C Lv Lo c (enter args fn.ntmps hin) (lastK T dec fn kx)
    | false => none
  | _, _ => none
/-- A round of a loop of a function, all loops by an oracle. -/
def roundG (dec : SV → Heap → Option ρ) (Lo : Nat → St → Option ρ) (fn : Func) (kx : Keep) (id : Nat) (st : St) : Option ρ :=
  match fn.body with
  | some c => runL T C Lv Lo (findL (loopsOf T C Lv Lo c (lastK T dec fn kx)) id) st
  | none => none
def loF (dec : SV → Heap → Option ρ) (fn : Func) (kx : Keep) : Nat → Nat → St → Option ρ
  | 0, _, _ => none
  | m + 1, id, st => roundG T C Lv dec (loF dec fn kx m) fn kx id st
/-- A call, with that many rounds of loops. -/
def callF (dec : SV → Heap → Option ρ) (m : Nat) (fn : Func) (kx : Keep) (args : List SV) (hin : Heap) : Option ρ := callG T C Lv dec (loF T C Lv dec fn kx m) fn kx args hin
end

/-- A loop by a number of rounds that may still come. -/
theorem wp_loop_n {P : Program} {c : Code} {Q : Exit → Act → World → Prop} (J : Nat → Act → World → Prop) (h0 : ∀ a w, ¬ J 0 a w) (round : ∀ n a w, J (n + 1) a w → c.wp P (Exit.then (J n) Q) a w) (n : Nat) (a : Act) (w : World) (h : J n a w) : (Code.loop c).wp P Q a w := by
  intro b k cs
  have key : ∀ n a w, J n a w → ∃ e a' w', Q e a' w' ∧ Arrives P (lone (b.at a (.code c :: .inLoop c :: k)) cs w) b k cs e a' w' := by
    intro n
    induction n with
    | zero => exact fun a w h => absurd h (h0 a w)
    | succ n ih =>
      intro a w h
      obtain ⟨e, a₁, w₁, hq, harr⟩ := round n a w h b (.inLoop c :: k) cs
      cases e with
      | normal =>
        obtain ⟨e₂, a₂, w₂, hq₂, harr₂⟩ := ih a₁ w₁ hq
        exact ⟨e₂, a₂, w₂, hq₂, .of_steps (Steps.trans harr (.one step_inLoop)) harr₂⟩
      | exit id => exact ⟨_, a₁, w₁, hq, .pass (x := .inLoop c) rfl (fun _ _ => .inl (by simp)) harr⟩
      | goto l => exact ⟨_, a₁, w₁, hq, .pass (x := .inLoop c) rfl (fun _ _ => .inl (by simp)) harr⟩
      | ret => exact ⟨_, a₁, w₁, hq, .pass (x := .inLoop c) rfl (fun _ _ => .inl (by simp)) harr⟩
      | panic ch => exact ⟨_, a₁, w₁, hq, .pass (x := .inLoop c) rfl (fun _ _ => .inl (by simp)) harr⟩
      | outgrown => exact ⟨_, a₁, w₁, hq, .pass (x := .inLoop c) rfl (fun _ _ => .inl (by simp)) harr⟩
  obtain ⟨e, a', w', hq, harr⟩ := key n a w h
  exact ⟨e, a', w', hq, .of_steps (.one step_loop) harr⟩
section
variable {P : Program} {G : GB} {T : Tab} {C : Nat → Option Sp} {Lv : Live} {n : Nat} {ρ : Type} {cx : Cx} {out : ρ}
/-- What is to be shown where code ends. -/
def End (cx : Cx) (K : Exit → St → Option ρ) (out : ρ) (Q : Exit → Act → World → Prop) : Prop := ∀ e ψ st a w, Rel cx ψ st a w → K e st = some out → Q e a w
theorem findL_mem : ∀ {l : List (Nat × Code × (Exit → St → Option ρ))} {id : Nat} {x : Code × (Exit → St → Option ρ)}, (l.map Prod.fst).Nodup → (id, x) ∈ l → findL l id = some x
  | [], _, _, _, h => by cases h
  | (i, y) :: r, id, x, hd, h => by
    simp only [List.map_cons, List.nodup_cons] at hd
    simp only [findL]
    rcases List.mem_cons.1 h with he | h
    · simp only [Prod.mk.injEq] at he
      obtain ⟨rfl, rfl⟩ := he
      rw [show Nat.beq id id = true from Nat.beq_refl id]
    · have : Nat.beq i id = false := by
        rw [Bool.eq_false_iff]
        intro e
        obtain rfl := Nat.eq_of_beq_eq_true e
        exact hd.1 (List.mem_map_of_mem h)
      rw [this]
      exact findL_mem hd.2 h
theorem loops_ids {Lo : Nat → St → Option ρ} : ∀ (c : Code) (K : Exit → St → Option ρ), (loopsOf T C Lv Lo c K).map Prod.fst = idsOf c := by
  intro c
  induction c with
  | seq a b iha ihb => intro K; simp only [loopsOf, idsOf, List.map_append, iha, ihb]
  | cond _ a b iha ihb => intro K; simp only [loopsOf, idsOf, List.map_append, iha, ihb]
  | block _ b ih => intro K; simp only [loopsOf, idsOf, ih]
  | loop b ih =>
    intro K
    simp only [loopsOf, idsOf]
    split
    · simp only [List.map_cons, ih]
    · rfl
  | _ => intro K; rfl
theorem exec_sound (hm : P.follows .mixedOrders = true) (hT : TOk P T) (hC : COkx P G C cx) {c0 : Code} {LF : Nat → Nat → St → Option ρ} {K0 : Nat → Exit → St → Option ρ} (h0 : ∀ id st, LF 0 id st = none)
    (hs : ∀ m id st, LF (m + 1) id st = runL T C Lv (LF m) (findL (loopsOf T C Lv (LF m) c0 (K0 m)) id) st) (hd : (idsOf c0).Nodup) :
    ∀ (c : Code) (K : Nat → Exit → St → Option ρ) (Q : Exit → Act → World → Prop) (m : Nat), (∀ m' ≤ m, End cx (K m') out Q) → (∀ m', ∀ x ∈ loopsOf T C Lv (LF m') c (K m'), x ∈ loopsOf T C Lv (LF m') c0 (K0 m')) →
      ∀ (ψ : Nat → Value) (st : St) (a : Act) (w : World), Rel cx ψ st a w → exec T C Lv (LF m) c st (K m) = some out → c.wp P Q a w := by
  intro c
  induction c with
  | skip => intro K Q m hE _ ψ st a w h he; exact wp_skip (hE m (Nat.le_refl _) _ _ _ _ _ h he)
  | region id ops draw =>
    intro K Q m hE _ ψ st a w h he
    cases draw with
    | false => exact wp_region_list (doOps_sound hT hC ops.toList h he (fun ψ st a w h hk => hE m (Nat.le_refl _) _ _ _ _ _ h hk))
    | true => exact anyOps_sound hm hT hC h he (fun ψ st a w h hk => hE m (Nat.le_refl _) _ _ _ _ _ h hk)
  | seq x y ihx ihy =>
    intro K Q m hE hl ψ st a w h he
    refine wp_seq (ihx (fun m => seqK Lv y (fun s => exec T C Lv (LF m) y s (K m)) (K m)) _ m (fun m' hm' => ?_) (fun m' z hz => hl m' z (by simp only [loopsOf]; exact List.mem_append_left _ hz)) ψ st a w h he)
    intro e ψ st a w h hk
    have hy : ∀ {ψ : Nat → Value} {st : St}, Rel cx ψ st a w → exec T C Lv (LF m') y st (K m') = some out → y.wp P Q a w := fun h' hk' => ihy K Q m' (fun m'' h'' => hE m'' (Nat.le_trans h'' hm')) (fun m'' z hz => hl m'' z (by simp only [loopsOf]; exact List.mem_append_right _ hz)) _ _ a w h' hk'
    cases e with
    | normal =>
      simp only [seqK] at hk
      split at hk
      · split at hk
        · rename_i hp
          obtain ⟨ψ', h'⟩ := h.prune hp
          exact hy h' hk
        · cases hk
      · exact hy h hk
    | _ => exact hE m' hm' _ _ _ _ _ h hk
  | cond c x y ihx ihy =>
    intro K Q m hE hl ψ st a w h he
    simp only [exec] at he
    split at he
    · rename_i t hc
      have h1 := opd_ok h c
      rw [hc] at h1
      refine wp_cond (t := t) h1 ?_
      cases t
      · exact ihy K Q m hE (fun m' z hz => hl m' z (by simp only [loopsOf]; exact List.mem_append_right _ hz)) ψ st a w h he
      · exact ihx K Q m hE (fun m' z hz => hl m' z (by simp only [loopsOf]; exact List.mem_append_left _ hz)) ψ st a w h he
    · cases he
  | block id b ih =>
    intro K Q m hE hl ψ st a w h he
    refine wp_block (ih (fun m => blockK id (K m)) _ m (fun m' hm' => ?_) (fun m' z hz => hl m' z (by simp only [loopsOf]; exact hz)) ψ st a w h he)
    intro e ψ st a w h hk
    cases e with
    | exit id' =>
      simp only [blockK] at hk
      cases hb : Nat.beq id' id with
      | true => rw [hb] at hk; simp only [Exit.inBlock, Nat.eq_of_beq_eq_true hb, if_true]; exact hE m' hm' _ _ _ _ _ h hk
      | false => rw [hb] at hk; simp only [Exit.inBlock, Nat.ne_of_beq_eq_false hb, if_false]; exact hE m' hm' _ _ _ _ _ h hk
    | _ => exact hE m' hm' _ _ _ _ _ h hk
  | loop b ih =>
    intro K Q m hE hl ψ st a w h he
    simp only [exec] at he
    split at he
    · rename_i id hid
      split at he
      · rename_i kp hkp
        split at he
        · rename_i st' hp
          obtain ⟨ψ', h'⟩ := h.prune hp
          refine wp_loop_n (fun j a w => ∃ ψ st i, i ≤ j ∧ i ≤ m ∧ Rel cx ψ st a w ∧ LF i id st = some out) ?_ ?_ m a w ⟨ψ', st', m, Nat.le_refl _, Nat.le_refl _, h', he⟩
          · rintro a w ⟨ψ, st, i, hi, _, _, hk⟩
            obtain rfl : i = 0 := by omega
            rw [h0] at hk; cases hk
          · rintro j a w ⟨ψ, st, i, hi, him, hr, hk⟩
            cases i with
            | zero => rw [h0] at hk; cases hk
            | succ i =>
              have hmem : ∀ m', (id, b, loopK Lv (LF m') id (K m')) ∈ loopsOf T C Lv (LF m') c0 (K0 m') := fun m' => hl m' _ (by simp only [loopsOf, hid]; exact List.mem_cons_self)
              rw [hs, findL_mem (by rw [loops_ids]; exact hd) (hmem i)] at hk
              refine ih (fun m => loopK Lv (LF m) id (K m)) _ i (fun m' hm' => ?_) (fun m' z hz => hl m' z (by simp only [loopsOf, hid]; exact List.mem_cons_of_mem _ hz)) ψ st a w hr hk
              intro e ψ st a w h hk
              cases e with
              | normal =>
                simp only [loopK, hkp] at hk
                split at hk
                · rename_i hp'
                  obtain ⟨ψ', h'⟩ := h.prune hp'
                  exact ⟨ψ', _, m', by omega, by omega, h', hk⟩
                · cases hk
              | _ => exact hE m' (by omega) _ _ _ _ _ h hk
        · cases he
      · cases he
    · cases he
  | exit id => intro K Q m hE _ ψ st a w h he; exact wp_exit (hE m (Nat.le_refl _) _ _ _ _ _ h he)
  | ret => intro K Q m hE _ ψ st a w h he; exact wp_ret (hE m (Nat.le_refl _) _ _ _ _ _ h he)
  | _ => intro K Q m hE _ ψ st a w h he; simp only [exec] at he; cases he

def resR (tmps : Array Value) : ResultVar → Sem Value
  | .tmp t => pure (tmps.getD t undef)
  | .cell a t => do loadVar t (← asAddr (tmps.getD a undef))
theorem mapM_run (P : Program) (w : World) (f : ResultVar → Sem Value) : ∀ (rs : List ResultVar) (vs : List Value), vs.length = rs.length → (∀ (i : Nat) (r : ResultVar) (v : Value), rs[i]? = some r → vs[i]? = some v → (f r).run P w = .ok v w) → (rs.mapM f).run P w = .ok vs w
  | [], [], _, _ => rfl
  | [], _ :: _, h, _ => by simp at h
  | _ :: _, [], h, _ => by simp at h
  | r :: rs, v :: vs, h, hr => by
    rw [List.mapM_cons]
    simp only [Sem.run_bind, hr 0 r v rfl rfl, Result.andThen_ok, mapM_run P w f rs vs (by simpa using h) (fun i r v h1 h2 => hr (i + 1) r v (by simpa using h1) (by simpa using h2))]
    rfl
theorem res_run (P : Program) (fn : Func) (tmps : Array Value) (w : World) (vs : List Value) (h : vs.length = fn.results.toList.length) (hr : ∀ (i : Nat) (r : ResultVar) (v : Value), fn.results.toList[i]? = some r → vs[i]? = some v → (resR tmps r).run P w = .ok v w) :
    (results fn tmps).run P w = .ok (if h : vs.length = 1 then vs[0] else .tuple vs.toArray) w := by
  have h1 := mapM_run P w (resR tmps) fn.results.toList vs h hr
  have h2 : (fn.results.mapM (resR tmps)).run P w = .ok vs.toArray w := by
    rw [Array.mapM_eq_mapM_toList]
    rw [map_eq_pure_bind]
    simp only [Sem.run_bind, h1, Result.andThen_ok]
    try rfl
  have h3 : results fn tmps = (do let vs ← fn.results.mapM (resR tmps); pure (if h : vs.size = 1 then vs[0] else .tuple vs)) := by
    unfold results
    congr 1
    try (congr 1; funext r; cases r <;> rfl)
  rw [h3]
  simp only [Sem.run_bind, h2, Result.andThen_ok]
  simp
/-- The results' variables, as they are told and as they lie. -/
theorem resOf_ok (hT : TOk P T) {ψ : Nat → Value} {st : St} {a : Act} {w : World} (h : Rel cx ψ st a w) : ∀ (rs : List ResultVar) (vs : List SV), resOf T st rs = some vs → ∃ us, RVs ψ (RO cx ψ st.hp) w vs us ∧ us.length = rs.length ∧ ∀ (i : Nat) (r : ResultVar) (u : Value), rs[i]? = some r → us[i]? = some u → (resR a.tmps r).run P w = .ok u w
  | [], vs, hr => by
    simp [resOf] at hr
    subst hr
    exact ⟨[], trivial, rfl, fun i r u h => by simp at h⟩
  | .tmp t :: rs, vs, hr => by
    simp only [resOf, Option.map_eq_some_iff] at hr
    obtain ⟨vs', h1, rfl⟩ := hr
    obtain ⟨us, h2, h3, h4⟩ := resOf_ok hT h rs vs' h1
    refine ⟨a.tmps.getD t undef :: us, ⟨h.env t, h2⟩, by simp [h3], fun i r u hi hu => ?_⟩
    cases i with
    | zero => simp at hi hu; subst hi; subst hu; simp [resR]
    | succ i => exact h4 i r u (by simpa using hi) (by simpa using hu)
  | .cell x t :: rs, vs, hr => by
    simp only [resOf] at hr
    split at hr
    · rename_i i b off hi hx
      split at hr
      · rename_i t' cs hb
        split at hr
        · rename_i v hv
          simp only [Option.map_eq_some_iff] at hr
          obtain ⟨vs', h1, rfl⟩ := hr
          obtain ⟨us, h2, h3, h4⟩ := resOf_ok hT h rs vs' h1
          have h5 := h.env x
          rw [hx] at h5
          obtain ⟨g, hg, h5⟩ := h5
          obtain ⟨ws, hh, hl⟩ := box_at h hb hg
          obtain ⟨z, hz, hrun⟩ := load_run (P := P) (hT t i hi) hl (b := g) (base := 0) (off := off) (fun j u hj => by rw [Nat.zero_add, cells_at hh]; exact hj) hv
          rw [Nat.zero_add] at hrun
          refine ⟨z :: us, ⟨hz, h2⟩, by simp [h3], fun i r u hi hu => ?_⟩
          cases i with
          | zero =>
            simp at hi hu
            subst hi; subst hu
            simp only [resR, h5, asAddr, Sem.run_bind, Sem.run_pure, Result.andThen_ok]
            simpa [Instr.loadAt, Instr.sureAddr] using hrun
          | succ i => exact h4 i r u (by simpa using hi) (by simpa using hu)
        · cases hr
      · cases hr
    · cases hr
theorem getE_enter : ∀ (args : List SV) (vals : List Value) {ψ : Nat → Value} {ro : Addr → Prop} {w : World}, RVs ψ ro w args vals → ∀ (k d : Nat) (rest : List Value), RV ψ ro w (getE (enterE args k) (k + d)) ((vals ++ rest).getD d undef)
  | [], vals, _, _, _, h, k, d, rest => trivial
  | v :: args, [], _, _, _, h, k, d, rest => h.elim
  | v :: args, u :: vals, ψ, ro, w, h, k, d, rest => by
    simp only [enterE, getE]
    cases hb : Nat.beq k (k + d)
    · have hne := Nat.ne_of_beq_eq_false hb
      obtain ⟨d', rfl⟩ : ∃ d', d = d' + 1 := ⟨d - 1, by omega⟩
      have := getE_enter args vals h.2 (k + 1) d' rest
      rw [show k + (d' + 1) = k + 1 + d' by omega]
      simpa using this
    · have he := Nat.eq_of_beq_eq_true hb
      obtain rfl : d = 0 := by omega
      exact h.1
theorem RVs_get {ψ : Nat → Value} {ro : Addr → Prop} {w : World} (f : Nat → SV) : ∀ (us : List Value) (k : Nat), (∀ i u, us[i]? = some u → RV ψ ro w (f (k + i)) u) → RVs ψ ro w ((List.range' k us.length).map f) us
  | [], k, _ => trivial
  | u :: us, k, h => ⟨by simpa using h 0 u rfl, by
    have := RVs_get f us (k + 1) (fun i v hv => by
      have := h (i + 1) v (by simpa using hv)
      rwa [show k + (i + 1) = k + 1 + i by omega] at this)
    simpa [List.range'] using this⟩
theorem tup_ok {ψ : Nat → Value} {ro : Addr → Prop} {w : World} : ∀ {vs : List SV} {es : List (L ⊕ List L)} {us : List Value}, tupOf vs = some es → RVs ψ ro w vs us → REs ψ ro w es us
  | [], es, us, h, hv => by
    obtain rfl := Option.some.inj h
    cases us with
    | nil => trivial
    | cons _ _ => exact hv.elim
  | v :: vs, es, us, h, hv => by
    cases us with
    | nil => exact hv.elim
    | cons u us =>
      simp only [tupOf] at h
      split at h
      · rename_i e es' h1 h2
        obtain rfl := Option.some.inj h
        refine ⟨?_, tup_ok h2 hv.2⟩
        unfold toE at h1
        split at h1
        · obtain rfl := Option.some.inj h1; exact hv.1
        · obtain rfl := Option.some.inj h1; exact hv.1
        · cases h1
      · cases h
theorem ret_ok {ψ : Nat → Value} {ro : Addr → Prop} {w : World} {vs : List SV} {v : SV} {us : List Value} (h : retOf vs = some v) (hv : RVs ψ ro w vs us) : RV ψ ro w v (if h : us.length = 1 then us[0] else .tuple us.toArray) := by
  have hlu := RVs_len hv
  unfold retOf at h
  split at h
  · rename_i x
    obtain rfl := Option.some.inj h
    match us, hv, hlu with
    | [y], h4, _ => exact h4.1
  · rename_i hne
    simp only [Option.map_eq_some_iff] at h
    obtain ⟨es, h7, rfl⟩ := h
    have hl1 : ¬ us.length = 1 := by
      intro h8
      match vs, hlu, hne with
      | [x], _, hne => exact hne x rfl
      | [], hlu, _ => simp at hlu; omega
      | _ :: _ :: _, hlu, _ => simp at hlu; omega
    rw [dif_neg hl1]
    exact ⟨us, rfl, tup_ok h7 hv⟩
theorem getH_key {hp : Heap} {b : Nat} (h : getH hp b ≠ none) : b ∈ hp.map Prod.fst := by
  cases hb : getH hp b with
  | none => exact absurd hb h
  | some o => exact List.mem_map_of_mem (getH_mem hb)
/-- The same, of one answer among those that R lets. -/
def FnR (P : Program) (G : GB) (f : Nat) (args : List SV) (hin : Heap) (R : SV → Heap → Prop) : Prop :=
  ∀ (ψ : Nat → Value) (ro : Addr → Prop) (w : World) (vals : List Value), RVs ψ ro w args vals →
    (∀ b o, getH hin b = some o → OOk ψ ro w o (ψ b)) →
    (∀ b b' o o' g, getH hin b = some o → getH hin b' = some o' → o.live = true → o'.live = true → blk (ψ b) = some g → blk (ψ b') = some g → b = b') →
    (∀ a, ro a → ¬ LB ψ hin a.block) → G.at w (LB ψ hin) →
    Calls P f vals.toArray w fun e w' => ∃ v hout, R v hout ∧ ∃ v' ψ', e = .returned v' ∧ (∀ b, getH hin b ≠ none ∨ getH hout b = none → ψ' b = ψ b) ∧ Fr w (LB ψ hin) w' ∧
      RV ψ' (RO ⟨w, ro, LB ψ hin, ψ, hin.map Prod.fst⟩ ψ' hout) w' v v' ∧
      (∀ b o, getH hout b = some o → OOk ψ' (RO ⟨w, ro, LB ψ hin, ψ, hin.map Prod.fst⟩ ψ' hout) w' o (ψ' b)) ∧
      (∀ g, LB ψ' hout g → w.heap.size ≤ g ∨ LB ψ hin g) ∧
      (∀ b b' o o' g, getH hout b = some o → getH hout b' = some o' → o.live = true → o'.live = true → blk (ψ' b) = some g → blk (ψ' b') = some g → b = b')
/-- WHAT THE SMALL MACHINE ANSWERS OF A FUNCTION, THE CALL ANSWERS. -/
theorem callF_sound (hm : P.follows .mixedOrders = true) (hT : TOk P T) (hC : COk P G C) {f : Nat} {fn : Func} (hf : P.funcs[f]? = some fn) {kx : Keep} {dec : SV → Heap → Option ρ} {args : List SV} {hin : Heap} {y : ρ} (hv : callF T C Lv dec n fn kx args hin = some y) : FnR P G f args hin (fun v hout => dec v hout = some y) := by
  intro ψ ro w vals hargs hobj hinj hro hgb
  unfold callF callG at hv
  split at hv
  rotate_left
  · cases hv
  rename_i c hbody hle
  split at hv
  rotate_left
  · cases hv
  · rename_i hdist
    have hlen := RVs_len hargs
    have hle := Nat.le_of_ble_eq_true hle
    refine calls_of_wp hf hbody ?_
    have hmv : ∀ p u, ro p → w.cell? p = some u → RO ⟨w, ro, LB ψ hin, ψ, hin.map Prod.fst⟩ ψ hin p ∧ w.cell? p = some u := fun p u h1 h2 => ⟨⟨fun _ => .inl h1, hro p h1⟩, h2⟩
    have hrel : Rel ⟨w, ro, LB ψ hin, ψ, hin.map Prod.fst⟩ ψ (enter args fn.ntmps hin) { tmps := vals.toArray ++ Array.replicate (fn.ntmps - vals.toArray.size) undef, defers := [] } w := {
      nt := by simp [enter]; omega
      df := rfl
      env := fun d => by
        have := getE_enter args vals hargs 0 d (List.replicate (fn.ntmps - vals.length) undef)
        rw [Nat.zero_add] at this
        have he : (vals.toArray ++ Array.replicate (fn.ntmps - vals.toArray.size) undef).getD d undef = (vals ++ List.replicate (fn.ntmps - vals.length) undef).getD d undef := by
          simp [Array.getD_eq_getD_getElem?, List.getD_eq_getElem?_getD, Array.getElem?_append, List.getElem?_append, Array.getElem?_replicate, List.getElem?_replicate]
        show RV _ _ _ (getE (enterE args 0) d) ((vals.toArray ++ Array.replicate (fn.ntmps - vals.toArray.size) undef).getD d undef)
        rw [he]
        exact this.move (fun _ _ _ _ => rfl) hmv
      obj := fun b o hb => (hobj b o hb).move (fun _ _ _ _ => rfl) hmv (fun _ _ _ => rfl)
      onew := fun g hg => .inr hg
      oinj := hinj
      fr := Fr.refl _ _
      pin := ⟨rfl, fun _ _ => rfl⟩ }
    refine exec_sound (Lv := Lv) (c0 := c) (LF := loF T C Lv dec fn kx) (K0 := fun _ => lastK T dec fn kx) hm hT (cx := ⟨w, ro, LB ψ hin, ψ, hin.map Prod.fst⟩) ⟨hC, hgb⟩ (fun _ _ => rfl) (fun m id st => by simp only [loF, roundG, hbody]) (distinct_ne hdist) c (fun _ => lastK T dec fn kx) _ n (fun m' _ => ?_) (fun _ _ h => h) ψ _ _ w hrel hv
    intro e ψ1 st a w' h hk
    have hfin : (match resOf T st fn.results.toList with
        | some vs => match St.prune { st with nt := vs.length, env := enterE vs 0 } kx with
          | some st' => match retOf ((List.range vs.length).map (getE st'.env)) with
            | some v => match shut v st'.hp with
              | true => dec v st'.hp
              | false => none
            | none => none
          | none => none
        | none => none) = some y → a.defers = [] ∧ ∃ x, (results fn a.tmps).run P w' = .ok x w' ∧ (∃ v hout, dec v hout = some y ∧ ∃ v' ψ', Ending.returned x = .returned v' ∧ (∀ b, getH hin b ≠ none ∨ getH hout b = none → ψ' b = ψ b) ∧ Fr w (LB ψ hin) w' ∧
      RV ψ' (RO ⟨w, ro, LB ψ hin, ψ, hin.map Prod.fst⟩ ψ' hout) w' v v' ∧
      (∀ b o, getH hout b = some o → OOk ψ' (RO ⟨w, ro, LB ψ hin, ψ, hin.map Prod.fst⟩ ψ' hout) w' o (ψ' b)) ∧
      (∀ g, LB ψ' hout g → w.heap.size ≤ g ∨ LB ψ hin g) ∧
      (∀ b b' o o' g, getH hout b = some o → getH hout b' = some o' → o.live = true → o'.live = true → blk (ψ' b) = some g → blk (ψ' b') = some g → b = b')) := by
      intro hk
      split at hk
      · rename_i vs h1
        split at hk
        · rename_i st' h2
          split at hk
          · rename_i v1 h3
            split at hk
            · rename_i hsh
              obtain ⟨us, h4, h5, h6⟩ := resOf_ok hT h _ vs h1
              have hlu := RVs_len h4
              have hrel2 : Rel ⟨w, ro, LB ψ hin, ψ, hin.map Prod.fst⟩ ψ1 { st with nt := vs.length, env := enterE vs 0 } { a with tmps := us.toArray } w' := {
                nt := by simp [hlu]
                df := h.df
                env := fun d => by
                  have := getE_enter vs us h4 0 d []
                  rw [Nat.zero_add, List.append_nil] at this
                  have he : us.toArray.getD d undef = us.getD d undef := by simp
                  show RV _ _ _ (getE (enterE vs 0) d) (us.toArray.getD d undef)
                  rw [he]
                  exact this
                obj := h.obj
                onew := h.onew
                oinj := h.oinj
                fr := h.fr
                pin := h.pin }
              obtain ⟨ψ2, h7⟩ := hrel2.prune h2
              have hvs := RVs_get (ψ := ψ2) (ro := RO ⟨w, ro, LB ψ hin, ψ, hin.map Prod.fst⟩ ψ2 st'.hp) (w := w') (getE st'.env) us 0 (fun i u hi => by
                have := h7.env i
                rw [Nat.zero_add]
                have he : us.toArray.getD i undef = u := by simp [hi]
                rw [he] at this
                exact this)
              rw [← List.range_eq_range', ← hlu] at hvs
              have hrv := ret_ok h3 hvs
              -- the reference values at the end
              have hψ : ∀ b, getH st'.hp b ≠ none → (if getH hin b ≠ none ∨ getH st'.hp b = none then ψ b else ψ2 b) = ψ2 b := by
                intro b hb
                split
                · rename_i hc
                  rcases hc with hc | hc
                  · exact (h7.pin.2 b (by rw [h7.pin.1]; exact getH_key hc)).symm
                  · exact absurd hc hb
                · rfl
              simp only [shut, Bool.and_eq_true] at hsh
              have href : ∀ x : L, refIn st'.hp x = true → ∀ b, x.ref = some b → (if getH hin b ≠ none ∨ getH st'.hp b = none then ψ b else ψ2 b) = ψ2 b := by
                intro x hx b hb
                unfold refIn at hx
                rw [hb] at hx
                refine hψ b fun e => ?_
                simp only at hx
                rw [e] at hx; cases hx
              have hLB : ∀ g, LB (fun b => if getH hin b ≠ none ∨ getH st'.hp b = none then ψ b else ψ2 b) st'.hp g ↔ LB ψ2 st'.hp g := by
                intro g
                constructor
                · rintro ⟨b, o, hb, hl, hk⟩
                  refine ⟨b, o, hb, hl, ?_⟩
                  have := hψ b (by rw [hb]; simp)
                  simp only at hk
                  rw [this] at hk
                  exact hk
                · rintro ⟨b, o, hb, hl, hk⟩
                  refine ⟨b, o, hb, hl, ?_⟩
                  have := hψ b (by rw [hb]; simp)
                  simp only
                  rw [this]
                  exact hk
              have hROe : ∀ p, RO ⟨w, ro, LB ψ hin, ψ, hin.map Prod.fst⟩ ψ2 st'.hp p → RO ⟨w, ro, LB ψ hin, ψ, hin.map Prod.fst⟩ (fun b => if getH hin b ≠ none ∨ getH st'.hp b = none then ψ b else ψ2 b) st'.hp p := fun p hp => ⟨hp.1, fun hb => hp.2 ((hLB _).1 hb)⟩
              refine ⟨h.df, _, res_run P fn a.tmps w' us h5 h6, v1, st'.hp, hk, _, (fun b => if getH hin b ≠ none ∨ getH st'.hp b = none then ψ b else ψ2 b), rfl, fun b hb => if_pos hb, h7.fr, hrv.move (fun y hy b hb => href y (List.all_eq_true.1 hsh.1 y hy) b hb) (fun p u h8 h9 => ⟨hROe p h8, h9⟩), fun b o hb => ?_, fun g hg => h7.onew g ((hLB g).1 hg), fun b b' o o' g hb hb' hl hl' hk hk' => ?_⟩
              · have := hψ b (by rw [hb]; simp)
                simp only
                rw [this]
                exact (h7.obj b o hb).move (fun y hy c hc => href y (List.all_eq_true.1 (List.all_eq_true.1 hsh.2 _ (getH_mem hb)) y hy) c hc) (fun p u h8 h9 => ⟨hROe p h8, h9⟩) (fun _ _ _ => rfl)
              · have h8 := hψ b (by rw [hb]; simp)
                have h9 := hψ b' (by rw [hb']; simp)
                simp only at hk hk'
                rw [h8] at hk
                rw [h9] at hk'
                exact h7.oinj b b' o o' g hb hb' hl hl' hk hk'
            · cases hk
          · cases hk
        · cases hk
      · cases hk
    cases e with
    | ret => exact hfin hk
    | normal => exact hfin hk
    | _ => cases hk
end
end Go.Proofs.YtopplbiadpcalaaDoor.U

/- The small abstract machine: what is known of callees, as a table; arguments and answers as plain data. -/
namespace Go.Proofs.YtopplbiadpcalaaDoor.U
open Go Go.RowKit

/-- Plain data as a value ('ag': its type is a struct). -/
def canon (ag : Bool) (k : Kn) (x : den k) : SV := cond ag (.agg (toL k x)) (.l ((toL k x).headD .un))
def fromA (ag : Bool) (k : Kn) (v : SV) : Option (den k) := match ag, v with
  | false, .l x => fromLs k [x]
  | true, .agg cs => fromLs k cs
  | _, _ => none
theorem toL_len : ∀ (k : Kn) (x : den k), (toL k x).length = k.sz
  | .int _, _ => rfl
  | .bool, _ => rfl
  | .str, _ => rfl
  | .ifc, _ => rfl
  | .ifi _ _, _ => rfl
  | .prod a b, x => by simp only [toL, List.length_append, toL_len, Kn.sz]
  | .sl _ _, _ => rfl
section
variable {ψ ψ' : Nat → Value} {ro : Addr → Prop} {w : World}
theorem canon_ok {ag : Bool} {k : Kn} {v : SV} {x : den k} {u : Value} (h : fromA ag k v = some x) (hv : RV ψ ro w v u) : RV ψ' ro w (canon ag k x) u := by
  unfold fromA at h
  split at h
  · have h1 := toL_ok (ψ := ψ') k x [u] (fromLs_ok h ⟨hv, trivial⟩)
    unfold canon
    simp only [cond_false]
    cases hl : toL k x with
    | nil => rw [hl] at h1; exact h1.elim
    | cons y ys => rw [hl] at h1; exact h1.1
  · obtain ⟨vs, rfl, hvs⟩ := hv
    exact ⟨vs, rfl, toL_ok k x vs (fromLs_ok h hvs)⟩
  · cases h
end
theorem toL_refs : ∀ (k : Kn) (x : den k), ∀ y ∈ toL k x, y.ref = none
  | .int _, _, y, h => by simp [toL] at h; subst h; rfl
  | .bool, _, y, h => by simp [toL] at h; subst h; rfl
  | .str, _, y, h => by simp [toL] at h; subst h; rfl
  | .ifc, _, y, h => by simp [toL] at h; subst h; rfl
  | .ifi _ _, _, y, h => by simp [toL] at h; subst h; rfl
  | .prod a b, x, y, h => by
    simp only [toL, List.mem_append] at h
    rcases h with h | h
    · exact toL_refs a _ y h
    · exact toL_refs b _ y h
  | .sl _ _, _, y, h => by simp [toL] at h; subst h; rfl

/-! ### Answers -/
/-- One result: of a struct's type or not, its kind; 'own': a slice that is the caller's from now on. -/
structure Rc where
  ag : Bool
  k : Kn
  own : Bool
def Rc.kn : List Rc → Kn
  | [] => .bool
  | [c] => c.k
  | c :: d :: r => .prod c.k (Rc.kn (d :: r))
/-- One result as it is told to the caller: its own row gets key b. -/
def ans1 (c : Rc) (b : Nat) (x : den c.k) : (L ⊕ List L) × Heap := match c with
  | ⟨_, .sl e k, true⟩ => (.inl (.rs b), [(b, .row k e x none false)])
  | ⟨true, k, _⟩ => (.inr (toL k x), [])
  | ⟨false, k, _⟩ => (.inl ((toL k x).headD .un), [])
def ansE (b : Nat) : (rs : List Rc) → den (Rc.kn rs) → List (L ⊕ List L) × Heap
  | [], _ => ([], [])
  | [c], x => ([(ans1 c b x).1], (ans1 c b x).2)
  | c :: d :: r, x => ((ans1 c b x.1).1 :: (ansE (b + 1) (d :: r) x.2).1, (ans1 c b x.1).2 ++ (ansE (b + 1) (d :: r) x.2).2)
def ofE : List (L ⊕ List L) → SV
  | [.inl x] => .l x
  | [.inr cs] => .agg cs
  | es => .tup es
def ans (rs : List Rc) (b : Nat) (y : den (Rc.kn rs)) : SV × Heap := (ofE (ansE b rs y).1, (ansE b rs y).2)
def dec1 (hp : Heap) (c : Rc) (b : Nat) (e : L ⊕ List L) : Option (den c.k) := match c with
  | ⟨_, .sl e0 k, true⟩ => match e with
    | .inl (.rs r) => match Nat.beq r b, getH hp b with
      | true, some (.row k' e' xs _ false) => if h : k' = k then match Nat.beq e' e0 with
          | true => some (h ▸ xs)
          | false => none
        else none
      | _, _ => none
    | _ => none
  | ⟨true, k, _⟩ => match e with
    | .inr cs => fromLs k cs
    | _ => none
  | ⟨false, k, _⟩ => match e with
    | .inl x => fromLs k [x]
    | _ => none
def decE (hp : Heap) (b : Nat) : (rs : List Rc) → List (L ⊕ List L) → Option (den (Rc.kn rs))
  | [], [] => some true
  | [c], [e] => dec1 hp c b e
  | c :: d :: r, e :: es => match dec1 hp c b e, decE hp (b + 1) (d :: r) es with
    | some x, some y => some (x, y)
    | _, _ => none
  | _, _ => none
def toEs : SV → List (L ⊕ List L)
  | .l x => [.inl x]
  | .agg cs => [.inr cs]
  | .tup [_] => [.inl .un, .inl .un]
  | .tup es => es
  | .fn _ _ => [.inl .un]
/-- The answer, decoded: rows by their number among the results. -/
def dec (rs : List Rc) (v : SV) (hp : Heap) : Option (den (Rc.kn rs)) := decE hp 0 rs (toEs v)

theorem one_rl {ψ ψ' : Nat → Value} {ro : Addr → Prop} {w : World} {k : Kn} {x : L} {z : den k} {u : Value} (h : fromLs k [x] = some z) (hv : RL ψ ro w x u) : RL ψ' ro w ((toL k z).headD .un) u := by
  have h1 := toL_ok (ψ := ψ') k z [u] (fromLs_ok h ⟨hv, trivial⟩)
  cases hl : toL k z with
  | nil => rw [hl] at h1; exact h1.elim
  | cons y ys => rw [hl] at h1; exact h1.1
section
variable {ψ ψ' : Nat → Value} {ro ro' : Addr → Prop} {w : World} {hp : Heap}
theorem head_ref (k : Kn) (x : den k) : ((toL k x).headD .un).ref = none := by
  cases hl : toL k x with
  | nil => rfl
  | cons y ys => exact toL_refs k x y (by rw [hl]; exact List.mem_cons_self)
theorem dec1_ok {c : Rc} {b d : Nat} {e : L ⊕ List L} {x : den c.k} {u : Value} (h : dec1 hp c b e = some x) (hv : RE ψ ro w e u) (hk : getH (ans1 c d x).2 d ≠ none → ψ' d = ψ b) (hm : ∀ p u, ro p → w.cell? p = some u → ro' p ∧ w.cell? p = some u) :
    RE ψ' ro' w (ans1 c d x).1 u ∧ ∀ q o, getH (ans1 c d x).2 q = some o → q = d ∧ ∃ k e xs nil, o = .row k e xs none false ∧ getH hp b = some (.row k e xs nil false) := by
  have plainL : ∀ (k : Kn) (y : L) (z : den k), fromLs k [y] = some z → RE ψ ro w (.inl y) u → RE ψ' ro' w (.inl ((toL k z).headD .un)) u := by
    intro k y z h1 h2
    exact RL.move (one_rl (ψ' := ψ) h1 h2) (fun b hb => by rw [head_ref] at hb; cases hb) hm
  have plainA : ∀ (k : Kn) (cs : List L) (z : den k), fromLs k cs = some z → RE ψ ro w (.inr cs) u → RE ψ' ro' w (.inr (toL k z)) u := by
    rintro k cs z h1 ⟨vs, hu, hvs⟩
    exact ⟨vs, hu, (toL_ok (ψ := ψ) k z vs (fromLs_ok h1 hvs)).move (fun y hy b hb => absurd hb (by simp [toL_refs k z y hy])) hm⟩
  have nores : ∀ (q : Nat) (o : Ob), getH [] q = some o → q = d ∧ ∃ k e xs nil, o = Ob.row k e xs none false ∧ getH hp b = some (.row k e xs nil false) := fun q o h => by cases h
  obtain ⟨ag, k, own⟩ := c
  have other : (∀ e0 k0, k = .sl e0 k0 → own = false) → dec1 hp ⟨ag, k, own⟩ b e = (match ag, e with | true, .inr cs => fromLs k cs | false, .inl y => fromLs k [y] | _, _ => none) ∧ ans1 ⟨ag, k, own⟩ d x = (match ag with | true => (.inr (toL k x), []) | false => (.inl ((toL k x).headD .un), [])) := by
    intro hne
    cases ag <;> cases own <;> cases k <;> first | (exact absurd (hne _ _ rfl) (by decide)) | (exact ⟨by cases e <;> rfl, rfl⟩)
  have fin : (∀ e0 k0, k = .sl e0 k0 → own = false) → RE ψ' ro' w (ans1 ⟨ag, k, own⟩ d x).1 u ∧ ∀ q o, getH (ans1 ⟨ag, k, own⟩ d x).2 q = some o → q = d ∧ ∃ k e xs nil, o = .row k e xs none false ∧ getH hp b = some (.row k e xs nil false) := by
    intro hne
    obtain ⟨h1, h2⟩ := other hne
    rw [h1] at h
    rw [h2]
    cases ag <;> cases e <;> first | (cases h; done) | skip
    · exact ⟨plainL k _ x h hv, nores⟩
    · exact ⟨plainA k _ x h hv, nores⟩
  cases own with
  | false => exact fin (fun _ _ _ => rfl)
  | true =>
    cases k with
    | sl e0 k0 =>
      have h : dec1 hp ⟨ag, .sl e0 k0, true⟩ b e = some x := h
      have hr : ∃ r, e = .inl (.rs r) := by
        cases e with
        | inr cs => cases ag <;> cases h
        | inl y => cases y <;> first | exact ⟨_, rfl⟩ | (cases ag <;> cases h)
      obtain ⟨r, rfl⟩ := hr
      have h3 : (match Nat.beq r b, getH hp b with
        | true, some (.row k' e' xs _ false) => if h : k' = k0 then match Nat.beq e' e0 with
            | true => some (h ▸ xs)
            | false => none
          else none
        | _, _ => none : Option (List (den k0))) = some x := by cases ag <;> exact h
      clear h
      · split at h3
        · rename_i k' e' xs nil hr hg
          obtain rfl := Nat.eq_of_beq_eq_true hr
          split at h3
          · rename_i hkk
            subst hkk
            split at h3
            · rename_i he
              obtain rfl := Nat.eq_of_beq_eq_true he
              obtain rfl := Option.some.inj h3
              refine ⟨⟨?_, hv.2⟩, fun q o hq => ?_⟩
              · rw [hv.1]
                refine (hk ?_).symm
                simp [ans1, getH]
              · simp only [ans1, getH] at hq
                split at hq
                · rename_i hb
                  obtain rfl := Option.some.inj hq
                  exact ⟨(Nat.eq_of_beq_eq_true hb).symm, _, _, _, _, rfl, hg⟩
                · cases hq
            · cases h3
          · cases h3
        · cases h3
    | _ => exact fin (fun _ _ h => by cases h)
theorem getH_app2 (h1 h2 : Heap) (b : Nat) : getH (h1 ++ h2) b = match getH h1 b with | some o => some o | none => getH h2 b := by
  induction h1 with
  | nil => rfl
  | cons p r ih =>
    obtain ⟨i, v⟩ := p
    simp only [List.cons_append, getH]
    cases Nat.beq i b with
    | true => rfl
    | false => exact ih
theorem ans1_key {c : Rc} {d q : Nat} {x : den c.k} {o : Ob} (h : getH (ans1 c d x).2 q = some o) : q = d := by
  unfold ans1 at h
  split at h
  · simp only [getH] at h
    split at h
    · rename_i hb; exact (Nat.eq_of_beq_eq_true hb).symm
    · cases h
  · cases h
  · cases h
theorem ansE_key : ∀ {rs : List Rc} {d q : Nat} {y : den (Rc.kn rs)} {o : Ob}, getH (ansE d rs y).2 q = some o → d ≤ q
  | [], _, _, _, _, h => by cases h
  | [c], d, q, y, o, h => Nat.le_of_eq (ans1_key (c := c) h).symm
  | c :: c' :: r, d, q, y, o, h => by
    simp only [ansE] at h
    rw [getH_app2] at h
    split at h
    · rename_i h1; exact Nat.le_of_eq (ans1_key h1).symm
    · have := ansE_key h; omega
theorem decE_two {c c' : Rc} {r : List Rc} {b : Nat} {e : L ⊕ List L} {es : List (L ⊕ List L)} : decE hp b (c :: c' :: r) (e :: es) = (match dec1 hp c b e, decE hp (b + 1) (c' :: r) es with
    | some x, some y => some (x, y)
    | _, _ => none : Option (den c.k × den (Rc.kn (c' :: r)))) := rfl
theorem decE_bad1 {b : Nat} {e : L ⊕ List L} {es : List (L ⊕ List L)} : decE hp b [] (e :: es) = none := rfl
theorem decE_bad2 {c : Rc} {b : Nat} : decE hp b [c] [] = none := rfl
theorem decE_bad3 {c : Rc} {b : Nat} {e e' : L ⊕ List L} {es : List (L ⊕ List L)} : decE hp b [c] (e :: e' :: es) = none := rfl
theorem decE_bad4 {c c' : Rc} {r : List Rc} {b : Nat} : decE hp b (c :: c' :: r) [] = none := rfl
theorem decE_ok (hm : ∀ p u, ro p → w.cell? p = some u → ro' p ∧ w.cell? p = some u) : ∀ {rs : List Rc} {b d : Nat} {es : List (L ⊕ List L)} {y : den (Rc.kn rs)} {us : List Value}, decE hp b rs es = some y → REs ψ ro w es us → (∀ j, getH (ansE d rs y).2 (d + j) ≠ none → ψ' (d + j) = ψ (b + j)) →
    REs ψ' ro' w (ansE d rs y).1 us ∧ ∀ q o, getH (ansE d rs y).2 q = some o → ∃ j k e xs nil, q = d + j ∧ o = .row k e xs none false ∧ getH hp (b + j) = some (.row k e xs nil false)
  | [], b, d, [], y, us, h, hv, hk => by
    cases us with
    | nil => exact ⟨trivial, fun q o hq => by cases hq⟩
    | cons _ _ => exact hv.elim
  | [c], b, d, [e], y, us, h, hv, hk => by
    cases us with
    | nil => exact hv.elim
    | cons u us =>
      have h : dec1 hp c b e = some y := h
      obtain ⟨h1, h2⟩ := dec1_ok (ψ' := ψ') (ro' := ro') (d := d) h hv.1 (fun h => hk 0 h) hm
      have hus : us = [] := by
        cases us with
        | nil => rfl
        | cons _ _ => exact hv.2.elim
      subst hus
      refine ⟨⟨h1, trivial⟩, fun q o hq => ?_⟩
      obtain ⟨h3, k, e, xs, nil, h4, h5⟩ := h2 q o hq
      exact ⟨0, k, e, xs, nil, h3, h4, h5⟩
  | c :: c' :: r, b, d, e :: es, y, us, h, hv, hk => by
    cases us with
    | nil => exact hv.elim
    | cons u us =>
      rw [decE_two] at h
      split at h
      · rename_i x z hx hz
        obtain rfl := Option.some.inj h
        have happ : (ansE d (c :: c' :: r) (x, z)).2 = (ans1 c d x).2 ++ (ansE (d + 1) (c' :: r) z).2 := rfl
        obtain ⟨h1, h2⟩ := dec1_ok (ψ' := ψ') (ro' := ro') (d := d) hx hv.1 (fun hne => hk 0 (by
          rw [happ, getH_app2, Nat.add_zero]
          cases hg : getH (ans1 c d x).2 d with
          | none => exact absurd hg hne
          | some o => simp)) hm
        obtain ⟨h3, h4⟩ := decE_ok hm (d := d + 1) hz hv.2 (fun j hj => by
          have := hk (j + 1) (by
            rw [happ, getH_app2, show d + (j + 1) = d + 1 + j by omega]
            cases hg : getH (ans1 c d x).2 (d + 1 + j) with
            | none => exact hj
            | some o => simp)
          rw [show d + 1 + j = d + (j + 1) by omega, this, show b + 1 + j = b + (j + 1) by omega])
        refine ⟨⟨h1, h3⟩, fun q o hq => ?_⟩
        rw [happ, getH_app2] at hq
        split at hq
        · rename_i o' hg
          obtain rfl := Option.some.inj hq
          obtain ⟨h5, k, e, xs, nil, h6, h7⟩ := h2 q o' hg
          exact ⟨0, k, e, xs, nil, h5, h6, h7⟩
        · obtain ⟨j, k, e, xs, nil, h5, h6, h7⟩ := h4 q o hq
          exact ⟨j + 1, k, e, xs, nil, by omega, h6, by rw [show b + (j + 1) = b + 1 + j by omega]; exact h7⟩
      · cases h
  | [], _, _, _ :: _, _, _, h, _, _ => by rw [decE_bad1] at h; cases h
  | [_], _, _, [], _, _, h, _, _ => by rw [decE_bad2] at h; cases h
  | [_], _, _, _ :: _ :: _, _, _, h, _, _ => by rw [decE_bad3] at h; cases h
  | _ :: _ :: _, _, _, [], _, _, h, _, _ => by rw [decE_bad4] at h; cases h
theorem decE_len {b : Nat} : ∀ {rs : List Rc} {b : Nat} {es : List (L ⊕ List L)} {y : den (Rc.kn rs)}, decE hp b rs es = some y → es.length = rs.length
  | [], _, [], _, _ => rfl
  | [_], _, [_], _, _ => rfl
  | c :: c' :: r, b, e :: es, y, h => by
    rw [decE_two] at h
    split at h
    · rename_i hx hz; simp [decE_len (b := b) hz]
    · cases h
  | [], _, _ :: _, _, h => by rw [decE_bad1] at h; cases h
  | [_], _, [], _, h => by rw [decE_bad2] at h; cases h
  | [_], _, _ :: _ :: _, _, h => by rw [decE_bad3] at h; cases h
  | _ :: _ :: _, _, [], _, h => by rw [decE_bad4] at h; cases h
theorem ansE_len : ∀ {rs : List Rc} {d : Nat} {y : den (Rc.kn rs)}, (ansE d rs y).1.length = rs.length
  | [], _, _ => rfl
  | [_], _, _ => rfl
  | c :: c' :: r, d, y => by simp [ansE, ansE_len (rs := c' :: r)]
theorem fromL_un : ∀ (k : Kn) (r : List L), fromL k (.un :: r) = none
  | .int _, _ => rfl
  | .bool, _ => rfl
  | .str, _ => rfl
  | .ifc, _ => rfl
  | .ifi _ _, _ => rfl
  | .prod a b, r => by simp only [fromL, fromL_un a r]
  | .sl _ _, _ => rfl
theorem dec1_un {c : Rc} {b : Nat} : dec1 hp c b (.inl .un) = none := by
  have h : ∀ k : Kn, fromLs k [.un] = none := fun k => by simp only [fromLs, fromL_un]
  obtain ⟨ag, k, own⟩ := c
  cases ag <;> cases own <;> cases k <;> first | rfl | exact h _
theorem decE_un {rs : List Rc} {b : Nat} {es : List (L ⊕ List L)} : decE hp b rs (.inl .un :: es) = none := by
  match rs, es with
  | [], _ => rfl
  | [c], [] => exact dec1_un
  | [c], _ :: _ => rfl
  | c :: c' :: r, es => rw [decE_two, dec1_un]; rfl
theorem ofE_two {x x' : L ⊕ List L} {r : List (L ⊕ List L)} : ofE (x :: x' :: r) = .tup (x :: x' :: r) := by cases x <;> rfl
theorem dec_ok (hm : ∀ p u, ro p → w.cell? p = some u → ro' p ∧ w.cell? p = some u) {rs : List Rc} {d : Nat} {v : SV} {y : den (Rc.kn rs)} {u : Value} (h : dec rs v hp = some y) (hv : RV ψ ro w v u) (hk : ∀ j, getH (ans rs d y).2 (d + j) ≠ none → ψ' (d + j) = ψ j) :
    RV ψ' ro' w (ans rs d y).1 u ∧ ∀ q o, getH (ans rs d y).2 q = some o → ∃ j k e xs nil, q = d + j ∧ o = .row k e xs none false ∧ getH hp j = some (.row k e xs nil false) := by
  unfold dec at h
  have hk' : ∀ j, getH (ansE d rs y).2 (d + j) ≠ none → ψ' (d + j) = ψ (0 + j) := fun j hj => by rw [Nat.zero_add]; exact hk j hj
  have back : ∀ q o, (∃ j k e xs nil, q = d + j ∧ o = Ob.row k e xs none false ∧ getH hp (0 + j) = some (.row k e xs nil false)) → ∃ j k e xs nil, q = d + j ∧ o = .row k e xs none false ∧ getH hp j = some (.row k e xs nil false) := by
    rintro q o ⟨j, k, e, xs, nil, h1, h2, h3⟩
    rw [Nat.zero_add] at h3
    exact ⟨j, k, e, xs, nil, h1, h2, h3⟩
  have hl := decE_len (b := 0) h
  have hl2 := ansE_len (rs := rs) (d := d) (y := y)
  have single : ∀ (e : L ⊕ List L) (es' : List (L ⊕ List L)), es'.length = 1 → RE ψ' ro' w (es'.headD e) u → RV ψ' ro' w (ofE es') u := by
    intro e es' hl hr
    match es', hl, hr with
    | [.inl _], _, hr => exact hr
    | [.inr _], _, hr => exact hr
  cases v with
  | l x =>
    obtain ⟨h1, h2⟩ := decE_ok (ψ := ψ) (ψ' := ψ') (ro := ro) (ro' := ro') (w := w) (us := [u]) hm h ⟨hv, trivial⟩ hk'
    refine ⟨?_, fun q o hq => back q o (h2 q o hq)⟩
    simp only [ans]
    refine single (.inl .un) _ (by rw [hl2, ← hl]; rfl) ?_
    cases he : (ansE d rs y).1 with
    | nil => rw [he] at h1; exact h1.elim
    | cons e r => rw [he] at h1; exact h1.1
  | agg cs =>
    obtain ⟨h1, h2⟩ := decE_ok (ψ := ψ) (ψ' := ψ') (ro := ro) (ro' := ro') (w := w) (us := [u]) hm h ⟨hv, trivial⟩ hk'
    refine ⟨?_, fun q o hq => back q o (h2 q o hq)⟩
    simp only [ans]
    refine single (.inl .un) _ (by rw [hl2, ← hl]; rfl) ?_
    cases he : (ansE d rs y).1 with
    | nil => rw [he] at h1; exact h1.elim
    | cons e r => rw [he] at h1; exact h1.1
  | tup es =>
    obtain ⟨us, hu, hes⟩ := hv
    cases es with
    | nil =>
      obtain ⟨h1, h2⟩ := decE_ok (ψ := ψ) (ψ' := ψ') (ro := ro) (ro' := ro') (w := w) (us := us) hm h hes hk'
      refine ⟨?_, fun q o hq => back q o (h2 q o hq)⟩
      have : (ansE d rs y).1.length = 0 := by rw [hl2, ← hl]; rfl
      simp only [ans]
      rw [List.length_eq_zero_iff.1 this] at h1 ⊢
      exact ⟨us, hu, h1⟩
    | cons e es =>
      cases es with
      | nil =>
        have h : decE hp 0 rs (.inl .un :: [.inl .un]) = some y := h
        rw [decE_un] at h; cases h
      | cons e' es =>
        obtain ⟨h1, h2⟩ := decE_ok (ψ := ψ) (ψ' := ψ') (ro := ro) (ro' := ro') (w := w) (us := us) hm h hes hk'
        refine ⟨?_, fun q o hq => back q o (h2 q o hq)⟩
        have : (ansE d rs y).1.length = es.length + 2 := by rw [hl2, ← hl]; rfl
        simp only [ans]
        match hx : (ansE d rs y).1, this, h1 with
        | x :: x' :: r, _, h1 => rw [ofE_two]; exact ⟨us, hu, h1⟩
  | fn f cs =>
    have h : decE hp 0 rs (.inl .un :: []) = some y := h
    rw [decE_un] at h; cases h
end

/-! ### Rows of the table -/
theorem FnR.fnOk {P : Program} {G : GB} {f : Nat} {avs args : List SV} {rs : List Rc} {y : den (Rc.kn rs)} (h : FnR P G f avs [] (fun v hout => dec rs v hout = some y)) (d : Nat) (hargs : ∀ (ψ : Nat → Value) (ro : Addr → Prop) (w : World) (us : List Value), RVs ψ ro w args us → RVs ψ ro w avs us) : FnOk P G f args [] (ans rs d y).1 (ans rs d y).2 := by
  intro ψ ro w vals hr hobj hinj hro hg
  refine (h ψ ro w vals (hargs _ _ _ _ hr) hobj hinj hro hg).mono ?_
  rintro e w' ⟨v, hout, hdec, v', ψ', he, hψ, hfr, hrv, hob, hlb, hij⟩
  have hlbs : ∀ (φ : Nat → Value), (∀ j, getH (ans rs d y).2 (d + j) ≠ none → φ (d + j) = ψ' j) → (∀ q o, getH (ans rs d y).2 q = some o → ∃ j k e xs nil, q = d + j ∧ o = .row k e xs none false ∧ getH hout j = some (.row k e xs nil false)) → ∀ g, LB φ (ans rs d y).2 g → LB ψ' hout g := by
    rintro φ hφ hq g ⟨b, o, hb, hl, hk⟩
    obtain ⟨j, k, e, xs, nil, rfl, rfl, hj⟩ := hq b o hb
    rw [hφ j (by rw [hb]; simp)] at hk
    exact ⟨j, _, hj, rfl, hk⟩
  have hφ : ∀ j, getH (ans rs d y).2 (d + j) ≠ none → (fun b => if getH (ans rs d y).2 b ≠ none then ψ' (b - d) else ψ b) (d + j) = ψ' j := by
    intro j hj
    simp only
    rw [if_pos hj, Nat.add_sub_cancel_left]
  have h0 := (dec_ok (ro' := RO ⟨w, ro, LB ψ [], ψ, ([] : Heap).map Prod.fst⟩ ψ' hout) (fun _ _ h1 h2 => ⟨h1, h2⟩) (d := d) (ψ' := fun b => if getH (ans rs d y).2 b ≠ none then ψ' (b - d) else ψ b) hdec hrv hφ).2
  have hL := hlbs (fun b => if getH (ans rs d y).2 b ≠ none then ψ' (b - d) else ψ b) hφ h0
  have hro' : ∀ p u, RO ⟨w, ro, LB ψ [], ψ, ([] : Heap).map Prod.fst⟩ ψ' hout p → w'.cell? p = some u → RO ⟨w, ro, LB ψ [], ψ, ([] : Heap).map Prod.fst⟩ (fun b => if getH (ans rs d y).2 b ≠ none then ψ' (b - d) else ψ b) (ans rs d y).2 p ∧ w'.cell? p = some u := fun p u h1 h2 => ⟨⟨h1.1, fun hb => h1.2 (hL _ hb)⟩, h2⟩
  refine ⟨v', (fun b => if getH (ans rs d y).2 b ≠ none then ψ' (b - d) else ψ b), he, fun b hb => ?_, hfr, (dec_ok hro' (d := d) hdec hrv hφ).1, fun b o hb => ?_, fun g hg => hlb g (hL g hg), fun b b' o o' g hb hb' hl hl' hk hk' => ?_⟩
  · rcases hb with hb | hb
    · exact absurd rfl hb
    · simp only [hb]; simp
  · obtain ⟨j, k, e', xs, nil, rfl, rfl, hj⟩ := h0 b o hb
    have h1 := hob j _ hj
    have hne : getH (ans rs d y).2 (d + j) ≠ none := by rw [hb]; simp
    rw [hφ j hne]
    have h2 : OOk ψ' (RO ⟨w, ro, LB ψ [], ψ, ([] : Heap).map Prod.fst⟩ ψ' hout) w' (.row k e' xs none false) (ψ' j) := by
      obtain ⟨us, h3, h4, _⟩ := h1
      exact ⟨us, h3, h4, fun b hb => by cases hb⟩
    exact h2.move (fun x hx => by cases hx) hro' (fun _ _ _ => rfl)
  · obtain ⟨j, k, e', xs, nil, rfl, rfl, hj⟩ := h0 b o hb
    obtain ⟨j', k', e'', xs', nil', rfl, rfl, hj'⟩ := h0 b' o' hb'
    have hk : blk (ψ' j) = some g := by rw [← hφ j (by rw [hb]; simp)]; exact hk
    have hk' : blk (ψ' j') = some g := by rw [← hφ j' (by rw [hb']; simp)]; exact hk'
    rw [hij j j' _ _ g hj hj' rfl rfl hk hk']
/-- An argument: of a struct's type or not, its kind. -/
structure Ac where
  ag : Bool
  k : Kn
def Fnc : List Ac → Type → Type
  | [], ρ => ρ
  | c :: r, ρ => den c.k → Fnc r ρ
def appA {ρ : Type} : (cs : List Ac) → Fnc cs ρ → List SV → Option ρ
  | [], g, [] => some g
  | c :: r, g, v :: vs => match fromA c.ag c.k v with
    | some x => appA r (g x) vs
    | none => none
  | [], _, _ :: _ => none
  | _ :: _, _, [] => none
def AllFn {ρ : Type} : (cs : List Ac) → Fnc cs ρ → (List SV → ρ → Prop) → Prop
  | [], g, Q => Q [] g
  | c :: r, g, Q => ∀ x : den c.k, AllFn r (g x) fun avs y => Q (canon c.ag c.k x :: avs) y
theorem appA_ok {ρ : Type} : ∀ {cs : List Ac} {g : Fnc cs ρ} {vs : List SV} {y : ρ} {Q : List SV → ρ → Prop}, AllFn cs g Q → appA cs g vs = some y → ∃ avs, Q avs y ∧ ∀ (ψ : Nat → Value) (ro : Addr → Prop) (w : World) (us : List Value), RVs ψ ro w vs us → RVs ψ ro w avs us
  | [], g, [], y, Q, hq, h => by
    obtain rfl := Option.some.inj h
    exact ⟨[], hq, fun _ _ _ _ h => h⟩
  | c :: r, g, v :: vs, y, Q, hq, h => by
    simp only [appA] at h
    split at h
    · rename_i x hx
      obtain ⟨avs, h1, h2⟩ := appA_ok (hq x) h
      refine ⟨canon c.ag c.k x :: avs, h1, fun ψ ro w us hu => ?_⟩
      cases us with
      | nil => exact hu.elim
      | cons u us => exact ⟨canon_ok hx hu.1, h2 ψ ro w us hu.2⟩
    · cases h
  | [], _, _ :: _, _, _, _, h => by simp [appA] at h
  | _ :: _, _, [], _, _, _, h => by simp [appA] at h
/-- A function on plain data: what must hold of them, what it answers. -/
def Sp.of (cs : List Ac) (rs : List Rc) (g : Fnc cs (Bool × den (Rc.kn rs))) : Sp where
  own := []
  run d vs hin := match hin with
    | [] => match appA cs g vs with
      | some y => some (y.1, (ans rs d y.2).1, (ans rs d y.2).2)
      | none => none
    | _ :: _ => none
def RowOk (P : Program) (G : GB) (f : Nat) (sp : Sp) : Prop := ∀ d args hin v hout, sp.run d args hin = some (true, v, hout) → Ent P f ∧ FnOk P G f args hin v hout
theorem Sp.of_ok {P : Program} {G : GB} {f : Nat} {cs : List Ac} {rs : List Rc} {g : Fnc cs (Bool × den (Rc.kn rs))} (he : Ent P f) (h : AllFn cs g fun avs y => y.1 = true → FnR P G f avs [] fun v hout => dec rs v hout = some y.2) : RowOk P G f (Sp.of cs rs g) := by
  intro d args hin v hout hr
  refine ⟨he, ?_⟩
  cases hin with
  | cons _ _ => cases hr
  | nil =>
    simp only [Sp.of] at hr
    split at hr
    · rename_i y hy
      simp only [Option.some.injEq, Prod.mk.injEq] at hr
      obtain ⟨h1, rfl, rfl⟩ := hr
      obtain ⟨avs, h2, h3⟩ := appA_ok h hy
      exact (h2 h1).fnOk d h3
    · cases hr
def tabC : List (Nat × Sp) → Nat → Option Sp
  | [], _ => none
  | (f, sp) :: r, n => match Nat.beq f n with
    | true => some sp
    | false => tabC r n
theorem tabC_ok {P : Program} {G : GB} : ∀ {l : List (Nat × Sp)}, (∀ p ∈ l, RowOk P G p.1 p.2) → COk P G (tabC l)
  | [], _, f, sp, h => by cases h
  | (f', sp') :: r, hl, f, sp, h => by
    simp only [tabC] at h
    split at h
    · rename_i hb
      obtain rfl := Nat.eq_of_beq_eq_true hb
      obtain rfl := Option.some.inj h
      exact hl (f', sp') List.mem_cons_self
    · exact tabC_ok (fun p hp => hl p (List.mem_cons_of_mem _ hp)) f sp h
end Go.Proofs.YtopplbiadpcalaaDoor.U

/- The small abstract machine: more rounds change no answer. -/
namespace Go.Proofs.YtopplbiadpcalaaDoor.U
open Go Go.RowKit

section
variable {ρ : Type} {T : Tab} {C : Nat → Option Sp} {Lv : Live}
/-- What the first answers, the second answers. -/
def Le (a b : Option ρ) : Prop := ∀ y, a = some y → b = some y
theorem Le.rfl' (a : Option ρ) : Le a a := fun _ h => h
theorem Le.none (a : Option ρ) : Le none a := fun _ h => by cases h
theorem Le.cond {b : Bool} {x x' z z' : Option ρ} (h1 : Le x x') (h2 : Le z z') : Le (cond b x z) (cond b x' z') := by
  cases b
  · exact h2
  · exact h1
theorem doOp_mono {o : Oper} {st : St} {K K' : St → Option ρ} (h : ∀ st, Le (K st) (K' st)) : Le (doOp T C o st K) (doOp T C o st K') := by
  unfold doOp
  cases eff T C o st with
  | none => exact Le.none _
  | some ef =>
    simp only
    cases st.fit o.dst && ef.ups.all (Up.fresh st) with
    | false => exact Le.none _
    | true => exact Le.cond (h _) (Le.none _)
theorem doOps_mono {ops : Array Oper} : ∀ (os : List Oper) {st : St} {K K' : St → Option ρ}, (∀ st, Le (K st) (K' st)) → Le (doOps T C ops os st K) (doOps T C ops os st K')
  | [], st, K, K', h => h st
  | o :: os, st, K, K', h => by
    have ih := fun st => doOps_mono (ops := ops) os (st := st) h
    simp only [doOps]
    cases o.guard with
    | none => exact doOp_mono fun st => ih st
    | some g =>
      obtain ⟨j, want⟩ := g
      simp only
      cases dstOf ops j with
      | none => exact Le.none _
      | some s =>
        simp only
        split
        · cases want
          · exact Le.cond (ih _) (doOp_mono fun st => ih st)
          · exact Le.cond (doOp_mono fun st => ih st) (ih _)
        · exact ih _
        · exact Le.none _
theorem goT_mono {ops : Array Oper} : ∀ (os : List Oper) {st : St} {tr : List Te} {K K' : St → List Te → Option ρ}, (∀ st tr, Le (K st tr) (K' st tr)) → Le (goT T C ops os st tr K) (goT T C ops os st tr K')
  | [], st, tr, K, K', h => h st tr
  | o :: os, st, tr, K, K', h => by
    have ih := fun st tr => goT_mono (ops := ops) os (st := st) (tr := tr) h
    simp only [goT]
    cases o.guard with
    | none => exact doOp_mono fun st => ih st _
    | some g =>
      obtain ⟨j, want⟩ := g
      simp only
      cases dstOf ops j with
      | none => exact Le.none _
      | some s =>
        simp only
        split
        · cases want
          · exact Le.cond (ih _ _) (doOp_mono fun st => ih st _)
          · exact Le.cond (doOp_mono fun st => ih st _) (ih _ _)
        · exact ih _ _
        · exact Le.none _
theorem anyOps_mono {ops : Array Oper} {st : St} {K K' : St → Option ρ} (h : ∀ st, Le (K st) (K' st)) : Le (anyOps T C ops st K) (anyOps T C ops st K') := by
  unfold anyOps
  refine goT_mono _ fun st' tr => ?_
  cases okDraw (ancGo ops.toList []) st tr with
  | true => exact h st'
  | false => exact Le.none _
theorem seqK_mono {b : Code} {x x' : St → Option ρ} {K K' : Exit → St → Option ρ} (hx : ∀ st, Le (x st) (x' st)) (hK : ∀ e st, Le (K e st) (K' e st)) (e : Exit) (st : St) : Le (seqK Lv b x K e st) (seqK Lv b x' K' e st) := by
  cases e with
  | normal =>
    simp only [seqK]
    split
    · split
      · exact hx _
      · exact Le.none _
    · exact hx _
  | _ => exact hK _ _
theorem blockK_mono {id : Nat} {K K' : Exit → St → Option ρ} (hK : ∀ e st, Le (K e st) (K' e st)) (e : Exit) (st : St) : Le (blockK id K e st) (blockK id K' e st) := by
  cases e with
  | exit id' =>
    simp only [blockK]
    split
    · exact hK _ _
    · exact hK _ _
  | _ => exact hK _ _
theorem loopK_mono {Lo Lo' : Nat → St → Option ρ} {id : Nat} {K K' : Exit → St → Option ρ} (hL : ∀ id st, Le (Lo id st) (Lo' id st)) (hK : ∀ e st, Le (K e st) (K' e st)) (e : Exit) (st : St) : Le (loopK Lv Lo id K e st) (loopK Lv Lo' id K' e st) := by
  cases e with
  | normal =>
    simp only [loopK]
    split
    · split
      · exact hL _ _
      · exact Le.none _
    · exact Le.none _
  | _ => exact hK _ _
theorem exec_mono {Lo Lo' : Nat → St → Option ρ} (hL : ∀ id st, Le (Lo id st) (Lo' id st)) : ∀ (c : Code) (st : St) (K K' : Exit → St → Option ρ), (∀ e st, Le (K e st) (K' e st)) → Le (exec T C Lv Lo c st K) (exec T C Lv Lo' c st K') := by
  intro c
  induction c with
  | skip => intro st K K' h; exact h _ _
  | region id ops draw =>
    intro st K K' h
    cases draw with
    | false => exact doOps_mono _ fun st => h _ st
    | true => exact anyOps_mono fun st => h _ st
  | seq a b iha ihb => intro st K K' h; exact iha st _ _ (seqK_mono (fun s => ihb s _ _ h) h)
  | cond c a b iha ihb =>
    intro st K K' h
    simp only [exec]
    split
    · exact Le.cond (iha _ _ _ h) (ihb _ _ _ h)
    · exact Le.none _
  | block id b ih => intro st K K' h; exact ih st _ _ (blockK_mono h)
  | loop b ih =>
    intro st K K' h
    simp only [exec]
    split
    · split
      · split
        · exact hL _ _
        · exact Le.none _
      · exact Le.none _
    · exact Le.none _
  | exit id => intro st K K' h; exact h _ _
  | ret => intro st K K' h; exact h _ _
  | _ => intro st K K' h; exact Le.none _
theorem loops_mono {Lo Lo' : Nat → St → Option ρ} (hL : ∀ id st, Le (Lo id st) (Lo' id st)) (id : Nat) (st : St) : ∀ (c : Code) (K K' : Exit → St → Option ρ) (r r' : List (Nat × Code × (Exit → St → Option ρ))), (∀ e st, Le (K e st) (K' e st)) →
    (r.map Prod.fst = r'.map Prod.fst) → (Le (runL T C Lv Lo (findL r id) st) (runL T C Lv Lo' (findL r' id) st)) →
    (loopsOf T C Lv Lo c K ++ r).map Prod.fst = (loopsOf T C Lv Lo' c K' ++ r').map Prod.fst ∧ Le (runL T C Lv Lo (findL (loopsOf T C Lv Lo c K ++ r) id) st) (runL T C Lv Lo' (findL (loopsOf T C Lv Lo' c K' ++ r') id) st) := by
  intro c
  induction c with
  | seq a b iha ihb =>
    intro K K' r r' h hr hl
    simp only [loopsOf, List.append_assoc]
    obtain ⟨h1, h2⟩ := ihb K K' r r' h hr hl
    exact iha _ _ _ _ (seqK_mono (fun s => exec_mono hL b s _ _ h) h) h1 h2
  | cond _ a b iha ihb =>
    intro K K' r r' h hr hl
    simp only [loopsOf, List.append_assoc]
    obtain ⟨h1, h2⟩ := ihb K K' r r' h hr hl
    exact iha _ _ _ _ h h1 h2
  | block i b ih => intro K K' r r' h hr hl; exact ih _ _ r r' (blockK_mono h) hr hl
  | loop b ih =>
    intro K K' r r' h hr hl
    simp only [loopsOf]
    split
    · rename_i i _
      obtain ⟨h1, h2⟩ := ih _ _ r r' (loopK_mono (id := i) hL h) hr hl
      refine ⟨by simp only [List.cons_append, List.map_cons]; rw [h1], ?_⟩
      simp only [List.cons_append, findL]
      cases Nat.beq i id with
      | true => exact exec_mono hL b st _ _ (loopK_mono hL h)
      | false => exact h2
    · exact ⟨hr, hl⟩
  | _ => intro K K' r r' h hr hl; exact ⟨hr, hl⟩
theorem round_mono {dec : SV → Heap → Option ρ} {Lo Lo' : Nat → St → Option ρ} (hL : ∀ id st, Le (Lo id st) (Lo' id st)) (fn : Func) (kx : Keep) (id : Nat) (st : St) : Le (roundG T C Lv dec Lo fn kx id st) (roundG T C Lv dec Lo' fn kx id st) := by
  unfold roundG
  cases fn.body with
  | none => exact Le.none _
  | some c =>
    have := (loops_mono (Lv := Lv) (C := C) (T := T) hL id st c (lastK T dec fn kx) (lastK T dec fn kx) [] [] (fun _ _ => Le.rfl' _) rfl (Le.none _)).2
    simpa using this
theorem loF_mono {dec : SV → Heap → Option ρ} (fn : Func) (kx : Keep) : ∀ (m n : Nat), m ≤ n → ∀ (id : Nat) (st : St), Le (loF T C Lv dec fn kx m id st) (loF T C Lv dec fn kx n id st)
  | 0, _, _, _, _ => Le.none _
  | m + 1, 0, h, _, _ => by omega
  | m + 1, n + 1, h, id, st => round_mono (fun id st => loF_mono fn kx m n (by omega) id st) fn kx id st
theorem callF_mono {dec : SV → Heap → Option ρ} {fn : Func} {kx : Keep} {args : List SV} {hin : Heap} {m n : Nat} {y : ρ} (h : m ≤ n) (hy : callF T C Lv dec m fn kx args hin = some y) : callF T C Lv dec n fn kx args hin = some y := by
  have : Le (callF T C Lv dec m fn kx args hin) (callF T C Lv dec n fn kx args hin) := by
    unfold callF callG
    split
    · split
      · exact exec_mono (loF_mono fn kx m n h) _ _ _ _ (fun _ _ => Le.rfl' _)
      · exact Le.none _
    · exact Le.none _
  exact this y hy
end
/-- What comes out behind enough rounds. -/
noncomputable def limit {α : Type} (F : Nat → Option α) (d : α) : α := open Classical in if h : ∃ y m, F m = some y then h.choose else d
theorem limit_eq {α : Type} {F : Nat → Option α} {d : α} (hm : ∀ m n y, m ≤ n → F m = some y → F n = some y) {m : Nat} {y : α} (h : F m = some y) : limit F d = y := by
  have hx : ∃ y m, F m = some y := ⟨y, m, h⟩
  unfold limit
  rw [dif_pos hx]
  obtain ⟨m', h'⟩ := hx.choose_spec
  have h1 := hm m (m + m') _ (by omega) h
  have h2 := hm m' (m + m') _ (by omega) h'
  rw [h1] at h2
  exact (Option.some.inj h2).symm
end Go.Proofs.YtopplbiadpcalaaDoor.U

/- The small abstract machine and a law's row: arguments read as plain data; what is left of a law. -/
namespace Go.Proofs.YtopplbiadpcalaaDoor.U
open Go Go.RowKit Go.WideShapes Go.ChangeShapes

/-! ### Types and kinds -/
def kchkFs (P : Program) (g : TypeId → Kn → Bool) : List Field → Nat → Kn → Bool
  | [f], off, k => Nat.beq f.offset off && Nat.beq (P.cellsOf f.type) k.sz && g f.type k
  | f :: f' :: r, off, .prod a b => Nat.beq f.offset off && Nat.beq (P.cellsOf f.type) a.sz && g f.type a && kchkFs P g (f' :: r) (off + a.sz) b
  | _, _, _ => false
def kchk (P : Program) : Nat → TypeId → Kn → Bool
  | 0, _, _ => false
  | n + 1, t, k => match P.underlying t, k with
    | some (.int ik), .int ik' => decide (ik = ik')
    | some .bool, .bool => true
    | some .string, .str => true
    | some (.slice e), .sl e' k => Nat.beq e e' && Nat.beq (P.cellsOf e) k.sz && kchk P n e k
    | some (.struct fs), k => Nat.beq (P.cellsOf t) k.sz && kchkFs P (kchk P n) fs.toList 0 k
    | _, _ => false
/-- Whole numbers are of their kind, texts no longer than Go bears. -/
def wfK : (k : Kn) → den k → Prop
  | .int ik, n => (Lit.int ik n).wf = true
  | .bool, _ => True
  | .str, s => s.size ≤ maxLen
  | .ifc, _ => True
  | .ifi _ _, _ => True
  | .prod a b, x => wfK a x.1 ∧ wfK b x.2
  | .sl _ k, xs => ∀ x ∈ xs, wfK k x
def bulkL {α : Type} (f : α → Nat) : List α → Nat
  | [] => 0
  | x :: r => f x + bulkL f r
/-- How many values and letters. -/
def bulkK : (k : Kn) → den k → Nat
  | .int _, _ => 1
  | .bool, _ => 1
  | .str, s => s.size + 1
  | .ifc, _ => 1
  | .ifi _ _, _ => 1
  | .prod a b, x => bulkK a x.1 + bulkK b x.2
  | .sl _ k, xs => bulkL (bulkK k) xs + 1
theorem bulkL_le {α : Type} (f : α → Nat) (h : ∀ x, 1 ≤ f x) : ∀ l : List α, l.length ≤ bulkL f l
  | [] => Nat.le_refl _
  | x :: r => by have := h x; have := bulkL_le f h r; simp only [bulkL, List.length_cons]; omega
theorem bulkL_mem {α : Type} (f : α → Nat) : ∀ {l : List α} {x : α}, x ∈ l → f x ≤ bulkL f l
  | y :: r, x, h => by
    simp only [bulkL]
    rcases List.mem_cons.1 h with rfl | h
    · omega
    · have := bulkL_mem f h; omega
theorem bulkK_pos : ∀ (k : Kn) (x : den k), 1 ≤ bulkK k x
  | .int _, _ => Nat.le_refl _
  | .bool, _ => Nat.le_refl _
  | .str, _ => Nat.le_add_left _ _
  | .ifc, _ => Nat.le_refl _
  | .ifi _ _, _ => Nat.le_refl _
  | .prod a b, x => Nat.le_trans (bulkK_pos a x.1) (Nat.le_add_right _ _)
  | .sl _ _, _ => Nat.le_add_left _ _
theorem list_of {α : Type} (P : Nat → α → Prop) : ∀ n : Nat, (∀ i, i < n → ∃ x, P i x) → ∃ xs : List α, xs.length = n ∧ ∀ i x, xs[i]? = some x → P i x
  | 0, _ => ⟨[], rfl, fun i x h => by simp at h⟩
  | n + 1, h => by
    obtain ⟨xs, hl, hx⟩ := list_of P n (fun i hi => h i (by omega))
    obtain ⟨y, hy⟩ := h n (by omega)
    refine ⟨xs ++ [y], by simp [hl], fun i x hi => ?_⟩
    rcases Nat.lt_or_ge i n with h1 | h1
    · rw [List.getElem?_append_left (by omega)] at hi; exact hx i x hi
    · rw [List.getElem?_append_right (by omega), hl] at hi
      have h2 : i - n = 0 := by
        rcases Nat.eq_zero_or_pos (i - n) with h2 | h2
        · exact h2
        · rw [List.getElem?_eq_none (by simp; omega)] at hi; cases hi
      rw [h2] at hi
      obtain rfl : y = x := by simpa using hi
      rw [show i = n by omega]
      exact hy
theorem bulkAll_map {H : Type} {α : Type} (f : α → Nat) : ∀ (xs : List α) (ds : List (DataW H)), xs.length = ds.length → (∀ (i : Nat) (x : α) (d : DataW H), xs[i]? = some x → ds[i]? = some d → f x ≤ Rows.uptoBulk d) → bulkL f xs ≤ Rows.uptoBulkAll ds
  | [], [], _, _ => Nat.le_refl _
  | x :: xs, d :: ds, hl, h => by
    have h1 := h 0 x d rfl rfl
    have h2 := bulkAll_map f xs ds (by simpa using hl) (fun i x d hx hd => h (i + 1) x d (by simpa using hx) (by simpa using hd))
    simp only [bulkL, Rows.uptoBulkAll]
    omega
  | [], _ :: _, hl, _ => by simp at hl
  | _ :: _, [], hl, _ => by simp at hl
section
variable {H : Type} {enc : TypeId × Value → H} {P : Program} {w : World} {base : Nat} {spare : Nat → Bool} {held : Bool}
/-- A reading, as data of a kind. -/
def Reads (w : World) (k : Kn) (cs : List Value) (d : DataW H) : Prop := ∃ x : den k, RK (Vis (fun _ => True) w) k x cs ∧ wfK k x ∧ bulkK k x ≤ Rows.uptoBulk d
theorem reads_fs {g : TypeId → Kn → Bool} {fuel : Nat} (hg : ∀ t k cs d ps, g t k = true → DataW.trod enc P w base spare held fuel t cs = some (d, ps) → Reads w k cs d) :
    ∀ (fs : List Field) (off : Nat) (k : Kn) (cs : List Value) (xs : List (DataW H × List MemPlace)), kchkFs P g fs off k = true → cs.length = off + k.sz →
      (fs.mapM fun f => DataW.trod enc P w base spare held fuel f.type ((cs.drop f.offset).take (P.cellsOf f.type))) = some xs →
      ∃ x : den k, RK (Vis (fun _ => True) w) k x (cs.drop off) ∧ wfK k x ∧ bulkK k x ≤ Rows.uptoBulkAll (xs.map (·.1))
  | [], off, k, cs, xs, h, _, _ => by simp [kchkFs] at h
  | [f], off, k, cs, xs, h, hl, hx => by
    simp only [kchkFs, Bool.and_eq_true] at h
    obtain ⟨⟨h1, h2⟩, h3⟩ := h
    have h1 := Nat.eq_of_beq_eq_true h1
    have h2 := Nat.eq_of_beq_eq_true h2
    simp only [List.mapM_cons, List.mapM_nil, Option.pure_def, Option.bind_eq_bind, Option.bind_eq_some_iff, Option.some.injEq] at hx
    obtain ⟨y, hy, _, rfl, rfl⟩ := hx
    obtain ⟨x, hr, hw, hb⟩ := hg _ _ _ _ _ h3 hy
    rw [h1, h2, List.take_of_length_le (by rw [List.length_drop]; omega)] at hr
    refine ⟨x, hr, hw, ?_⟩
    simp only [List.map_cons, List.map_nil, Rows.uptoBulkAll]
    omega
  | f :: f' :: r, off, k, cs, xs, h, hl, hx => by
    cases k with
    | prod a b =>
      simp only [kchkFs, Bool.and_eq_true] at h
      obtain ⟨⟨⟨h1, h2⟩, h3⟩, h4⟩ := h
      have h1 := Nat.eq_of_beq_eq_true h1
      have h2 := Nat.eq_of_beq_eq_true h2
      rw [List.mapM_cons] at hx
      simp only [Option.pure_def, Option.bind_eq_bind, Option.bind_eq_some_iff, Option.some.injEq] at hx
      obtain ⟨y, hy, ys, hys, rfl⟩ := hx
      obtain ⟨x, hr, hw, hb⟩ := hg _ _ _ _ _ h3 hy
      obtain ⟨z, hr2, hw2, hb2⟩ := reads_fs hg (f' :: r) (off + a.sz) b cs ys h4 (by rw [hl]; simp only [Kn.sz]; omega) hys
      rw [h1, h2] at hr
      refine ⟨(x, z), ⟨_, _, ?_, hr, hr2⟩, ⟨hw, hw2⟩, ?_⟩
      · rw [← List.drop_drop, List.take_append_drop]
      · simp only [List.map_cons, Rows.uptoBulkAll, bulkK]
        omega
    | _ => simp [kchkFs] at h
theorem reads_ok : ∀ (n : Nat) (t : TypeId) (k : Kn) (fuel : Nat) (cs : List Value) (d : DataW H) (ps : List MemPlace), kchk P n t k = true → DataW.trod enc P w base spare held fuel t cs = some (d, ps) → Reads w k cs d
  | 0, _, _, _, _, _, _, h, _ => by cases h
  | n + 1, t, k, 0, cs, d, ps, h, hd => by cases hd
  | n + 1, t, k, fuel + 1, cs, d, ps, h, hd => by
    simp only [kchk] at h
    split at h
    · rename_i ik ik' hu
      obtain rfl := of_decide_eq_true h
      unfold DataW.trod at hd
      rw [hu] at hd
      split at hd <;> simp_all
      obtain ⟨⟨rfl, hwf⟩, rfl, rfl⟩ := hd
      exact ⟨_, rfl, hwf, by simp [Rows.uptoBulk, bulkK]⟩
    · rename_i hu
      unfold DataW.trod at hd
      rw [hu] at hd
      split at hd <;> simp_all
      obtain ⟨rfl, rfl⟩ := hd
      exact ⟨_, rfl, trivial, by simp [Rows.uptoBulk, bulkK]⟩
    · rename_i hu
      unfold DataW.trod at hd
      rw [hu] at hd
      split at hd <;> simp_all
      obtain ⟨hs, rfl, rfl⟩ := hd
      refine ⟨_, rfl, hs, ?_⟩
      simp only [Rows.uptoBulk, bulkK]
      rw [Array.length_toList]
      exact Nat.le_refl _
    · rename_i e e' k hu
      simp only [Bool.and_eq_true] at h
      obtain ⟨⟨h1, h2⟩, h3⟩ := h
      have h1 := Nat.eq_of_beq_eq_true h1
      have h2 := Nat.eq_of_beq_eq_true h2
      subst h1
      rcases DataW.trod_slice hu hd with ⟨rfl, hx⟩ | ⟨a, len, cap, elems, rest, m, hf, rfl, hx, hb, hl, hc, hlen, hel, _, _⟩
      · simp only [Prod.mk.injEq] at hx
        obtain ⟨rfl, rfl⟩ := hx
        exact ⟨[], ⟨none, 0, 0, rfl, rfl, Nat.le_refl _, fun h0 => absurd h0 (Nat.lt_irrefl _)⟩, (fun x hx => nomatch hx), Nat.le_refl _⟩
      · simp only [Prod.mk.injEq] at hx
        obtain ⟨rfl, rfl⟩ := hx
        obtain ⟨xs, hxl, hxs⟩ := list_of (fun i (x : den k) => ∃ cs, RK (Vis (fun _ => True) w) k x cs ∧ (∀ j u, cs[j]? = some u → w.cell? ((a.add (i * k.sz)).add j) = some u) ∧ wfK k x ∧ ∀ y, elems[i]? = some y → bulkK k x ≤ Rows.uptoBulk y.1) len (by
          intro i hi
          have he := hel i hi
          obtain ⟨y, hy⟩ : ∃ y, elems[i]? = some y := ⟨elems[i], by simp [hlen, hi]⟩
          rw [hy] at he
          obtain ⟨cs, hcs, htr⟩ := Option.bind_eq_some_iff.1 he
          obtain ⟨_, hcl, hcc⟩ := World.cells?_some hcs
          obtain ⟨x, hr, hw, hb⟩ := reads_ok n e k m cs y.1 y.2 h3 htr
          refine ⟨x, cs, hr, fun j u hj => ?_, hw, fun y' hy' => by rw [hy] at hy'; obtain rfl := Option.some.inj hy'; exact hb⟩
          have hjl : j < P.cellsOf e := by rw [← hcl]; exact (List.getElem?_eq_some_iff.1 hj).1
          have := hcc j hjl
          rw [h2] at this
          rw [this, hj])
        refine ⟨xs, ⟨some a, len, cap, rfl, hxl.symm, hl, fun h0 => ?_⟩, fun x hx => ?_, ?_⟩
        · have hs0 : a.spot = none := by
            obtain ⟨x, hx⟩ : ∃ x, xs[0]? = some x := ⟨xs[0], by simp [h0]⟩
            obtain ⟨cs, hr, hcl, _⟩ := hxs 0 x hx
            have hlen0 := RK_len hr
            have hpos := k.pos
            obtain ⟨u, hu⟩ : ∃ u, cs[0]? = some u := ⟨cs[0]'(by omega), by simp⟩
            have := World.cell?_spot (hcl 0 u hu)
            simpa [Addr.add] using this
          obtain ⟨ab, ao, asp⟩ := a
          simp only at hs0
          subst hs0
          refine ⟨ab, ao, rfl, fun i x hx => ?_⟩
          obtain ⟨cs, hr, hcl, _⟩ := hxs i x hx
          refine ⟨cs, hr, fun j u hj => ⟨trivial, ?_⟩⟩
          have := hcl j u hj
          rw [← this]
          congr 1
          unfold Addr.add
          split <;> split <;> simp_all [Nat.add_assoc]
        · obtain ⟨i, hi⟩ := List.mem_iff_getElem?.1 hx
          obtain ⟨_, _, _, hw, _⟩ := hxs i x hi
          exact hw
        · have := bulkAll_map (H := H) (bulkK k) xs (elems.map (·.1)) (by rw [List.length_map, hlen, hxl]) (fun i x d hx hd => by
            rw [List.getElem?_map] at hd
            obtain ⟨y, hy, rfl⟩ := Option.map_eq_some_iff.1 hd
            obtain ⟨_, _, _, _, hb⟩ := hxs i x hx
            exact hb y hy)
          simp only [Rows.uptoBulk, bulkK]
          omega
    · rename_i fs hu
      simp only [Bool.and_eq_true] at h
      have h1 := Nat.eq_of_beq_eq_true h.1
      unfold DataW.trod at hd
      rw [hu] at hd
      simp only at hd
      split at hd
      · rename_i hl
        obtain ⟨xs, hx, he⟩ := Option.map_eq_some_iff.1 hd
        simp only [Prod.mk.injEq] at he
        obtain ⟨rfl, rfl⟩ := he
        obtain ⟨x, hr, hw, hb⟩ := reads_fs (fun t k cs d ps h h' => reads_ok n t k fuel cs d ps h h') fs.toList 0 _ cs xs h.2 (by rw [hl, h1]; omega) hx
        rw [List.drop_zero] at hr
        exact ⟨x, hr, hw, by simp only [Rows.uptoBulk]; omega⟩
      · cases hd
    · cases h
def isSt (P : Program) (t : TypeId) : Bool := match P.underlying t with
  | some (.struct _) => true
  | _ => false
/-- An argument. -/
theorem read_arg {b0 : Nat} {r : Reach} {t : TypeId} {v : Value} {d : DataW H} {ps : List MemPlace} (ag : Bool) (k : Kn) (hk : kchk P 8 t k = true) (hag : isSt P t = ag) (hval : Value.okWide P w r b0 t v) (h : DataW.Trod enc P w base spare held t v d ps) :
    ∃ x : den k, (∀ ψ : Nat → Value, RV ψ (fun _ => True) w (canon ag k x) v) ∧ wfK k x ∧ bulkK k x ≤ Rows.uptoBulk d := by
  obtain ⟨fuel, hf⟩ := h
  obtain ⟨x, hr, hw, hb⟩ := reads_ok 8 t k fuel _ d ps hk hf
  refine ⟨x, fun ψ => ?_, hw, hb⟩
  have hl := toL_ok (ψ := ψ) k x _ hr
  subst hag
  have one : v.cells = #[v] → isSt P t = false → RV ψ (fun _ => True) w (canon (isSt P t) k x) v := by
    intro hv he
    rw [he]
    rw [hv] at hl
    show RL ψ _ w ((toL k x).headD .un) v
    cases ht : toL k x with
    | nil => rw [ht] at hl; exact hl.elim
    | cons y ys => rw [ht] at hl; exact hl.1
  simp only [kchk] at hk
  split at hk
  · rename_i hu; obtain ⟨n, rfl⟩ := okWide_int hu hval; exact one rfl (by unfold isSt; rw [hu])
  · rename_i hu; obtain ⟨n, rfl⟩ := okWide_bool hu hval; exact one rfl (by unfold isSt; rw [hu])
  · rename_i hu; obtain ⟨n, rfl⟩ := okWide_string hu hval; exact one rfl (by unfold isSt; rw [hu])
  · rename_i hu; obtain ⟨a, l, c, rfl⟩ := okWide_slice hu hval; exact one rfl (by unfold isSt; rw [hu])
  · rename_i fs hu
    obtain ⟨cs, rfl, _⟩ := okWide_struct hu hval
    have he : isSt P t = true := by unfold isSt; rw [hu]
    rw [he]
    exact ⟨cs.toList, by simp, hl⟩
  · cases hk
theorem post_of_below {f : Func} {s : ChangeSpec} {apart fresh handsOn again : Bool} {W W' : World} {args : Array Value} {v : Value} {ds gs : List (DataW H)} {before pa pv : List MemPlace}
    (hW : DataW.Whole enc P f.params.toList s.vars apart W args.toList ds gs before)
    (hres : ∀ (b : Nat) (sp : Nat → Bool) (hd : Bool), DataW.TrodAll enc P W' b sp hd f.resultTypes.toList (v.resultList f.resultTypes.size) (s.fn H (ds ++ gs)).results [])
    (hargs : ∀ sp : Nat → Bool, (∀ p ∈ before, sp p.block = true) → DataW.TrodAll enc P W' 0 sp true f.params.toList args.toList (s.fn H (ds ++ gs)).args pa)
    (hvars : ∀ sp : Nat → Bool, (∀ p ∈ before, sp p.block = true) → DataW.TrodVars enc P W' sp s.vars (s.fn H (ds ++ gs)).vars pv)
    (hps : before = pa ++ pv) (hb : Below W.heap.size W W')
    (hok : ∀ (j : Nat) (t : TypeId) (r : Value), f.resultTypes[j]? = some t → (v.resultList f.resultTypes.size)[j]? = some r → Value.okWide P W' .any 0 t r) :
    s.post enc P f apart fresh handsOn again W args v W' := by
  have hlt : ∀ p ∈ before, p.block < W.heap.size := fun p hp => hW.lt p hp
  have hold : ∀ p ∈ before, (fun b => decide (b < W.heap.size)) p.block = true := fun p hp => by simpa using hlt p hp
  refine ⟨ds, gs, before, [], pa, pv, hW, hres _ _ _, hargs _ hold, hvars _ hold, World.keptBut_mono (fun p hp => ⟨hp, ?_⟩) (hb.frame (· ∈ before)), fun _ => ?_⟩
  · rw [hps, List.mem_append] at hp
    exact Or.inr hp
  · obtain ⟨_, _, _, _, _, hz, hn⟩ := hW
    refine ⟨hok, _, _, ([] ++ pa) ++ pv, ⟨[] ++ pa, pv, trodAll_append (hargs _ (fun _ _ => rfl)) (hres _ _ _), hvars _ (fun _ _ => rfl), rfl, ?_, ?_⟩, ?_⟩
    · intro b off hp
      have hin : MemPlace.cell b off ∈ before := by rw [hps]; simpa using hp
      rw [hb.frozen (hlt _ hin)]
      exact hz b off hin
    · intro ha
      have := hn ha
      rw [hps] at this
      simpa using this
    · intro p hp _
      rw [hps]
      simpa using hp
theorem trodAll_stays (hl : laidOutB P = true) {W W' : World} (hb : Below W.heap.size W W') {sp : Nat → Bool} : ∀ {ts : List TypeId} {vs : List Value} {ds : List (DataW H)} {ps : List MemPlace}, (∀ t ∈ ts, P.readableRec t = true ∧ t < P.types.size) → (∀ p ∈ ps, sp p.block = true ∧ p.block < W.heap.size) → DataW.TrodAll enc P W 0 (fun _ => true) true ts vs ds ps → DataW.TrodAll enc P W' 0 sp true ts vs ds ps
  | [], _, _, _, _, _, h => by
    obtain ⟨rfl, rfl, rfl⟩ := trodAll_nil h
    exact trodAll_mk0
  | t :: ts, _, _, _, ht, hs, h => by
    obtain ⟨v, vs1, d, ds1, a, b, rfl, rfl, rfl, h1, h2⟩ := trodAll_cons h
    refine ⟨a, b, WideElems.Trod_stays hl (ht t List.mem_cons_self).1 (ht t List.mem_cons_self).2 h1 (fun p hp => hb.same (hs p (List.mem_append_left _ hp)).2) (fun p hp => (hs p (List.mem_append_left _ hp)).1), ?_, rfl⟩
    exact trodAll_stays hl hb (fun u hu => ht u (List.mem_cons_of_mem _ hu)) (fun p hp => hs p (List.mem_append_right _ hp)) h2
/-- A law that answers true and turns nothing that was there. -/
theorem law_of {f : Nat} {fn : Func} {s : ChangeSpec} {W : World} {args : Array Value} {ds gs : List (DataW H)} {before : List MemPlace} {tb : TypeId} (hl : laidOutB P = true) (hrr : ∀ t ∈ fn.params.toList, P.readableRec t = true ∧ t < P.types.size) (hvars : s.vars = []) (hrt : fn.resultTypes = #[tb]) (htb : P.underlying tb = some .bool)
    (hfn : gs = [] → s.fn H (ds ++ gs) = { results := [.lit (.bool true)], args := ds }) (hW : DataW.Whole enc P fn.params.toList s.vars false W args.toList ds gs before)
    (hc : Calls P f args W fun e w' => e = .returned (.bool true) ∧ Below W.heap.size W w') : Calls P f args W fun e W' => ∃ v, e = .returned v ∧ s.post enc P fn false true false false W args v W' := by
  refine hc.mono ?_
  rintro e W' ⟨rfl, hb⟩
  have hW' := hW
  obtain ⟨p, q, hA, hV, rfl, hfz, hnd⟩ := hW
  rw [hvars] at hV
  obtain ⟨rfl, rfl⟩ := trodVars_none hV
  have hfn := hfn rfl
  refine ⟨_, rfl, post_of_below (pa := p) (pv := []) hW' (fun b sp hd => ?_) (fun sp hsp => ?_) (fun sp _ => ?_) rfl hb ?_⟩
  · rw [hfn, hrt]
    exact trodAll_cons_mk (shut_bool htb true) trodAll_mk0
  · rw [hfn]
    exact trodAll_stays hl hb hrr (fun x hx => ⟨hsp x (by simpa using hx), hW'.lt x (by simpa using hx)⟩) hA
  · rw [hfn, hvars]; rfl
  · exact ok_one hrt rfl (okWide_bool_mk htb true)
/-- What the small machine answers of a law. -/
theorem law_calls {f : Nat} {as0 : List SV} {W : World} {args : Array Value} (h : FnR P ⟨W, W.heap.size⟩ f as0 [] fun v hout => dec [⟨false, .bool, false⟩] v hout = some true) (ha : ∀ ψ : Nat → Value, RVs ψ (fun _ => True) W as0 args.toList) : Calls P f args W fun e w' => e = .returned (.bool true) ∧ Below W.heap.size W w' := by
  have hn : ∀ (ψ : Nat → Value) (g : Nat), ¬ LB ψ [] g := by rintro ψ g ⟨b, o, hb, _⟩; cases hb
  have := h (fun _ => undef) (fun _ => True) W args.toList (ha _) (fun b o hb => by cases hb) (fun b b' o o' g hb => by cases hb) (fun a _ => hn _ _) ⟨Nat.le_refl _, fun _ _ => rfl, fun g hg => (hn _ g hg).elim⟩
  rw [show args.toList.toArray = args from by simp] at this
  refine this.mono ?_
  rintro e w' ⟨v, hout, hdec, v', ψ', rfl, _, hfr, hrv, _⟩
  refine ⟨?_, ⟨hfr.os, hfr.tape, hfr.output, hfr.size, fun i hi => hfr.block i hi (hn _ i)⟩⟩
  have h1 := (dec_ok (ro' := _) (fun _ _ h1 h2 => ⟨h1, h2⟩) (d := 0) (ψ' := ψ') hdec hrv (fun j _ => by rw [Nat.zero_add])).1
  have h2 : v' = .bool true := h1
  rw [h2]
end
end Go.Proofs.YtopplbiadpcalaaDoor.U

/- The small abstract machine: rows of functions whose contracts are known from elsewhere. -/
namespace Go.Proofs.YtopplbiadpcalaaDoor.U
open Go Go.RowKit

/-- A contract that turns nothing that was there, as the small machine knows it. -/
theorem FnR.of_below {P : Program} {G : GB} {f : Nat} {args : List SV} {R : SV → Heap → Prop} (h : ∀ (ψ : Nat → Value) (ro : Addr → Prop) (w : World) (vals : List Value), RVs ψ ro w args vals → G.at w (LB ψ []) →
    Calls P f vals.toArray w fun e w' => ∃ v v', e = .returned v' ∧ Below w.heap.size w w' ∧ R v [] ∧ ∀ (ψ : Nat → Value) (ro : Addr → Prop) (w : World), RV ψ ro w v v') : FnR P G f args [] R := by
  intro ψ ro w vals hv _ _ _ hG
  refine (h ψ ro w vals hv hG).mono ?_
  rintro e w' ⟨v, v', rfl, hb, hr, hrv⟩
  have h0 : ∀ b o, getH ([] : Heap) b = some o → False := fun b o hb => by cases hb
  exact ⟨v, [], hr, v', ψ, rfl, fun _ _ => rfl, Fr.of_below hb _, hrv _ _ _, fun b o hb => (h0 b o hb).elim, fun g hg => hg.elim fun b hg => hg.elim fun o hg => (h0 b o hg.1).elim, fun b _ o _ _ hb => (h0 b o hb).elim⟩
/-- A package-level variable holds this, and lies below what a call may turn. -/
def GB.var (G : GB) (P : Program) (name : String) (cs : Array Value) : Prop := (∀ g, P.globalNamed name = some g → g < G.B) ∧ G.W.var? P name = some cs
theorem GB.var_at {G : GB} {P : Program} {name : String} {cs : Array Value} (h : G.var P name cs) {w : World} {X : Nat → Prop} (hw : G.at w X) : w.var? P name = some cs := by
  have h2 := h.2
  unfold World.var? at h2 ⊢
  obtain ⟨g, hg, h3⟩ := Option.bind_eq_some_iff.1 h2
  rw [hg]
  show (match w.heap[g]? with | some (.cells cs _ _) => some cs | _ => none) = some cs
  rw [hw.2.1 g (h.1 g hg)]
  exact h3
theorem GB.var_mk {W : World} {P : Program} {name : String} {cs : Array Value} (h : W.var? P name = some cs) : (⟨W, W.heap.size⟩ : GB).var P name cs := by
  refine ⟨fun g hg => ?_, h⟩
  unfold World.var? at h
  rw [hg] at h
  show g < W.heap.size
  rcases Nat.lt_or_ge g W.heap.size with h' | h'
  · exact h'
  · rw [Option.bind_some, Array.getElem?_eq_none h'] at h
    cases h
end Go.Proofs.YtopplbiadpcalaaDoor.U

/- The layings of the shelf that serve here: written by the kit's own program, trimmed by ours. -/
namespace Go.Proofs
open Go.Shelf
def Tryd.lays106_ren : Go.Shelf.Ren := ⟨fun | 106 => 25 | 213 => 36 | 265 => 45 | n => n, fun | 9 => 9 | 3 => 3 | n => n, fun | n => n⟩
theorem Tryd.lays106 : Go.Proofs.Lays.n106 Tryd.prog Tryd.lays106_ren := {
  mixed := by kernel_rfl
  f106 := Tryd.func25.trans (congrArg some (by kernel_rfl))
  f213 := Tryd.func36.trans (congrArg some (by kernel_rfl))
  f265 := Tryd.func45.trans (congrArg some (by kernel_rfl))
  t3 := Tryd.underlying3
  a3 := Tryd.isAgg3
  z3 := Tryd.sizeOf3
  v3 := Tryd.zeroValue3
  t9 := Tryd.underlying9
  a9 := Tryd.isAgg9
  z9 := Tryd.sizeOf9
  v9 := Tryd.zeroValue9 }
def Tryd.laysM173_ren : Go.Shelf.Ren := ⟨fun | 173 => 33 | 246 => 42 | 283 => 51 | 284 => 52 | 285 => 53 | 286 => 54 | 129 => 62 | 317 => 61 | 318 => 63 | 319 => 64 | 320 => 65 | 337 => 68 | 338 => 69 | n => n, fun | 2 => 2 | 3 => 3 | 9 => 9 | 4 => 4 | 171 => 76 | 0 => 0 | 53 => 65 | 37 => 49 | 5 => 5 | 173 => 79 | 212 => 85 | 51 => 86 | 20 => 20 | 213 => 87 | 46 => 59 | 232 => 95 | 233 => 96 | n => n, fun | 17 => 3 | 18 => 4 | 19 => 5 | n => n⟩
theorem Tryd.laysM173 : Go.Proofs.LaysM.n173 Tryd.prog Tryd.laysM173_ren := {
  mixed := by kernel_rfl
  f129 := Tryd.func62.trans (congrArg some (by kernel_rfl))
  f173 := Tryd.func33.trans (congrArg some (by kernel_rfl))
  f246 := Tryd.func42.trans (congrArg some (by kernel_rfl))
  f283 := Tryd.func51.trans (congrArg some (by kernel_rfl))
  f284 := Tryd.func52.trans (congrArg some (by kernel_rfl))
  f285 := Tryd.func53.trans (congrArg some (by kernel_rfl))
  f286 := Tryd.func54.trans (congrArg some (by kernel_rfl))
  f317 := Tryd.func61.trans (congrArg some (by kernel_rfl))
  f318 := Tryd.func63.trans (congrArg some (by kernel_rfl))
  f319 := Tryd.func64.trans (congrArg some (by kernel_rfl))
  f320 := Tryd.func65.trans (congrArg some (by kernel_rfl))
  f337 := Tryd.func68.trans (congrArg some (by kernel_rfl))
  f338 := Tryd.func69.trans (congrArg some (by kernel_rfl))
  t0 := Tryd.underlying0
  a0 := Tryd.isAgg0
  z0 := Tryd.sizeOf0
  v0 := Tryd.zeroValue0
  t2 := Tryd.underlying2
  a2 := Tryd.isAgg2
  z2 := Tryd.sizeOf2
  v2 := Tryd.zeroValue2
  t3 := Tryd.underlying3
  a3 := Tryd.isAgg3
  z3 := Tryd.sizeOf3
  v3 := Tryd.zeroValue3
  t4 := Tryd.underlying4
  a4 := Tryd.isAgg4
  z4 := Tryd.sizeOf4
  v4 := Tryd.zeroValue4
  t5 := Tryd.underlying5
  a5 := Tryd.isAgg5
  z5 := Tryd.sizeOf5
  v5 := Tryd.zeroValue5
  t9 := Tryd.underlying9
  a9 := Tryd.isAgg9
  z9 := Tryd.sizeOf9
  v9 := Tryd.zeroValue9
  t20 := Tryd.underlying20
  a20 := Tryd.isAgg20
  z20 := Tryd.sizeOf20
  v20 := Tryd.zeroValue20
  t37 := Tryd.underlying49
  a37 := Tryd.isAgg49
  z37 := Tryd.sizeOf49
  v37 := Tryd.zeroValue49
  t46 := Tryd.underlying59
  a46 := Tryd.isAgg59
  z46 := Tryd.sizeOf59
  v46 := Tryd.zeroValue59
  t51 := Tryd.underlying86
  a51 := Tryd.isAgg86
  z51 := Tryd.sizeOf86
  v51 := Tryd.zeroValue86
  t53 := Tryd.underlying65
  a53 := Tryd.isAgg65
  z53 := Tryd.sizeOf65
  v53 := Tryd.zeroValue65
  t171 := Tryd.underlying76
  a171 := Tryd.isAgg76
  z171 := Tryd.sizeOf76
  v171 := Tryd.zeroValue76
  t173 := Tryd.underlying79
  a173 := Tryd.isAgg79
  z173 := Tryd.sizeOf79
  v173 := Tryd.zeroValue79
  t212 := Tryd.underlying85
  a212 := Tryd.isAgg85
  z212 := Tryd.sizeOf85
  v212 := Tryd.zeroValue85
  t213 := Tryd.underlying87
  a213 := Tryd.isAgg87
  z213 := Tryd.sizeOf87
  t232 := Tryd.underlying95
  a232 := Tryd.isAgg95
  z232 := Tryd.sizeOf95
  v232 := Tryd.zeroValue95
  t233 := Tryd.underlying96
  a233 := Tryd.isAgg96
  z233 := Tryd.sizeOf96
  v233 := Tryd.zeroValue96
  g17 := by kernel_rfl
  g18 := by kernel_rfl
  g19 := by kernel_rfl
  i0 := by kernel_rfl
  i2 := by kernel_rfl
  i3 := by kernel_rfl
  i4 := by kernel_rfl
  i5 := by kernel_rfl
  i9 := by kernel_rfl
  i20 := by kernel_rfl
  i37 := by kernel_rfl
  i46 := by kernel_rfl
  i51 := by kernel_rfl
  i53 := by kernel_rfl
  i171 := by kernel_rfl
  i173 := by kernel_rfl
  i212 := by kernel_rfl
  i232 := by kernel_rfl
  i233 := by kernel_rfl
  m17 := by kernel_rfl
  m18 := by kernel_rfl
  m19 := by kernel_rfl }
def Tryd.laysC245_ren : Go.Shelf.Ren := ⟨fun | 245 => 39 | 279 => 47 | 280 => 48 | 281 => 49 | 282 => 50 | 316 => 58 | 171 => 60 | 205 => 59 | 243 => 67 | 246 => 42 | 283 => 51 | 284 => 52 | 285 => 53 | 286 => 54 | 129 => 62 | 317 => 61 | 318 => 63 | 319 => 64 | 320 => 65 | 337 => 68 | 338 => 69 | n => n, fun | 9 => 9 | 3 => 3 | 75 => 52 | 167 => 71 | 4 => 4 | 168 => 72 | 210 => 82 | 37 => 49 | 0 => 0 | 127 => 90 | 145 => 93 | 143 => 91 | 2 => 2 | 171 => 76 | 53 => 65 | 5 => 5 | 173 => 79 | 212 => 85 | 51 => 86 | 20 => 20 | 213 => 87 | 46 => 59 | 232 => 95 | 233 => 96 | 80 => 97 | n => n, fun | 15 => 1 | 16 => 2 | 17 => 3 | 18 => 4 | 19 => 5 | n => n⟩
theorem Tryd.laysC245 : Go.Proofs.LaysC.n245 Tryd.prog Tryd.laysC245_ren := {
  mixed := by kernel_rfl
  f129 := Tryd.func62.trans (congrArg some (by kernel_rfl))
  f171 := Tryd.func60.trans (congrArg some (by kernel_rfl))
  f205 := Tryd.func59.trans (congrArg some (by kernel_rfl))
  f243 := Tryd.func67.trans (congrArg some (by kernel_rfl))
  f245 := Tryd.func39.trans (congrArg some (by kernel_rfl))
  f246 := Tryd.func42.trans (congrArg some (by kernel_rfl))
  f279 := Tryd.func47.trans (congrArg some (by kernel_rfl))
  f280 := Tryd.func48.trans (congrArg some (by kernel_rfl))
  f281 := Tryd.func49.trans (congrArg some (by kernel_rfl))
  f282 := Tryd.func50.trans (congrArg some (by kernel_rfl))
  f283 := Tryd.func51.trans (congrArg some (by kernel_rfl))
  f284 := Tryd.func52.trans (congrArg some (by kernel_rfl))
  f285 := Tryd.func53.trans (congrArg some (by kernel_rfl))
  f286 := Tryd.func54.trans (congrArg some (by kernel_rfl))
  f316 := Tryd.func58.trans (congrArg some (by kernel_rfl))
  f317 := Tryd.func61.trans (congrArg some (by kernel_rfl))
  f318 := Tryd.func63.trans (congrArg some (by kernel_rfl))
  f319 := Tryd.func64.trans (congrArg some (by kernel_rfl))
  f320 := Tryd.func65.trans (congrArg some (by kernel_rfl))
  f337 := Tryd.func68.trans (congrArg some (by kernel_rfl))
  f338 := Tryd.func69.trans (congrArg some (by kernel_rfl))
  t0 := Tryd.underlying0
  a0 := Tryd.isAgg0
  z0 := Tryd.sizeOf0
  v0 := Tryd.zeroValue0
  t2 := Tryd.underlying2
  a2 := Tryd.isAgg2
  z2 := Tryd.sizeOf2
  v2 := Tryd.zeroValue2
  t3 := Tryd.underlying3
  a3 := Tryd.isAgg3
  z3 := Tryd.sizeOf3
  v3 := Tryd.zeroValue3
  t4 := Tryd.underlying4
  a4 := Tryd.isAgg4
  z4 := Tryd.sizeOf4
  v4 := Tryd.zeroValue4
  t5 := Tryd.underlying5
  a5 := Tryd.isAgg5
  z5 := Tryd.sizeOf5
  v5 := Tryd.zeroValue5
  t9 := Tryd.underlying9
  a9 := Tryd.isAgg9
  z9 := Tryd.sizeOf9
  v9 := Tryd.zeroValue9
  t20 := Tryd.underlying20
  a20 := Tryd.isAgg20
  z20 := Tryd.sizeOf20
  v20 := Tryd.zeroValue20
  t37 := Tryd.underlying49
  a37 := Tryd.isAgg49
  z37 := Tryd.sizeOf49
  v37 := Tryd.zeroValue49
  t46 := Tryd.underlying59
  a46 := Tryd.isAgg59
  z46 := Tryd.sizeOf59
  v46 := Tryd.zeroValue59
  t51 := Tryd.underlying86
  a51 := Tryd.isAgg86
  z51 := Tryd.sizeOf86
  v51 := Tryd.zeroValue86
  t53 := Tryd.underlying65
  a53 := Tryd.isAgg65
  z53 := Tryd.sizeOf65
  v53 := Tryd.zeroValue65
  t75 := Tryd.underlying52
  a75 := Tryd.isAgg52
  z75 := Tryd.sizeOf52
  v75 := Tryd.zeroValue52
  t127 := Tryd.underlying90
  a127 := Tryd.isAgg90
  z127 := Tryd.sizeOf90
  v127 := Tryd.zeroValue90
  t143 := Tryd.underlying91
  a143 := Tryd.isAgg91
  z143 := Tryd.sizeOf91
  v143 := Tryd.zeroValue91
  t145 := Tryd.underlying93
  a145 := Tryd.isAgg93
  z145 := Tryd.sizeOf93
  v145 := Tryd.zeroValue93
  t167 := Tryd.underlying71
  a167 := Tryd.isAgg71
  z167 := Tryd.sizeOf71
  v167 := Tryd.zeroValue71
  t168 := Tryd.underlying72
  a168 := Tryd.isAgg72
  z168 := Tryd.sizeOf72
  v168 := Tryd.zeroValue72
  t171 := Tryd.underlying76
  a171 := Tryd.isAgg76
  z171 := Tryd.sizeOf76
  v171 := Tryd.zeroValue76
  t173 := Tryd.underlying79
  a173 := Tryd.isAgg79
  z173 := Tryd.sizeOf79
  v173 := Tryd.zeroValue79
  t210 := Tryd.underlying82
  a210 := Tryd.isAgg82
  z210 := Tryd.sizeOf82
  v210 := Tryd.zeroValue82
  t212 := Tryd.underlying85
  a212 := Tryd.isAgg85
  z212 := Tryd.sizeOf85
  v212 := Tryd.zeroValue85
  t213 := Tryd.underlying87
  a213 := Tryd.isAgg87
  z213 := Tryd.sizeOf87
  t232 := Tryd.underlying95
  a232 := Tryd.isAgg95
  z232 := Tryd.sizeOf95
  v232 := Tryd.zeroValue95
  t233 := Tryd.underlying96
  a233 := Tryd.isAgg96
  z233 := Tryd.sizeOf96
  v233 := Tryd.zeroValue96
  g15 := by kernel_rfl
  g16 := by kernel_rfl
  g17 := by kernel_rfl
  g18 := by kernel_rfl
  g19 := by kernel_rfl
  t80 := Tryd.underlying97
  a80 := Tryd.isAgg97
  z80 := Tryd.sizeOf97
  v80 := Tryd.zeroValue97
  i0 := by kernel_rfl
  i2 := by kernel_rfl
  i3 := by kernel_rfl
  i4 := by kernel_rfl
  i5 := by kernel_rfl
  i9 := by kernel_rfl
  i20 := by kernel_rfl
  i37 := by kernel_rfl
  i46 := by kernel_rfl
  i51 := by kernel_rfl
  i53 := by kernel_rfl
  i75 := by kernel_rfl
  i80 := by kernel_rfl
  i127 := by kernel_rfl
  i143 := by kernel_rfl
  i145 := by kernel_rfl
  i167 := by kernel_rfl
  i168 := by kernel_rfl
  i171 := by kernel_rfl
  i173 := by kernel_rfl
  i210 := by kernel_rfl
  i212 := by kernel_rfl
  i232 := by kernel_rfl
  i233 := by kernel_rfl
  m15 := by kernel_rfl
  m16 := by kernel_rfl
  m17 := by kernel_rfl
  m18 := by kernel_rfl
  m19 := by kernel_rfl
  c0 := by kernel_rfl
  c2 := by kernel_rfl
  c3 := by kernel_rfl
  c4 := by kernel_rfl
  c5 := by kernel_rfl
  c9 := by kernel_rfl
  c20 := by kernel_rfl
  c37 := by kernel_rfl
  c46 := by kernel_rfl
  c51 := by kernel_rfl
  c53 := by kernel_rfl
  c75 := by kernel_rfl
  c80 := by kernel_rfl
  c127 := by kernel_rfl
  c143 := by kernel_rfl
  c145 := by kernel_rfl
  c167 := by kernel_rfl
  c168 := by kernel_rfl
  c171 := by kernel_rfl
  c173 := by kernel_rfl
  c210 := by kernel_rfl
  c212 := by kernel_rfl
  c213 := by kernel_rfl
  c232 := by kernel_rfl
  c233 := by kernel_rfl }
def Tryd.laysC174_ren : Go.Shelf.Ren := ⟨fun | 174 => 29 | 247 => 38 | 245 => 39 | 287 => 46 | 279 => 47 | 280 => 48 | 281 => 49 | 282 => 50 | 321 => 56 | 322 => 57 | 316 => 58 | 171 => 60 | 205 => 59 | 243 => 67 | 246 => 42 | 283 => 51 | 284 => 52 | 285 => 53 | 286 => 54 | 129 => 62 | 317 => 61 | 318 => 63 | 319 => 64 | 320 => 65 | 337 => 68 | 338 => 69 | n => n, fun | 9 => 9 | 3 => 3 | 2 => 2 | 75 => 52 | 85 => 53 | 4 => 4 | 167 => 71 | 5 => 5 | 53 => 65 | 175 => 66 | 46 => 59 | 168 => 72 | 37 => 49 | 0 => 0 | 210 => 82 | 21 => 21 | 127 => 90 | 145 => 93 | 143 => 91 | 171 => 76 | 173 => 79 | 212 => 85 | 51 => 86 | 20 => 20 | 213 => 87 | 232 => 95 | 233 => 96 | 80 => 97 | n => n, fun | 15 => 1 | 16 => 2 | 17 => 3 | 18 => 4 | 19 => 5 | n => n⟩
theorem Tryd.laysC174 : Go.Proofs.LaysC.n174 Tryd.prog Tryd.laysC174_ren := {
  mixed := by kernel_rfl
  f129 := Tryd.func62.trans (congrArg some (by kernel_rfl))
  f171 := Tryd.func60.trans (congrArg some (by kernel_rfl))
  f174 := Tryd.func29.trans (congrArg some (by kernel_rfl))
  f205 := Tryd.func59.trans (congrArg some (by kernel_rfl))
  f243 := Tryd.func67.trans (congrArg some (by kernel_rfl))
  f245 := Tryd.func39.trans (congrArg some (by kernel_rfl))
  f246 := Tryd.func42.trans (congrArg some (by kernel_rfl))
  f247 := Tryd.func38.trans (congrArg some (by kernel_rfl))
  f279 := Tryd.func47.trans (congrArg some (by kernel_rfl))
  f280 := Tryd.func48.trans (congrArg some (by kernel_rfl))
  f281 := Tryd.func49.trans (congrArg some (by kernel_rfl))
  f282 := Tryd.func50.trans (congrArg some (by kernel_rfl))
  f283 := Tryd.func51.trans (congrArg some (by kernel_rfl))
  f284 := Tryd.func52.trans (congrArg some (by kernel_rfl))
  f285 := Tryd.func53.trans (congrArg some (by kernel_rfl))
  f286 := Tryd.func54.trans (congrArg some (by kernel_rfl))
  f287 := Tryd.func46.trans (congrArg some (by kernel_rfl))
  f316 := Tryd.func58.trans (congrArg some (by kernel_rfl))
  f317 := Tryd.func61.trans (congrArg some (by kernel_rfl))
  f318 := Tryd.func63.trans (congrArg some (by kernel_rfl))
  f319 := Tryd.func64.trans (congrArg some (by kernel_rfl))
  f320 := Tryd.func65.trans (congrArg some (by kernel_rfl))
  f321 := Tryd.func56.trans (congrArg some (by kernel_rfl))
  f322 := Tryd.func57.trans (congrArg some (by kernel_rfl))
  f337 := Tryd.func68.trans (congrArg some (by kernel_rfl))
  f338 := Tryd.func69.trans (congrArg some (by kernel_rfl))
  t0 := Tryd.underlying0
  a0 := Tryd.isAgg0
  z0 := Tryd.sizeOf0
  v0 := Tryd.zeroValue0
  t2 := Tryd.underlying2
  a2 := Tryd.isAgg2
  z2 := Tryd.sizeOf2
  v2 := Tryd.zeroValue2
  t3 := Tryd.underlying3
  a3 := Tryd.isAgg3
  z3 := Tryd.sizeOf3
  v3 := Tryd.zeroValue3
  t4 := Tryd.underlying4
  a4 := Tryd.isAgg4
  z4 := Tryd.sizeOf4
  v4 := Tryd.zeroValue4
  t5 := Tryd.underlying5
  a5 := Tryd.isAgg5
  z5 := Tryd.sizeOf5
  v5 := Tryd.zeroValue5
  t9 := Tryd.underlying9
  a9 := Tryd.isAgg9
  z9 := Tryd.sizeOf9
  v9 := Tryd.zeroValue9
  t20 := Tryd.underlying20
  a20 := Tryd.isAgg20
  z20 := Tryd.sizeOf20
  v20 := Tryd.zeroValue20
  t21 := Tryd.underlying21
  a21 := Tryd.isAgg21
  z21 := Tryd.sizeOf21
  v21 := Tryd.zeroValue21
  t37 := Tryd.underlying49
  a37 := Tryd.isAgg49
  z37 := Tryd.sizeOf49
  v37 := Tryd.zeroValue49
  t46 := Tryd.underlying59
  a46 := Tryd.isAgg59
  z46 := Tryd.sizeOf59
  v46 := Tryd.zeroValue59
  t51 := Tryd.underlying86
  a51 := Tryd.isAgg86
  z51 := Tryd.sizeOf86
  v51 := Tryd.zeroValue86
  t53 := Tryd.underlying65
  a53 := Tryd.isAgg65
  z53 := Tryd.sizeOf65
  v53 := Tryd.zeroValue65
  t75 := Tryd.underlying52
  a75 := Tryd.isAgg52
  z75 := Tryd.sizeOf52
  v75 := Tryd.zeroValue52
  t85 := Tryd.underlying53
  a85 := Tryd.isAgg53
  z85 := Tryd.sizeOf53
  v85 := Tryd.zeroValue53
  t127 := Tryd.underlying90
  a127 := Tryd.isAgg90
  z127 := Tryd.sizeOf90
  v127 := Tryd.zeroValue90
  t143 := Tryd.underlying91
  a143 := Tryd.isAgg91
  z143 := Tryd.sizeOf91
  v143 := Tryd.zeroValue91
  t145 := Tryd.underlying93
  a145 := Tryd.isAgg93
  z145 := Tryd.sizeOf93
  v145 := Tryd.zeroValue93
  t167 := Tryd.underlying71
  a167 := Tryd.isAgg71
  z167 := Tryd.sizeOf71
  v167 := Tryd.zeroValue71
  t168 := Tryd.underlying72
  a168 := Tryd.isAgg72
  z168 := Tryd.sizeOf72
  v168 := Tryd.zeroValue72
  t171 := Tryd.underlying76
  a171 := Tryd.isAgg76
  z171 := Tryd.sizeOf76
  v171 := Tryd.zeroValue76
  t173 := Tryd.underlying79
  a173 := Tryd.isAgg79
  z173 := Tryd.sizeOf79
  v173 := Tryd.zeroValue79
  t175 := Tryd.underlying66
  a175 := Tryd.isAgg66
  z175 := Tryd.sizeOf66
  v175 := Tryd.zeroValue66
  t210 := Tryd.underlying82
  a210 := Tryd.isAgg82
  z210 := Tryd.sizeOf82
  v210 := Tryd.zeroValue82
  t212 := Tryd.underlying85
  a212 := Tryd.isAgg85
  z212 := Tryd.sizeOf85
  v212 := Tryd.zeroValue85
  t213 := Tryd.underlying87
  a213 := Tryd.isAgg87
  z213 := Tryd.sizeOf87
  t232 := Tryd.underlying95
  a232 := Tryd.isAgg95
  z232 := Tryd.sizeOf95
  v232 := Tryd.zeroValue95
  t233 := Tryd.underlying96
  a233 := Tryd.isAgg96
  z233 := Tryd.sizeOf96
  v233 := Tryd.zeroValue96
  g15 := by kernel_rfl
  g16 := by kernel_rfl
  g17 := by kernel_rfl
  g18 := by kernel_rfl
  g19 := by kernel_rfl
  t80 := Tryd.underlying97
  a80 := Tryd.isAgg97
  z80 := Tryd.sizeOf97
  v80 := Tryd.zeroValue97
  i0 := by kernel_rfl
  i2 := by kernel_rfl
  i3 := by kernel_rfl
  i4 := by kernel_rfl
  i5 := by kernel_rfl
  i9 := by kernel_rfl
  i20 := by kernel_rfl
  i21 := by kernel_rfl
  i37 := by kernel_rfl
  i46 := by kernel_rfl
  i51 := by kernel_rfl
  i53 := by kernel_rfl
  i75 := by kernel_rfl
  i80 := by kernel_rfl
  i85 := by kernel_rfl
  i127 := by kernel_rfl
  i143 := by kernel_rfl
  i145 := by kernel_rfl
  i167 := by kernel_rfl
  i168 := by kernel_rfl
  i171 := by kernel_rfl
  i173 := by kernel_rfl
  i175 := by kernel_rfl
  i210 := by kernel_rfl
  i212 := by kernel_rfl
  i232 := by kernel_rfl
  i233 := by kernel_rfl
  m15 := by kernel_rfl
  m16 := by kernel_rfl
  m17 := by kernel_rfl
  m18 := by kernel_rfl
  m19 := by kernel_rfl
  c0 := by kernel_rfl
  c2 := by kernel_rfl
  c3 := by kernel_rfl
  c4 := by kernel_rfl
  c5 := by kernel_rfl
  c9 := by kernel_rfl
  c20 := by kernel_rfl
  c21 := by kernel_rfl
  c37 := by kernel_rfl
  c46 := by kernel_rfl
  c51 := by kernel_rfl
  c53 := by kernel_rfl
  c75 := by kernel_rfl
  c80 := by kernel_rfl
  c85 := by kernel_rfl
  c127 := by kernel_rfl
  c143 := by kernel_rfl
  c145 := by kernel_rfl
  c167 := by kernel_rfl
  c168 := by kernel_rfl
  c171 := by kernel_rfl
  c173 := by kernel_rfl
  c175 := by kernel_rfl
  c210 := by kernel_rfl
  c212 := by kernel_rfl
  c213 := by kernel_rfl
  c232 := by kernel_rfl
  c233 := by kernel_rfl }
end Go.Proofs

/- The program's types, as the small machine asks of them; that they are so. -/
namespace Go.Proofs.YtopplbiadpcalaaDoor.U
open Go
def tab (t : Nat) : Option TI := cond (Nat.blt t 112)
 (cond (Nat.blt t 56)
  (cond (Nat.blt t 28)
   (cond (Nat.blt t 14)
    (cond (Nat.blt t 7)
     (cond (Nat.blt t 3)
      (cond (Nat.blt t 1)
       (some ⟨.other, 1, 0, [.un], none, none⟩)
       (cond (Nat.blt t 2)
        (some ⟨.other, 1, 8, [.un], none, none⟩)
        (some ⟨.int .i64, 1, 8, [.int .i64 0], some (.int .i64), none⟩)))
      (cond (Nat.blt t 5)
       (cond (Nat.blt t 4)
        (some ⟨.int .i64, 1, 8, [.int .i64 0], some (.int .i64), none⟩)
        (some ⟨.bool, 1, 1, [.bool false], some .bool, none⟩))
       (cond (Nat.blt t 6)
        (some ⟨.int .u8, 1, 1, [.int .u8 0], some (.int .u8), none⟩)
        (some ⟨.int .u8, 1, 1, [.int .u8 0], some (.int .u8), none⟩))))
     (cond (Nat.blt t 10)
      (cond (Nat.blt t 8)
       (some ⟨.struct [(2, 0), (3, 1), (4, 2), (6, 3)], 4, 24, [.int .i64 0, .int .i64 0, .bool false, .int .u8 0], some (.prod (.int .i64) (.prod (.int .i64) (.prod .bool (.int .u8)))), some [0, 0, 1, 0]⟩)
       (cond (Nat.blt t 9)
        (some ⟨.struct [(2, 0), (3, 1), (4, 2), (6, 3)], 4, 24, [.int .i64 0, .int .i64 0, .bool false, .int .u8 0], some (.prod (.int .i64) (.prod (.int .i64) (.prod .bool (.int .u8)))), some [0, 0, 1, 0]⟩)
        (some ⟨.str, 1, 16, [.str ⟨#[]⟩], some .str, none⟩)))
      (cond (Nat.blt t 12)
       (cond (Nat.blt t 11)
        (some ⟨.str, 1, 16, [.str ⟨#[]⟩], some .str, none⟩)
        (some ⟨.str, 1, 16, [.str ⟨#[]⟩], some .str, none⟩))
       (cond (Nat.blt t 13)
        (some ⟨.int .u64, 1, 8, [.int .u64 0], some (.int .u64), none⟩)
        (some ⟨.struct [(9, 0), (12, 1)], 2, 24, [.str ⟨#[]⟩, .int .u64 0], some (.prod .str (.int .u64)), none⟩)))))
    (cond (Nat.blt t 21)
     (cond (Nat.blt t 17)
      (cond (Nat.blt t 15)
       (some ⟨.struct [(9, 0), (12, 1)], 2, 24, [.str ⟨#[]⟩, .int .u64 0], some (.prod .str (.int .u64)), none⟩)
       (cond (Nat.blt t 16)
        (some ⟨.ptr, 1, 8, [.nilp], none, none⟩)
        (some ⟨.ptr, 1, 8, [.nilp], none, none⟩)))
      (cond (Nat.blt t 19)
       (cond (Nat.blt t 18)
        (some ⟨.ptr, 1, 8, [.nilp], none, none⟩)
        (some ⟨.struct [(17, 0)], 1, 8, [.nilp], none, none⟩))
       (cond (Nat.blt t 20)
        (some ⟨.struct [(17, 0)], 1, 8, [.nilp], none, none⟩)
        (some ⟨.iface, 1, 16, [.ifc true], some .ifc, none⟩))))
     (cond (Nat.blt t 24)
      (cond (Nat.blt t 22)
       (some ⟨.int .i32, 1, 4, [.int .i32 0], some (.int .i32), none⟩)
       (cond (Nat.blt t 23)
        (some ⟨.struct [(3, 0), (2, 1), (9, 2)], 3, 32, [.int .i64 0, .int .i64 0, .str ⟨#[]⟩], some (.prod (.int .i64) (.prod (.int .i64) .str)), some [0, 0, 2]⟩)
        (some ⟨.struct [(3, 0), (2, 1), (9, 2)], 3, 32, [.int .i64 0, .int .i64 0, .str ⟨#[]⟩], some (.prod (.int .i64) (.prod (.int .i64) .str)), some [0, 0, 2]⟩)))
      (cond (Nat.blt t 26)
       (cond (Nat.blt t 25)
        (some ⟨.slice 37, 1, 24, [.nils], some (.sl 37 (.prod .str (.prod (.int .i64) (.prod (.int .i64) .str)))), none⟩)
        (some ⟨.int .i64, 1, 8, [.int .i64 0], some (.int .i64), none⟩))
       (cond (Nat.blt t 27)
        (none)
        (some ⟨.other, 1, 8, [.un], none, none⟩))))))
   (cond (Nat.blt t 42)
    (cond (Nat.blt t 35)
     (cond (Nat.blt t 31)
      (cond (Nat.blt t 29)
       (some ⟨.other, 1, 8, [.un], none, none⟩)
       (cond (Nat.blt t 30)
        (some ⟨.other, 1, 8, [.un], none, none⟩)
        (some ⟨.other, 1, 8, [.un], none, none⟩)))
      (cond (Nat.blt t 33)
       (cond (Nat.blt t 32)
        (some ⟨.other, 1, 8, [.un], none, none⟩)
        (some ⟨.other, 1, 8, [.un], none, none⟩))
       (cond (Nat.blt t 34)
        (some ⟨.other, 1, 8, [.un], none, none⟩)
        (some ⟨.other, 1, 8, [.un], none, none⟩))))
     (cond (Nat.blt t 38)
      (cond (Nat.blt t 36)
       (some ⟨.other, 1, 8, [.un], none, none⟩)
       (cond (Nat.blt t 37)
        (some ⟨.struct [(9, 0), (23, 1)], 4, 48, [.str ⟨#[]⟩, .int .i64 0, .int .i64 0, .str ⟨#[]⟩], some (.prod .str (.prod (.int .i64) (.prod (.int .i64) .str))), some [2, 0, 0, 2]⟩)
        (some ⟨.struct [(9, 0), (23, 1)], 4, 48, [.str ⟨#[]⟩, .int .i64 0, .int .i64 0, .str ⟨#[]⟩], some (.prod .str (.prod (.int .i64) (.prod (.int .i64) .str))), some [2, 0, 0, 2]⟩)))
      (cond (Nat.blt t 40)
       (cond (Nat.blt t 39)
        (some ⟨.other, 1, 8, [.un], none, none⟩)
        (none))
       (cond (Nat.blt t 41)
        (some ⟨.other, 1, 8, [.un], none, none⟩)
        (some ⟨.other, 1, 8, [.un], none, none⟩)))))
    (cond (Nat.blt t 49)
     (cond (Nat.blt t 45)
      (cond (Nat.blt t 43)
       (some ⟨.other, 1, 8, [.un], none, none⟩)
       (cond (Nat.blt t 44)
        (some ⟨.other, 1, 8, [.un], none, none⟩)
        (some ⟨.other, 1, 8, [.un], none, none⟩)))
      (cond (Nat.blt t 47)
       (cond (Nat.blt t 46)
        (some ⟨.other, 1, 8, [.un], none, none⟩)
        (none))
       (cond (Nat.blt t 48)
        (some ⟨.other, 1, 8, [.un], none, none⟩)
        (some ⟨.other, 1, 8, [.un], none, none⟩))))
     (cond (Nat.blt t 52)
      (cond (Nat.blt t 50)
       (some ⟨.slice 5, 1, 24, [.nils], some (.sl 5 (.int .u8)), none⟩)
       (cond (Nat.blt t 51)
        (some ⟨.other, 1, 8, [.un], none, none⟩)
        (some ⟨.iface, 1, 16, [.ifc true], some .ifc, none⟩)))
      (cond (Nat.blt t 54)
       (cond (Nat.blt t 53)
        (some ⟨.iface, 1, 16, [.ifc true], some .ifc, none⟩)
        (none))
       (cond (Nat.blt t 55)
        (some ⟨.other, 1, 8, [.un], none, none⟩)
        (some ⟨.other, 1, 8, [.un], none, none⟩)))))))
  (cond (Nat.blt t 84)
   (cond (Nat.blt t 70)
    (cond (Nat.blt t 63)
     (cond (Nat.blt t 59)
      (cond (Nat.blt t 57)
       (none)
       (cond (Nat.blt t 58)
        (some ⟨.other, 1, 8, [.un], none, none⟩)
        (some ⟨.other, 1, 8, [.un], none, none⟩)))
      (cond (Nat.blt t 61)
       (cond (Nat.blt t 60)
        (some ⟨.int .u64, 1, 8, [.int .u64 0], some (.int .u64), none⟩)
        (some ⟨.other, 1, 8, [.un], none, none⟩))
       (cond (Nat.blt t 62)
        (some ⟨.other, 1, 8, [.un], none, none⟩)
        (some ⟨.other, 1, 8, [.un], none, none⟩))))
     (cond (Nat.blt t 66)
      (cond (Nat.blt t 64)
       (some ⟨.arr 7 3, 7, 56, [.int .i64 0, .int .i64 0, .int .i64 0, .int .i64 0, .int .i64 0, .int .i64 0, .int .i64 0], none, none⟩)
       (cond (Nat.blt t 65)
        (some ⟨.other, 1, 8, [.un], none, none⟩)
        (some ⟨.int .u64, 1, 8, [.int .u64 0], some (.int .u64), none⟩)))
      (cond (Nat.blt t 68)
       (cond (Nat.blt t 67)
        (none)
        (some ⟨.other, 1, 8, [.un], none, none⟩))
       (cond (Nat.blt t 69)
        (some ⟨.other, 1, 8, [.un], none, none⟩)
        (some ⟨.other, 1, 8, [.un], none, none⟩)))))
    (cond (Nat.blt t 77)
     (cond (Nat.blt t 73)
      (cond (Nat.blt t 71)
       (some ⟨.other, 1, 8, [.un], none, none⟩)
       (cond (Nat.blt t 72)
        (some ⟨.int .i64, 1, 8, [.int .i64 0], some (.int .i64), none⟩)
        (some ⟨.ptr, 1, 8, [.nilp], none, none⟩)))
      (cond (Nat.blt t 75)
       (cond (Nat.blt t 74)
        (some ⟨.other, 1, 8, [.un], none, none⟩)
        (some ⟨.other, 1, 8, [.un], none, none⟩))
       (cond (Nat.blt t 76)
        (some ⟨.other, 1, 8, [.un], none, none⟩)
        (some ⟨.arr 24 5, 24, 24, [.int .u8 0, .int .u8 0, .int .u8 0, .int .u8 0, .int .u8 0, .int .u8 0, .int .u8 0, .int .u8 0, .int .u8 0, .int .u8 0, .int .u8 0, .int .u8 0, .int .u8 0, .int .u8 0, .int .u8 0, .int .u8 0, .int .u8 0, .int .u8 0, .int .u8 0, .int .u8 0, .int .u8 0, .int .u8 0, .int .u8 0, .int .u8 0], none, none⟩))))
     (cond (Nat.blt t 80)
      (cond (Nat.blt t 78)
       (some ⟨.other, 1, 8, [.un], none, none⟩)
       (cond (Nat.blt t 79)
        (some ⟨.other, 1, 8, [.un], none, none⟩)
        (none)))
      (cond (Nat.blt t 82)
       (cond (Nat.blt t 81)
        (some ⟨.other, 1, 8, [.un], none, none⟩)
        (some ⟨.struct [(9, 0), (9, 1), (52, 2)], 3, 48, [.str ⟨#[]⟩, .str ⟨#[]⟩, .ifc true], some (.prod .str (.prod .str .ifc)), none⟩))
       (cond (Nat.blt t 83)
        (some ⟨.struct [(9, 0), (9, 1), (52, 2)], 3, 48, [.str ⟨#[]⟩, .str ⟨#[]⟩, .ifc true], some (.prod .str (.prod .str .ifc)), none⟩)
        (some ⟨.other, 1, 8, [.un], none, none⟩))))))
   (cond (Nat.blt t 98)
    (cond (Nat.blt t 91)
     (cond (Nat.blt t 87)
      (cond (Nat.blt t 85)
       (some ⟨.other, 1, 8, [.un], none, none⟩)
       (cond (Nat.blt t 86)
        (some ⟨.arr 20 65, 20, 160, [.int .u64 0, .int .u64 0, .int .u64 0, .int .u64 0, .int .u64 0, .int .u64 0, .int .u64 0, .int .u64 0, .int .u64 0, .int .u64 0, .int .u64 0, .int .u64 0, .int .u64 0, .int .u64 0, .int .u64 0, .int .u64 0, .int .u64 0, .int .u64 0, .int .u64 0, .int .u64 0], none, none⟩)
        (some ⟨.int .u32, 1, 4, [.int .u32 0], some (.int .u32), none⟩)))
      (cond (Nat.blt t 89)
       (cond (Nat.blt t 88)
        (none)
        (some ⟨.other, 1, 8, [.un], none, none⟩))
       (cond (Nat.blt t 90)
        (some ⟨.other, 1, 8, [.un], none, none⟩)
        (some ⟨.ptr, 1, 8, [.nilp], none, none⟩))))
     (cond (Nat.blt t 94)
      (cond (Nat.blt t 92)
       (some ⟨.ptr, 1, 8, [.nilp], none, none⟩)
       (cond (Nat.blt t 93)
        (some ⟨.struct [(9, 0)], 1, 16, [.str ⟨#[]⟩], some .str, some [2]⟩)
        (some ⟨.struct [(9, 0)], 1, 16, [.str ⟨#[]⟩], some .str, some [2]⟩)))
      (cond (Nat.blt t 96)
       (cond (Nat.blt t 95)
        (some ⟨.other, 1, 8, [.un], none, none⟩)
        (some ⟨.arr 32 5, 32, 32, [.int .u8 0, .int .u8 0, .int .u8 0, .int .u8 0, .int .u8 0, .int .u8 0, .int .u8 0, .int .u8 0, .int .u8 0, .int .u8 0, .int .u8 0, .int .u8 0, .int .u8 0, .int .u8 0, .int .u8 0, .int .u8 0, .int .u8 0, .int .u8 0, .int .u8 0, .int .u8 0, .int .u8 0, .int .u8 0, .int .u8 0, .int .u8 0, .int .u8 0, .int .u8 0, .int .u8 0, .int .u8 0, .int .u8 0, .int .u8 0, .int .u8 0, .int .u8 0], none, none⟩))
       (cond (Nat.blt t 97)
        (none)
        (some ⟨.other, 1, 8, [.un], none, none⟩)))))
    (cond (Nat.blt t 105)
     (cond (Nat.blt t 101)
      (cond (Nat.blt t 99)
       (some ⟨.struct [(17, 0), (17, 1), (17, 2), (9, 3)], 4, 40, [.nilp, .nilp, .nilp, .str ⟨#[]⟩], none, none⟩)
       (cond (Nat.blt t 100)
        (some ⟨.struct [(17, 0), (17, 1), (17, 2), (9, 3)], 4, 40, [.nilp, .nilp, .nilp, .str ⟨#[]⟩], none, none⟩)
        (some ⟨.arr 0 16, 0, 0, [], none, none⟩)))
      (cond (Nat.blt t 103)
       (cond (Nat.blt t 102)
        (none)
        (none))
       (cond (Nat.blt t 104)
        (some ⟨.other, 1, 8, [.un], none, none⟩)
        (some ⟨.int .u8, 1, 1, [.int .u8 0], some (.int .u8), none⟩))))
     (cond (Nat.blt t 108)
      (cond (Nat.blt t 106)
       (some ⟨.int .u8, 1, 1, [.int .u8 0], some (.int .u8), none⟩)
       (cond (Nat.blt t 107)
        (some ⟨.other, 1, 8, [.un], none, none⟩)
        (some ⟨.int .i32, 1, 4, [.int .i32 0], some (.int .i32), none⟩)))
      (cond (Nat.blt t 110)
       (cond (Nat.blt t 109)
        (some ⟨.int .i32, 1, 4, [.int .i32 0], some (.int .i32), none⟩)
        (some ⟨.struct [(12, 0), (12, 1), (86, 2), (104, 3), (5, 4), (5, 5), (105, 6), (106, 7), (90, 8), (107, 9), (108, 10)], 11, 48, [.int .u64 0, .int .u64 0, .int .u32 0, .int .u8 0, .int .u8 0, .int .u8 0, .int .u8 0, .un, .nilp, .int .i32 0, .int .i32 0], none, none⟩))
       (cond (Nat.blt t 111)
        (some ⟨.struct [(12, 0), (12, 1), (86, 2), (104, 3), (5, 4), (5, 5), (105, 6), (106, 7), (90, 8), (107, 9), (108, 10)], 11, 48, [.int .u64 0, .int .u64 0, .int .u32 0, .int .u8 0, .int .u8 0, .int .u8 0, .int .u8 0, .un, .nilp, .int .i32 0, .int .i32 0], none, none⟩)
        (some ⟨.other, 1, 8, [.nilp], none, none⟩))))))))
 none
def tabN : Nat := 112

theorem tab_all : (List.range tabN).all (fun t => match tab t with | some i => tchk Tryd.prog t i | none => true) = true := by kernel_rfl
theorem tab_out (t : Nat) (h : Nat.blt t tabN = false) : tab t = none := by
  unfold tab
  have h : Nat.blt t 112 = false := h
  rw [h]
  rfl
theorem tab_ok : TOk Tryd.prog tab := by
  intro t i h
  cases hb : Nat.blt t tabN with
  | false => rw [tab_out t hb] at h; cases h
  | true =>
    have := List.all_eq_true.1 tab_all t (List.mem_range.2 (Nat.blt_eq.mp hb))
    rw [h] at this
    exact this
theorem follows : Tryd.prog.follows .mixedOrders = true := by kernel_rfl
end Go.Proofs.YtopplbiadpcalaaDoor.U

/- Values as texts: plain definitions, no program in sight. -/
namespace Go.Proofs.YtopplbiadpcalaaDoor.K
open Go

abbrev Val := Int × (Int × ByteArray)
def hexd (n : Nat) : UInt8 := if n < 10 then UInt8.ofNat (48 + n) else UInt8.ofNat (87 + n)
def escB (c : UInt8) : List UInt8 :=
  if c.toNat = 34 ∨ c.toNat = 92 then [92, c]
  else if c.toNat < 32 ∨ 126 < c.toNat then [92, 120, hexd (c.toNat / 16), hexd (c.toNat % 16)]
  else [c]
def quoteL (l : List UInt8) : List UInt8 := 34 :: (l.flatMap escB ++ [34])
noncomputable def itoaB (n : Int) : ByteArray := ⟨(Lib.itoa n).toArray⟩
noncomputable def text (v : Val) : ByteArray := if v.1 = 1 then itoaB v.2.1 else if v.1 = 2 then ⟨(quoteL v.2.2.data.toList).toArray⟩ else ⟨#[63]⟩
def inI64 (n : Int) : Bool := decide (-9223372036854775808 ≤ n) && decide (n ≤ 9223372036854775807)
def check (v : Val) : Int := if v.1 = 1 ∧ v.2.2.size = 0 ∨ v.1 = 2 ∧ v.2.1 = 0 ∧ v.2.2.size ≤ 64 then 0 else 30
def letter (c : Int) : Bool := decide (97 ≤ c ∧ c ≤ 122) || decide (65 ≤ c ∧ c ≤ 90) || decide (c = 95)
def hexv (c : Int) : Int := if 48 ≤ c ∧ c ≤ 57 then c - 48 else if 97 ≤ c ∧ c ≤ 102 then c - 87 else 16
theorem escB_len (c : UInt8) : (escB c).length ≤ 4 := by
  unfold escB
  split
  · simp
  · split <;> simp
theorem hexd_tab : ∀ n : Fin 16, (ByteArray.mk #[(48 : UInt8), (49 : UInt8), (50 : UInt8), (51 : UInt8), (52 : UInt8), (53 : UInt8), (54 : UInt8), (55 : UInt8), (56 : UInt8), (57 : UInt8), (97 : UInt8), (98 : UInt8), (99 : UInt8), (100 : UInt8), (101 : UInt8), (102 : UInt8)]).data.toList.getD n.val (0 : UInt8) = hexd n.val := by decide
theorem hexd_size : ((ByteArray.mk #[(48 : UInt8), (49 : UInt8), (50 : UInt8), (51 : UInt8), (52 : UInt8), (53 : UInt8), (54 : UInt8), (55 : UInt8), (56 : UInt8), (57 : UInt8), (97 : UInt8), (98 : UInt8), (99 : UInt8), (100 : UInt8), (101 : UInt8), (102 : UInt8)]).size : Int) = 16 := rfl
theorem hexd_lt (n : Nat) : (hexd n).toNat < 256 := (hexd n).toNat_lt
theorem hexd_ok : ∀ n : Fin 16, 48 ≤ (hexd n.val).toNat ∧ (hexd n.val).toNat ≤ 57 ∧ (hexd n.val).toNat - 48 = n.val ∨ 97 ≤ (hexd n.val).toNat ∧ (hexd n.val).toNat ≤ 102 ∧ (hexd n.val).toNat - 87 = n.val := by decide
/-- A letter's value as a digit (99: none). -/
def hd (c : Nat) : Nat := if 48 ≤ c ∧ c ≤ 57 then c - 48 else if 97 ≤ c ∧ c ≤ 122 then c - 87 else if 65 ≤ c ∧ c ≤ 90 then c - 55 else 99
/-- What two letters say as a number of base 16 (the error: 2 where they say none). -/
noncomputable def hex2 (s : ByteArray) : Int × Option Int :=
  if hd (s.data.toList.getD 0 0).toNat < 16 ∧ hd (s.data.toList.getD 1 0).toNat < 16 then (((16 * hd (s.data.toList.getD 0 0).toNat + hd (s.data.toList.getD 1 0).toNat : Nat) : Int), none) else (0, some 2)
end Go.Proofs.YtopplbiadpcalaaDoor.K

/- strconv.ParseUint (function 40): its row: what must hold, what it answers. -/
namespace Go.Proofs.YtopplbiadpcalaaDoor.U
open Go
noncomputable def sp40 : Sp := Sp.of [⟨false, .str⟩, ⟨false, (.int .i64)⟩, ⟨false, (.int .i64)⟩] [⟨false, (.int .u64), false⟩, ⟨false, .ifc, false⟩] (fun x1 x2 x3 => (decide (x1.size = 2) && (x2 == 16 && x3 == 8), ((K.hex2 x1).1, (K.hex2 x1).2.isNone)))
end Go.Proofs.YtopplbiadpcalaaDoor.U

/- eyrie/value.inner (function 30): what it computes, as a plain function: printed by a program of ours off the small machine, checked by the kernel. -/
namespace Go.Proofs.YtopplbiadpcalaaDoor.U
open Go
def cs30 : List Ac := [⟨false, .str⟩]
def rs30 : List Rc := [⟨false, .str, false⟩]
def lv30 : Live := fun i => cond (Nat.beq i 3) (some ⟨[(0, []), (3, [.own 3 (.int .u8) 5]), (4, [])], []⟩) (none)
def kx30 : Keep := ⟨[(0, [])], []⟩
noncomputable def C30 : Nat → Option Sp := tabC [(40, sp40)]
set_option maxRecDepth 100000
def st30_3 (v0 : ByteArray) (v1 : Int) (v2 : List Int) : St := ⟨(64 : Nat), [((0 : Nat), .l (.str v0)), ((3 : Nat), .l (.rs (3 : Nat))), ((4 : Nat), .l (.int IntKind.i64 v1))], [((3 : Nat), .row (Kn.int IntKind.u8) (5 : Nat) v2 (none) false)], []⟩
noncomputable def B30_3 (r3 : ByteArray → Int → List Int → Option ByteArray) (v0 : ByteArray) (v1 : Int) (v2 : List Int) : Option ByteArray :=
 (cond (decide (v1 < IntKind.i64.wrap ((↑v0.size : Int) - (1 : Int))))
  (cond (decide ((0 : Int) ≤ v1) && decide (v1 < (↑v0.size : Int)))
   (cond ((↑(v0.data.toList.getD v1.toNat (0 : UInt8)).toNat : Int) != (92 : Int))
    (cond (decide ((0 : Int) ≤ v1) && decide (v1 < (↑v0.size : Int)))
     (cond (decide ((v2.length + [(↑(v0.data.toList.getD v1.toNat (0 : UInt8)).toNat : Int)].length) * (1 : Nat) ≤ (140737488355328 : Nat)))
      (r3 (v0) (IntKind.i64.wrap (v1 + (1 : Int))) (v2 ++ [(↑(v0.data.toList.getD v1.toNat (0 : UInt8)).toNat : Int)]))
      none)
     none)
    (cond (decide ((0 : Int) ≤ IntKind.i64.wrap (v1 + (1 : Int))) && decide (IntKind.i64.wrap (v1 + (1 : Int)) < (↑v0.size : Int)))
     (cond ((↑(v0.data.toList.getD (IntKind.i64.wrap (v1 + (1 : Int))).toNat (0 : UInt8)).toNat : Int) == (120 : Int))
      (cond (decide (IntKind.i64.wrap (IntKind.i64.wrap (v1 + (1 : Int)) + (2 : Int)) < (↑v0.size : Int)))
       (cond (decide ((0 : Int) ≤ IntKind.i64.wrap (IntKind.i64.wrap (v1 + (1 : Int)) + (1 : Int))) && decide (IntKind.i64.wrap (IntKind.i64.wrap (v1 + (1 : Int)) + (1 : Int)) ≤ IntKind.i64.wrap (IntKind.i64.wrap (v1 + (1 : Int)) + (3 : Int))) && decide (IntKind.i64.wrap (IntKind.i64.wrap (v1 + (1 : Int)) + (3 : Int)) ≤ (↑v0.size : Int)))
        (cond (decide ((v0.extract (IntKind.i64.wrap (IntKind.i64.wrap (v1 + (1 : Int)) + (1 : Int))).toNat (IntKind.i64.wrap (IntKind.i64.wrap (v1 + (1 : Int)) + (3 : Int))).toNat).size = (2 : Nat)) && ((16 : Int) == (16 : den (Ac.mk false (Kn.int IntKind.i64)).k) && (8 : Int) == (8 : den (Ac.mk false (Kn.int IntKind.i64)).k)))
         (cond (!(K.hex2 (v0.extract (IntKind.i64.wrap (IntKind.i64.wrap (v1 + (1 : Int)) + (1 : Int))).toNat (IntKind.i64.wrap (IntKind.i64.wrap (v1 + (1 : Int)) + (3 : Int))).toNat)).snd.isNone)
          (some (ByteArray.mk #[]))
          (cond (decide ((v2.length + [IntKind.u8.wrap (K.hex2 (v0.extract (IntKind.i64.wrap (IntKind.i64.wrap (v1 + (1 : Int)) + (1 : Int))).toNat (IntKind.i64.wrap (IntKind.i64.wrap (v1 + (1 : Int)) + (3 : Int))).toNat)).fst].length) * (1 : Nat) ≤ (140737488355328 : Nat)))
           (r3 (v0) (IntKind.i64.wrap (IntKind.i64.wrap (IntKind.i64.wrap (v1 + (1 : Int)) + (2 : Int)) + (1 : Int))) (v2 ++ [IntKind.u8.wrap (K.hex2 (v0.extract (IntKind.i64.wrap (IntKind.i64.wrap (v1 + (1 : Int)) + (1 : Int))).toNat (IntKind.i64.wrap (IntKind.i64.wrap (v1 + (1 : Int)) + (3 : Int))).toNat)).fst]))
           none))
         none)
        none)
       (cond (decide ((0 : Int) ≤ IntKind.i64.wrap (v1 + (1 : Int))) && decide (IntKind.i64.wrap (v1 + (1 : Int)) < (↑v0.size : Int)))
        (cond (decide ((v2.length + [(↑(v0.data.toList.getD (IntKind.i64.wrap (v1 + (1 : Int))).toNat (0 : UInt8)).toNat : Int)].length) * (1 : Nat) ≤ (140737488355328 : Nat)))
         (r3 (v0) (IntKind.i64.wrap (IntKind.i64.wrap (v1 + (1 : Int)) + (1 : Int))) (v2 ++ [(↑(v0.data.toList.getD (IntKind.i64.wrap (v1 + (1 : Int))).toNat (0 : UInt8)).toNat : Int)]))
         none)
        none))
      (cond (decide ((0 : Int) ≤ IntKind.i64.wrap (v1 + (1 : Int))) && decide (IntKind.i64.wrap (v1 + (1 : Int)) < (↑v0.size : Int)))
       (cond (decide ((v2.length + [(↑(v0.data.toList.getD (IntKind.i64.wrap (v1 + (1 : Int))).toNat (0 : UInt8)).toNat : Int)].length) * (1 : Nat) ≤ (140737488355328 : Nat)))
        (r3 (v0) (IntKind.i64.wrap (IntKind.i64.wrap (v1 + (1 : Int)) + (1 : Int))) (v2 ++ [(↑(v0.data.toList.getD (IntKind.i64.wrap (v1 + (1 : Int))).toNat (0 : UInt8)).toNat : Int)]))
        none)
       none))
     none))
   none)
  (some (ByteArray.mk (List.map (fun n => UInt8.ofNat n.toNat) v2).toArray)))
noncomputable def M30 (r3 : ByteArray → Int → List Int → Option ByteArray) (x1 : ByteArray) : Option ByteArray :=
 (r3 (x1) ((1 : Int)) ([]))
theorem B30_3_ok (Lo : Nat → St → Option ByteArray) (v0 : ByteArray) (v1 : Int) (v2 : List Int) : roundG tab C30 lv30 (dec rs30) Lo Tryd.f30 kx30 3 (st30_3 v0 v1 v2) = B30_3 (fun v0 v1 v2 => Lo 3 (st30_3 v0 v1 v2)) v0 v1 v2 := by kernel_rfl
theorem M30_ok (Lo : Nat → St → Option ByteArray) (x1 : ByteArray) : callG tab C30 lv30 (dec rs30) Lo Tryd.f30 kx30 [canon false .str x1] [] = M30 (fun v0 v1 v2 => Lo 3 (st30_3 v0 v1 v2)) x1 := by kernel_rfl
noncomputable def l30 : Nat → (ByteArray → Int → List Int → Option ByteArray)
  | 0 => (fun _ _ _ => none)
  | m + 1 => (B30_3 (l30 m))
noncomputable def F30 (m : Nat) (x1 : ByteArray) : Option ByteArray := M30 (l30 m) x1
theorem l30_ok : ∀ m : Nat, (∀ (v0 : ByteArray) (v1 : Int) (v2 : List Int), loF tab C30 lv30 (dec rs30) Tryd.f30 kx30 m 3 (st30_3 v0 v1 v2) = (l30 m) v0 v1 v2)
  | 0 => by
    exact fun _ _ _ => rfl
  | m + 1 => by
    have ih := l30_ok m
    have h3 : (fun (v0 : ByteArray) (v1 : Int) (v2 : List Int) => loF tab C30 lv30 (dec rs30) Tryd.f30 kx30 m 3 (st30_3 v0 v1 v2)) = (l30 m) := by funext v0 v1 v2; exact ih v0 v1 v2
    exact fun v0 v1 v2 => (B30_3_ok (loF tab C30 lv30 (dec rs30) Tryd.f30 kx30 m) v0 v1 v2).trans (congrFun (congrFun (congrFun (congrArg B30_3 h3) v0) v1) v2)
theorem F30_ok (m : Nat) (x1 : ByteArray) : callF tab C30 lv30 (dec rs30) m Tryd.f30 kx30 [canon false .str x1] [] = F30 m x1 := by
    have ih := l30_ok m
    have h3 : (fun (v0 : ByteArray) (v1 : Int) (v2 : List Int) => loF tab C30 lv30 (dec rs30) Tryd.f30 kx30 m 3 (st30_3 v0 v1 v2)) = (l30 m) := by funext v0 v1 v2; exact ih v0 v1 v2
    exact (M30_ok (loF tab C30 lv30 (dec rs30) Tryd.f30 kx30 m) x1).trans (congrFun (congrArg M30 h3) x1)
theorem fn30 {G : GB} (hC : COk Tryd.prog G C30) (m : Nat) (x1 : ByteArray) (y : ByteArray) (h : F30 m x1 = some y) : FnR Tryd.prog G 30 [canon false .str x1] [] (fun v hout => dec rs30 v hout = some y) :=
  callF_sound (Lv := lv30) (n := m) (kx := kx30) follows tab_ok hC Tryd.func30 ((F30_ok m x1).trans h)
theorem F30_mono {m m' : Nat} (hm : m ≤ m') (x1 : ByteArray) {y : ByteArray} (h : F30 m x1 = some y) : F30 m' x1 = some y := (F30_ok m' x1).symm.trans (callF_mono hm ((F30_ok m x1).trans h))
theorem ent30 : Ent Tryd.prog 30 := ⟨_, Tryd.func30, by kernel_rfl, by kernel_rfl⟩
theorem C30_ok {G : GB} (h40 : RowOk Tryd.prog G 40 sp40) : COk Tryd.prog G C30 := tabC_ok (by
  intro p hp
  simp only [List.mem_cons, List.not_mem_nil, or_false] at hp
  rcases hp with rfl
  · exact h40
)
end Go.Proofs.YtopplbiadpcalaaDoor.U

/- Plain lemmas on numbers, bytes and lists, no program in sight. -/
namespace Go.Proofs.YtopplbiadpcalaaDoor.K
open Go Go.Proofs.YtopplbiadpcalaaDoor.U

theorem w64 {n : Int} (h : -9223372036854775808 ≤ n ∧ n ≤ 9223372036854775807) : IntKind.i64.wrap n = n := IntWalk.i64_in _ h
theorem wu64 {n : Int} (h : 0 ≤ n ∧ n ≤ 18446744073709551615) : IntKind.u64.wrap n = n := IntWalk.u64_in _ h
theorem wu8 {n : Int} (h : 0 ≤ n ∧ n ≤ 255) : IntKind.u8.wrap n = n := IntWalk.u8_in _ h
theorem wi32 {n : Int} (h : -2147483648 ≤ n ∧ n ≤ 2147483647) : IntKind.i32.wrap n = n := IntWalk.i32_in _ h
/-- Bytes as numbers, and back. -/
def toI (l : List UInt8) : List Int := l.map fun c => (c.toNat : Int)
def ofI (l : List Int) : List UInt8 := l.map fun n => UInt8.ofNat n.toNat
theorem ofI_toI (l : List UInt8) : ofI (toI l) = l := by
  simp only [ofI, toI, List.map_map]
  rw [show (fun n : Int => UInt8.ofNat n.toNat) ∘ (fun c : UInt8 => (c.toNat : Int)) = id from by funext c; simp]
  exact List.map_id l
theorem toI_app (l r : List UInt8) : toI (l ++ r) = toI l ++ toI r := List.map_append
theorem toI_len (l : List UInt8) : (toI l).length = l.length := List.length_map _
theorem toI_get (l : List UInt8) (i : Nat) (h : i < l.length) (d : Int) : (toI l).getD i d = (l[i].toNat : Int) := by
  simp [toI, List.getD_eq_getElem?_getD, h]
theorem get_byte (l : List UInt8) (i : Nat) (h : i < l.length) (d : UInt8) : l.getD i d = l[i] := by
  simp [List.getD_eq_getElem?_getD, h]
theorem u8_lt (c : UInt8) : c.toNat < 256 := c.toNat_lt
theorem dfl_int (k : IntKind) : dfl (.int k) = (0 : Int) := rfl
/-! ### Tests as 'if' -/
theorem cond_dec {α : Type} (p : Prop) [Decidable p] (x y : α) : cond (decide p) x y = if p then x else y := by
  by_cases h : p <;> simp [h]
theorem and_dec (p q : Prop) [Decidable p] [Decidable q] : (decide p && decide q) = decide (p ∧ q) := by
  by_cases h : p <;> by_cases h' : q <;> simp [h, h']
theorem or_dec (p q : Prop) [Decidable p] [Decidable q] : (decide p || decide q) = decide (p ∨ q) := by
  by_cases h : p <;> by_cases h' : q <;> simp [h, h']
theorem not_dec (p : Prop) [Decidable p] : (!decide p) = decide (¬ p) := by
  by_cases h : p <;> simp [h]
theorem beq_int (a b : Int) : (a == b) = decide (a = b) := rfl
theorem bne_int (a b : Int) : (a != b) = decide (a ≠ b) := by
  by_cases h : a = b <;> simp [h]
theorem beq_nat (a b : Nat) : (a == b) = decide (a = b) := by
  by_cases h : a = b <;> simp [h]
/-- Both ways of a test. -/
theorem ite_i {α : Type} {Q : α → Prop} {c : Prop} [Decidable c] {a b : α} (h1 : c → Q a) (h2 : ¬ c → Q b) : Q (if c then a else b) := by
  by_cases h : c
  · rw [if_pos h]; exact h1 h
  · rw [if_neg h]; exact h2 h
theorem bytes_ext {a b : ByteArray} (h : a.data.toList = b.data.toList) : a = b := by
  obtain ⟨⟨x⟩⟩ := a
  obtain ⟨⟨y⟩⟩ := b
  simp at h
  rw [h]
theorem bytes_size (a : ByteArray) : a.size = a.data.toList.length := by
  show a.data.size = _
  rw [Array.length_toList]
theorem bytes_beq (a b : ByteArray) : (a.toList == b.toList) = decide (a = b) := by
  rw [← beq_toListBytes, beq_toListBytes, ByteArray.toList_eq, ByteArray.toList_eq]
  by_cases h : a = b
  · subst h; simp
  · have : ¬ a.data.toList = b.data.toList := fun e => h (bytes_ext e)
    simp only [decide_eq_false h]
    simpa using fun e => h (bytes_ext (by simp [e]))
theorem bytes_app (a b : ByteArray) : (a ++ b).data.toList = a.data.toList ++ b.data.toList := by simp
theorem bytes_mk (l : List UInt8) : (⟨l.toArray⟩ : ByteArray).data.toList = l := rfl
theorem mk_bytes (a : ByteArray) : (⟨a.data.toList.toArray⟩ : ByteArray) = a := bytes_ext rfl
theorem mk_size (l : List UInt8) : (⟨l.toArray⟩ : ByteArray).size = l.length := by rw [bytes_size]
theorem fdiv16 (c : Nat) : Int.fdiv (c : Int) ((2 : Int) ^ min (Int.toNat (4 : Int)) (8 : Nat)) = ((c / 16 : Nat) : Int) := by
  rw [show ((2 : Int) ^ min (Int.toNat (4 : Int)) (8 : Nat)) = 16 from rfl, Int.fdiv_eq_ediv_of_nonneg _ (by decide)]
  rfl
theorem and15 (c : Nat) (h : c < 256) : bitsV BinOp.and IntKind.u8 (c : Int) (15 : Int) = ((c % 16 : Nat) : Int) := by
  have key : ∀ x : Fin 256, bitsV BinOp.and IntKind.u8 ((x.val : Nat) : Int) (15 : Int) = ((x.val % 16 : Nat) : Int) := by decide +kernel
  exact key ⟨c, h⟩
end Go.Proofs.YtopplbiadpcalaaDoor.K

/- value.inner: it ends, with no more bytes than came in; what was put in quotes comes out as it was. -/
namespace Go.Proofs.YtopplbiadpcalaaDoor.U
open Go Go.Proofs.YtopplbiadpcalaaDoor.K

theorem wr2 (i : Int) (h : 0 ≤ i ∧ i ≤ 4398046511104) : IntKind.i64.wrap (i + 1) = i + 1 ∧ IntKind.i64.wrap (i + 1 + 1) = i + 1 + 1 ∧ IntKind.i64.wrap (i + 1 + 2) = i + 1 + 2 ∧ IntKind.i64.wrap (i + 1 + 3) = i + 1 + 3 ∧ IntKind.i64.wrap (i + 1 + 2 + 1) = i + 1 + 2 + 1 ∧ IntKind.i64.wrap (i - 1) = i - 1 :=
  ⟨w64 (by omega), w64 (by omega), w64 (by omega), w64 (by omega), w64 (by omega), w64 (by omega)⟩
theorem ext_size (S : ByteArray) (a b : Nat) (h : a ≤ b) (hb : b ≤ S.size) : (S.extract a b).size = b - a := by
  rw [ByteArray.size_extract]; omega
theorem b16 : ((16 : Int) == (16 : den (Ac.mk false (Kn.int IntKind.i64)).k)) = true := rfl
theorem b8 : ((8 : Int) == (8 : den (Ac.mk false (Kn.int IntKind.i64)).k)) = true := rfl
theorem inner_any (S : ByteArray) (hL : S.size ≤ 1099511627776) (i : Int) (hi : 1 ≤ i ∧ i ≤ 2199023255552) (acc : List Int) (ha : (acc.length : Int) ≤ i) (r : ByteArray → Int → List Int → Option ByteArray) :
    (∃ (i' : Int) (acc' : List Int), i < i' ∧ i' ≤ S.size + 1 ∧ (acc'.length : Int) = acc.length + 1 ∧ B30_3 r S i acc = r S i' acc') ∨ B30_3 r S i acc = some (ByteArray.mk (ofI acc).toArray) ∨ B30_3 r S i acc = some (ByteArray.mk #[]) := by
  obtain ⟨e1, e2, e3, e4, e5, -⟩ := wr2 i (by omega)
  obtain ⟨-, -, -, -, -, e7⟩ := wr2 (S.size : Int) (by omega)
  simp only [B30_3, cond_dec, beq_int, bne_int, and_dec, e1, e2, e3, e4, e5, e7, List.length_cons, List.length_nil]
  clear e1 e2 e3 e4 e5 e7
  by_cases h1 : i < (S.size : Int) - 1
  rotate_left
  · rw [if_neg h1]; exact .inr (.inl rfl)
  rw [if_pos h1, if_pos (by omega)]
  obtain ⟨Q, hQ⟩ : ∃ Q : Option ByteArray → Prop, ∀ o, Q o ↔ ((∃ (i' : Int) (acc' : List Int), i < i' ∧ i' ≤ S.size + 1 ∧ (acc'.length : Int) = acc.length + 1 ∧ o = r S i' acc') ∨ o = some (ByteArray.mk (ofI acc).toArray) ∨ o = some (ByteArray.mk #[])) := ⟨_, fun _ => Iff.rfl⟩
  rw [← hQ]
  have leaf : ∀ (i' : Int) (x : Int), i < i' → i' ≤ S.size + 1 → Q (r S i' (acc ++ [x])) := fun i' x h2 h3 => (hQ _).2 (.inl ⟨i', _, h2, h3, by simp, rfl⟩)
  have empt : Q (some (ByteArray.mk #[])) := (hQ _).2 (.inr (.inr rfl))
  by_cases h3 : i + 1 + 2 < (S.size : Int)
  · have hx : (S.extract (i + 1 + 1).toNat (i + 1 + 3).toNat).size = 2 := by rw [ext_size _ _ _ (by omega) (by omega)]; omega
    rw [if_pos h3]
    simp only [hx, and_self, if_true]
    clear hx
    cases hn : (hex2 (S.extract (i + 1 + 1).toNat (i + 1 + 3).toNat)).snd.isNone with
    | true =>
      simp only [Bool.not_true, cond_false]
      repeat' (refine ite_i (Q := Q) (fun _ => ?_) (fun _ => ?_))
      all_goals first
        | omega
        | exact leaf _ _ (by omega) (by omega)
    | false =>
      simp only [Bool.not_false, cond_true]
      repeat' (refine ite_i (Q := Q) (fun _ => ?_) (fun _ => ?_))
      all_goals first
        | omega
        | exact leaf _ _ (by omega) (by omega)
        | exact empt
  · rw [if_neg h3]
    repeat' (refine ite_i (Q := Q) (fun _ => ?_) (fun _ => ?_))
    all_goals first
      | omega
      | exact leaf _ _ (by omega) (by omega)
theorem inner_all (S : ByteArray) (hL : S.size ≤ 1099511627776) : ∀ (n : Nat) (i : Int) (acc : List Int), 1 ≤ i → (S.size : Int) + 1 ≤ i + n → i ≤ S.size + 1 → (acc.length : Int) + 1 ≤ i → ∃ y : List Int, l30 (n + 1) S i acc = some (ByteArray.mk (ofI y).toArray) ∧ y.length ≤ S.size
  | 0, i, acc, h1, h2, h3, ha => by
    rcases inner_any S hL i (by omega) acc (by omega) (l30 0) with ⟨i', acc', h4, h5, h6, h7⟩ | h | h
    · omega
    · exact ⟨acc, h, by omega⟩
    · exact ⟨[], h, Nat.zero_le _⟩
  | n + 1, i, acc, h1, h2, h3, ha => by
    rcases inner_any S hL i (by omega) acc (by omega) (l30 (n + 1)) with ⟨i', acc', h4, h5, h6, h7⟩ | h | h
    · obtain ⟨y, h8, h9⟩ := inner_all S hL n i' acc' (by omega) (by omega) (by omega) (by omega)
      exact ⟨y, h7.trans h8, h9⟩
    · exact ⟨acc, h, by omega⟩
    · exact ⟨[], h, Nat.zero_le _⟩
theorem hd_d : ∀ n : Fin 16, hd (hexd n.val).toNat = n.val := by decide
theorem ext_get (S : ByteArray) (a b k : Nat) (hk : a + k < b) (hb : b ≤ S.size) (x : UInt8) (hx : S.data.toList.getD (a + k) 0 = x) : (S.extract a b).data.toList.getD k 0 = x := by
  have hl : a + k < S.data.toList.length := by rw [← bytes_size]; omega
  rw [List.getD_eq_getElem?_getD, List.getElem?_eq_getElem hl] at hx
  rw [ByteArray.data_extract, List.getD_eq_getElem?_getD]
  have : (S.data.extract a b).toList[k]? = some S.data.toList[a + k] := by
    have hk2 : k < (S.data.extract a b).size := by rw [Array.size_extract]; have := bytes_size S; rw [Array.length_toList] at this; omega
    rw [Array.getElem?_toList, Array.getElem?_eq_getElem hk2, Array.getElem_extract, Array.getElem_toList]
  rw [this]
  simpa using hx
set_option maxHeartbeats 4000000 in
/-- One letter of a text that was put in quotes. -/
theorem inner_step (S : ByteArray) (hL : S.size ≤ 1099511627776) (pre post : List UInt8) (c : UInt8) (hS : S.data.toList = pre ++ escB c ++ post) (hp : 1 ≤ post.length) (acc : List UInt8) (ha : acc.length ≤ pre.length) (r : ByteArray → Int → List Int → Option ByteArray) :
    B30_3 r S (pre.length : Int) (toI acc) = r S ((pre.length + (escB c).length : Nat) : Int) (toI (acc ++ [c])) := by
  have hc := u8_lt c
  have hlen : S.size = pre.length + (escB c).length + post.length := by rw [bytes_size, hS]; simp only [List.length_append]
  have hg : ∀ (j : Nat) (x : UInt8), (escB c)[j]? = some x → S.data.toList.getD (pre.length + j) 0 = x := by
    intro j x hj
    rw [hS, List.append_assoc, List.getD_eq_getElem?_getD, List.getElem?_append_right (by omega), Nat.add_sub_cancel_left, List.getElem?_append_left (List.getElem?_eq_some_iff.1 hj).1, hj]
    rfl
  rw [toI_app]
  obtain ⟨e1, e2, e3, e4, e5, -⟩ := wr2 (pre.length : Int) (by omega)
  obtain ⟨-, -, -, -, -, e7⟩ := wr2 (S.size : Int) (by omega)
  simp only [B30_3, cond_dec, beq_int, bne_int, and_dec, toI_len, e1, e2, e3, e4, e5, e7, List.length_cons, List.length_nil]
  clear e1 e2 e3 e4 e5 e7
  by_cases h1 : c.toNat = 34 ∨ c.toNat = 92
  · have he : escB c = [92, c] := by unfold escB; rw [if_pos h1]
    rw [he] at hlen hg ⊢
    simp only [List.length_cons, List.length_nil] at hlen ⊢
    have g0 := hg 0 92 rfl
    have g1 := hg 1 c rfl
    rw [Nat.add_zero] at g0
    rw [show ((pre.length : Int) + 1).toNat = pre.length + 1 by omega]
    simp only [Int.toNat_natCast, g0, g1]
    have e92 : (((92 : UInt8).toNat : Nat) : Int) = 92 := rfl
    simp only [e92]
    clear hg g0 g1 e92 hS he
    rw [if_pos (by omega), if_pos (by omega), if_neg (by omega), if_pos (by omega), if_neg (by omega), if_pos (by omega), if_pos (by omega)]
    congr 1
  · by_cases h2 : c.toNat < 32 ∨ 126 < c.toNat
    · have he : escB c = [92, 120, hexd (c.toNat / 16), hexd (c.toNat % 16)] := by unfold escB; rw [if_neg h1, if_pos h2]
      rw [he] at hlen hg ⊢
      simp only [List.length_cons, List.length_nil] at hlen ⊢
      have g0 := hg 0 92 rfl
      have g1 := hg 1 120 rfl
      have g2 := hg 2 _ rfl
      have g3 := hg 3 _ rfl
      rw [Nat.add_zero] at g0
      have x0 := ext_get S (pre.length + 2) (pre.length + 4) 0 (by omega) (by omega) (hexd (c.toNat / 16)) (by rw [Nat.add_zero]; exact g2)
      have x1 := ext_get S (pre.length + 2) (pre.length + 4) 1 (by omega) (by omega) _ g3
      have xs : (S.extract (pre.length + 2) (pre.length + 4)).size = 2 := by rw [ext_size _ _ _ (by omega) (by omega)]; omega
      have hh : hex2 (S.extract (pre.length + 2) (pre.length + 4)) = ((c.toNat : Int), none) := by
        unfold hex2
        rw [x0, x1, hd_d ⟨c.toNat / 16, by omega⟩, hd_d ⟨c.toNat % 16, by omega⟩]
        simp only
        rw [if_pos (by omega)]
        congr 1
        omega
      rw [show ((pre.length : Int) + 1).toNat = pre.length + 1 by omega, show ((pre.length : Int) + 1 + 1).toNat = pre.length + 2 by omega, show ((pre.length : Int) + 1 + 3).toNat = pre.length + 4 by omega]
      simp only [Int.toNat_natCast, g0, g1, hh, xs, and_self, if_true, Option.isNone_none, Bool.not_true, cond_false]
      have e92 : (((92 : UInt8).toNat : Nat) : Int) = 92 := rfl
      have e120 : (((120 : UInt8).toNat : Nat) : Int) = 120 := rfl
      simp only [e92, e120]
      rw [wu8 (n := (c.toNat : Int)) (by omega)]
      clear hg g0 g1 g2 g3 e92 e120 hS he x0 x1 xs hh
      rw [if_pos (by omega), if_pos (by omega), if_neg (by omega), if_pos (by omega)]
      repeat (first | rw [if_pos (by omega)] | rw [if_neg (by omega)] | rw [if_pos trivial])
      congr 1
    · have he : escB c = [c] := by unfold escB; rw [if_neg h1, if_neg h2]
      rw [he] at hlen hg ⊢
      simp only [List.length_cons, List.length_nil] at hlen ⊢
      have g0 := hg 0 c rfl
      rw [Nat.add_zero] at g0
      simp only [Int.toNat_natCast, g0]
      clear hg g0 hS he
      rw [if_pos (by omega), if_pos (by omega), if_pos (by omega), if_pos (by omega), if_pos (by omega)]
      congr 1
theorem inner_run (S : ByteArray) (hL : S.size ≤ 1099511627776) : ∀ (l pre acc : List UInt8), S.data.toList = pre ++ l.flatMap escB ++ [34] → 1 ≤ pre.length → acc.length + 1 ≤ pre.length → l30 (l.length + 1) S (pre.length : Int) (toI acc) = some ⟨(acc ++ l).toArray⟩
  | [], pre, acc, hS, hp, ha => by
    have hlen : S.size = pre.length + 1 := by rw [bytes_size, hS]; simp
    rw [l30]
    simp only [B30_3, cond_dec]
    rw [w64 (by omega), if_neg (by omega)]
    show some (ByteArray.mk (ofI (toI acc)).toArray) = _
    rw [ofI_toI, List.append_nil]
  | c :: l, pre, acc, hS, hp, ha => by
    rw [List.length_cons, l30]
    rw [inner_step S hL pre (l.flatMap escB ++ [34]) c (by rw [hS]; simp) (by simp) acc (by omega)]
    have he : 1 ≤ (escB c).length := by unfold escB; split <;> (try split) <;> simp
    have := inner_run S hL l (pre ++ escB c) (acc ++ [c]) (by rw [hS]; simp) (by simp; omega) (by simp; omega)
    rw [List.length_append] at this
    rw [this]
    simp
end Go.Proofs.YtopplbiadpcalaaDoor.U

/- eyrie/eyrieref03.hex (function 41): its row: what must hold, what it answers. -/
namespace Go.Proofs.YtopplbiadpcalaaDoor.U
open Go
noncomputable def sp41 : Sp := Sp.of [⟨false, (.int .u8)⟩] [⟨false, (.int .u8), false⟩] (fun x1 => (true, K.hexv x1))
end Go.Proofs.YtopplbiadpcalaaDoor.U

/- eyrie/eyrieref03.quoted (function 31): what it computes, as a plain function: printed by a program of ours off the small machine, checked by the kernel. -/
namespace Go.Proofs.YtopplbiadpcalaaDoor.U
open Go
def cs31 : List Ac := [⟨false, .str⟩]
def rs31 : List Rc := [⟨false, .str, false⟩]
def lv31 : Live := fun i => cond (Nat.beq i 3) (some ⟨[(0, []), (3, [.own 3 (.int .u8) 5]), (4, [])], []⟩) (none)
def kx31 : Keep := ⟨[(0, [])], []⟩
noncomputable def C31 : Nat → Option Sp := tabC [(41, sp41)]
set_option maxRecDepth 100000
def st31_3 (v0 : ByteArray) (v1 : Int) (v2 : List Int) : St := ⟨(82 : Nat), [((0 : Nat), .l (.str v0)), ((3 : Nat), .l (.rs (3 : Nat))), ((4 : Nat), .l (.int IntKind.i64 v1))], [((3 : Nat), .row (Kn.int IntKind.u8) (5 : Nat) v2 (none) false)], []⟩
noncomputable def B31_3 (r3 : ByteArray → Int → List Int → Option ByteArray) (v0 : ByteArray) (v1 : Int) (v2 : List Int) : Option ByteArray :=
 (cond (decide (v1 < IntKind.i64.wrap ((↑v0.size : Int) - (1 : Int))))
  (cond (decide ((0 : Int) ≤ v1) && decide (v1 < (↑v0.size : Int)))
   (cond ((↑(v0.data.toList.getD v1.toNat (0 : UInt8)).toNat : Int) == (92 : Int))
    (cond (decide (IntKind.i64.wrap (v1 + (1 : Int)) < IntKind.i64.wrap ((↑v0.size : Int) - (1 : Int))))
     (cond (decide ((0 : Int) ≤ IntKind.i64.wrap (v1 + (1 : Int))) && decide (IntKind.i64.wrap (v1 + (1 : Int)) < (↑v0.size : Int)))
      (cond ((↑(v0.data.toList.getD (IntKind.i64.wrap (v1 + (1 : Int))).toNat (0 : UInt8)).toNat : Int) == (34 : Int))
       (cond (decide ((0 : Int) ≤ IntKind.i64.wrap (v1 + (1 : Int))) && decide (IntKind.i64.wrap (v1 + (1 : Int)) < (↑v0.size : Int)))
        (cond (decide ((v2.length + [(↑(v0.data.toList.getD (IntKind.i64.wrap (v1 + (1 : Int))).toNat (0 : UInt8)).toNat : Int)].length) * (1 : Nat) ≤ (140737488355328 : Nat)))
         (r3 (v0) (IntKind.i64.wrap (IntKind.i64.wrap (v1 + (1 : Int)) + (1 : Int))) (v2 ++ [(↑(v0.data.toList.getD (IntKind.i64.wrap (v1 + (1 : Int))).toNat (0 : UInt8)).toNat : Int)]))
         none)
        none)
       (cond (decide ((0 : Int) ≤ IntKind.i64.wrap (v1 + (1 : Int))) && decide (IntKind.i64.wrap (v1 + (1 : Int)) < (↑v0.size : Int)))
        (cond ((↑(v0.data.toList.getD (IntKind.i64.wrap (v1 + (1 : Int))).toNat (0 : UInt8)).toNat : Int) == (92 : Int))
         (cond (decide ((0 : Int) ≤ IntKind.i64.wrap (v1 + (1 : Int))) && decide (IntKind.i64.wrap (v1 + (1 : Int)) < (↑v0.size : Int)))
          (cond (decide ((v2.length + [(↑(v0.data.toList.getD (IntKind.i64.wrap (v1 + (1 : Int))).toNat (0 : UInt8)).toNat : Int)].length) * (1 : Nat) ≤ (140737488355328 : Nat)))
           (r3 (v0) (IntKind.i64.wrap (IntKind.i64.wrap (v1 + (1 : Int)) + (1 : Int))) (v2 ++ [(↑(v0.data.toList.getD (IntKind.i64.wrap (v1 + (1 : Int))).toNat (0 : UInt8)).toNat : Int)]))
           none)
          none)
         (cond ((↑(v0.data.toList.getD v1.toNat (0 : UInt8)).toNat : Int) == (92 : Int))
          (cond (decide (IntKind.i64.wrap (v1 + (3 : Int)) < IntKind.i64.wrap ((↑v0.size : Int) - (1 : Int))))
           (cond (decide ((0 : Int) ≤ IntKind.i64.wrap (v1 + (1 : Int))) && decide (IntKind.i64.wrap (v1 + (1 : Int)) < (↑v0.size : Int)))
            (cond ((↑(v0.data.toList.getD (IntKind.i64.wrap (v1 + (1 : Int))).toNat (0 : UInt8)).toNat : Int) == (120 : Int))
             (cond (decide ((0 : Int) ≤ IntKind.i64.wrap (v1 + (2 : Int))) && decide (IntKind.i64.wrap (v1 + (2 : Int)) < (↑v0.size : Int)))
              (cond (decide ((0 : Int) ≤ IntKind.i64.wrap (v1 + (3 : Int))) && decide (IntKind.i64.wrap (v1 + (3 : Int)) < (↑v0.size : Int)))
               (cond (decide ((v2.length + [IntKind.u8.wrap (IntKind.u8.wrap ((16 : Int) * K.hexv (↑(v0.data.toList.getD (IntKind.i64.wrap (v1 + (2 : Int))).toNat (0 : UInt8)).toNat : Int)) + K.hexv (↑(v0.data.toList.getD (IntKind.i64.wrap (v1 + (3 : Int))).toNat (0 : UInt8)).toNat : Int))].length) * (1 : Nat) ≤ (140737488355328 : Nat)))
                (r3 (v0) (IntKind.i64.wrap (IntKind.i64.wrap (v1 + (3 : Int)) + (1 : Int))) (v2 ++ [IntKind.u8.wrap (IntKind.u8.wrap ((16 : Int) * K.hexv (↑(v0.data.toList.getD (IntKind.i64.wrap (v1 + (2 : Int))).toNat (0 : UInt8)).toNat : Int)) + K.hexv (↑(v0.data.toList.getD (IntKind.i64.wrap (v1 + (3 : Int))).toNat (0 : UInt8)).toNat : Int))]))
                none)
               none)
              none)
             (cond (decide ((v2.length + [(↑(v0.data.toList.getD v1.toNat (0 : UInt8)).toNat : Int)].length) * (1 : Nat) ≤ (140737488355328 : Nat)))
              (r3 (v0) (IntKind.i64.wrap (v1 + (1 : Int))) (v2 ++ [(↑(v0.data.toList.getD v1.toNat (0 : UInt8)).toNat : Int)]))
              none))
            none)
           (cond (decide ((v2.length + [(↑(v0.data.toList.getD v1.toNat (0 : UInt8)).toNat : Int)].length) * (1 : Nat) ≤ (140737488355328 : Nat)))
            (r3 (v0) (IntKind.i64.wrap (v1 + (1 : Int))) (v2 ++ [(↑(v0.data.toList.getD v1.toNat (0 : UInt8)).toNat : Int)]))
            none))
          (cond (decide ((v2.length + [(↑(v0.data.toList.getD v1.toNat (0 : UInt8)).toNat : Int)].length) * (1 : Nat) ≤ (140737488355328 : Nat)))
           (r3 (v0) (IntKind.i64.wrap (v1 + (1 : Int))) (v2 ++ [(↑(v0.data.toList.getD v1.toNat (0 : UInt8)).toNat : Int)]))
           none)))
        none))
      none)
     (cond ((↑(v0.data.toList.getD v1.toNat (0 : UInt8)).toNat : Int) == (92 : Int))
      (cond (decide (IntKind.i64.wrap (v1 + (3 : Int)) < IntKind.i64.wrap ((↑v0.size : Int) - (1 : Int))))
       (cond (decide ((0 : Int) ≤ IntKind.i64.wrap (v1 + (1 : Int))) && decide (IntKind.i64.wrap (v1 + (1 : Int)) < (↑v0.size : Int)))
        (cond ((↑(v0.data.toList.getD (IntKind.i64.wrap (v1 + (1 : Int))).toNat (0 : UInt8)).toNat : Int) == (120 : Int))
         (cond (decide ((0 : Int) ≤ IntKind.i64.wrap (v1 + (2 : Int))) && decide (IntKind.i64.wrap (v1 + (2 : Int)) < (↑v0.size : Int)))
          (cond (decide ((0 : Int) ≤ IntKind.i64.wrap (v1 + (3 : Int))) && decide (IntKind.i64.wrap (v1 + (3 : Int)) < (↑v0.size : Int)))
           (cond (decide ((v2.length + [IntKind.u8.wrap (IntKind.u8.wrap ((16 : Int) * K.hexv (↑(v0.data.toList.getD (IntKind.i64.wrap (v1 + (2 : Int))).toNat (0 : UInt8)).toNat : Int)) + K.hexv (↑(v0.data.toList.getD (IntKind.i64.wrap (v1 + (3 : Int))).toNat (0 : UInt8)).toNat : Int))].length) * (1 : Nat) ≤ (140737488355328 : Nat)))
            (r3 (v0) (IntKind.i64.wrap (IntKind.i64.wrap (v1 + (3 : Int)) + (1 : Int))) (v2 ++ [IntKind.u8.wrap (IntKind.u8.wrap ((16 : Int) * K.hexv (↑(v0.data.toList.getD (IntKind.i64.wrap (v1 + (2 : Int))).toNat (0 : UInt8)).toNat : Int)) + K.hexv (↑(v0.data.toList.getD (IntKind.i64.wrap (v1 + (3 : Int))).toNat (0 : UInt8)).toNat : Int))]))
            none)
           none)
          none)
         (cond (decide ((v2.length + [(↑(v0.data.toList.getD v1.toNat (0 : UInt8)).toNat : Int)].length) * (1 : Nat) ≤ (140737488355328 : Nat)))
          (r3 (v0) (IntKind.i64.wrap (v1 + (1 : Int))) (v2 ++ [(↑(v0.data.toList.getD v1.toNat (0 : UInt8)).toNat : Int)]))
          none))
        none)
       (cond (decide ((v2.length + [(↑(v0.data.toList.getD v1.toNat (0 : UInt8)).toNat : Int)].length) * (1 : Nat) ≤ (140737488355328 : Nat)))
        (r3 (v0) (IntKind.i64.wrap (v1 + (1 : Int))) (v2 ++ [(↑(v0.data.toList.getD v1.toNat (0 : UInt8)).toNat : Int)]))
        none))
      (cond (decide ((v2.length + [(↑(v0.data.toList.getD v1.toNat (0 : UInt8)).toNat : Int)].length) * (1 : Nat) ≤ (140737488355328 : Nat)))
       (r3 (v0) (IntKind.i64.wrap (v1 + (1 : Int))) (v2 ++ [(↑(v0.data.toList.getD v1.toNat (0 : UInt8)).toNat : Int)]))
       none)))
    (cond ((↑(v0.data.toList.getD v1.toNat (0 : UInt8)).toNat : Int) == (92 : Int))
     (cond (decide (IntKind.i64.wrap (v1 + (3 : Int)) < IntKind.i64.wrap ((↑v0.size : Int) - (1 : Int))))
      (cond (decide ((0 : Int) ≤ IntKind.i64.wrap (v1 + (1 : Int))) && decide (IntKind.i64.wrap (v1 + (1 : Int)) < (↑v0.size : Int)))
       (cond ((↑(v0.data.toList.getD (IntKind.i64.wrap (v1 + (1 : Int))).toNat (0 : UInt8)).toNat : Int) == (120 : Int))
        (cond (decide ((0 : Int) ≤ IntKind.i64.wrap (v1 + (2 : Int))) && decide (IntKind.i64.wrap (v1 + (2 : Int)) < (↑v0.size : Int)))
         (cond (decide ((0 : Int) ≤ IntKind.i64.wrap (v1 + (3 : Int))) && decide (IntKind.i64.wrap (v1 + (3 : Int)) < (↑v0.size : Int)))
          (cond (decide ((v2.length + [IntKind.u8.wrap (IntKind.u8.wrap ((16 : Int) * K.hexv (↑(v0.data.toList.getD (IntKind.i64.wrap (v1 + (2 : Int))).toNat (0 : UInt8)).toNat : Int)) + K.hexv (↑(v0.data.toList.getD (IntKind.i64.wrap (v1 + (3 : Int))).toNat (0 : UInt8)).toNat : Int))].length) * (1 : Nat) ≤ (140737488355328 : Nat)))
           (r3 (v0) (IntKind.i64.wrap (IntKind.i64.wrap (v1 + (3 : Int)) + (1 : Int))) (v2 ++ [IntKind.u8.wrap (IntKind.u8.wrap ((16 : Int) * K.hexv (↑(v0.data.toList.getD (IntKind.i64.wrap (v1 + (2 : Int))).toNat (0 : UInt8)).toNat : Int)) + K.hexv (↑(v0.data.toList.getD (IntKind.i64.wrap (v1 + (3 : Int))).toNat (0 : UInt8)).toNat : Int))]))
           none)
          none)
         none)
        (cond (decide ((v2.length + [(↑(v0.data.toList.getD v1.toNat (0 : UInt8)).toNat : Int)].length) * (1 : Nat) ≤ (140737488355328 : Nat)))
         (r3 (v0) (IntKind.i64.wrap (v1 + (1 : Int))) (v2 ++ [(↑(v0.data.toList.getD v1.toNat (0 : UInt8)).toNat : Int)]))
         none))
       none)
      (cond (decide ((v2.length + [(↑(v0.data.toList.getD v1.toNat (0 : UInt8)).toNat : Int)].length) * (1 : Nat) ≤ (140737488355328 : Nat)))
       (r3 (v0) (IntKind.i64.wrap (v1 + (1 : Int))) (v2 ++ [(↑(v0.data.toList.getD v1.toNat (0 : UInt8)).toNat : Int)]))
       none))
     (cond (decide ((v2.length + [(↑(v0.data.toList.getD v1.toNat (0 : UInt8)).toNat : Int)].length) * (1 : Nat) ≤ (140737488355328 : Nat)))
      (r3 (v0) (IntKind.i64.wrap (v1 + (1 : Int))) (v2 ++ [(↑(v0.data.toList.getD v1.toNat (0 : UInt8)).toNat : Int)]))
      none)))
   none)
  (some (ByteArray.mk (List.map (fun n => UInt8.ofNat n.toNat) v2).toArray)))
noncomputable def M31 (r3 : ByteArray → Int → List Int → Option ByteArray) (x1 : ByteArray) : Option ByteArray :=
 (r3 (x1) ((1 : Int)) ([]))
theorem B31_3_ok (Lo : Nat → St → Option ByteArray) (v0 : ByteArray) (v1 : Int) (v2 : List Int) : roundG tab C31 lv31 (dec rs31) Lo Tryd.f31 kx31 3 (st31_3 v0 v1 v2) = B31_3 (fun v0 v1 v2 => Lo 3 (st31_3 v0 v1 v2)) v0 v1 v2 := by kernel_rfl
theorem M31_ok (Lo : Nat → St → Option ByteArray) (x1 : ByteArray) : callG tab C31 lv31 (dec rs31) Lo Tryd.f31 kx31 [canon false .str x1] [] = M31 (fun v0 v1 v2 => Lo 3 (st31_3 v0 v1 v2)) x1 := by kernel_rfl
noncomputable def l31 : Nat → (ByteArray → Int → List Int → Option ByteArray)
  | 0 => (fun _ _ _ => none)
  | m + 1 => (B31_3 (l31 m))
noncomputable def F31 (m : Nat) (x1 : ByteArray) : Option ByteArray := M31 (l31 m) x1
theorem l31_ok : ∀ m : Nat, (∀ (v0 : ByteArray) (v1 : Int) (v2 : List Int), loF tab C31 lv31 (dec rs31) Tryd.f31 kx31 m 3 (st31_3 v0 v1 v2) = (l31 m) v0 v1 v2)
  | 0 => by
    exact fun _ _ _ => rfl
  | m + 1 => by
    have ih := l31_ok m
    have h3 : (fun (v0 : ByteArray) (v1 : Int) (v2 : List Int) => loF tab C31 lv31 (dec rs31) Tryd.f31 kx31 m 3 (st31_3 v0 v1 v2)) = (l31 m) := by funext v0 v1 v2; exact ih v0 v1 v2
    exact fun v0 v1 v2 => (B31_3_ok (loF tab C31 lv31 (dec rs31) Tryd.f31 kx31 m) v0 v1 v2).trans (congrFun (congrFun (congrFun (congrArg B31_3 h3) v0) v1) v2)
theorem F31_ok (m : Nat) (x1 : ByteArray) : callF tab C31 lv31 (dec rs31) m Tryd.f31 kx31 [canon false .str x1] [] = F31 m x1 := by
    have ih := l31_ok m
    have h3 : (fun (v0 : ByteArray) (v1 : Int) (v2 : List Int) => loF tab C31 lv31 (dec rs31) Tryd.f31 kx31 m 3 (st31_3 v0 v1 v2)) = (l31 m) := by funext v0 v1 v2; exact ih v0 v1 v2
    exact (M31_ok (loF tab C31 lv31 (dec rs31) Tryd.f31 kx31 m) x1).trans (congrFun (congrArg M31 h3) x1)
theorem fn31 {G : GB} (hC : COk Tryd.prog G C31) (m : Nat) (x1 : ByteArray) (y : ByteArray) (h : F31 m x1 = some y) : FnR Tryd.prog G 31 [canon false .str x1] [] (fun v hout => dec rs31 v hout = some y) :=
  callF_sound (Lv := lv31) (n := m) (kx := kx31) follows tab_ok hC Tryd.func31 ((F31_ok m x1).trans h)
theorem F31_mono {m m' : Nat} (hm : m ≤ m') (x1 : ByteArray) {y : ByteArray} (h : F31 m x1 = some y) : F31 m' x1 = some y := (F31_ok m' x1).symm.trans (callF_mono hm ((F31_ok m x1).trans h))
theorem ent31 : Ent Tryd.prog 31 := ⟨_, Tryd.func31, by kernel_rfl, by kernel_rfl⟩
theorem C31_ok {G : GB} (h41 : RowOk Tryd.prog G 41 sp41) : COk Tryd.prog G C31 := tabC_ok (by
  intro p hp
  simp only [List.mem_cons, List.not_mem_nil, or_false] at hp
  rcases hp with rfl
  · exact h41
)
end Go.Proofs.YtopplbiadpcalaaDoor.U

/- eyrieref03.quoted: it ends, with no more bytes than came in; what was put in quotes comes out as it was. -/
namespace Go.Proofs.YtopplbiadpcalaaDoor.U
open Go Go.Proofs.YtopplbiadpcalaaDoor.K

theorem wr1 (i : Int) (h : 0 ≤ i ∧ i ≤ 4398046511104) : IntKind.i64.wrap (i + 1) = i + 1 ∧ IntKind.i64.wrap (i + 2) = i + 2 ∧ IntKind.i64.wrap (i + 3) = i + 3 ∧ IntKind.i64.wrap (i + 1 + 1) = i + 1 + 1 ∧ IntKind.i64.wrap (i + 3 + 1) = i + 3 + 1 ∧ IntKind.i64.wrap (i + 2 + 1) = i + 2 + 1 ∧ IntKind.i64.wrap (i - 1) = i - 1 :=
  ⟨w64 (by omega), w64 (by omega), w64 (by omega), w64 (by omega), w64 (by omega), w64 (by omega), w64 (by omega)⟩
theorem quoted_any (S : ByteArray) (hL : S.size ≤ 1099511627776) (i : Int) (hi : 1 ≤ i ∧ i ≤ 2199023255552) (acc : List Int) (ha : (acc.length : Int) ≤ i) (r : ByteArray → Int → List Int → Option ByteArray) :
    (∃ (i' : Int) (acc' : List Int), i < i' ∧ i' ≤ S.size ∧ (acc'.length : Int) = acc.length + 1 ∧ B31_3 r S i acc = r S i' acc') ∨ B31_3 r S i acc = some (ByteArray.mk (ofI acc).toArray) := by
  obtain ⟨e1, e2, e3, e4, e5, -, -⟩ := wr1 i (by omega)
  obtain ⟨-, -, -, -, -, -, e7⟩ := wr1 (S.size : Int) (by omega)
  simp only [B31_3, cond_dec, beq_int, and_dec, e1, e2, e3, e4, e5, e7, List.length_cons, List.length_nil]
  clear e1 e2 e3 e4 e5 e7
  by_cases h1 : i < (S.size : Int) - 1
  rotate_left
  · rw [if_neg h1]; exact .inr rfl
  left
  rw [if_pos h1, if_pos (by omega)]
  obtain ⟨Q, hQ⟩ : ∃ Q : Option ByteArray → Prop, ∀ o, Q o ↔ ∃ (i' : Int) (acc' : List Int), i < i' ∧ i' ≤ S.size ∧ (acc'.length : Int) = acc.length + 1 ∧ o = r S i' acc' := ⟨_, fun _ => Iff.rfl⟩
  rw [← hQ]
  have leaf : ∀ (i' : Int) (x : Int), i < i' → i' ≤ S.size → Q (r S i' (acc ++ [x])) := fun i' x h2 h3 => (hQ _).2 ⟨i', _, h2, h3, by simp, rfl⟩
  repeat' (refine ite_i (Q := Q) (fun _ => ?_) (fun _ => ?_))
  all_goals first
    | omega
    | exact leaf _ _ (by omega) (by omega)
theorem quoted_all (S : ByteArray) (hL : S.size ≤ 1099511627776) : ∀ (n : Nat) (i : Int) (acc : List Int), 1 ≤ i → (S.size : Int) + 1 ≤ i + n → i ≤ S.size + 1 → (acc.length : Int) + 1 ≤ i → ∃ y : List Int, l31 (n + 1) S i acc = some (ByteArray.mk (ofI y).toArray) ∧ y.length ≤ S.size
  | 0, i, acc, h1, h2, h3, ha => by
    rcases quoted_any S hL i (by omega) acc (by omega) (l31 0) with ⟨i', acc', h4, h5, h6, h7⟩ | h
    · omega
    · exact ⟨acc, h, by omega⟩
  | n + 1, i, acc, h1, h2, h3, ha => by
    rcases quoted_any S hL i (by omega) acc (by omega) (l31 (n + 1)) with ⟨i', acc', h4, h5, h6, h7⟩ | h
    · obtain ⟨y, h8, h9⟩ := quoted_all S hL n i' acc' (by omega) (by omega) (by omega) (by omega)
      exact ⟨y, h7.trans h8, h9⟩
    · exact ⟨acc, h, by omega⟩
theorem hexv_d : ∀ n : Fin 16, hexv ((hexd n.val).toNat : Int) = (n.val : Int) := by decide
set_option maxHeartbeats 4000000 in
/-- One letter of a text that was put in quotes. -/
theorem quoted_step (S : ByteArray) (hL : S.size ≤ 1099511627776) (pre post : List UInt8) (c : UInt8) (hS : S.data.toList = pre ++ escB c ++ post) (hp : 1 ≤ post.length) (acc : List UInt8) (ha : acc.length ≤ pre.length) (r : ByteArray → Int → List Int → Option ByteArray) :
    B31_3 r S (pre.length : Int) (toI acc) = r S ((pre.length + (escB c).length : Nat) : Int) (toI (acc ++ [c])) := by
  have hc := u8_lt c
  have hlen : S.size = pre.length + (escB c).length + post.length := by rw [bytes_size, hS]; simp only [List.length_append]
  have hg : ∀ (j : Nat) (x : UInt8), (escB c)[j]? = some x → S.data.toList.getD (pre.length + j) 0 = x := by
    intro j x hj
    rw [hS, List.append_assoc, List.getD_eq_getElem?_getD, List.getElem?_append_right (by omega), Nat.add_sub_cancel_left, List.getElem?_append_left (List.getElem?_eq_some_iff.1 hj).1, hj]
    rfl
  rw [toI_app]
  obtain ⟨e1, e2, e3, e4, e5, -, -⟩ := wr1 (pre.length : Int) (by omega)
  obtain ⟨-, -, -, -, -, -, e7⟩ := wr1 (S.size : Int) (by omega)
  simp only [B31_3, cond_dec, beq_int, and_dec, toI_len, e1, e2, e3, e4, e5, e7, List.length_cons, List.length_nil]
  clear e1 e2 e3 e4 e5 e7
  by_cases h1 : c.toNat = 34 ∨ c.toNat = 92
  · have he : escB c = [92, c] := by unfold escB; rw [if_pos h1]
    rw [he] at hlen hg ⊢
    simp only [List.length_cons, List.length_nil] at hlen ⊢
    have g0 := hg 0 92 rfl
    have g1 := hg 1 c rfl
    rw [Nat.add_zero] at g0
    rw [show ((pre.length : Int) + 1).toNat = pre.length + 1 by omega]
    simp only [Int.toNat_natCast, g0, g1]
    have e92 : (((92 : UInt8).toNat : Nat) : Int) = 92 := rfl
    simp only [e92, if_true]
    clear hg g0 g1 e92 hS he
    rcases h1 with h1 | h1
    · repeat (first | rw [if_pos (by omega)] | rw [if_neg (by omega)])
      congr 1
    · repeat (first | rw [if_pos (by omega)] | rw [if_neg (by omega)])
      congr 1
  · by_cases h2 : c.toNat < 32 ∨ 126 < c.toNat
    · have he : escB c = [92, 120, hexd (c.toNat / 16), hexd (c.toNat % 16)] := by unfold escB; rw [if_neg h1, if_pos h2]
      rw [he] at hlen hg ⊢
      simp only [List.length_cons, List.length_nil] at hlen ⊢
      have g0 := hg 0 92 rfl
      have g1 := hg 1 120 rfl
      have g2 := hg 2 _ rfl
      have g3 := hg 3 _ rfl
      rw [Nat.add_zero] at g0
      rw [show ((pre.length : Int) + 1).toNat = pre.length + 1 by omega, show ((pre.length : Int) + 2).toNat = pre.length + 2 by omega, show ((pre.length : Int) + 3).toNat = pre.length + 3 by omega]
      simp only [Int.toNat_natCast, g0, g1, g2, g3]
      have e92 : (((92 : UInt8).toNat : Nat) : Int) = 92 := rfl
      have e120 : (((120 : UInt8).toNat : Nat) : Int) = 120 := rfl
      have v2 := hexv_d ⟨c.toNat / 16, by omega⟩
      have v3 := hexv_d ⟨c.toNat % 16, by omega⟩
      simp only at v2 v3
      simp only [e92, e120, v2, v3, if_true]
      clear hg g0 g1 g2 g3 e92 e120 v2 v3 hS he
      have hv : IntKind.u8.wrap (IntKind.u8.wrap (16 * ((c.toNat / 16 : Nat) : Int)) + ((c.toNat % 16 : Nat) : Int)) = (c.toNat : Int) := by
        rw [wu8 (n := 16 * ((c.toNat / 16 : Nat) : Int)) (by omega), wu8 (by omega)]; omega
      rw [hv]
      clear hv
      repeat (first | rw [if_pos (by omega)] | rw [if_neg (by omega)])
      congr 1
    · have he : escB c = [c] := by unfold escB; rw [if_neg h1, if_neg h2]
      rw [he] at hlen hg ⊢
      simp only [List.length_cons, List.length_nil] at hlen ⊢
      have g0 := hg 0 c rfl
      rw [Nat.add_zero] at g0
      simp only [Int.toNat_natCast, g0]
      clear hg g0 hS he
      repeat (first | rw [if_pos (by omega)] | rw [if_neg (by omega)])
      congr 1
theorem quoted_run (S : ByteArray) (hL : S.size ≤ 1099511627776) : ∀ (l pre acc : List UInt8), S.data.toList = pre ++ l.flatMap escB ++ [34] → 1 ≤ pre.length → acc.length + 1 ≤ pre.length → l31 (l.length + 1) S (pre.length : Int) (toI acc) = some ⟨(acc ++ l).toArray⟩
  | [], pre, acc, hS, hp, ha => by
    have hlen : S.size = pre.length + 1 := by rw [bytes_size, hS]; simp
    rw [l31]
    simp only [B31_3, cond_dec]
    rw [w64 (by omega), if_neg (by omega)]
    show some (ByteArray.mk (ofI (toI acc)).toArray) = _
    rw [ofI_toI, List.append_nil]
  | c :: l, pre, acc, hS, hp, ha => by
    rw [List.length_cons, l31]
    rw [quoted_step S hL pre (l.flatMap escB ++ [34]) c (by rw [hS]; simp) (by simp) acc (by omega)]
    have he : 1 ≤ (escB c).length := by unfold escB; split <;> (try split) <;> simp
    have := quoted_run S hL l (pre ++ escB c) (acc ++ [c]) (by rw [hS]; simp) (by simp; omega) (by simp; omega)
    rw [List.length_append] at this
    rw [this]
    simp
end Go.Proofs.YtopplbiadpcalaaDoor.U
