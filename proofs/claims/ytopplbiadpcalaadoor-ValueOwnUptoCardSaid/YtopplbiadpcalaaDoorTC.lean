/- Part 3 of 4 of a proof: lemmas; the statement is proved in the last part. -/
import Derived.Test.YtopplbiadpcalaaDoorTB
import Derived.Lib.ItoaLen
import Derived.Lib.AppendIntMem
import Derived.Stop.LaidErr
import Derived.Deep.DeepHandedRow
import Derived.Deep.DeepWitnessRowRef
import Derived.WalkKit
import Derived.ProofKit
import Derived.OpenShut
import Derived.Lib.Bytealg
set_option linter.unusedVariables false
set_option linter.unusedSimpArgs false
/- eyrie/eyrieref03.number (function 32): what it computes, as a plain function: printed by a program of ours off the small machine, checked by the kernel. -/
namespace Go.Proofs.YtopplbiadpcalaaDoor.U
open Go
def cs32 : List Ac := [⟨false, .str⟩]
def rs32 : List Rc := [⟨false, (.int .i64), false⟩, ⟨false, .bool, false⟩]
def lv32 : Live := fun i => cond (Nat.beq i 6) (some ⟨[(0, []), (4, []), (5, []), (6, [])], []⟩) (none)
def kx32 : Keep := ⟨[(0, []), (1, [])], []⟩
noncomputable def C32 : Nat → Option Sp := tabC []
set_option maxRecDepth 100000
def st32_6 (v0 : ByteArray) (v1 : Int) (v2 : Int) (v3 : Int) : St := ⟨(58 : Nat), [((0 : Nat), .l (.str v0)), ((4 : Nat), .l (.int IntKind.i64 v1)), ((5 : Nat), .l (.int IntKind.i64 v2)), ((6 : Nat), .l (.int IntKind.i64 v3))], [], []⟩
noncomputable def B32_6 (r6 : ByteArray → Int → Int → Int → Option (Int × Bool)) (v0 : ByteArray) (v1 : Int) (v2 : Int) (v3 : Int) : Option (Int × Bool) :=
 (cond (decide (v3 < (↑v0.size : Int)))
  (cond (decide ((0 : Int) ≤ v3) && decide (v3 < (↑v0.size : Int)))
   (cond (decide ((↑(v0.data.toList.getD v3.toNat (0 : UInt8)).toNat : Int) < (48 : Int)))
    (some (((0 : Int), false)))
    (cond (decide ((0 : Int) ≤ v3) && decide (v3 < (↑v0.size : Int)))
     (cond (decide ((↑(v0.data.toList.getD v3.toNat (0 : UInt8)).toNat : Int) > (57 : Int)))
      (some (((0 : Int), false)))
      (cond (decide ((0 : Int) ≤ v3) && decide (v3 < (↑v0.size : Int)))
       (cond (decide (v1 < IntKind.i64.wrap ((IntKind.i64.wrap ((-9223372036854775808 : Int) + IntKind.i64.wrap (IntKind.u8.wrap ((↑(v0.data.toList.getD v3.toNat (0 : UInt8)).toNat : Int) - (48 : Int))))).tdiv (10 : Int))))
        (some (((0 : Int), false)))
        (r6 (v0) (IntKind.i64.wrap (IntKind.i64.wrap ((10 : Int) * v1) - IntKind.i64.wrap (IntKind.u8.wrap ((↑(v0.data.toList.getD v3.toNat (0 : UInt8)).toNat : Int) - (48 : Int))))) (v2) (IntKind.i64.wrap (v3 + (1 : Int)))))
       none))
     none))
   none)
  (cond (v2 == (0 : Int))
   (cond (v1 == (-9223372036854775808 : Int))
    (some (((0 : Int), false)))
    (some ((IntKind.i64.wrap ((0 : Int) - v1), decide ((↑v0.size : Int) > v2)))))
   (some ((v1, decide ((↑v0.size : Int) > v2))))))
noncomputable def M32 (r6 : ByteArray → Int → Int → Int → Option (Int × Bool)) (x1 : ByteArray) : Option (Int × Bool) :=
 (cond (decide ((↑x1.size : Int) > (0 : Int)))
  (cond (decide ((0 : Int) ≤ (0 : Int)) && decide ((0 : Int) < (↑x1.size : Int)))
   (cond ((↑(x1.data.toList.getD (Int.toNat (0 : Int)) (0 : UInt8)).toNat : Int) == (45 : Int))
    (r6 (x1) ((0 : Int)) ((1 : Int)) ((1 : Int)))
    (r6 (x1) ((0 : Int)) ((0 : Int)) ((0 : Int))))
   none)
  (r6 (x1) ((0 : Int)) ((0 : Int)) ((0 : Int))))
theorem B32_6_ok (Lo : Nat → St → Option (Int × Bool)) (v0 : ByteArray) (v1 : Int) (v2 : Int) (v3 : Int) : roundG tab C32 lv32 (dec rs32) Lo Tryd.f32 kx32 6 (st32_6 v0 v1 v2 v3) = B32_6 (fun v0 v1 v2 v3 => Lo 6 (st32_6 v0 v1 v2 v3)) v0 v1 v2 v3 := by kernel_rfl
theorem M32_ok (Lo : Nat → St → Option (Int × Bool)) (x1 : ByteArray) : callG tab C32 lv32 (dec rs32) Lo Tryd.f32 kx32 [canon false .str x1] [] = M32 (fun v0 v1 v2 v3 => Lo 6 (st32_6 v0 v1 v2 v3)) x1 := by kernel_rfl
noncomputable def l32 : Nat → (ByteArray → Int → Int → Int → Option (Int × Bool))
  | 0 => (fun _ _ _ _ => none)
  | m + 1 => (B32_6 (l32 m))
noncomputable def F32 (m : Nat) (x1 : ByteArray) : Option (Int × Bool) := M32 (l32 m) x1
theorem l32_ok : ∀ m : Nat, (∀ (v0 : ByteArray) (v1 : Int) (v2 : Int) (v3 : Int), loF tab C32 lv32 (dec rs32) Tryd.f32 kx32 m 6 (st32_6 v0 v1 v2 v3) = (l32 m) v0 v1 v2 v3)
  | 0 => by
    exact fun _ _ _ _ => rfl
  | m + 1 => by
    have ih := l32_ok m
    have h6 : (fun (v0 : ByteArray) (v1 : Int) (v2 : Int) (v3 : Int) => loF tab C32 lv32 (dec rs32) Tryd.f32 kx32 m 6 (st32_6 v0 v1 v2 v3)) = (l32 m) := by funext v0 v1 v2 v3; exact ih v0 v1 v2 v3
    exact fun v0 v1 v2 v3 => (B32_6_ok (loF tab C32 lv32 (dec rs32) Tryd.f32 kx32 m) v0 v1 v2 v3).trans (congrFun (congrFun (congrFun (congrFun (congrArg B32_6 h6) v0) v1) v2) v3)
theorem F32_ok (m : Nat) (x1 : ByteArray) : callF tab C32 lv32 (dec rs32) m Tryd.f32 kx32 [canon false .str x1] [] = F32 m x1 := by
    have ih := l32_ok m
    have h6 : (fun (v0 : ByteArray) (v1 : Int) (v2 : Int) (v3 : Int) => loF tab C32 lv32 (dec rs32) Tryd.f32 kx32 m 6 (st32_6 v0 v1 v2 v3)) = (l32 m) := by funext v0 v1 v2 v3; exact ih v0 v1 v2 v3
    exact (M32_ok (loF tab C32 lv32 (dec rs32) Tryd.f32 kx32 m) x1).trans (congrFun (congrArg M32 h6) x1)
theorem fn32 {G : GB} (hC : COk Tryd.prog G C32) (m : Nat) (x1 : ByteArray) (y : (Int × Bool)) (h : F32 m x1 = some y) : FnR Tryd.prog G 32 [canon false .str x1] [] (fun v hout => dec rs32 v hout = some y) :=
  callF_sound (Lv := lv32) (n := m) (kx := kx32) follows tab_ok hC Tryd.func32 ((F32_ok m x1).trans h)
theorem F32_mono {m m' : Nat} (hm : m ≤ m') (x1 : ByteArray) {y : (Int × Bool)} (h : F32 m x1 = some y) : F32 m' x1 = some y := (F32_ok m' x1).symm.trans (callF_mono hm ((F32_ok m x1).trans h))
theorem ent32 : Ent Tryd.prog 32 := ⟨_, Tryd.func32, by kernel_rfl, by kernel_rfl⟩
theorem C32_ok {G : GB} : COk Tryd.prog G C32 := fun _ _ h => by cases h
end Go.Proofs.YtopplbiadpcalaaDoor.U

/- Decimal numerals: what they say. -/
namespace Go.Proofs.YtopplbiadpcalaaDoor.K
open Go

def dig (c : UInt8) : Prop := 48 ≤ c.toNat ∧ c.toNat ≤ 57
def decFold : Nat → List UInt8 → Nat
  | p, [] => p
  | p, c :: r => decFold (10 * p + (c.toNat - 48)) r
theorem decFold_le (l : List UInt8) : ∀ p : Nat, p ≤ decFold p l := by
  induction l with
  | nil => exact fun p => Nat.le_refl p
  | cons c r ih => exact fun p => Nat.le_trans (show p ≤ 10 * p + (c.toNat - 48) by omega) (ih _)
theorem decFold_app : ∀ (l r : List UInt8) (p : Nat), decFold p (l ++ r) = decFold (decFold p l) r
  | [], _, _ => rfl
  | c :: l, r, p => decFold_app l r _
theorem decDigits_dig (u : Nat) : ∀ c ∈ Lib.decDigits u, dig c := by
  induction u using Nat.strongRecOn with
  | ind u ih =>
    intro c hc
    rw [Lib.decDigits] at hc
    have one : ∀ k, k < 10 → dig (UInt8.ofNat (48 + k)) := by
      intro k hk
      have key : ∀ x : Fin 10, 48 ≤ (UInt8.ofNat (48 + x.val)).toNat ∧ (UInt8.ofNat (48 + x.val)).toNat ≤ 57 := by decide
      exact key ⟨k, hk⟩
    split at hc
    · rename_i h
      obtain rfl := List.mem_singleton.1 hc
      exact one u h
    · rename_i h
      rcases List.mem_append.1 hc with hc | hc
      · exact ih (u / 10) (by omega) c hc
      · obtain rfl := List.mem_singleton.1 hc
        exact one _ (by omega)
theorem decDigits_fold (u : Nat) : decFold 0 (Lib.decDigits u) = u := by
  induction u using Nat.strongRecOn with
  | ind u ih =>
    have one : ∀ k, k < 10 → (UInt8.ofNat (48 + k)).toNat - 48 = k := by
      intro k hk
      have key : ∀ x : Fin 10, (UInt8.ofNat (48 + x.val)).toNat - 48 = x.val := by decide
      exact key ⟨k, hk⟩
    by_cases h : u < 10
    · rw [Lib.decDigits_one h]
      show 10 * 0 + ((UInt8.ofNat (48 + u)).toNat - 48) = u
      rw [one u h]
      omega
    · have hd : Lib.decDigits u = Lib.decDigits (u / 10) ++ [UInt8.ofNat (48 + u % 10)] := by rw [Lib.decDigits, dif_neg h]
      rw [hd, decFold_app, ih (u / 10) (by omega)]
      show 10 * (u / 10) + ((UInt8.ofNat (48 + u % 10)).toNat - 48) = u
      rw [one (u % 10) (by omega)]
      omega
theorem decDigits_ne (u : Nat) : Lib.decDigits u ≠ [] := by
  rw [Lib.decDigits]
  split <;> simp
theorem parseUintM_fold (M : Nat) (hM : M ≤ 18446744073709551615) (l : List UInt8) : ∀ p : Nat, (∀ c ∈ l, dig c) → decFold p l ≤ M → Lib.parseUintM M p l = .ok (decFold p l) := by
  induction l with
  | nil => exact fun p _ _ => rfl
  | cons c r ih =>
    intro p hd hl
    have hc : 48 ≤ c.toNat ∧ c.toNat ≤ 57 := hd c List.mem_cons_self
    have h1 := decFold_le r (10 * p + (c.toNat - 48))
    have hl : decFold (10 * p + (c.toNat - 48)) r ≤ M := hl
    have ih := ih (10 * p + (c.toNat - 48)) (fun d hd' => hd d (List.mem_cons_of_mem _ hd')) hl
    show Lib.parseUintM M p (c :: r) = .ok (decFold (10 * p + (c.toNat - 48)) r)
    rw [← ih]
    unfold Lib.parseUintM
    rw [if_pos hc, if_neg (by omega), if_neg (by omega), show p * 10 + (c.toNat - 48) = 10 * p + (c.toNat - 48) by omega]
    cases r <;> rfl
theorem parse_itoa (n : Int) (h : inI64 n = true) : Lib.parseIntB 64 (Lib.itoa n) = .ok n := by
  simp only [inI64, Bool.and_eq_true, decide_eq_true_eq] at h
  have hu : ∀ u : Nat, u ≤ 9223372036854775808 → Lib.parseUintB 64 (Lib.decDigits u) = .ok u := by
    intro u hu
    unfold Lib.parseUintB
    rw [if_neg (decDigits_ne u)]
    have := parseUintM_fold (2 ^ 64 - 1) (by decide) (Lib.decDigits u) 0 (decDigits_dig u) (by rw [decDigits_fold]; omega)
    rw [decDigits_fold] at this
    exact this
  unfold Lib.itoa
  by_cases hn : n < 0
  · rw [if_pos hn]
    simp only [Lib.parseIntB]
    rw [if_pos (.inr rfl), hu _ (by omega)]
    simp only
    rw [if_neg (fun e => e.1 rfl), if_neg (by intro e; have := e.2; omega), if_pos (show (45 : UInt8).toNat = 45 from rfl)]
    congr 1
    omega
  · rw [if_neg hn]
    cases hd : Lib.decDigits n.toNat with
    | nil => exact absurd hd (decDigits_ne _)
    | cons c r =>
      have hc : dig c := decDigits_dig n.toNat c (by rw [hd]; exact List.mem_cons_self)
      have hc' : 48 ≤ c.toNat ∧ c.toNat ≤ 57 := hc
      simp only [Lib.parseIntB]
      rw [if_neg (by omega), ← hd, hu _ (by omega)]
      simp only
      rw [if_neg (by intro e; have := e.2; omega), if_neg (by intro e; have := e.1; omega), if_neg (by omega)]
      congr 1
      omega
theorem parse_bounds {l : List UInt8} {v : Int} (h : Lib.parseIntB 64 l = .ok v) : inI64 v = true := by
  have key : ∀ (c : UInt8) (r : List UInt8), Lib.parseIntB 64 (c :: r) = .ok v → inI64 v = true := by
    intro c r h
    simp only [Lib.parseIntB] at h
    split at h
    · cases h
    · cases h
    · rename_i u hu
      split at h
      · cases h
      · split at h
        · cases h
        · rename_i h1 h2
          simp only [Lib.NumEnd.ok.injEq] at h
          simp only [inI64, Bool.and_eq_true, decide_eq_true_eq]
          subst h
          split
          · rename_i hneg
            have : ¬ 2 ^ (64 - 1) < u := fun e => h2 ⟨hneg, e⟩
            omega
          · rename_i hneg
            have : ¬ 2 ^ (64 - 1) ≤ u := fun e => h1 ⟨hneg, e⟩
            omega
  cases l with
  | nil => cases h
  | cons c r => exact key c r h
end Go.Proofs.YtopplbiadpcalaaDoor.K

/- eyrieref03.number: it ends; a numeral's number. -/
namespace Go.Proofs.YtopplbiadpcalaaDoor.U
open Go Go.Proofs.YtopplbiadpcalaaDoor.K

theorem tdiv10 (d : Nat) (hd : d ≤ 9) : Int.tdiv ((-9223372036854775808 : Int) + (d : Int)) 10 = -(((9223372036854775808 - d) / 10 : Nat) : Int) := by
  rw [show ((-9223372036854775808 : Int) + (d : Int)) = -((9223372036854775808 - d : Nat) : Int) by omega, Int.neg_tdiv, Int.tdiv_eq_ediv_of_nonneg (by omega)]
  rfl
/-- A digit more. -/
theorem num_step (S : ByteArray) (hL : S.size ≤ 1099511627776) (p : Nat) (v2 : Int) (k : Nat) (hk : k < S.data.toList.length) (hp : p ≤ 9223372036854775808) (r : ByteArray → Int → Int → Int → Option (Int × Bool)) :
    B32_6 r S (-(p : Int)) v2 (k : Int) = if 48 ≤ S.data.toList[k].toNat ∧ S.data.toList[k].toNat ≤ 57 ∧ 10 * p + (S.data.toList[k].toNat - 48) ≤ 9223372036854775808 then r S (-((10 * p + (S.data.toList[k].toNat - 48) : Nat) : Int)) v2 ((k + 1 : Nat) : Int) else some (0, false) := by
  have hc := u8_lt S.data.toList[k]
  have hsz := bytes_size S
  simp only [B32_6, cond_dec, beq_int, and_dec, Int.toNat_natCast, get_byte _ k hk]
  generalize S.data.toList[k] = c at *
  generalize c.toNat = q at *
  have hw : IntKind.i64.wrap ((k : Int) + 1) = ((k + 1 : Nat) : Int) := by rw [w64 (by omega)]; rfl
  rw [hw]
  rw [if_pos (by omega), if_pos (by omega)]
  by_cases h1 : 48 ≤ q
  rotate_left
  · rw [if_pos (by omega), if_neg (by omega)]
  rw [if_neg (by omega), if_pos (by omega)]
  by_cases h2 : q ≤ 57
  rotate_left
  · rw [if_pos (by omega), if_neg (by omega)]
  rw [if_neg (by omega), if_pos (by omega)]
  have hd : IntKind.i64.wrap (IntKind.u8.wrap ((q : Int) - 48)) = ((q - 48 : Nat) : Int) := by rw [wu8 (by omega), w64 (by omega)]; omega
  rw [hd, w64 (n := -9223372036854775808 + ((q - 48 : Nat) : Int)) (by omega), tdiv10 (q - 48) (by omega)]
  rw [w64 (n := -(((9223372036854775808 - (q - 48)) / 10 : Nat) : Int)) (by omega)]
  by_cases h3 : 10 * p + (q - 48) ≤ 9223372036854775808
  · rw [if_neg (by omega), if_pos ⟨h1, h2, h3⟩]
    rw [w64 (n := 10 * -(p : Int)) (by omega), w64 (by omega)]
    congr 1
    omega
  · rw [if_pos (by omega), if_neg (by omega)]
def numEnd (S : ByteArray) (p : Nat) (v2 : Int) : Int × Bool := if v2 = 0 then (if p = 9223372036854775808 then (0, false) else ((p : Int), decide ((S.size : Int) > 0))) else (-(p : Int), decide ((S.size : Int) > v2))
theorem num_end (S : ByteArray) (hL : S.size ≤ 1099511627776) (p : Nat) (v2 : Int) (k : Nat) (hk : ¬ k < S.data.toList.length) (hp : p ≤ 9223372036854775808) (r : ByteArray → Int → Int → Int → Option (Int × Bool)) :
    B32_6 r S (-(p : Int)) v2 (k : Int) = some (numEnd S p v2) := by
  have hsz := bytes_size S
  simp only [B32_6, cond_dec, beq_int]
  rw [if_neg (by omega)]
  unfold numEnd
  by_cases h2 : v2 = 0
  · rw [if_pos h2, if_pos h2]
    by_cases h3 : p = 9223372036854775808
    · rw [if_pos (by omega), if_pos h3]
    · rw [if_neg (by omega), if_neg h3, w64 (by omega), show (0 : Int) - -(p : Int) = p by omega, h2]
  · rw [if_neg h2, if_neg h2]
theorem num_all (S : ByteArray) (hL : S.size ≤ 1099511627776) (v2 : Int) : ∀ (n k p : Nat), S.data.toList.length ≤ k + n → p ≤ 9223372036854775808 → ∃ y, l32 (n + 1) S (-(p : Int)) v2 (k : Int) = some y ∧ inI64 y.1 = true
  | n, k, p, hn, hp => by
    have he : inI64 (numEnd S p v2).1 = true := by
      unfold numEnd inI64
      split
      · split
        · decide
        · simp only [Bool.and_eq_true, decide_eq_true_eq]; omega
      · simp only [Bool.and_eq_true, decide_eq_true_eq]; omega
    by_cases hk : k < S.data.toList.length
    · cases n with
      | zero => omega
      | succ n =>
        rw [l32, num_step S hL p v2 k hk hp]
        split
        · rename_i h
          exact num_all S hL v2 n (k + 1) _ (by omega) h.2.2
        · exact ⟨_, rfl, rfl⟩
    · rw [l32, num_end S hL p v2 k hk hp]
      exact ⟨_, rfl, he⟩
theorem num_run (S : ByteArray) (hL : S.size ≤ 1099511627776) (v2 : Int) (l : List UInt8) : ∀ (k p : Nat), S.data.toList.drop k = l → k ≤ S.data.toList.length → (∀ c ∈ l, dig c) → decFold p l ≤ 9223372036854775808 → l32 (l.length + 1) S (-(p : Int)) v2 (k : Int) = some (numEnd S (decFold p l) v2) := by
  induction l with
  | nil =>
    intro k p hl hk hd hp
    have : S.data.toList.length ≤ k := List.drop_eq_nil_iff.1 hl
    rw [List.length_nil, l32, num_end S hL p v2 k (by omega) hp]
    rfl
  | cons c l ih =>
    intro k p hl hk hd hp
    have hlt : k < S.data.toList.length := by
      rcases Nat.lt_or_ge k S.data.toList.length with h | h
      · exact h
      · rw [List.drop_of_length_le h] at hl; cases hl
    rw [List.drop_eq_getElem_cons hlt] at hl
    obtain ⟨hc, hl⟩ := List.cons.inj hl
    have h1 := decFold_le l (10 * p + (c.toNat - 48))
    have hcd : 48 ≤ c.toNat ∧ c.toNat ≤ 57 := hd c List.mem_cons_self
    have hp : decFold (10 * p + (c.toNat - 48)) l ≤ 9223372036854775808 := hp
    rw [List.length_cons, l32, num_step S hL p v2 k hlt (by omega), hc, if_pos ⟨hcd.1, hcd.2, by omega⟩]
    exact ih (k + 1) _ hl (by omega) (fun d hd' => hd d (List.mem_cons_of_mem _ hd')) hp
theorem number_any (S : ByteArray) (hL : S.size ≤ 1099511627776) : ∃ y, F32 (S.size + 1) S = some y ∧ inI64 y.1 = true := by
  have hsz := bytes_size S
  simp only [F32, M32, cond_dec, beq_int, and_dec]
  have h0 := num_all S hL 0 S.size 0 0 (by omega) (by omega)
  have h1 := num_all S hL 1 S.size 1 0 (by omega) (by omega)
  have e0 : (-((0 : Nat) : Int)) = 0 := rfl
  rw [e0] at h0 h1
  by_cases hp : (S.size : Int) > 0
  · rw [if_pos hp, if_pos (by omega)]
    split
    · exact h1
    · exact h0
  · rw [if_neg hp]; exact h0
theorem number_itoa (n : Int) (h : inI64 n = true) : ∃ m, F32 m (itoaB n) = some (n, true) := by
  have hi : (-9223372036854775808 ≤ n ∧ n ≤ 9223372036854775807) := by simpa [inI64] using h
  have hlen : (itoaB n).size ≤ 1099511627776 := by
    unfold itoaB
    rw [mk_size]
    have := Lib.itoa_length_le n hi.1 hi.2
    omega
  have hdl : (itoaB n).data.toList = Lib.itoa n := bytes_mk _
  have hsz := bytes_size (itoaB n)
  rw [hdl] at hsz
  by_cases hn : n < 0
  · have hl : Lib.itoa n = 45 :: Lib.decDigits n.natAbs := by unfold Lib.itoa; rw [if_pos hn]
    have hne := decDigits_ne n.natAbs
    have hpos : 1 ≤ (Lib.decDigits n.natAbs).length := by
      cases hx : Lib.decDigits n.natAbs with
      | nil => exact absurd hx hne
      | cons _ _ => simp
    rw [hl, List.length_cons] at hsz
    refine ⟨(Lib.decDigits n.natAbs).length + 1, ?_⟩
    have hrun := num_run (itoaB n) hlen 1 (Lib.decDigits n.natAbs) 1 0 (by rw [hdl, hl]; rfl) (by rw [hdl, hl]; simp) (decDigits_dig _) (by rw [decDigits_fold]; omega)
    rw [decDigits_fold] at hrun
    simp only [F32, M32, cond_dec, beq_int, and_dec]
    rw [if_pos (by omega), if_pos (by omega), if_pos (by rw [hdl, hl]; rfl)]
    refine Eq.trans hrun ?_
    unfold numEnd
    rw [if_neg (by decide), show (-((n.natAbs : Nat) : Int)) = n by omega, decide_eq_true (by omega)]
  · have hl : Lib.itoa n = Lib.decDigits n.toNat := by unfold Lib.itoa; rw [if_neg hn]
    have hne := decDigits_ne n.toNat
    have hrun := num_run (itoaB n) hlen 0 (Lib.decDigits n.toNat) 0 0 (by rw [hdl, hl]; rfl) (by omega) (decDigits_dig _) (by rw [decDigits_fold]; omega)
    rw [decDigits_fold] at hrun
    refine ⟨(Lib.decDigits n.toNat).length + 1, ?_⟩
    cases hx : Lib.decDigits n.toNat with
    | nil => exact absurd hx hne
    | cons c r =>
      have hc : 48 ≤ c.toNat ∧ c.toNat ≤ 57 := decDigits_dig n.toNat c (by rw [hx]; exact List.mem_cons_self)
      rw [hl, hx, List.length_cons] at hsz
      simp only [F32, M32, cond_dec, beq_int, and_dec]
      rw [if_pos (by omega), if_pos (by omega)]
      have h0 : (itoaB n).data.toList.getD (Int.toNat 0) 0 = c := by rw [hdl, hl, hx]; rfl
      rw [h0, if_neg (by omega), ← hx]
      refine Eq.trans hrun ?_
      unfold numEnd
      rw [if_pos rfl, if_neg (by omega), decide_eq_true (by omega), show ((n.toNat : Nat) : Int) = n by omega]
end Go.Proofs.YtopplbiadpcalaaDoor.U

/- What a text says as a value. -/
namespace Go.Proofs.YtopplbiadpcalaaDoor.K
open Go Go.Proofs.YtopplbiadpcalaaDoor.U

noncomputable def inner (s : ByteArray) : ByteArray := limit (fun m => F30 m s) ⟨#[]⟩
noncomputable def quoted (s : ByteArray) : ByteArray := limit (fun m => F31 m s) ⟨#[]⟩
noncomputable def number (s : ByteArray) : Int × Bool := limit (fun m => F32 m s) (0, false)
noncomputable def pInt (s : ByteArray) : Int × Bool := match Lib.parseIntB 64 s.data.toList with
  | .ok v => (v, true)
  | .range => (Lib.intSat 64 s.data.toList, false)
  | _ => (0, false)
theorem inner_eq {m : Nat} {s y : ByteArray} (h : F30 m s = some y) : inner s = y := limit_eq (F := fun m => F30 m s) (fun _ _ _ hm h => F30_mono hm s h) h
theorem quoted_eq {m : Nat} {s y : ByteArray} (h : F31 m s = some y) : quoted s = y := limit_eq (F := fun m => F31 m s) (fun _ _ _ hm h => F31_mono hm s h) h
theorem number_eq {m : Nat} {s : ByteArray} {y : Int × Bool} (h : F32 m s = some y) : number s = y := limit_eq (F := fun m => F32 m s) (fun _ _ _ hm h => F32_mono hm s h) h
theorem ofI_len (l : List Int) : (ofI l).length = l.length := List.length_map _
theorem inner_some (s : ByteArray) (h : s.size ≤ 1099511627776) : (∃ m, F30 m s = some (inner s)) ∧ (inner s).size ≤ s.size := by
  obtain ⟨y, h1, h2⟩ := inner_all s h (s.size + 1) 1 [] (by omega) (by omega) (by omega) (by simp)
  have h1 : F30 (s.size + 1 + 1) s = some (ByteArray.mk (ofI y).toArray) := h1
  rw [inner_eq h1]
  exact ⟨⟨_, h1⟩, by rw [mk_size, ofI_len]; exact h2⟩
theorem quoted_some (s : ByteArray) (h : s.size ≤ 1099511627776) : (∃ m, F31 m s = some (quoted s)) ∧ (quoted s).size ≤ s.size := by
  obtain ⟨y, h1, h2⟩ := quoted_all s h (s.size + 1) 1 [] (by omega) (by omega) (by omega) (by simp)
  have h1 : F31 (s.size + 1 + 1) s = some (ByteArray.mk (ofI y).toArray) := h1
  rw [quoted_eq h1]
  exact ⟨⟨_, h1⟩, by rw [mk_size, ofI_len]; exact h2⟩
theorem number_some (s : ByteArray) (h : s.size ≤ 1099511627776) : (∃ m, F32 m s = some (number s)) ∧ inI64 (number s).1 = true := by
  obtain ⟨y, h1, h2⟩ := number_any s h
  rw [number_eq h1]
  exact ⟨⟨_, h1⟩, h2⟩
theorem pInt_in (s : ByteArray) (h : (pInt s).2 = true) : inI64 (pInt s).1 = true := by
  unfold pInt at h ⊢
  split at h
  · rename_i v hv; exact parse_bounds hv
  · cases h
  · cases h
/-- The text of a string in quotes. -/
noncomputable def quoteB (t : ByteArray) : ByteArray := ⟨(quoteL t.data.toList).toArray⟩
theorem quoteB_list (t : ByteArray) : (quoteB t).data.toList = [34] ++ t.data.toList.flatMap escB ++ [34] := by
  show quoteL t.data.toList = _
  unfold quoteL
  simp
theorem flat_le (l : List UInt8) : (l.flatMap escB).length ≤ 4 * l.length := by
  induction l with
  | nil => simp
  | cons c l ih => have := escB_len c; simp only [List.flatMap_cons, List.length_append, List.length_cons]; omega
theorem quoteB_size (t : ByteArray) : (quoteB t).size ≤ 4 * t.size + 2 := by
  rw [bytes_size, quoteB_list, bytes_size t]
  have := flat_le t.data.toList
  simp only [List.length_append, List.length_cons, List.length_nil]
  omega
theorem inner_quote (t : ByteArray) (h : t.size ≤ 64) : inner (quoteB t) = t := by
  have h2 := quoteB_size t
  have hr := inner_run (quoteB t) (by omega) t.data.toList [34] [] (by rw [quoteB_list]) (by simp) (by simp)
  have hr : F30 (t.data.toList.length + 1) (quoteB t) = some ⟨([] ++ t.data.toList).toArray⟩ := hr
  rw [inner_eq hr, List.nil_append, mk_bytes]
theorem quoted_quote (t : ByteArray) (h : t.size ≤ 64) : quoted (quoteB t) = t := by
  have h2 := quoteB_size t
  have hr := quoted_run (quoteB t) (by omega) t.data.toList [34] [] (by rw [quoteB_list]) (by simp) (by simp)
  have hr : F31 (t.data.toList.length + 1) (quoteB t) = some ⟨([] ++ t.data.toList).toArray⟩ := hr
  rw [quoted_eq hr, List.nil_append, mk_bytes]
theorem number_of_itoa (n : Int) (h : inI64 n = true) : number (itoaB n) = (n, true) := by
  obtain ⟨m, hm⟩ := number_itoa n h
  exact number_eq hm
theorem pInt_itoa (n : Int) (h : inI64 n = true) : pInt (itoaB n) = (n, true) := by
  have : (itoaB n).data.toList = Lib.itoa n := bytes_mk _
  unfold pInt
  rw [this, parse_itoa n h]
/-- A numeral's first letter. -/
theorem itoa_head (n : Int) : ∃ c r, Lib.itoa n = c :: r ∧ (c.toNat = 45 ∨ 48 ≤ c.toNat ∧ c.toNat ≤ 57) := by
  unfold Lib.itoa
  split
  · exact ⟨_, _, rfl, .inl rfl⟩
  · cases hx : Lib.decDigits n.toNat with
    | nil => exact absurd hx (decDigits_ne _)
    | cons c r => exact ⟨c, r, rfl, .inr (decDigits_dig n.toNat c (by rw [hx]; exact List.mem_cons_self))⟩
theorem pInt_quote (t : ByteArray) : (pInt (quoteB t)).2 = false := by
  unfold pInt
  rw [quoteB_list]
  rfl
def Says (s : ByteArray) (v : Val) : Prop := check v = 0 ∧ inI64 v.2.1 = true ∧ text v = s
theorem check_cases {v : Val} (h : check v = 0) : v = (1, v.2.1, ⟨#[]⟩) ∨ v = (2, 0, v.2.2) ∧ v.2.2.size ≤ 64 := by
  obtain ⟨k, n, t⟩ := v
  unfold check at h
  simp only at h
  split at h
  · rename_i hc
    rcases hc with ⟨rfl, h2⟩ | ⟨rfl, rfl, h2⟩
    · left
      have : t = ⟨#[]⟩ := bytes_ext (by rw [bytes_size] at h2; simpa using List.eq_nil_of_length_eq_zero h2)
      rw [this]
    · exact .inr ⟨rfl, h2⟩
  · cases h
theorem text_int (n : Int) (t : ByteArray) : text (1, n, t) = itoaB n := by unfold text; rw [if_pos rfl]
theorem text_str (n : Int) (t : ByteArray) : text (2, n, t) = quoteB t := by unfold text; rw [if_neg (show ¬ (2 : Int) = 1 by decide), if_pos rfl]; rfl
open Classical in
noncomputable def parse (s : ByteArray) : Val × Bool := if h : ∃ v, Says s v then (h.choose, true) else ((0, 0, ⟨#[]⟩), false)
theorem says_one {s : ByteArray} {v u : Val} (hv : Says s v) (hu : Says s u) : v = u := by
  obtain ⟨c1, i1, t1⟩ := hv
  obtain ⟨c2, i2, t2⟩ := hu
  have hne : ∀ (n : Int) (t : ByteArray), itoaB n ≠ quoteB t := by
    intro n t e
    have e := congrArg (fun b : ByteArray => b.data.toList) e
    rw [quoteB_list] at e
    obtain ⟨c, r, h1, h2⟩ := itoa_head n
    have h3 : (itoaB n).data.toList = Lib.itoa n := bytes_mk _
    rw [h3, h1] at e
    have e := (List.cons.inj e).1
    rw [e] at h2
    rcases h2 with h2 | h2
    · cases h2
    · have : (34 : UInt8).toNat = 34 := rfl
      omega
  rcases check_cases c1 with h1 | ⟨h1, s1⟩ <;> rcases check_cases c2 with h2 | ⟨h2, s2⟩
  · rw [h1, text_int] at t1
    rw [h2, text_int] at t2
    have e := (pInt_itoa _ i1).symm.trans ((congrArg pInt (t1.trans t2.symm)).trans (pInt_itoa _ i2))
    rw [h1, h2, (Prod.mk.inj e).1]
  · rw [h1, text_int] at t1
    rw [h2, text_str] at t2
    exact absurd (t1.trans t2.symm) (hne _ _)
  · rw [h1, text_str] at t1
    rw [h2, text_int] at t2
    exact absurd (t2.trans t1.symm) (hne _ _)
  · rw [h1, text_str] at t1
    rw [h2, text_str] at t2
    have e := (inner_quote _ s1).symm.trans ((congrArg inner (t1.trans t2.symm)).trans (inner_quote _ s2))
    rw [h1, h2, e]
theorem parse_says {s : ByteArray} {v : Val} (h : Says s v) : parse s = (v, true) := by
  have hx : ∃ v, Says s v := ⟨v, h⟩
  unfold parse
  rw [dif_pos hx, says_one hx.choose_spec h]
theorem parse_none {s : ByteArray} (h : ¬ ∃ v, Says s v) : parse s = ((0, 0, ⟨#[]⟩), false) := by
  unfold parse
  rw [dif_neg h]
/-- A candidate is tried. -/
theorem parse_try {s : ByteArray} {v : Val} (hi : inI64 v.2.1 = true) (hc : ∀ u, Says s u → u = v) : parse s = if check v = 0 ∧ text v = s then (v, true) else ((0, 0, ⟨#[]⟩), false) := by
  split
  · rename_i h; exact parse_says ⟨h.1, hi, h.2⟩
  · rename_i h
    refine parse_none ?_
    rintro ⟨u, hu⟩
    obtain rfl := hc u hu
    exact h ⟨hu.1, hu.2.2⟩
end Go.Proofs.YtopplbiadpcalaaDoor.K

/- strconv.ParseInt (function 29): its row: what must hold, what it answers. -/
namespace Go.Proofs.YtopplbiadpcalaaDoor.U
open Go
noncomputable def sp29 : Sp := Sp.of [⟨false, .str⟩, ⟨false, (.int .i64)⟩, ⟨false, (.int .i64)⟩] [⟨false, (.int .i64), false⟩, ⟨false, .ifc, false⟩] (fun x1 x2 x3 => (x2 == 10 && (x3 == 64 && decide (x1.size ≤ 1099511627776)), ((K.pInt x1).1, (K.pInt x1).2)))
end Go.Proofs.YtopplbiadpcalaaDoor.U

/- eyrie/value.inner (function 30): its row: what must hold, what it answers. -/
namespace Go.Proofs.YtopplbiadpcalaaDoor.U
open Go
noncomputable def sp30 : Sp := Sp.of [⟨false, .str⟩] [⟨false, .str, false⟩] (fun x1 => (decide (x1.size ≤ 1099511627776), K.inner x1))
end Go.Proofs.YtopplbiadpcalaaDoor.U

/- eyrie/value.Check (function 10): its row: what must hold, what it answers. -/
namespace Go.Proofs.YtopplbiadpcalaaDoor.U
open Go
noncomputable def sp10 : Sp := Sp.of [⟨true, (.prod (.int .i64) (.prod (.int .i64) .str))⟩] [⟨false, (.int .i64), false⟩] (fun x1 => (true, K.check x1))
end Go.Proofs.YtopplbiadpcalaaDoor.U

/- eyrie/value.Text (function 21): its row: what must hold, what it answers. -/
namespace Go.Proofs.YtopplbiadpcalaaDoor.U
open Go
noncomputable def sp21 : Sp := Sp.of [⟨true, (.prod (.int .i64) (.prod (.int .i64) .str))⟩] [⟨false, .str, false⟩] (fun x1 => (K.inI64 x1.2.1 && decide (x1.2.2.size ≤ 1099511627776), K.text x1))
end Go.Proofs.YtopplbiadpcalaaDoor.U

/- eyrie/value.Parse (function 19): what it computes, as a plain function: printed by a program of ours off the small machine, checked by the kernel. -/
namespace Go.Proofs.YtopplbiadpcalaaDoor.U
open Go
def cs19 : List Ac := [⟨false, .str⟩]
def rs19 : List Rc := [⟨true, (.prod (.int .i64) (.prod (.int .i64) .str)), false⟩, ⟨false, .bool, false⟩]
def lv19 : Live := fun i => (fun _ => none : Nat → Option Keep) i
def kx19 : Keep := ⟨[(0, []), (1, [])], []⟩
noncomputable def C19 : Nat → Option Sp := tabC [(29, sp29), (30, sp30), (10, sp10), (21, sp21)]
set_option maxRecDepth 100000
noncomputable def M19 (x1 : ByteArray) : Option ((Int × (Int × ByteArray)) × Bool) :=
 (cond ((10 : Int) == (10 : den (Ac.mk false (Kn.int IntKind.i64)).k) && ((64 : Int) == (64 : den (Ac.mk false (Kn.int IntKind.i64)).k) && decide (x1.size ≤ (1099511627776 : Nat))))
  (cond (!(K.pInt x1).snd)
   (cond (decide (x1.size ≤ (1099511627776 : Nat)))
    (cond (K.check ((2 : Int), (0 : Int), K.inner x1) != (0 : Int))
     (some ((((0 : Int), (0 : Int), ByteArray.mk #[]), false)))
     (cond (K.inI64 (0 : Int) && decide ((K.inner x1).size ≤ (1099511627776 : Nat)))
      (cond (!(K.text ((2 : Int), (0 : Int), K.inner x1)).toList == x1.toList)
       (some ((((0 : Int), (0 : Int), ByteArray.mk #[]), false)))
       (some ((((2 : Int), (0 : Int), K.inner x1), true))))
      none))
    none)
   (cond (K.inI64 (K.pInt x1).fst && decide ((ByteArray.mk #[]).size ≤ (1099511627776 : Nat)))
    (cond (!(K.text ((1 : Int), (K.pInt x1).fst, ByteArray.mk #[])).toList == x1.toList)
     (some ((((0 : Int), (0 : Int), ByteArray.mk #[]), false)))
     (some ((((1 : Int), (K.pInt x1).fst, ByteArray.mk #[]), true))))
    none))
  none)
theorem M19_ok (Lo : Nat → St → Option ((Int × (Int × ByteArray)) × Bool)) (x1 : ByteArray) : callG tab C19 lv19 (dec rs19) Lo Tryd.f19 kx19 [canon false .str x1] [] = M19 x1 := by kernel_rfl
noncomputable def F19 (_ : Nat) (x1 : ByteArray) : Option ((Int × (Int × ByteArray)) × Bool) := M19 x1
theorem F19_ok (m : Nat) (x1 : ByteArray) : callF tab C19 lv19 (dec rs19) m Tryd.f19 kx19 [canon false .str x1] [] = F19 m x1 := M19_ok _ x1
theorem fn19 {G : GB} (hC : COk Tryd.prog G C19) (m : Nat) (x1 : ByteArray) (y : ((Int × (Int × ByteArray)) × Bool)) (h : F19 m x1 = some y) : FnR Tryd.prog G 19 [canon false .str x1] [] (fun v hout => dec rs19 v hout = some y) :=
  callF_sound (Lv := lv19) (n := m) (kx := kx19) follows tab_ok hC Tryd.func19 ((F19_ok m x1).trans h)
theorem F19_mono {m m' : Nat} (hm : m ≤ m') (x1 : ByteArray) {y : ((Int × (Int × ByteArray)) × Bool)} (h : F19 m x1 = some y) : F19 m' x1 = some y := (F19_ok m' x1).symm.trans (callF_mono hm ((F19_ok m x1).trans h))
theorem ent19 : Ent Tryd.prog 19 := ⟨_, Tryd.func19, by kernel_rfl, by kernel_rfl⟩
theorem C19_ok {G : GB} (h29 : RowOk Tryd.prog G 29 sp29) (h30 : RowOk Tryd.prog G 30 sp30) (h10 : RowOk Tryd.prog G 10 sp10) (h21 : RowOk Tryd.prog G 21 sp21) : COk Tryd.prog G C19 := tabC_ok (by
  intro p hp
  simp only [List.mem_cons, List.not_mem_nil, or_false] at hp
  rcases hp with rfl | rfl | rfl | rfl
  · exact h29
  · exact h30
  · exact h10
  · exact h21
)
end Go.Proofs.YtopplbiadpcalaaDoor.U

/- eyrie/eyrieref03.quoted (function 31): its row: what must hold, what it answers. -/
namespace Go.Proofs.YtopplbiadpcalaaDoor.U
open Go
noncomputable def sp31 : Sp := Sp.of [⟨false, .str⟩] [⟨false, .str, false⟩] (fun x1 => (decide (x1.size ≤ 1099511627776), K.quoted x1))
end Go.Proofs.YtopplbiadpcalaaDoor.U

/- eyrie/eyrieref03.number (function 32): its row: what must hold, what it answers. -/
namespace Go.Proofs.YtopplbiadpcalaaDoor.U
open Go
noncomputable def sp32 : Sp := Sp.of [⟨false, .str⟩] [⟨false, (.int .i64), false⟩, ⟨false, .bool, false⟩] (fun x1 => (decide (x1.size ≤ 1099511627776), K.number x1))
end Go.Proofs.YtopplbiadpcalaaDoor.U

/- eyrie/eyrieref03.Check (function 11): its row: what must hold, what it answers. -/
namespace Go.Proofs.YtopplbiadpcalaaDoor.U
open Go
noncomputable def sp11 : Sp := Sp.of [⟨true, (.prod (.int .i64) (.prod (.int .i64) .str))⟩] [⟨false, (.int .i64), false⟩] (fun x1 => (true, K.check x1))
end Go.Proofs.YtopplbiadpcalaaDoor.U

/- eyrie/eyrieref03.Text (function 22): its row: what must hold, what it answers. -/
namespace Go.Proofs.YtopplbiadpcalaaDoor.U
open Go
noncomputable def sp22 : Sp := Sp.of [⟨true, (.prod (.int .i64) (.prod (.int .i64) .str))⟩] [⟨false, .str, false⟩] (fun x1 => (K.inI64 x1.2.1 && decide (x1.2.2.size ≤ 1099511627776), K.text x1))
end Go.Proofs.YtopplbiadpcalaaDoor.U

/- eyrie/eyrieref03.Parse (function 20): what it computes, as a plain function: printed by a program of ours off the small machine, checked by the kernel. -/
namespace Go.Proofs.YtopplbiadpcalaaDoor.U
open Go
def cs20 : List Ac := [⟨false, .str⟩]
def rs20 : List Rc := [⟨true, (.prod (.int .i64) (.prod (.int .i64) .str)), false⟩, ⟨false, .bool, false⟩]
def lv20 : Live := fun i => (fun _ => none : Nat → Option Keep) i
def kx20 : Keep := ⟨[(0, []), (1, [])], []⟩
noncomputable def C20 : Nat → Option Sp := tabC [(31, sp31), (32, sp32), (11, sp11), (22, sp22)]
set_option maxRecDepth 100000
noncomputable def M20 (x1 : ByteArray) : Option ((Int × (Int × ByteArray)) × Bool) :=
 (cond (decide ((↑x1.size : Int) > (1 : Int)))
  (cond (decide ((0 : Int) ≤ (0 : Int)) && decide ((0 : Int) < (↑x1.size : Int)))
   (cond ((↑(x1.data.toList.getD (Int.toNat (0 : Int)) (0 : UInt8)).toNat : Int) == (34 : Int))
    (cond (decide (x1.size ≤ (1099511627776 : Nat)))
     (cond (K.inI64 (0 : Int) && decide ((K.quoted x1).size ≤ (1099511627776 : Nat)))
      (cond (!(K.text ((2 : Int), (0 : Int), K.quoted x1)).toList == x1.toList)
       (some ((((0 : Int), (0 : Int), ByteArray.mk #[]), false)))
       (cond (K.check ((2 : Int), (0 : Int), K.quoted x1) != (0 : Int))
        (some ((((0 : Int), (0 : Int), ByteArray.mk #[]), false)))
        (some ((((2 : Int), (0 : Int), K.quoted x1), true)))))
      none)
     none)
    (cond (decide (x1.size ≤ (1099511627776 : Nat)))
     (cond ((K.number x1).snd)
      (cond (K.inI64 (K.number x1).fst && decide ((ByteArray.mk #[]).size ≤ (1099511627776 : Nat)))
       (cond (!(K.text ((1 : Int), (K.number x1).fst, ByteArray.mk #[])).toList == x1.toList)
        (some ((((0 : Int), (0 : Int), ByteArray.mk #[]), false)))
        (some ((((1 : Int), (K.number x1).fst, ByteArray.mk #[]), true))))
       none)
      (cond (!(K.text ((1 : Int), (0 : Int), ByteArray.mk #[])).toList == x1.toList)
       (some ((((0 : Int), (0 : Int), ByteArray.mk #[]), false)))
       (some ((((1 : Int), (0 : Int), ByteArray.mk #[]), true)))))
     none))
   none)
  (cond (decide (x1.size ≤ (1099511627776 : Nat)))
   (cond ((K.number x1).snd)
    (cond (K.inI64 (K.number x1).fst && decide ((ByteArray.mk #[]).size ≤ (1099511627776 : Nat)))
     (cond (!(K.text ((1 : Int), (K.number x1).fst, ByteArray.mk #[])).toList == x1.toList)
      (some ((((0 : Int), (0 : Int), ByteArray.mk #[]), false)))
      (some ((((1 : Int), (K.number x1).fst, ByteArray.mk #[]), true))))
     none)
    (cond (!(K.text ((1 : Int), (0 : Int), ByteArray.mk #[])).toList == x1.toList)
     (some ((((0 : Int), (0 : Int), ByteArray.mk #[]), false)))
     (some ((((1 : Int), (0 : Int), ByteArray.mk #[]), true)))))
   none))
theorem M20_ok (Lo : Nat → St → Option ((Int × (Int × ByteArray)) × Bool)) (x1 : ByteArray) : callG tab C20 lv20 (dec rs20) Lo Tryd.f20 kx20 [canon false .str x1] [] = M20 x1 := by kernel_rfl
noncomputable def F20 (_ : Nat) (x1 : ByteArray) : Option ((Int × (Int × ByteArray)) × Bool) := M20 x1
theorem F20_ok (m : Nat) (x1 : ByteArray) : callF tab C20 lv20 (dec rs20) m Tryd.f20 kx20 [canon false .str x1] [] = F20 m x1 := M20_ok _ x1
theorem fn20 {G : GB} (hC : COk Tryd.prog G C20) (m : Nat) (x1 : ByteArray) (y : ((Int × (Int × ByteArray)) × Bool)) (h : F20 m x1 = some y) : FnR Tryd.prog G 20 [canon false .str x1] [] (fun v hout => dec rs20 v hout = some y) :=
  callF_sound (Lv := lv20) (n := m) (kx := kx20) follows tab_ok hC Tryd.func20 ((F20_ok m x1).trans h)
theorem F20_mono {m m' : Nat} (hm : m ≤ m') (x1 : ByteArray) {y : ((Int × (Int × ByteArray)) × Bool)} (h : F20 m x1 = some y) : F20 m' x1 = some y := (F20_ok m' x1).symm.trans (callF_mono hm ((F20_ok m x1).trans h))
theorem ent20 : Ent Tryd.prog 20 := ⟨_, Tryd.func20, by kernel_rfl, by kernel_rfl⟩
theorem C20_ok {G : GB} (h31 : RowOk Tryd.prog G 31 sp31) (h32 : RowOk Tryd.prog G 32 sp32) (h11 : RowOk Tryd.prog G 11 sp11) (h22 : RowOk Tryd.prog G 22 sp22) : COk Tryd.prog G C20 := tabC_ok (by
  intro p hp
  simp only [List.mem_cons, List.not_mem_nil, or_false] at hp
  rcases hp with rfl | rfl | rfl | rfl
  · exact h31
  · exact h32
  · exact h11
  · exact h22
)
end Go.Proofs.YtopplbiadpcalaaDoor.U

/- value.Parse and eyrieref03.Parse: what they compute. -/
namespace Go.Proofs.YtopplbiadpcalaaDoor.U
open Go Go.Proofs.YtopplbiadpcalaaDoor.K

theorem says_cases {s : ByteArray} {u : Val} (h : Says s u) : (u = (1, u.2.1, ⟨#[]⟩) ∧ s = itoaB u.2.1) ∨ (u = (2, 0, u.2.2) ∧ u.2.2.size ≤ 64 ∧ s = quoteB u.2.2) := by
  obtain ⟨h1, h2, h3⟩ := h
  rcases check_cases h1 with h4 | ⟨h4, h5⟩
  · left; refine ⟨h4, ?_⟩; rw [h4, text_int] at h3; exact h3.symm
  · right; refine ⟨h4, h5, ?_⟩; rw [h4, text_str] at h3; exact h3.symm
theorem try_str {s q : ByteArray} (hq : ∀ u, Says s u → u = (2, 0, q)) : parse s = if check (2, 0, q) = 0 ∧ text (2, 0, q) = s then ((2, 0, q), true) else ((0, 0, ⟨#[]⟩), false) :=
  parse_try (v := (2, 0, q)) rfl hq
theorem try_int {s : ByteArray} {n : Int} (hn : inI64 n = true) (hq : ∀ u, Says s u → u = (1, n, ⟨#[]⟩)) : parse s = if text (1, n, ⟨#[]⟩) = s then ((1, n, ⟨#[]⟩), true) else ((0, 0, ⟨#[]⟩), false) := by
  rw [parse_try (v := (1, n, ⟨#[]⟩)) hn hq]
  have : check (1, n, ⟨#[]⟩) = 0 := rfl
  simp only [this, true_and]
theorem emp_size : decide ((ByteArray.mk #[]).size ≤ (1099511627776 : Nat)) = true := rfl
theorem vparse_val (s : ByteArray) (h : s.size ≤ 1099511627776) : F19 0 s = some (parse s) := by
  have hs : decide (s.size ≤ 1099511627776) = true := decide_eq_true h
  have hi := (inner_some s h).2
  have his : decide ((inner s).size ≤ 1099511627776) = true := decide_eq_true (by omega)
  show M19 s = _
  unfold M19
  have e10 : ((10 : Int) == (10 : den (Ac.mk false (Kn.int IntKind.i64)).k)) = true := rfl
  have e64 : ((64 : Int) == (64 : den (Ac.mk false (Kn.int IntKind.i64)).k)) = true := rfl
  have ei : inI64 (0 : Int) = true := rfl
  simp only [e10, e64, hs, his, ei, emp_size, Bool.and_self, cond_true, bytes_beq, bne_int, not_dec, cond_dec]
  cases hp : (pInt s).2 with
  | true =>
    have hn := pInt_in s hp
    have hq : ∀ u, Says s u → u = (1, (pInt s).1, ⟨#[]⟩) := by
      intro u hu
      rcases says_cases hu with ⟨h1, h2⟩ | ⟨h1, h2, h3⟩
      · rw [h1, h2, pInt_itoa _ hu.2.1]
      · rw [h3, pInt_quote] at hp; cases hp
    rw [try_int hn hq]
    simp only [Bool.not_true, cond_false, hn, Bool.and_self, cond_true]
    by_cases ht : text (1, (pInt s).1, ⟨#[]⟩) = s
    · rw [if_pos ht, if_neg (fun e => e ht)]
    · rw [if_neg ht, if_pos ht]
  | false =>
    have hq : ∀ u, Says s u → u = (2, 0, inner s) := by
      intro u hu
      rcases says_cases hu with ⟨h1, h2⟩ | ⟨h1, h2, h3⟩
      · rw [h2, pInt_itoa _ hu.2.1] at hp; cases hp
      · rw [h1, h3, inner_quote _ h2]
    rw [try_str hq]
    simp only [Bool.not_false, cond_true]
    by_cases hc : check (2, 0, inner s) = 0
    · rw [if_neg (fun e => e hc)]
      by_cases ht : text (2, 0, inner s) = s
      · rw [if_neg (fun e => e ht), if_pos ⟨hc, ht⟩]
      · rw [if_pos ht, if_neg (fun e => ht e.2)]
    · rw [if_pos hc, if_neg (fun e => hc e.1)]
theorem rparse_int (s : ByteArray) (h : s.size ≤ 1099511627776) (h34 : ∀ t, s ≠ quoteB t) :
    (cond (decide (s.size ≤ (1099511627776 : Nat)))
     (cond ((number s).snd)
      (cond (inI64 (number s).fst && decide ((ByteArray.mk #[]).size ≤ (1099511627776 : Nat)))
       (cond (!(text ((1 : Int), (number s).fst, ByteArray.mk #[])).toList == s.toList)
        (some ((((0 : Int), (0 : Int), ByteArray.mk #[]), false)))
        (some ((((1 : Int), (number s).fst, ByteArray.mk #[]), true))))
       none)
      (cond (!(text ((1 : Int), (0 : Int), ByteArray.mk #[])).toList == s.toList)
       (some ((((0 : Int), (0 : Int), ByteArray.mk #[]), false)))
       (some ((((1 : Int), (0 : Int), ByteArray.mk #[]), true)))))
     none) = some (parse s) := by
  have hs : decide (s.size ≤ 1099511627776) = true := decide_eq_true h
  have hn := (number_some s h).2
  simp only [hs, hn, emp_size, Bool.and_self, cond_true, bytes_beq, not_dec, cond_dec]
  cases hp : (number s).2 with
  | true =>
    have hq : ∀ u, Says s u → u = (1, (number s).1, ⟨#[]⟩) := by
      intro u hu
      rcases says_cases hu with ⟨h1, h2⟩ | ⟨h1, h2, h3⟩
      · rw [h1, h2, number_of_itoa _ hu.2.1]
      · exact absurd h3 (h34 _)
    rw [try_int hn hq]
    simp only [cond_true]
    by_cases ht : text (1, (number s).1, ⟨#[]⟩) = s
    · rw [if_pos ht, if_neg (fun e => e ht)]
    · rw [if_neg ht, if_pos ht]
  | false =>
    have hq : ∀ u, ¬ Says s u := by
      intro u hu
      rcases says_cases hu with ⟨h1, h2⟩ | ⟨h1, h2, h3⟩
      · rw [h2, number_of_itoa _ hu.2.1] at hp; cases hp
      · exact absurd h3 (h34 _)
    have ht : ¬ text (1, 0, ⟨#[]⟩) = s := fun e => hq _ ⟨rfl, rfl, e⟩
    simp only [cond_false]
    rw [if_pos ht, parse_none (fun ⟨u, hu⟩ => hq u hu)]
theorem quoteB_head (t : ByteArray) : (quoteB t).data.toList.getD (Int.toNat 0) 0 = 34 ∧ 1 < (quoteB t).size := by
  refine ⟨by rw [quoteB_list]; rfl, ?_⟩
  rw [bytes_size, quoteB_list]
  simp
theorem rparse_val (s : ByteArray) (h : s.size ≤ 1099511627776) : F20 0 s = some (parse s) := by
  have hs : decide (s.size ≤ 1099511627776) = true := decide_eq_true h
  have hi := (quoted_some s h).2
  have his : decide ((K.quoted s).size ≤ 1099511627776) = true := decide_eq_true (by omega)
  show M20 s = _
  unfold M20
  have e34 : (((34 : UInt8).toNat : Nat) : Int) = 34 := rfl
  by_cases hl : (s.size : Int) > 1
  · rw [decide_eq_true hl, cond_true]
    have hz : (decide ((0 : Int) ≤ (0 : Int)) && decide ((0 : Int) < (s.size : Int))) = true := by rw [and_dec]; exact decide_eq_true (by omega)
    rw [hz, cond_true]
    by_cases h34 : (((s.data.toList.getD (Int.toNat 0) 0).toNat : Nat) : Int) = 34
    · rw [beq_int, decide_eq_true h34, cond_true]
      have hq : ∀ u, Says s u → u = (2, 0, K.quoted s) := by
        intro u hu
        rcases says_cases hu with ⟨h1, h2⟩ | ⟨h1, h2, h3⟩
        · exfalso
          obtain ⟨c, r, h4, h5⟩ := itoa_head u.2.1
          have h6 : (itoaB u.2.1).data.toList = Lib.itoa u.2.1 := bytes_mk _
          rw [h2, h6, h4] at h34
          have h34 : ((c.toNat : Nat) : Int) = 34 := h34
          omega
        · rw [h1, h3, quoted_quote _ h2]
      rw [try_str hq]
      have ei : inI64 (0 : Int) = true := rfl
      simp only [hs, his, ei, Bool.and_self, cond_true, bytes_beq, bne_int, not_dec, cond_dec]
      by_cases ht : text (2, 0, K.quoted s) = s
      · rw [if_neg (fun e => e ht)]
        by_cases hc : check (2, 0, K.quoted s) = 0
        · rw [if_neg (fun e => e hc), if_pos ⟨hc, ht⟩]
        · rw [if_pos hc, if_neg (fun e => hc e.1)]
      · rw [if_pos ht, if_neg (fun e => ht e.2)]
    · rw [beq_int, decide_eq_false h34, cond_false]
      exact rparse_int s h (fun t e => h34 (by rw [e, (quoteB_head t).1]; rfl))
  · rw [decide_eq_false hl, cond_false]
    exact rparse_int s h (fun t e => hl (by have := (quoteB_head t).2; rw [← e] at this; omega))
end Go.Proofs.YtopplbiadpcalaaDoor.U

/- eyrie/value.Check (function 10): what it computes, as a plain function: printed by a program of ours off the small machine, checked by the kernel. -/
namespace Go.Proofs.YtopplbiadpcalaaDoor.U
open Go
def cs10 : List Ac := [⟨true, (.prod (.int .i64) (.prod (.int .i64) .str))⟩]
def rs10 : List Rc := [⟨false, (.int .i64), false⟩]
def lv10 : Live := fun i => (fun _ => none : Nat → Option Keep) i
def kx10 : Keep := ⟨[(0, [])], []⟩
noncomputable def C10 : Nat → Option Sp := tabC []
set_option maxRecDepth 100000
noncomputable def M10 (x1 : (Int × (Int × ByteArray))) : Option Int :=
 (cond (x1.fst == (1 : Int))
  (cond (ByteArray.toList x1.snd.snd == (ByteArray.mk #[]).toList)
   (some ((0 : Int)))
   (cond (x1.fst == (2 : Int))
    (cond (x1.snd.fst == (0 : Int))
     (cond (decide ((↑(ByteArray.size x1.snd.snd) : Int) ≤ (64 : Int)))
      (some ((0 : Int)))
      (some ((30 : Int))))
     (some ((30 : Int))))
    (some ((30 : Int)))))
  (cond (x1.fst == (2 : Int))
   (cond (x1.snd.fst == (0 : Int))
    (cond (decide ((↑(ByteArray.size x1.snd.snd) : Int) ≤ (64 : Int)))
     (some ((0 : Int)))
     (some ((30 : Int))))
    (some ((30 : Int))))
   (some ((30 : Int)))))
theorem M10_ok (Lo : Nat → St → Option Int) (x1 : (Int × (Int × ByteArray))) : callG tab C10 lv10 (dec rs10) Lo Tryd.f10 kx10 [canon true (.prod (.int .i64) (.prod (.int .i64) .str)) x1] [] = M10 x1 := by kernel_rfl
noncomputable def F10 (_ : Nat) (x1 : (Int × (Int × ByteArray))) : Option Int := M10 x1
theorem F10_ok (m : Nat) (x1 : (Int × (Int × ByteArray))) : callF tab C10 lv10 (dec rs10) m Tryd.f10 kx10 [canon true (.prod (.int .i64) (.prod (.int .i64) .str)) x1] [] = F10 m x1 := M10_ok _ x1
theorem fn10 {G : GB} (hC : COk Tryd.prog G C10) (m : Nat) (x1 : (Int × (Int × ByteArray))) (y : Int) (h : F10 m x1 = some y) : FnR Tryd.prog G 10 [canon true (.prod (.int .i64) (.prod (.int .i64) .str)) x1] [] (fun v hout => dec rs10 v hout = some y) :=
  callF_sound (Lv := lv10) (n := m) (kx := kx10) follows tab_ok hC Tryd.func10 ((F10_ok m x1).trans h)
theorem F10_mono {m m' : Nat} (hm : m ≤ m') (x1 : (Int × (Int × ByteArray))) {y : Int} (h : F10 m x1 = some y) : F10 m' x1 = some y := (F10_ok m' x1).symm.trans (callF_mono hm ((F10_ok m x1).trans h))
theorem ent10 : Ent Tryd.prog 10 := ⟨_, Tryd.func10, by kernel_rfl, by kernel_rfl⟩
theorem C10_ok {G : GB} : COk Tryd.prog G C10 := fun _ _ h => by cases h
end Go.Proofs.YtopplbiadpcalaaDoor.U

/- eyrie/eyrieref03.Check (function 11): what it computes, as a plain function: printed by a program of ours off the small machine, checked by the kernel. -/
namespace Go.Proofs.YtopplbiadpcalaaDoor.U
open Go
def cs11 : List Ac := [⟨true, (.prod (.int .i64) (.prod (.int .i64) .str))⟩]
def rs11 : List Rc := [⟨false, (.int .i64), false⟩]
def lv11 : Live := fun i => (fun _ => none : Nat → Option Keep) i
def kx11 : Keep := ⟨[(0, [])], []⟩
noncomputable def C11 : Nat → Option Sp := tabC []
set_option maxRecDepth 100000
noncomputable def M11 (x1 : (Int × (Int × ByteArray))) : Option Int :=
 (cond (x1.fst == (1 : Int))
  (cond (ByteArray.toList x1.snd.snd == (ByteArray.mk #[]).toList)
   (some ((0 : Int)))
   (cond (x1.fst == (2 : Int))
    (cond (x1.snd.fst == (0 : Int))
     (cond (decide ((↑(ByteArray.size x1.snd.snd) : Int) ≤ (64 : Int)))
      (some ((0 : Int)))
      (some ((30 : Int))))
     (some ((30 : Int))))
    (some ((30 : Int)))))
  (cond (x1.fst == (2 : Int))
   (cond (x1.snd.fst == (0 : Int))
    (cond (decide ((↑(ByteArray.size x1.snd.snd) : Int) ≤ (64 : Int)))
     (some ((0 : Int)))
     (some ((30 : Int))))
    (some ((30 : Int))))
   (some ((30 : Int)))))
theorem M11_ok (Lo : Nat → St → Option Int) (x1 : (Int × (Int × ByteArray))) : callG tab C11 lv11 (dec rs11) Lo Tryd.f11 kx11 [canon true (.prod (.int .i64) (.prod (.int .i64) .str)) x1] [] = M11 x1 := by kernel_rfl
noncomputable def F11 (_ : Nat) (x1 : (Int × (Int × ByteArray))) : Option Int := M11 x1
theorem F11_ok (m : Nat) (x1 : (Int × (Int × ByteArray))) : callF tab C11 lv11 (dec rs11) m Tryd.f11 kx11 [canon true (.prod (.int .i64) (.prod (.int .i64) .str)) x1] [] = F11 m x1 := M11_ok _ x1
theorem fn11 {G : GB} (hC : COk Tryd.prog G C11) (m : Nat) (x1 : (Int × (Int × ByteArray))) (y : Int) (h : F11 m x1 = some y) : FnR Tryd.prog G 11 [canon true (.prod (.int .i64) (.prod (.int .i64) .str)) x1] [] (fun v hout => dec rs11 v hout = some y) :=
  callF_sound (Lv := lv11) (n := m) (kx := kx11) follows tab_ok hC Tryd.func11 ((F11_ok m x1).trans h)
theorem F11_mono {m m' : Nat} (hm : m ≤ m') (x1 : (Int × (Int × ByteArray))) {y : Int} (h : F11 m x1 = some y) : F11 m' x1 = some y := (F11_ok m' x1).symm.trans (callF_mono hm ((F11_ok m x1).trans h))
theorem ent11 : Ent Tryd.prog 11 := ⟨_, Tryd.func11, by kernel_rfl, by kernel_rfl⟩
theorem C11_ok {G : GB} : COk Tryd.prog G C11 := fun _ _ h => by cases h
end Go.Proofs.YtopplbiadpcalaaDoor.U

/- internal/strconv.lower (function 56): what it computes, as a plain function: printed by a program of ours off the small machine, checked by the kernel. -/
namespace Go.Proofs.YtopplbiadpcalaaDoor.U
open Go
def cs56 : List Ac := [⟨false, (.int .u8)⟩]
def rs56 : List Rc := [⟨false, (.int .u8), false⟩]
def lv56 : Live := fun i => (fun _ => none : Nat → Option Keep) i
def kx56 : Keep := ⟨[(0, [])], []⟩
noncomputable def C56 : Nat → Option Sp := tabC []
set_option maxRecDepth 100000
noncomputable def M56 (x1 : Int) : Option Int :=
 (some (bitsV BinOp.or IntKind.u8 x1 (32 : Int)))
theorem M56_ok (Lo : Nat → St → Option Int) (x1 : Int) : callG tab C56 lv56 (dec rs56) Lo Tryd.f56 kx56 [canon false (.int .u8) x1] [] = M56 x1 := by kernel_rfl
noncomputable def F56 (_ : Nat) (x1 : Int) : Option Int := M56 x1
theorem F56_ok (m : Nat) (x1 : Int) : callF tab C56 lv56 (dec rs56) m Tryd.f56 kx56 [canon false (.int .u8) x1] [] = F56 m x1 := M56_ok _ x1
theorem fn56 {G : GB} (hC : COk Tryd.prog G C56) (m : Nat) (x1 : Int) (y : Int) (h : F56 m x1 = some y) : FnR Tryd.prog G 56 [canon false (.int .u8) x1] [] (fun v hout => dec rs56 v hout = some y) :=
  callF_sound (Lv := lv56) (n := m) (kx := kx56) follows tab_ok hC Tryd.func56 ((F56_ok m x1).trans h)
theorem F56_mono {m m' : Nat} (hm : m ≤ m') (x1 : Int) {y : Int} (h : F56 m x1 = some y) : F56 m' x1 = some y := (F56_ok m' x1).symm.trans (callF_mono hm ((F56_ok m x1).trans h))
theorem ent56 : Ent Tryd.prog 56 := ⟨_, Tryd.func56, by kernel_rfl, by kernel_rfl⟩
theorem C56_ok {G : GB} : COk Tryd.prog G C56 := fun _ _ h => by cases h
end Go.Proofs.YtopplbiadpcalaaDoor.U

/- eyrie/eyrieref03.hex (function 41): what it computes, as a plain function: printed by a program of ours off the small machine, checked by the kernel. -/
namespace Go.Proofs.YtopplbiadpcalaaDoor.U
open Go
def cs41 : List Ac := [⟨false, (.int .u8)⟩]
def rs41 : List Rc := [⟨false, (.int .u8), false⟩]
def lv41 : Live := fun i => (fun _ => none : Nat → Option Keep) i
def kx41 : Keep := ⟨[(0, [])], []⟩
noncomputable def C41 : Nat → Option Sp := tabC []
set_option maxRecDepth 100000
noncomputable def M41 (x1 : Int) : Option Int :=
 (cond (decide (x1 ≥ (48 : Int)))
  (cond (decide (x1 ≤ (57 : Int)))
   (some (IntKind.u8.wrap (x1 - (48 : Int))))
   (cond (decide (x1 ≥ (97 : Int)))
    (cond (decide (x1 ≤ (102 : Int)))
     (some (IntKind.u8.wrap (IntKind.u8.wrap (x1 - (97 : Int)) + (10 : Int))))
     (some ((16 : Int))))
    (some ((16 : Int)))))
  (cond (decide (x1 ≥ (97 : Int)))
   (cond (decide (x1 ≤ (102 : Int)))
    (some (IntKind.u8.wrap (IntKind.u8.wrap (x1 - (97 : Int)) + (10 : Int))))
    (some ((16 : Int))))
   (some ((16 : Int)))))
theorem M41_ok (Lo : Nat → St → Option Int) (x1 : Int) : callG tab C41 lv41 (dec rs41) Lo Tryd.f41 kx41 [canon false (.int .u8) x1] [] = M41 x1 := by kernel_rfl
noncomputable def F41 (_ : Nat) (x1 : Int) : Option Int := M41 x1
theorem F41_ok (m : Nat) (x1 : Int) : callF tab C41 lv41 (dec rs41) m Tryd.f41 kx41 [canon false (.int .u8) x1] [] = F41 m x1 := M41_ok _ x1
theorem fn41 {G : GB} (hC : COk Tryd.prog G C41) (m : Nat) (x1 : Int) (y : Int) (h : F41 m x1 = some y) : FnR Tryd.prog G 41 [canon false (.int .u8) x1] [] (fun v hout => dec rs41 v hout = some y) :=
  callF_sound (Lv := lv41) (n := m) (kx := kx41) follows tab_ok hC Tryd.func41 ((F41_ok m x1).trans h)
theorem F41_mono {m m' : Nat} (hm : m ≤ m') (x1 : Int) {y : Int} (h : F41 m x1 = some y) : F41 m' x1 = some y := (F41_ok m' x1).symm.trans (callF_mono hm ((F41_ok m x1).trans h))
theorem ent41 : Ent Tryd.prog 41 := ⟨_, Tryd.func41, by kernel_rfl, by kernel_rfl⟩
theorem C41_ok {G : GB} : COk Tryd.prog G C41 := fun _ _ h => by cases h
end Go.Proofs.YtopplbiadpcalaaDoor.U

/- internal/strconv.ParseUint (function 46): its row: what must hold, what it answers. -/
namespace Go.Proofs.YtopplbiadpcalaaDoor.U
open Go
noncomputable def sp46 : Sp := Sp.of [⟨false, .str⟩, ⟨false, (.int .i64)⟩, ⟨false, (.int .i64)⟩] [⟨false, (.int .u64), false⟩, ⟨false, (.ifi 71 .i64), false⟩] (fun x1 x2 x3 => (decide (x1.size = 2) && (x2 == 16 && x3 == 8), K.hex2 x1))
end Go.Proofs.YtopplbiadpcalaaDoor.U

/- strconv.toError (function 39): its row: what must hold, what it answers. -/
namespace Go.Proofs.YtopplbiadpcalaaDoor.U
open Go
noncomputable def sp39 : Sp := Sp.of [⟨false, .str⟩, ⟨false, .str⟩, ⟨false, (.int .i64)⟩, ⟨false, (.int .i64)⟩, ⟨false, (.ifi 71 .i64)⟩] [⟨false, .ifc, false⟩] (fun x1 x2 x3 x4 x5 => (decide (x2.size ≤ 1099511627776) && decide (x5 = some 2), false))
end Go.Proofs.YtopplbiadpcalaaDoor.U

/- strconv.ParseUint (function 40): what it computes, as a plain function: printed by a program of ours off the small machine, checked by the kernel. -/
namespace Go.Proofs.YtopplbiadpcalaaDoor.U
open Go
def cs40 : List Ac := [⟨false, .str⟩, ⟨false, (.int .i64)⟩, ⟨false, (.int .i64)⟩]
def rs40 : List Rc := [⟨false, (.int .u64), false⟩, ⟨false, .ifc, false⟩]
def lv40 : Live := fun i => (fun _ => none : Nat → Option Keep) i
def kx40 : Keep := ⟨[(0, []), (1, [])], []⟩
noncomputable def C40 : Nat → Option Sp := tabC [(46, sp46), (39, sp39)]
set_option maxRecDepth 100000
noncomputable def M40 (x1 : ByteArray) : Option (Int × Bool) :=
 (cond (decide (x1.size = (2 : Nat)) && ((16 : den (Kn.int IntKind.i64)) == (16 : den (Ac.mk false (Kn.int IntKind.i64)).k) && (8 : den (Kn.int IntKind.i64)) == (8 : den (Ac.mk false (Kn.int IntKind.i64)).k)))
  (cond (!Option.isNone (K.hex2 x1).snd)
   (cond (decide (x1.size ≤ (1099511627776 : Nat)) && decide ((K.hex2 x1).snd = some (2 : Int)))
    (some (((K.hex2 x1).fst, false)))
    none)
   (some (((K.hex2 x1).fst, true))))
  none)
theorem M40_ok (Lo : Nat → St → Option (Int × Bool)) (x1 : ByteArray) : callG tab C40 lv40 (dec rs40) Lo Tryd.f40 kx40 [canon false .str x1, canon false (.int .i64) (16), canon false (.int .i64) (8)] [] = M40 x1 := by kernel_rfl
noncomputable def F40 (_ : Nat) (x1 : ByteArray) : Option (Int × Bool) := M40 x1
theorem F40_ok (m : Nat) (x1 : ByteArray) : callF tab C40 lv40 (dec rs40) m Tryd.f40 kx40 [canon false .str x1, canon false (.int .i64) (16), canon false (.int .i64) (8)] [] = F40 m x1 := M40_ok _ x1
theorem fn40 {G : GB} (hC : COk Tryd.prog G C40) (m : Nat) (x1 : ByteArray) (y : (Int × Bool)) (h : F40 m x1 = some y) : FnR Tryd.prog G 40 [canon false .str x1, canon false (.int .i64) (16), canon false (.int .i64) (8)] [] (fun v hout => dec rs40 v hout = some y) :=
  callF_sound (Lv := lv40) (n := m) (kx := kx40) follows tab_ok hC Tryd.func40 ((F40_ok m x1).trans h)
theorem F40_mono {m m' : Nat} (hm : m ≤ m') (x1 : ByteArray) {y : (Int × Bool)} (h : F40 m x1 = some y) : F40 m' x1 = some y := (F40_ok m' x1).symm.trans (callF_mono hm ((F40_ok m x1).trans h))
theorem ent40 : Ent Tryd.prog 40 := ⟨_, Tryd.func40, by kernel_rfl, by kernel_rfl⟩
theorem C40_ok {G : GB} (h46 : RowOk Tryd.prog G 46 sp46) (h39 : RowOk Tryd.prog G 39 sp39) : COk Tryd.prog G C40 := tabC_ok (by
  intro p hp
  simp only [List.mem_cons, List.not_mem_nil, or_false] at hp
  rcases hp with rfl | rfl
  · exact h46
  · exact h39
)
end Go.Proofs.YtopplbiadpcalaaDoor.U

/- internal/strconv.lower (function 56): its row: what must hold, what it answers. -/
namespace Go.Proofs.YtopplbiadpcalaaDoor.U
open Go
noncomputable def sp56 : Sp := Sp.of [⟨false, (.int .u8)⟩] [⟨false, (.int .u8), false⟩] (fun x1 => (true, bitsV BinOp.or IntKind.u8 x1 (32 : Int)))
end Go.Proofs.YtopplbiadpcalaaDoor.U

/- internal/strconv.ParseUint (function 46): what it computes, as a plain function: printed by a program of ours off the small machine, checked by the kernel. -/
namespace Go.Proofs.YtopplbiadpcalaaDoor.U
open Go
def cs46 : List Ac := [⟨false, .str⟩, ⟨false, (.int .i64)⟩, ⟨false, (.int .i64)⟩]
def rs46 : List Rc := [⟨false, (.int .u64), false⟩, ⟨false, (.ifi 71 .i64), false⟩]
def lv46 : Live := fun i => cond (Nat.beq i 36) (some ⟨[(1, []), (8, []), (9, []), (10, []), (11, []), (12, []), (13, []), (99, [.sl (.int .u8) 5]), (100, []), (101, [])], []⟩) (none)
def kx46 : Keep := ⟨[(0, []), (1, [])], []⟩
noncomputable def C46 : Nat → Option Sp := tabC [(56, sp56)]
set_option maxRecDepth 100000
def st46_36 (v0 : Int) (v1 : Bool) (v2 : ByteArray) (v3 : Int) (v4 : Int) (v5 : Bool) (v6 : Int) (v7 : List Int) (v8 : Int) (v9 : Int) : St := ⟨(172 : Nat), [((1 : Nat), .l (.int IntKind.i64 v0)), ((8 : Nat), .l (.bool v1)), ((9 : Nat), .l (.str v2)), ((10 : Nat), .l (.int IntKind.u64 v3)), ((11 : Nat), .l (.int IntKind.u64 v4)), ((12 : Nat), .l (.bool v5)), ((13 : Nat), .l (.int IntKind.u64 v6)), ((99 : Nat), .l (.sl (Kn.int IntKind.u8) (5 : Nat) v7 (none))), ((100 : Nat), .l (.int IntKind.i64 v8)), ((101 : Nat), .l (.int IntKind.i64 v9))], [], []⟩
noncomputable def B46_36 (r36 : Int → Bool → ByteArray → Int → Int → Bool → Int → List Int → Int → Int → Option (Int × (Option Int))) (v0 : Int) (v1 : Bool) (v2 : ByteArray) (v3 : Int) (v4 : Int) (v5 : Bool) (v6 : Int) (v7 : List Int) (v8 : Int) (v9 : Int) : Option (Int × (Option Int)) :=
 (cond (decide (v9 < v8))
  (cond (decide ((0 : Int) ≤ v9) && decide (v9 < (↑v7.length : Int)))
   (cond (v7.getD v9.toNat (dfl (Kn.int IntKind.u8)) == (95 : Int))
    (cond (v1)
     (r36 (v0) (v1) (v2) (v3) (v4) (true) (v6) (v7) (v8) (IntKind.i64.wrap (v9 + (1 : Int))))
     (cond (decide ((48 : Int) ≤ v7.getD v9.toNat (dfl (Kn.int IntKind.u8))))
      (cond (decide (v7.getD v9.toNat (dfl (Kn.int IntKind.u8)) ≤ (57 : Int)))
       (cond (decide (IntKind.u8.wrap (v7.getD v9.toNat (dfl (Kn.int IntKind.u8)) - (48 : Int)) ≥ IntKind.u8.wrap v0))
        (some (((0 : Int), some (2 : Int))))
        (cond (decide (v6 ≥ v3))
         (some ((v4, some (1 : Int))))
         (cond (decide (IntKind.u64.wrap (IntKind.u64.wrap (v6 * IntKind.u64.wrap v0) + IntKind.u64.wrap (IntKind.u8.wrap (v7.getD v9.toNat (dfl (Kn.int IntKind.u8)) - (48 : Int)))) < IntKind.u64.wrap (v6 * IntKind.u64.wrap v0)))
          (some ((v4, some (1 : Int))))
          (cond (decide (IntKind.u64.wrap (IntKind.u64.wrap (v6 * IntKind.u64.wrap v0) + IntKind.u64.wrap (IntKind.u8.wrap (v7.getD v9.toNat (dfl (Kn.int IntKind.u8)) - (48 : Int)))) > v4))
           (some ((v4, some (1 : Int))))
           (r36 (v0) (v1) (v2) (v3) (v4) (v5) (IntKind.u64.wrap (IntKind.u64.wrap (v6 * IntKind.u64.wrap v0) + IntKind.u64.wrap (IntKind.u8.wrap (v7.getD v9.toNat (dfl (Kn.int IntKind.u8)) - (48 : Int))))) (v7) (v8) (IntKind.i64.wrap (v9 + (1 : Int))))))))
       (cond (decide ((97 : Int) ≤ bitsV BinOp.or IntKind.u8 (v7.getD v9.toNat (dfl (Kn.int IntKind.u8))) (32 : Int)))
        (cond (decide (bitsV BinOp.or IntKind.u8 (v7.getD v9.toNat (dfl (Kn.int IntKind.u8))) (32 : Int) ≤ (122 : Int)))
         (cond (decide (IntKind.u8.wrap (IntKind.u8.wrap (bitsV BinOp.or IntKind.u8 (v7.getD v9.toNat (dfl (Kn.int IntKind.u8))) (32 : Int) - (97 : Int)) + (10 : Int)) ≥ IntKind.u8.wrap v0))
          (some (((0 : Int), some (2 : Int))))
          (cond (decide (v6 ≥ v3))
           (some ((v4, some (1 : Int))))
           (cond (decide (IntKind.u64.wrap (IntKind.u64.wrap (v6 * IntKind.u64.wrap v0) + IntKind.u64.wrap (IntKind.u8.wrap (IntKind.u8.wrap (bitsV BinOp.or IntKind.u8 (v7.getD v9.toNat (dfl (Kn.int IntKind.u8))) (32 : Int) - (97 : Int)) + (10 : Int)))) < IntKind.u64.wrap (v6 * IntKind.u64.wrap v0)))
            (some ((v4, some (1 : Int))))
            (cond (decide (IntKind.u64.wrap (IntKind.u64.wrap (v6 * IntKind.u64.wrap v0) + IntKind.u64.wrap (IntKind.u8.wrap (IntKind.u8.wrap (bitsV BinOp.or IntKind.u8 (v7.getD v9.toNat (dfl (Kn.int IntKind.u8))) (32 : Int) - (97 : Int)) + (10 : Int)))) > v4))
             (some ((v4, some (1 : Int))))
             (r36 (v0) (v1) (v2) (v3) (v4) (v5) (IntKind.u64.wrap (IntKind.u64.wrap (v6 * IntKind.u64.wrap v0) + IntKind.u64.wrap (IntKind.u8.wrap (IntKind.u8.wrap (bitsV BinOp.or IntKind.u8 (v7.getD v9.toNat (dfl (Kn.int IntKind.u8))) (32 : Int) - (97 : Int)) + (10 : Int))))) (v7) (v8) (IntKind.i64.wrap (v9 + (1 : Int))))))))
         (some (((0 : Int), some (2 : Int)))))
        (some (((0 : Int), some (2 : Int))))))
      (cond (decide ((97 : Int) ≤ bitsV BinOp.or IntKind.u8 (v7.getD v9.toNat (dfl (Kn.int IntKind.u8))) (32 : Int)))
       (cond (decide (bitsV BinOp.or IntKind.u8 (v7.getD v9.toNat (dfl (Kn.int IntKind.u8))) (32 : Int) ≤ (122 : Int)))
        (cond (decide (IntKind.u8.wrap (IntKind.u8.wrap (bitsV BinOp.or IntKind.u8 (v7.getD v9.toNat (dfl (Kn.int IntKind.u8))) (32 : Int) - (97 : Int)) + (10 : Int)) ≥ IntKind.u8.wrap v0))
         (some (((0 : Int), some (2 : Int))))
         (cond (decide (v6 ≥ v3))
          (some ((v4, some (1 : Int))))
          (cond (decide (IntKind.u64.wrap (IntKind.u64.wrap (v6 * IntKind.u64.wrap v0) + IntKind.u64.wrap (IntKind.u8.wrap (IntKind.u8.wrap (bitsV BinOp.or IntKind.u8 (v7.getD v9.toNat (dfl (Kn.int IntKind.u8))) (32 : Int) - (97 : Int)) + (10 : Int)))) < IntKind.u64.wrap (v6 * IntKind.u64.wrap v0)))
           (some ((v4, some (1 : Int))))
           (cond (decide (IntKind.u64.wrap (IntKind.u64.wrap (v6 * IntKind.u64.wrap v0) + IntKind.u64.wrap (IntKind.u8.wrap (IntKind.u8.wrap (bitsV BinOp.or IntKind.u8 (v7.getD v9.toNat (dfl (Kn.int IntKind.u8))) (32 : Int) - (97 : Int)) + (10 : Int)))) > v4))
            (some ((v4, some (1 : Int))))
            (r36 (v0) (v1) (v2) (v3) (v4) (v5) (IntKind.u64.wrap (IntKind.u64.wrap (v6 * IntKind.u64.wrap v0) + IntKind.u64.wrap (IntKind.u8.wrap (IntKind.u8.wrap (bitsV BinOp.or IntKind.u8 (v7.getD v9.toNat (dfl (Kn.int IntKind.u8))) (32 : Int) - (97 : Int)) + (10 : Int))))) (v7) (v8) (IntKind.i64.wrap (v9 + (1 : Int))))))))
        (some (((0 : Int), some (2 : Int)))))
       (some (((0 : Int), some (2 : Int)))))))
    (cond (decide ((48 : Int) ≤ v7.getD v9.toNat (dfl (Kn.int IntKind.u8))))
     (cond (decide (v7.getD v9.toNat (dfl (Kn.int IntKind.u8)) ≤ (57 : Int)))
      (cond (decide (IntKind.u8.wrap (v7.getD v9.toNat (dfl (Kn.int IntKind.u8)) - (48 : Int)) ≥ IntKind.u8.wrap v0))
       (some (((0 : Int), some (2 : Int))))
       (cond (decide (v6 ≥ v3))
        (some ((v4, some (1 : Int))))
        (cond (decide (IntKind.u64.wrap (IntKind.u64.wrap (v6 * IntKind.u64.wrap v0) + IntKind.u64.wrap (IntKind.u8.wrap (v7.getD v9.toNat (dfl (Kn.int IntKind.u8)) - (48 : Int)))) < IntKind.u64.wrap (v6 * IntKind.u64.wrap v0)))
         (some ((v4, some (1 : Int))))
         (cond (decide (IntKind.u64.wrap (IntKind.u64.wrap (v6 * IntKind.u64.wrap v0) + IntKind.u64.wrap (IntKind.u8.wrap (v7.getD v9.toNat (dfl (Kn.int IntKind.u8)) - (48 : Int)))) > v4))
          (some ((v4, some (1 : Int))))
          (r36 (v0) (v1) (v2) (v3) (v4) (v5) (IntKind.u64.wrap (IntKind.u64.wrap (v6 * IntKind.u64.wrap v0) + IntKind.u64.wrap (IntKind.u8.wrap (v7.getD v9.toNat (dfl (Kn.int IntKind.u8)) - (48 : Int))))) (v7) (v8) (IntKind.i64.wrap (v9 + (1 : Int))))))))
      (cond (decide ((97 : Int) ≤ bitsV BinOp.or IntKind.u8 (v7.getD v9.toNat (dfl (Kn.int IntKind.u8))) (32 : Int)))
       (cond (decide (bitsV BinOp.or IntKind.u8 (v7.getD v9.toNat (dfl (Kn.int IntKind.u8))) (32 : Int) ≤ (122 : Int)))
        (cond (decide (IntKind.u8.wrap (IntKind.u8.wrap (bitsV BinOp.or IntKind.u8 (v7.getD v9.toNat (dfl (Kn.int IntKind.u8))) (32 : Int) - (97 : Int)) + (10 : Int)) ≥ IntKind.u8.wrap v0))
         (some (((0 : Int), some (2 : Int))))
         (cond (decide (v6 ≥ v3))
          (some ((v4, some (1 : Int))))
          (cond (decide (IntKind.u64.wrap (IntKind.u64.wrap (v6 * IntKind.u64.wrap v0) + IntKind.u64.wrap (IntKind.u8.wrap (IntKind.u8.wrap (bitsV BinOp.or IntKind.u8 (v7.getD v9.toNat (dfl (Kn.int IntKind.u8))) (32 : Int) - (97 : Int)) + (10 : Int)))) < IntKind.u64.wrap (v6 * IntKind.u64.wrap v0)))
           (some ((v4, some (1 : Int))))
           (cond (decide (IntKind.u64.wrap (IntKind.u64.wrap (v6 * IntKind.u64.wrap v0) + IntKind.u64.wrap (IntKind.u8.wrap (IntKind.u8.wrap (bitsV BinOp.or IntKind.u8 (v7.getD v9.toNat (dfl (Kn.int IntKind.u8))) (32 : Int) - (97 : Int)) + (10 : Int)))) > v4))
            (some ((v4, some (1 : Int))))
            (r36 (v0) (v1) (v2) (v3) (v4) (v5) (IntKind.u64.wrap (IntKind.u64.wrap (v6 * IntKind.u64.wrap v0) + IntKind.u64.wrap (IntKind.u8.wrap (IntKind.u8.wrap (bitsV BinOp.or IntKind.u8 (v7.getD v9.toNat (dfl (Kn.int IntKind.u8))) (32 : Int) - (97 : Int)) + (10 : Int))))) (v7) (v8) (IntKind.i64.wrap (v9 + (1 : Int))))))))
        (some (((0 : Int), some (2 : Int)))))
       (some (((0 : Int), some (2 : Int))))))
     (cond (decide ((97 : Int) ≤ bitsV BinOp.or IntKind.u8 (v7.getD v9.toNat (dfl (Kn.int IntKind.u8))) (32 : Int)))
      (cond (decide (bitsV BinOp.or IntKind.u8 (v7.getD v9.toNat (dfl (Kn.int IntKind.u8))) (32 : Int) ≤ (122 : Int)))
       (cond (decide (IntKind.u8.wrap (IntKind.u8.wrap (bitsV BinOp.or IntKind.u8 (v7.getD v9.toNat (dfl (Kn.int IntKind.u8))) (32 : Int) - (97 : Int)) + (10 : Int)) ≥ IntKind.u8.wrap v0))
        (some (((0 : Int), some (2 : Int))))
        (cond (decide (v6 ≥ v3))
         (some ((v4, some (1 : Int))))
         (cond (decide (IntKind.u64.wrap (IntKind.u64.wrap (v6 * IntKind.u64.wrap v0) + IntKind.u64.wrap (IntKind.u8.wrap (IntKind.u8.wrap (bitsV BinOp.or IntKind.u8 (v7.getD v9.toNat (dfl (Kn.int IntKind.u8))) (32 : Int) - (97 : Int)) + (10 : Int)))) < IntKind.u64.wrap (v6 * IntKind.u64.wrap v0)))
          (some ((v4, some (1 : Int))))
          (cond (decide (IntKind.u64.wrap (IntKind.u64.wrap (v6 * IntKind.u64.wrap v0) + IntKind.u64.wrap (IntKind.u8.wrap (IntKind.u8.wrap (bitsV BinOp.or IntKind.u8 (v7.getD v9.toNat (dfl (Kn.int IntKind.u8))) (32 : Int) - (97 : Int)) + (10 : Int)))) > v4))
           (some ((v4, some (1 : Int))))
           (r36 (v0) (v1) (v2) (v3) (v4) (v5) (IntKind.u64.wrap (IntKind.u64.wrap (v6 * IntKind.u64.wrap v0) + IntKind.u64.wrap (IntKind.u8.wrap (IntKind.u8.wrap (bitsV BinOp.or IntKind.u8 (v7.getD v9.toNat (dfl (Kn.int IntKind.u8))) (32 : Int) - (97 : Int)) + (10 : Int))))) (v7) (v8) (IntKind.i64.wrap (v9 + (1 : Int))))))))
       (some (((0 : Int), some (2 : Int)))))
      (some (((0 : Int), some (2 : Int)))))))
   none)
  (cond (v5)
   none
   (some ((v6, none)))))
noncomputable def M46 (r36 : Int → Bool → ByteArray → Int → Int → Bool → Int → List Int → Int → Int → Option (Int × (Option Int))) (x1 : ByteArray) : Option (Int × (Option Int)) :=
 (cond (x1.toList == (ByteArray.mk #[]).toList)
  (some (((0 : Int), some (2 : Int))))
  (r36 ((16 : den (Kn.int IntKind.i64))) ((16 : den (Kn.int IntKind.i64)) == (0 : Int)) (x1) ((1152921504606846976 : Int)) (IntKind.u64.wrap (IntKind.u64.wrap ((1 : Int) * (2 : Int) ^ min (IntKind.u64.wrap (8 : den (Kn.int IntKind.i64))).toNat (64 : Nat)) - (1 : Int))) (false) ((0 : Int)) (List.map (fun c => (↑c.toNat : Int)) x1.data.toList) ((↑(List.map (fun c => (↑c.toNat : Int)) x1.data.toList).length : Int)) ((0 : Int))))
theorem B46_36_ok (Lo : Nat → St → Option (Int × (Option Int))) (v0 : Int) (v1 : Bool) (v2 : ByteArray) (v3 : Int) (v4 : Int) (v5 : Bool) (v6 : Int) (v7 : List Int) (v8 : Int) (v9 : Int) : roundG tab C46 lv46 (dec rs46) Lo Tryd.f46 kx46 36 (st46_36 v0 v1 v2 v3 v4 v5 v6 v7 v8 v9) = B46_36 (fun v0 v1 v2 v3 v4 v5 v6 v7 v8 v9 => Lo 36 (st46_36 v0 v1 v2 v3 v4 v5 v6 v7 v8 v9)) v0 v1 v2 v3 v4 v5 v6 v7 v8 v9 := by kernel_rfl
theorem M46_ok (Lo : Nat → St → Option (Int × (Option Int))) (x1 : ByteArray) : callG tab C46 lv46 (dec rs46) Lo Tryd.f46 kx46 [canon false .str x1, canon false (.int .i64) (16), canon false (.int .i64) (8)] [] = M46 (fun v0 v1 v2 v3 v4 v5 v6 v7 v8 v9 => Lo 36 (st46_36 v0 v1 v2 v3 v4 v5 v6 v7 v8 v9)) x1 := by kernel_rfl
noncomputable def l46 : Nat → (Int → Bool → ByteArray → Int → Int → Bool → Int → List Int → Int → Int → Option (Int × (Option Int)))
  | 0 => (fun _ _ _ _ _ _ _ _ _ _ => none)
  | m + 1 => (B46_36 (l46 m))
noncomputable def F46 (m : Nat) (x1 : ByteArray) : Option (Int × (Option Int)) := M46 (l46 m) x1
theorem l46_ok : ∀ m : Nat, (∀ (v0 : Int) (v1 : Bool) (v2 : ByteArray) (v3 : Int) (v4 : Int) (v5 : Bool) (v6 : Int) (v7 : List Int) (v8 : Int) (v9 : Int), loF tab C46 lv46 (dec rs46) Tryd.f46 kx46 m 36 (st46_36 v0 v1 v2 v3 v4 v5 v6 v7 v8 v9) = (l46 m) v0 v1 v2 v3 v4 v5 v6 v7 v8 v9)
  | 0 => by
    exact fun _ _ _ _ _ _ _ _ _ _ => rfl
  | m + 1 => by
    have ih := l46_ok m
    have h36 : (fun (v0 : Int) (v1 : Bool) (v2 : ByteArray) (v3 : Int) (v4 : Int) (v5 : Bool) (v6 : Int) (v7 : List Int) (v8 : Int) (v9 : Int) => loF tab C46 lv46 (dec rs46) Tryd.f46 kx46 m 36 (st46_36 v0 v1 v2 v3 v4 v5 v6 v7 v8 v9)) = (l46 m) := by funext v0 v1 v2 v3 v4 v5 v6 v7 v8 v9; exact ih v0 v1 v2 v3 v4 v5 v6 v7 v8 v9
    exact fun v0 v1 v2 v3 v4 v5 v6 v7 v8 v9 => (B46_36_ok (loF tab C46 lv46 (dec rs46) Tryd.f46 kx46 m) v0 v1 v2 v3 v4 v5 v6 v7 v8 v9).trans (congrFun (congrFun (congrFun (congrFun (congrFun (congrFun (congrFun (congrFun (congrFun (congrFun (congrArg B46_36 h36) v0) v1) v2) v3) v4) v5) v6) v7) v8) v9)
theorem F46_ok (m : Nat) (x1 : ByteArray) : callF tab C46 lv46 (dec rs46) m Tryd.f46 kx46 [canon false .str x1, canon false (.int .i64) (16), canon false (.int .i64) (8)] [] = F46 m x1 := by
    have ih := l46_ok m
    have h36 : (fun (v0 : Int) (v1 : Bool) (v2 : ByteArray) (v3 : Int) (v4 : Int) (v5 : Bool) (v6 : Int) (v7 : List Int) (v8 : Int) (v9 : Int) => loF tab C46 lv46 (dec rs46) Tryd.f46 kx46 m 36 (st46_36 v0 v1 v2 v3 v4 v5 v6 v7 v8 v9)) = (l46 m) := by funext v0 v1 v2 v3 v4 v5 v6 v7 v8 v9; exact ih v0 v1 v2 v3 v4 v5 v6 v7 v8 v9
    exact (M46_ok (loF tab C46 lv46 (dec rs46) Tryd.f46 kx46 m) x1).trans (congrFun (congrArg M46 h36) x1)
theorem fn46 {G : GB} (hC : COk Tryd.prog G C46) (m : Nat) (x1 : ByteArray) (y : (Int × (Option Int))) (h : F46 m x1 = some y) : FnR Tryd.prog G 46 [canon false .str x1, canon false (.int .i64) (16), canon false (.int .i64) (8)] [] (fun v hout => dec rs46 v hout = some y) :=
  callF_sound (Lv := lv46) (n := m) (kx := kx46) follows tab_ok hC Tryd.func46 ((F46_ok m x1).trans h)
theorem F46_mono {m m' : Nat} (hm : m ≤ m') (x1 : ByteArray) {y : (Int × (Option Int))} (h : F46 m x1 = some y) : F46 m' x1 = some y := (F46_ok m' x1).symm.trans (callF_mono hm ((F46_ok m x1).trans h))
theorem ent46 : Ent Tryd.prog 46 := ⟨_, Tryd.func46, by kernel_rfl, by kernel_rfl⟩
theorem C46_ok {G : GB} (h56 : RowOk Tryd.prog G 56 sp56) : COk Tryd.prog G C46 := tabC_ok (by
  intro p hp
  simp only [List.mem_cons, List.not_mem_nil, or_false] at hp
  rcases hp with rfl
  · exact h56
)
end Go.Proofs.YtopplbiadpcalaaDoor.U

/- strconv's inner ParseUint at base 16, 8 bits, at two letters. -/
namespace Go.Proofs.YtopplbiadpcalaaDoor.U
open Go Go.Proofs.YtopplbiadpcalaaDoor.K

def lo (c : Nat) : Nat := if c / 32 % 2 = 0 then c + 32 else c
theorem or32 (c : Nat) (h : c < 256) : bitsV BinOp.or IntKind.u8 (c : Int) (32 : Int) = ((lo c : Nat) : Int) := by
  have key : ∀ x : Fin 256, bitsV BinOp.or IntKind.u8 ((x.val : Nat) : Int) (32 : Int) = ((lo x.val : Nat) : Int) := by decide +kernel
  exact key ⟨c, h⟩
theorem hex_round (s : ByteArray) (u : Bool) (n : Nat) (L : List UInt8) (i : Nat) (hi : i < L.length) (hL : L.length = 2) (hn : n < 16) (hn0 : i = 0 → n = 0) (r : Int → Bool → ByteArray → Int → Int → Bool → Int → List Int → Int → Int → Option (Int × (Option Int))) :
    B46_36 r 16 false s 1152921504606846976 255 u (n : Int) (toI L) (L.length : Int) (i : Int) = if hd L[i].toNat < 16 then r 16 false s 1152921504606846976 255 u ((16 * n + hd L[i].toNat : Nat) : Int) (toI L) (L.length : Int) ((i + 1 : Nat) : Int) else some (0, some 2) := by
  have hc := u8_lt L[i]
  simp only [B46_36, cond_dec, beq_int, and_dec, dfl_int, Int.toNat_natCast, toI_get L i hi, toI_len, cond_false]
  generalize L[i] = c at *
  rw [or32 _ hc]
  have e16 : IntKind.u8.wrap 16 = 16 := rfl
  have e16' : IntKind.u64.wrap 16 = 16 := rfl
  have hw : IntKind.i64.wrap ((i : Int) + 1) = ((i + 1 : Nat) : Int) := by rw [w64 (by omega)]; rfl
  have hm : IntKind.u64.wrap ((n : Int) * 16) = ((16 * n : Nat) : Int) := by rw [wu64 (by omega)]; omega
  simp only [e16, e16', hw, hm]
  unfold hd lo
  generalize c.toNat = k at *
  have cases3 : (48 ≤ k ∧ k ≤ 57) ∨ (97 ≤ k ∧ k ≤ 122) ∨ (65 ≤ k ∧ k ≤ 90) ∨ ¬ ((48 ≤ k ∧ k ≤ 57) ∨ (97 ≤ k ∧ k ≤ 122) ∨ (65 ≤ k ∧ k ≤ 90)) := by omega
  rcases cases3 with h | h | h | h
  · rw [if_pos (c := 48 ≤ k ∧ k ≤ 57) h]
    have hs : IntKind.u8.wrap ((k : Int) - 48) = ((k - 48 : Nat) : Int) := by rw [wu8 (by omega)]; omega
    have ha : IntKind.u64.wrap (((16 * n : Nat) : Int) + IntKind.u64.wrap ((k - 48 : Nat) : Int)) = ((16 * n + (k - 48) : Nat) : Int) := by
      rw [wu64 (n := ((k - 48 : Nat) : Int)) (by omega), wu64 (by omega)]; omega
    simp only [hs, ha]
    clear hs ha hw hm e16 e16'
    repeat (first | rw [if_pos (by omega)] | rw [if_neg (by omega)])
  · rw [if_neg (c := 48 ≤ k ∧ k ≤ 57) (by omega), if_pos (c := 97 ≤ k ∧ k ≤ 122) h]
    have hlo : (if k / 32 % 2 = 0 then k + 32 else k) = k := if_neg (by omega)
    rw [hlo]
    have hs : IntKind.u8.wrap (IntKind.u8.wrap ((k : Int) - 97) + 10) = ((k - 87 : Nat) : Int) := by rw [wu8 (n := (k : Int) - 97) (by omega), wu8 (by omega)]; omega
    by_cases h16 : k - 87 < 16
    · have ha : IntKind.u64.wrap (((16 * n : Nat) : Int) + IntKind.u64.wrap ((k - 87 : Nat) : Int)) = ((16 * n + (k - 87) : Nat) : Int) := by
        rw [wu64 (n := ((k - 87 : Nat) : Int)) (by omega), wu64 (by omega)]; omega
      simp only [hs, ha]
      clear hs ha hw hm e16 e16' hlo
      repeat (first | rw [if_pos (by omega)] | rw [if_neg (by omega)])
    · simp only [hs]
      clear hs hw hm e16 e16' hlo
      repeat (first | rw [if_pos (by omega)] | rw [if_neg (by omega)])
  · rw [if_neg (c := 48 ≤ k ∧ k ≤ 57) (by omega), if_neg (c := 97 ≤ k ∧ k ≤ 122) (by omega), if_pos (c := 65 ≤ k ∧ k ≤ 90) h]
    have hlo : (if k / 32 % 2 = 0 then k + 32 else k) = k + 32 := if_pos (by omega)
    rw [hlo]
    have hs : IntKind.u8.wrap (IntKind.u8.wrap (((k + 32 : Nat) : Int) - 97) + 10) = ((k - 55 : Nat) : Int) := by rw [wu8 (n := ((k + 32 : Nat) : Int) - 97) (by omega), wu8 (by omega)]; omega
    by_cases h16 : k - 55 < 16
    · have ha : IntKind.u64.wrap (((16 * n : Nat) : Int) + IntKind.u64.wrap ((k - 55 : Nat) : Int)) = ((16 * n + (k - 55) : Nat) : Int) := by
        rw [wu64 (n := ((k - 55 : Nat) : Int)) (by omega), wu64 (by omega)]; omega
      simp only [hs, ha]
      clear hs ha hw hm e16 e16' hlo
      repeat (first | rw [if_pos (by omega)] | rw [if_neg (by omega)])
    · simp only [hs]
      clear hs hw hm e16 e16' hlo
      repeat (first | rw [if_pos (by omega)] | rw [if_neg (by omega)])
  · rw [if_neg (c := 48 ≤ k ∧ k ≤ 57) (by omega), if_neg (c := 97 ≤ k ∧ k ≤ 122) (by omega), if_neg (c := 65 ≤ k ∧ k ≤ 90) (by omega)]
    have hlo : ∃ q : Nat, (if k / 32 % 2 = 0 then k + 32 else k) = q ∧ ¬ (97 ≤ q ∧ q ≤ 122) := by
      by_cases h32 : k / 32 % 2 = 0
      · exact ⟨k + 32, if_pos h32, by omega⟩
      · exact ⟨k, if_neg h32, by omega⟩
    obtain ⟨q, hq, hq2⟩ := hlo
    rw [hq]
    clear hw hm e16 e16' hq
    by_cases h95 : k = 95 <;> by_cases h97 : 97 ≤ q <;> by_cases h48 : 48 ≤ k
    all_goals first
      | (exfalso; omega)
      | (repeat (first | rw [if_pos (by omega)] | rw [if_neg (by omega)]))
theorem hex_val (s : ByteArray) (h : s.size = 2) : F46 3 s = some (hex2 s) := by
  have hl : s.data.toList.length = 2 := by rw [← bytes_size]; exact h
  have hne : ¬ s = ⟨#[]⟩ := by intro e; rw [e] at h; cases h
  have h255 : IntKind.u64.wrap (IntKind.u64.wrap ((1 : Int) * (2 : Int) ^ min (IntKind.u64.wrap (8 : Int)).toNat (64 : Nat)) - (1 : Int)) = 255 := rfl
  simp only [F46, M46, cond_dec, bytes_beq]
  rw [if_neg hne]
  have h2 : ∃ a b, s.data.toList = [a, b] := by
    match s.data.toList, hl with
    | [a, b], _ => exact ⟨a, b, rfl⟩
  obtain ⟨a, b, hab⟩ := h2
  have hr := fun (u : Bool) (n i : Nat) (hi : i < [a, b].length) (hn : n < 16) (hn0 : i = 0 → n = 0) r => hex_round s u n [a, b] i hi rfl hn hn0 r
  show l46 3 16 false s 1152921504606846976 (IntKind.u64.wrap (IntKind.u64.wrap ((1 : Int) * (2 : Int) ^ min (IntKind.u64.wrap (8 : Int)).toNat (64 : Nat)) - (1 : Int))) false ((0 : Nat) : Int) (toI s.data.toList) ((toI s.data.toList).length : Int) ((0 : Nat) : Int) = _
  rw [h255, hab, toI_len, l46, hr false 0 0 (by simp) (by decide) (fun _ => rfl)]
  unfold hex2
  rw [hab]
  have g0 : ([a, b].getD 0 (0 : UInt8)) = a := rfl
  have g1 : ([a, b].getD 1 (0 : UInt8)) = b := rfl
  rw [g0, g1]
  have i0 : [a, b][0] = a := rfl
  have i1 : [a, b][1] = b := rfl
  rw [i0]
  by_cases ha : hd a.toNat < 16
  · rw [if_pos ha, l46]
    rw [show 16 * 0 + hd a.toNat = hd a.toNat by omega, hr false _ 1 (by simp) ha (fun h => by cases h), i1]
    by_cases hb : hd b.toNat < 16
    · rw [if_pos hb, if_pos ⟨ha, hb⟩, l46]
      simp only [B46_36, cond_dec, cond_false]
      rw [if_neg (by simp)]
    · rw [if_neg hb, if_neg (fun h => hb h.2)]
  · rw [if_neg ha, if_neg (fun h => ha h.1)]
end Go.Proofs.YtopplbiadpcalaaDoor.U

/- eyrie/eyrieref03.digits (function 34): what it computes, as a plain function: printed by a program of ours off the small machine, checked by the kernel. -/
namespace Go.Proofs.YtopplbiadpcalaaDoor.U
open Go
def cs34 : List Ac := [⟨false, (.int .i64)⟩]
def rs34 : List Rc := [⟨false, .str, false⟩]
def lv34 : Live := fun i => cond (Nat.beq i 5) (some ⟨[(0, []), (3, []), (4, [])], []⟩) (none)
def kx34 : Keep := ⟨[(0, [])], []⟩
noncomputable def C34 : Nat → Option Sp := tabC []
set_option maxRecDepth 100000
def st34_5 (v0 : Int) (v1 : Int) (v2 : ByteArray) : St := ⟨(31 : Nat), [((0 : Nat), .l (.int IntKind.i64 v0)), ((3 : Nat), .l (.int IntKind.u64 v1)), ((4 : Nat), .l (.str v2))], [], []⟩
noncomputable def B34_5 (r5 : Int → Int → ByteArray → Option ByteArray) (v0 : Int) (v1 : Int) (v2 : ByteArray) : Option ByteArray :=
 (cond (decide (v1 > (0 : Int)))
  (cond (decide ((↑((Utf8.encode (IntKind.i32.wrap (IntKind.u64.wrap ((48 : Int) + v1.tmod (10 : Int))))).size + v2.size) : Int) ≤ (9223372036854775807 : Int)))
   (r5 (v0) (IntKind.u64.wrap (v1.tdiv (10 : Int))) (Utf8.encode (IntKind.i32.wrap (IntKind.u64.wrap ((48 : Int) + v1.tmod (10 : Int)))) ++ v2))
   none)
  (cond (v2.toList == (ByteArray.mk #[]).toList)
   (cond (decide ((↑((Utf8.encode (IntKind.i32.wrap (IntKind.u64.wrap ((48 : Int) + v1.tmod (10 : Int))))).size + v2.size) : Int) ≤ (9223372036854775807 : Int)))
    (r5 (v0) (IntKind.u64.wrap (v1.tdiv (10 : Int))) (Utf8.encode (IntKind.i32.wrap (IntKind.u64.wrap ((48 : Int) + v1.tmod (10 : Int)))) ++ v2))
    none)
   (cond (decide (v0 < (0 : Int)))
    (cond (decide ((↑((ByteArray.mk #[(45 : UInt8)]).size + v2.size) : Int) ≤ (9223372036854775807 : Int)))
     (some (ByteArray.mk #[(45 : UInt8)] ++ v2))
     none)
    (some (v2)))))
noncomputable def M34 (r5 : Int → Int → ByteArray → Option ByteArray) (x1 : Int) : Option ByteArray :=
 (cond (decide (x1 < (0 : Int)))
  (r5 (x1) (IntKind.u64.wrap ((0 : Int) - IntKind.u64.wrap x1)) (ByteArray.mk #[]))
  (r5 (x1) (IntKind.u64.wrap x1) (ByteArray.mk #[])))
theorem B34_5_ok (Lo : Nat → St → Option ByteArray) (v0 : Int) (v1 : Int) (v2 : ByteArray) : roundG tab C34 lv34 (dec rs34) Lo Tryd.f34 kx34 5 (st34_5 v0 v1 v2) = B34_5 (fun v0 v1 v2 => Lo 5 (st34_5 v0 v1 v2)) v0 v1 v2 := by kernel_rfl
theorem M34_ok (Lo : Nat → St → Option ByteArray) (x1 : Int) : callG tab C34 lv34 (dec rs34) Lo Tryd.f34 kx34 [canon false (.int .i64) x1] [] = M34 (fun v0 v1 v2 => Lo 5 (st34_5 v0 v1 v2)) x1 := by kernel_rfl
noncomputable def l34 : Nat → (Int → Int → ByteArray → Option ByteArray)
  | 0 => (fun _ _ _ => none)
  | m + 1 => (B34_5 (l34 m))
noncomputable def F34 (m : Nat) (x1 : Int) : Option ByteArray := M34 (l34 m) x1
theorem l34_ok : ∀ m : Nat, (∀ (v0 : Int) (v1 : Int) (v2 : ByteArray), loF tab C34 lv34 (dec rs34) Tryd.f34 kx34 m 5 (st34_5 v0 v1 v2) = (l34 m) v0 v1 v2)
  | 0 => by
    exact fun _ _ _ => rfl
  | m + 1 => by
    have ih := l34_ok m
    have h5 : (fun (v0 : Int) (v1 : Int) (v2 : ByteArray) => loF tab C34 lv34 (dec rs34) Tryd.f34 kx34 m 5 (st34_5 v0 v1 v2)) = (l34 m) := by funext v0 v1 v2; exact ih v0 v1 v2
    exact fun v0 v1 v2 => (B34_5_ok (loF tab C34 lv34 (dec rs34) Tryd.f34 kx34 m) v0 v1 v2).trans (congrFun (congrFun (congrFun (congrArg B34_5 h5) v0) v1) v2)
theorem F34_ok (m : Nat) (x1 : Int) : callF tab C34 lv34 (dec rs34) m Tryd.f34 kx34 [canon false (.int .i64) x1] [] = F34 m x1 := by
    have ih := l34_ok m
    have h5 : (fun (v0 : Int) (v1 : Int) (v2 : ByteArray) => loF tab C34 lv34 (dec rs34) Tryd.f34 kx34 m 5 (st34_5 v0 v1 v2)) = (l34 m) := by funext v0 v1 v2; exact ih v0 v1 v2
    exact (M34_ok (loF tab C34 lv34 (dec rs34) Tryd.f34 kx34 m) x1).trans (congrFun (congrArg M34 h5) x1)
theorem fn34 {G : GB} (hC : COk Tryd.prog G C34) (m : Nat) (x1 : Int) (y : ByteArray) (h : F34 m x1 = some y) : FnR Tryd.prog G 34 [canon false (.int .i64) x1] [] (fun v hout => dec rs34 v hout = some y) :=
  callF_sound (Lv := lv34) (n := m) (kx := kx34) follows tab_ok hC Tryd.func34 ((F34_ok m x1).trans h)
theorem F34_mono {m m' : Nat} (hm : m ≤ m') (x1 : Int) {y : ByteArray} (h : F34 m x1 = some y) : F34 m' x1 = some y := (F34_ok m' x1).symm.trans (callF_mono hm ((F34_ok m x1).trans h))
theorem ent34 : Ent Tryd.prog 34 := ⟨_, Tryd.func34, by kernel_rfl, by kernel_rfl⟩
theorem C34_ok {G : GB} : COk Tryd.prog G C34 := fun _ _ h => by cases h
end Go.Proofs.YtopplbiadpcalaaDoor.U

/- eyrieref03.digits: what it computes. -/
namespace Go.Proofs.YtopplbiadpcalaaDoor.U
open Go Go.Proofs.YtopplbiadpcalaaDoor.K

theorem enc1 (n : Int) (h : 0 ≤ n ∧ n < 128) : Utf8.encode n = ⟨#[UInt8.ofNat n.toNat]⟩ := by
  have hv : Utf8.valid n = true := by
    have key : ∀ x : Fin 128, Utf8.valid ((x.val : Nat) : Int) = true := by decide
    have := key ⟨n.toNat, by omega⟩
    simpa [Int.toNat_of_nonneg h.1] using this
  unfold Utf8.encode
  simp only [hv, if_true]
  rw [if_pos (by omega)]
theorem dig_step (n : Int) (u : Nat) (hu : u < 18446744073709551616) (acc : List UInt8) (ha : acc.length ≤ 64) (hg : 0 < u ∨ acc = []) (r : Int → Int → ByteArray → Option ByteArray) :
    B34_5 r n (u : Int) ⟨acc.toArray⟩ = r n ((u / 10 : Nat) : Int) ⟨(UInt8.ofNat (48 + u % 10) :: acc).toArray⟩ := by
  have hm : (u : Int).tmod 10 = ((u % 10 : Nat) : Int) := by rw [IntWalk.rem_in _ _ (by omega)]; rfl
  have hq : (u : Int).tdiv 10 = ((u / 10 : Nat) : Int) := by rw [Int.tdiv_eq_ediv_of_nonneg (by omega)]; rfl
  have he : Utf8.encode (IntKind.i32.wrap (IntKind.u64.wrap ((48 : Int) + (u : Int).tmod (10 : Int)))) = ⟨#[UInt8.ofNat (48 + u % 10)]⟩ := by
    rw [hm, wu64 (by omega), wi32 (by omega), enc1 _ (by omega)]
    rw [show ((48 : Int) + ((u % 10 : Nat) : Int)).toNat = 48 + u % 10 by omega]
  have happ : (⟨#[UInt8.ofNat (48 + u % 10)]⟩ : ByteArray) ++ ⟨acc.toArray⟩ = ⟨(UInt8.ofNat (48 + u % 10) :: acc).toArray⟩ := by
    apply bytes_ext
    rw [bytes_app]
    rfl
  simp only [B34_5, cond_dec, bytes_beq, he, happ]
  rw [hq, wu64 (by omega)]
  have hs : ((((ByteArray.mk #[UInt8.ofNat (48 + u % 10)]).size + (ByteArray.mk acc.toArray).size : Nat) : Int) ≤ 9223372036854775807) := by
    rw [mk_size]
    show ((1 + acc.length : Nat) : Int) ≤ _
    omega
  rcases hg with hg | rfl
  · rw [if_pos (by omega), if_pos hs]
  · by_cases h0 : (u : Int) > 0
    · rw [if_pos h0, if_pos hs]
    · rw [if_neg h0, if_pos rfl, if_pos hs]
theorem dig_end (n : Int) (acc : List UInt8) (ha : acc.length ≤ 64) (hne : acc ≠ []) (r : Int → Int → ByteArray → Option ByteArray) :
    B34_5 r n ((0 : Nat) : Int) ⟨acc.toArray⟩ = some ⟨(if n < 0 then 45 :: acc else acc).toArray⟩ := by
  simp only [B34_5, cond_dec, bytes_beq]
  rw [if_neg (by omega), if_neg (fun e => hne (by simpa using congrArg (fun b : ByteArray => b.data.toList) e))]
  by_cases h : n < 0
  · rw [if_pos h, if_pos h, if_pos (by rw [mk_size]; show ((1 + acc.length : Nat) : Int) ≤ _; omega)]
    exact congrArg some (bytes_ext (by rw [bytes_app]; rfl))
  · rw [if_neg h, if_neg h]
theorem dig_run (n : Int) : ∀ (k u : Nat) (acc : List UInt8), u < 10 ^ (k + 1) → u < 18446744073709551616 → acc.length + k < 64 → (0 < u ∨ acc = []) →
    l34 (k + 2) n (u : Int) ⟨acc.toArray⟩ = some ⟨(if n < 0 then 45 :: (Lib.decDigits u ++ acc) else Lib.decDigits u ++ acc).toArray⟩
  | 0, u, acc, hu, h64, ha, hg => by
    rw [l34, dig_step n u h64 acc (by omega) hg]
    have hu : u < 10 := by simpa using hu
    rw [show u / 10 = 0 by omega, l34, dig_end n _ (by simp; omega) (by simp)]
    rw [Lib.decDigits_one hu, show u % 10 = u by omega]
    rfl
  | k + 1, u, acc, hu, h64, ha, hg => by
    rw [l34, dig_step n u h64 acc (by omega) hg]
    by_cases h : u < 10
    · rw [show u / 10 = 0 by omega, l34, dig_end n _ (by simp; omega) (by simp)]
      rw [Lib.decDigits_one h, show u % 10 = u by omega]
      rfl
    · rw [dig_run n k (u / 10) _ (by rw [Nat.pow_succ] at hu; omega) (by omega) (by simp; omega) (.inl (by omega))]
      have hd : Lib.decDigits u = Lib.decDigits (u / 10) ++ [UInt8.ofNat (48 + u % 10)] := by rw [Lib.decDigits, dif_neg h]
      rw [hd]
      simp only [List.append_assoc, List.singleton_append]
theorem digits_val (n : Int) (h : inI64 n = true) : ∃ m, F34 m n = some (itoaB n) := by
  simp only [inI64, Bool.and_eq_true, decide_eq_true_eq] at h
  refine ⟨21, ?_⟩
  simp only [F34, M34, cond_dec]
  unfold itoaB Lib.itoa
  by_cases hn : n < 0
  · rw [if_pos hn, if_pos hn]
    have hw : IntKind.u64.wrap ((0 : Int) - IntKind.u64.wrap n) = ((n.natAbs : Nat) : Int) := by
      rw [IntKind.wrap_u64, IntKind.wrap_u64]; omega
    have := dig_run n 19 n.natAbs [] (by omega) (by omega) (by simp) (.inr rfl)
    rw [if_pos hn, List.append_nil] at this
    rw [hw]
    exact this
  · rw [if_neg hn, if_neg hn]
    have hw : IntKind.u64.wrap n = ((n.toNat : Nat) : Int) := by rw [IntKind.wrap_u64]; omega
    have := dig_run n 19 n.toNat [] (by omega) (by omega) (by simp) (.inr rfl)
    rw [if_neg hn, List.append_nil] at this
    rw [hw]
    exact this
end Go.Proofs.YtopplbiadpcalaaDoor.U

/- strconv.FormatInt (function 33): its row: what must hold, what it answers. -/
namespace Go.Proofs.YtopplbiadpcalaaDoor.U
open Go
noncomputable def sp33 : Sp := Sp.of [⟨false, (.int .i64)⟩, ⟨false, (.int .i64)⟩] [⟨false, .str, false⟩] (fun x1 x2 => (x2 == 10 && K.inI64 x1, K.itoaB x1))
end Go.Proofs.YtopplbiadpcalaaDoor.U

/- eyrie/value.Text (function 21): what it computes, as a plain function: printed by a program of ours off the small machine, checked by the kernel. -/
namespace Go.Proofs.YtopplbiadpcalaaDoor.U
open Go
def cs21 : List Ac := [⟨true, (.prod (.int .i64) (.prod (.int .i64) .str))⟩]
def rs21 : List Rc := [⟨false, .str, false⟩]
def lv21 : Live := fun i => cond (Nat.beq i 7) (some ⟨[(3, [.own 3 (.int .u8) 5]), (18, [.sl (.int .u8) 5]), (19, []), (20, [])], []⟩) (none)
def kx21 : Keep := ⟨[(0, [])], []⟩
noncomputable def C21 : Nat → Option Sp := tabC [(33, sp33)]
set_option maxRecDepth 100000
def st21_7 (v0 : List Int) (v1 : Int) (v2 : Int) (v3 : List Int) : St := ⟨(60 : Nat), [((3 : Nat), .l (.rs (3 : Nat))), ((18 : Nat), .l (.sl (Kn.int IntKind.u8) (5 : Nat) v0 (none))), ((19 : Nat), .l (.int IntKind.i64 v1)), ((20 : Nat), .l (.int IntKind.i64 v2))], [((3 : Nat), .row (Kn.int IntKind.u8) (5 : Nat) v3 (none) false)], []⟩
noncomputable def B21_7 (r7 : List Int → Int → Int → List Int → Option ByteArray) (v0 : List Int) (v1 : Int) (v2 : Int) (v3 : List Int) : Option ByteArray :=
 (cond (decide (v2 < v1))
  (cond (decide ((0 : Int) ≤ v2) && decide (v2 < (↑v0.length : Int)))
   (cond (v0.getD v2.toNat (dfl (Kn.int IntKind.u8)) == (34 : Int))
    (cond (decide ((v3.length + [(92 : Int), v0.getD v2.toNat (dfl (Kn.int IntKind.u8))].length) * (1 : Nat) ≤ (140737488355328 : Nat)))
     (r7 (v0) (v1) (IntKind.i64.wrap (v2 + (1 : Int))) (v3 ++ [(92 : Int), v0.getD v2.toNat (dfl (Kn.int IntKind.u8))]))
     none)
    (cond (v0.getD v2.toNat (dfl (Kn.int IntKind.u8)) == (92 : Int))
     (cond (decide ((v3.length + [(92 : Int), v0.getD v2.toNat (dfl (Kn.int IntKind.u8))].length) * (1 : Nat) ≤ (140737488355328 : Nat)))
      (r7 (v0) (v1) (IntKind.i64.wrap (v2 + (1 : Int))) (v3 ++ [(92 : Int), v0.getD v2.toNat (dfl (Kn.int IntKind.u8))]))
      none)
     (cond (decide (v0.getD v2.toNat (dfl (Kn.int IntKind.u8)) < (32 : Int)))
      (cond (decide ((0 : Int) ≤ Int.fdiv (v0.getD v2.toNat (dfl (Kn.int IntKind.u8))) ((2 : Int) ^ min (Int.toNat (4 : Int)) (8 : Nat))) && decide (Int.fdiv (v0.getD v2.toNat (dfl (Kn.int IntKind.u8))) ((2 : Int) ^ min (Int.toNat (4 : Int)) (8 : Nat)) < (↑(ByteArray.mk #[(48 : UInt8), (49 : UInt8), (50 : UInt8), (51 : UInt8), (52 : UInt8), (53 : UInt8), (54 : UInt8), (55 : UInt8), (56 : UInt8), (57 : UInt8), (97 : UInt8), (98 : UInt8), (99 : UInt8), (100 : UInt8), (101 : UInt8), (102 : UInt8)]).size : Int)))
       (cond (decide ((0 : Int) ≤ bitsV BinOp.and IntKind.u8 (v0.getD v2.toNat (dfl (Kn.int IntKind.u8))) (15 : Int)) && decide (bitsV BinOp.and IntKind.u8 (v0.getD v2.toNat (dfl (Kn.int IntKind.u8))) (15 : Int) < (↑(ByteArray.mk #[(48 : UInt8), (49 : UInt8), (50 : UInt8), (51 : UInt8), (52 : UInt8), (53 : UInt8), (54 : UInt8), (55 : UInt8), (56 : UInt8), (57 : UInt8), (97 : UInt8), (98 : UInt8), (99 : UInt8), (100 : UInt8), (101 : UInt8), (102 : UInt8)]).size : Int)))
        (cond (decide ((v3.length + [(92 : Int), (120 : Int), (↑((ByteArray.mk #[(48 : UInt8), (49 : UInt8), (50 : UInt8), (51 : UInt8), (52 : UInt8), (53 : UInt8), (54 : UInt8), (55 : UInt8), (56 : UInt8), (57 : UInt8), (97 : UInt8), (98 : UInt8), (99 : UInt8), (100 : UInt8), (101 : UInt8), (102 : UInt8)]).data.toList.getD (Int.fdiv (v0.getD v2.toNat (dfl (Kn.int IntKind.u8))) ((2 : Int) ^ min (Int.toNat (4 : Int)) (8 : Nat))).toNat (0 : UInt8)).toNat : Int), (↑((ByteArray.mk #[(48 : UInt8), (49 : UInt8), (50 : UInt8), (51 : UInt8), (52 : UInt8), (53 : UInt8), (54 : UInt8), (55 : UInt8), (56 : UInt8), (57 : UInt8), (97 : UInt8), (98 : UInt8), (99 : UInt8), (100 : UInt8), (101 : UInt8), (102 : UInt8)]).data.toList.getD (bitsV BinOp.and IntKind.u8 (v0.getD v2.toNat (dfl (Kn.int IntKind.u8))) (15 : Int)).toNat (0 : UInt8)).toNat : Int)].length) * (1 : Nat) ≤ (140737488355328 : Nat)))
         (r7 (v0) (v1) (IntKind.i64.wrap (v2 + (1 : Int))) (v3 ++ [(92 : Int), (120 : Int), (↑((ByteArray.mk #[(48 : UInt8), (49 : UInt8), (50 : UInt8), (51 : UInt8), (52 : UInt8), (53 : UInt8), (54 : UInt8), (55 : UInt8), (56 : UInt8), (57 : UInt8), (97 : UInt8), (98 : UInt8), (99 : UInt8), (100 : UInt8), (101 : UInt8), (102 : UInt8)]).data.toList.getD (Int.fdiv (v0.getD v2.toNat (dfl (Kn.int IntKind.u8))) ((2 : Int) ^ min (Int.toNat (4 : Int)) (8 : Nat))).toNat (0 : UInt8)).toNat : Int), (↑((ByteArray.mk #[(48 : UInt8), (49 : UInt8), (50 : UInt8), (51 : UInt8), (52 : UInt8), (53 : UInt8), (54 : UInt8), (55 : UInt8), (56 : UInt8), (57 : UInt8), (97 : UInt8), (98 : UInt8), (99 : UInt8), (100 : UInt8), (101 : UInt8), (102 : UInt8)]).data.toList.getD (bitsV BinOp.and IntKind.u8 (v0.getD v2.toNat (dfl (Kn.int IntKind.u8))) (15 : Int)).toNat (0 : UInt8)).toNat : Int)]))
         none)
        none)
       none)
      (cond (decide (v0.getD v2.toNat (dfl (Kn.int IntKind.u8)) > (126 : Int)))
       (cond (decide ((0 : Int) ≤ Int.fdiv (v0.getD v2.toNat (dfl (Kn.int IntKind.u8))) ((2 : Int) ^ min (Int.toNat (4 : Int)) (8 : Nat))) && decide (Int.fdiv (v0.getD v2.toNat (dfl (Kn.int IntKind.u8))) ((2 : Int) ^ min (Int.toNat (4 : Int)) (8 : Nat)) < (↑(ByteArray.mk #[(48 : UInt8), (49 : UInt8), (50 : UInt8), (51 : UInt8), (52 : UInt8), (53 : UInt8), (54 : UInt8), (55 : UInt8), (56 : UInt8), (57 : UInt8), (97 : UInt8), (98 : UInt8), (99 : UInt8), (100 : UInt8), (101 : UInt8), (102 : UInt8)]).size : Int)))
        (cond (decide ((0 : Int) ≤ bitsV BinOp.and IntKind.u8 (v0.getD v2.toNat (dfl (Kn.int IntKind.u8))) (15 : Int)) && decide (bitsV BinOp.and IntKind.u8 (v0.getD v2.toNat (dfl (Kn.int IntKind.u8))) (15 : Int) < (↑(ByteArray.mk #[(48 : UInt8), (49 : UInt8), (50 : UInt8), (51 : UInt8), (52 : UInt8), (53 : UInt8), (54 : UInt8), (55 : UInt8), (56 : UInt8), (57 : UInt8), (97 : UInt8), (98 : UInt8), (99 : UInt8), (100 : UInt8), (101 : UInt8), (102 : UInt8)]).size : Int)))
         (cond (decide ((v3.length + [(92 : Int), (120 : Int), (↑((ByteArray.mk #[(48 : UInt8), (49 : UInt8), (50 : UInt8), (51 : UInt8), (52 : UInt8), (53 : UInt8), (54 : UInt8), (55 : UInt8), (56 : UInt8), (57 : UInt8), (97 : UInt8), (98 : UInt8), (99 : UInt8), (100 : UInt8), (101 : UInt8), (102 : UInt8)]).data.toList.getD (Int.fdiv (v0.getD v2.toNat (dfl (Kn.int IntKind.u8))) ((2 : Int) ^ min (Int.toNat (4 : Int)) (8 : Nat))).toNat (0 : UInt8)).toNat : Int), (↑((ByteArray.mk #[(48 : UInt8), (49 : UInt8), (50 : UInt8), (51 : UInt8), (52 : UInt8), (53 : UInt8), (54 : UInt8), (55 : UInt8), (56 : UInt8), (57 : UInt8), (97 : UInt8), (98 : UInt8), (99 : UInt8), (100 : UInt8), (101 : UInt8), (102 : UInt8)]).data.toList.getD (bitsV BinOp.and IntKind.u8 (v0.getD v2.toNat (dfl (Kn.int IntKind.u8))) (15 : Int)).toNat (0 : UInt8)).toNat : Int)].length) * (1 : Nat) ≤ (140737488355328 : Nat)))
          (r7 (v0) (v1) (IntKind.i64.wrap (v2 + (1 : Int))) (v3 ++ [(92 : Int), (120 : Int), (↑((ByteArray.mk #[(48 : UInt8), (49 : UInt8), (50 : UInt8), (51 : UInt8), (52 : UInt8), (53 : UInt8), (54 : UInt8), (55 : UInt8), (56 : UInt8), (57 : UInt8), (97 : UInt8), (98 : UInt8), (99 : UInt8), (100 : UInt8), (101 : UInt8), (102 : UInt8)]).data.toList.getD (Int.fdiv (v0.getD v2.toNat (dfl (Kn.int IntKind.u8))) ((2 : Int) ^ min (Int.toNat (4 : Int)) (8 : Nat))).toNat (0 : UInt8)).toNat : Int), (↑((ByteArray.mk #[(48 : UInt8), (49 : UInt8), (50 : UInt8), (51 : UInt8), (52 : UInt8), (53 : UInt8), (54 : UInt8), (55 : UInt8), (56 : UInt8), (57 : UInt8), (97 : UInt8), (98 : UInt8), (99 : UInt8), (100 : UInt8), (101 : UInt8), (102 : UInt8)]).data.toList.getD (bitsV BinOp.and IntKind.u8 (v0.getD v2.toNat (dfl (Kn.int IntKind.u8))) (15 : Int)).toNat (0 : UInt8)).toNat : Int)]))
          none)
         none)
        none)
       (cond (decide ((v3.length + [v0.getD v2.toNat (dfl (Kn.int IntKind.u8))].length) * (1 : Nat) ≤ (140737488355328 : Nat)))
        (r7 (v0) (v1) (IntKind.i64.wrap (v2 + (1 : Int))) (v3 ++ [v0.getD v2.toNat (dfl (Kn.int IntKind.u8))]))
        none)))))
   none)
  (cond (decide ((v3.length + [(34 : Int)].length) * (1 : Nat) ≤ (140737488355328 : Nat)))
   (some (ByteArray.mk (List.map (fun n => UInt8.ofNat n.toNat) (v3 ++ [(34 : Int)])).toArray))
   none))
noncomputable def M21 (r7 : List Int → Int → Int → List Int → Option ByteArray) (x1 : (Int × (Int × ByteArray))) : Option ByteArray :=
 (cond (x1.fst == (1 : Int))
  (cond ((10 : Int) == (10 : den (Ac.mk false (Kn.int IntKind.i64)).k) && K.inI64 x1.snd.fst)
   (some (K.itoaB x1.snd.fst))
   none)
  (cond (x1.fst == (2 : Int))
   (r7 (List.map (fun c => (↑c.toNat : Int)) x1.snd.snd.data.toList) ((↑(List.map (fun c => (↑c.toNat : Int)) x1.snd.snd.data.toList).length : Int)) ((0 : Int)) ([(34 : Int)]))
   (some (ByteArray.mk #[(63 : UInt8)]))))
theorem B21_7_ok (Lo : Nat → St → Option ByteArray) (v0 : List Int) (v1 : Int) (v2 : Int) (v3 : List Int) : roundG tab C21 lv21 (dec rs21) Lo Tryd.f21 kx21 7 (st21_7 v0 v1 v2 v3) = B21_7 (fun v0 v1 v2 v3 => Lo 7 (st21_7 v0 v1 v2 v3)) v0 v1 v2 v3 := by kernel_rfl
theorem M21_ok (Lo : Nat → St → Option ByteArray) (x1 : (Int × (Int × ByteArray))) : callG tab C21 lv21 (dec rs21) Lo Tryd.f21 kx21 [canon true (.prod (.int .i64) (.prod (.int .i64) .str)) x1] [] = M21 (fun v0 v1 v2 v3 => Lo 7 (st21_7 v0 v1 v2 v3)) x1 := by kernel_rfl
noncomputable def l21 : Nat → (List Int → Int → Int → List Int → Option ByteArray)
  | 0 => (fun _ _ _ _ => none)
  | m + 1 => (B21_7 (l21 m))
noncomputable def F21 (m : Nat) (x1 : (Int × (Int × ByteArray))) : Option ByteArray := M21 (l21 m) x1
theorem l21_ok : ∀ m : Nat, (∀ (v0 : List Int) (v1 : Int) (v2 : Int) (v3 : List Int), loF tab C21 lv21 (dec rs21) Tryd.f21 kx21 m 7 (st21_7 v0 v1 v2 v3) = (l21 m) v0 v1 v2 v3)
  | 0 => by
    exact fun _ _ _ _ => rfl
  | m + 1 => by
    have ih := l21_ok m
    have h7 : (fun (v0 : List Int) (v1 : Int) (v2 : Int) (v3 : List Int) => loF tab C21 lv21 (dec rs21) Tryd.f21 kx21 m 7 (st21_7 v0 v1 v2 v3)) = (l21 m) := by funext v0 v1 v2 v3; exact ih v0 v1 v2 v3
    exact fun v0 v1 v2 v3 => (B21_7_ok (loF tab C21 lv21 (dec rs21) Tryd.f21 kx21 m) v0 v1 v2 v3).trans (congrFun (congrFun (congrFun (congrFun (congrArg B21_7 h7) v0) v1) v2) v3)
theorem F21_ok (m : Nat) (x1 : (Int × (Int × ByteArray))) : callF tab C21 lv21 (dec rs21) m Tryd.f21 kx21 [canon true (.prod (.int .i64) (.prod (.int .i64) .str)) x1] [] = F21 m x1 := by
    have ih := l21_ok m
    have h7 : (fun (v0 : List Int) (v1 : Int) (v2 : Int) (v3 : List Int) => loF tab C21 lv21 (dec rs21) Tryd.f21 kx21 m 7 (st21_7 v0 v1 v2 v3)) = (l21 m) := by funext v0 v1 v2 v3; exact ih v0 v1 v2 v3
    exact (M21_ok (loF tab C21 lv21 (dec rs21) Tryd.f21 kx21 m) x1).trans (congrFun (congrArg M21 h7) x1)
theorem fn21 {G : GB} (hC : COk Tryd.prog G C21) (m : Nat) (x1 : (Int × (Int × ByteArray))) (y : ByteArray) (h : F21 m x1 = some y) : FnR Tryd.prog G 21 [canon true (.prod (.int .i64) (.prod (.int .i64) .str)) x1] [] (fun v hout => dec rs21 v hout = some y) :=
  callF_sound (Lv := lv21) (n := m) (kx := kx21) follows tab_ok hC Tryd.func21 ((F21_ok m x1).trans h)
theorem F21_mono {m m' : Nat} (hm : m ≤ m') (x1 : (Int × (Int × ByteArray))) {y : ByteArray} (h : F21 m x1 = some y) : F21 m' x1 = some y := (F21_ok m' x1).symm.trans (callF_mono hm ((F21_ok m x1).trans h))
theorem ent21 : Ent Tryd.prog 21 := ⟨_, Tryd.func21, by kernel_rfl, by kernel_rfl⟩
theorem C21_ok {G : GB} (h33 : RowOk Tryd.prog G 33 sp33) : COk Tryd.prog G C21 := tabC_ok (by
  intro p hp
  simp only [List.mem_cons, List.not_mem_nil, or_false] at hp
  rcases hp with rfl
  · exact h33
)
end Go.Proofs.YtopplbiadpcalaaDoor.U

/- value.Text: what it computes. -/
namespace Go.Proofs.YtopplbiadpcalaaDoor.U
open Go Go.Proofs.YtopplbiadpcalaaDoor.K

theorem vtext_step (L : List UInt8) (i : Nat) (hi : i < L.length) (hL : L.length ≤ 1099511627776) (acc : List UInt8) (ha : acc.length ≤ 4 * i + 1) (r : List Int → Int → Int → List Int → Option ByteArray) :
    B21_7 r (toI L) (L.length : Int) (i : Int) (toI acc) = r (toI L) (L.length : Int) ((i + 1 : Nat) : Int) (toI (acc ++ escB L[i])) := by
  have hc := u8_lt L[i]
  simp only [B21_7, cond_dec, beq_int, and_dec, dfl_int, Int.toNat_natCast, toI_get L i hi, toI_len]
  have hw : IntKind.i64.wrap ((i : Int) + 1) = ((i + 1 : Nat) : Int) := by rw [w64 (by omega)]; rfl
  rw [hw]
  simp only [fdiv16, and15 _ hc, Int.toNat_natCast, hexd_tab ⟨L[i].toNat / 16, by omega⟩, hexd_tab ⟨L[i].toNat % 16, by omega⟩]
  rw [toI_app]
  unfold escB
  simp only [hexd_size, List.length_cons, List.length_nil]
  generalize L[i] = c at *
  by_cases h1 : c.toNat = 34 ∨ c.toNat = 92
  · rw [if_pos h1]
    rcases h1 with h1 | h1
    · repeat (first | rw [if_pos (by omega)] | rw [if_neg (by omega)])
      rfl
    · repeat (first | rw [if_pos (by omega)] | rw [if_neg (by omega)])
      rfl
  · rw [if_neg h1]
    by_cases h2 : c.toNat < 32 ∨ 126 < c.toNat
    · rw [if_pos h2]
      rcases h2 with h2 | h2
      · repeat (first | rw [if_pos (by omega)] | rw [if_neg (by omega)])
        rfl
      · repeat (first | rw [if_pos (by omega)] | rw [if_neg (by omega)])
        rfl
    · rw [if_neg h2]
      repeat (first | rw [if_pos (by omega)] | rw [if_neg (by omega)])
      rfl
theorem vtext_run (L : List UInt8) (hL : L.length ≤ 1099511627776) : ∀ (n i : Nat), i + n = L.length → ∀ acc : List UInt8, acc.length ≤ 4 * i + 1 → l21 (n + 1) (toI L) (L.length : Int) (i : Int) (toI acc) = some ⟨(acc ++ (L.drop i).flatMap escB ++ [34]).toArray⟩
  | 0, i, hn, acc, ha => by
    simp only [l21, B21_7, cond_dec, toI_len]
    rw [if_neg (by omega), if_pos (by simp only [List.length_cons, List.length_nil]; omega)]
    rw [List.drop_of_length_le (by omega)]
    rw [show toI acc ++ [(34 : Int)] = toI (acc ++ [34]) from by rw [toI_app]; rfl]
    show some (ByteArray.mk (ofI (toI (acc ++ [34]))).toArray) = _
    rw [ofI_toI]
    simp
  | n + 1, i, hn, acc, ha => by
    rw [l21, vtext_step L i (by omega) hL acc ha]
    have := escB_len L[i]
    rw [vtext_run L hL n (i + 1) (by omega) (acc ++ escB L[i]) (by rw [List.length_append]; omega)]
    rw [List.drop_eq_getElem_cons (show i < L.length by omega)]
    simp only [List.flatMap_cons, List.append_assoc]
theorem vtext_val (v : Val) (h1 : inI64 v.2.1 = true) (h2 : v.2.2.size ≤ 1099511627776) : ∃ m, F21 m v = some (text v) := by
  refine ⟨v.2.2.size + 1, ?_⟩
  simp only [F21, M21, cond_dec, beq_int]
  unfold text
  by_cases hk : v.1 = 1
  · rw [if_pos hk, if_pos hk, h1]; rfl
  · rw [if_neg hk, if_neg hk]
    by_cases hk2 : v.1 = 2
    · rw [if_pos hk2, if_pos hk2]
      have := vtext_run v.2.2.data.toList (by rw [← bytes_size]; exact h2) v.2.2.data.toList.length 0 (by omega) [34] (by simp)
      rw [bytes_size]
      simp only [toI] at this ⊢
      simp only [List.length_map]
      exact this
    · rw [if_neg hk2, if_neg hk2]
end Go.Proofs.YtopplbiadpcalaaDoor.U

/- eyrie/eyrieref03.digits (function 34): its row: what must hold, what it answers. -/
namespace Go.Proofs.YtopplbiadpcalaaDoor.U
open Go
noncomputable def sp34 : Sp := Sp.of [⟨false, (.int .i64)⟩] [⟨false, .str, false⟩] (fun x1 => (K.inI64 x1, K.itoaB x1))
end Go.Proofs.YtopplbiadpcalaaDoor.U

/- eyrie/eyrieref03.Text (function 22): what it computes, as a plain function: printed by a program of ours off the small machine, checked by the kernel. -/
namespace Go.Proofs.YtopplbiadpcalaaDoor.U
open Go
def cs22 : List Ac := [⟨true, (.prod (.int .i64) (.prod (.int .i64) .str))⟩]
def rs22 : List Rc := [⟨false, .str, false⟩]
def lv22 : Live := fun i => cond (Nat.beq i 7) (some ⟨[(1, []), (3, [.own 3 (.int .u8) 5]), (4, [])], [(1, [])]⟩) (none)
def kx22 : Keep := ⟨[(0, [])], []⟩
noncomputable def C22 : Nat → Option Sp := tabC [(34, sp34)]
set_option maxRecDepth 100000
def st22_7 (v0 : Int) (v1 : Int) (v2 : Int) (v3 : ByteArray) (v4 : List Int) : St := ⟨(62 : Nat), [((1 : Nat), .l (.ptr (1 : Nat) (0 : Nat))), ((3 : Nat), .l (.rs (3 : Nat))), ((4 : Nat), .l (.int IntKind.i64 v0))], [((1 : Nat), .box (23 : Nat) [.int IntKind.i64 v1, .int IntKind.i64 v2, .str v3]), ((3 : Nat), .row (Kn.int IntKind.u8) (5 : Nat) v4 (none) false)], []⟩
noncomputable def B22_7 (r7 : Int → Int → Int → ByteArray → List Int → Option ByteArray) (v0 : Int) (v1 : Int) (v2 : Int) (v3 : ByteArray) (v4 : List Int) : Option ByteArray :=
 (cond (decide (v0 < (↑v3.size : Int)))
  (cond (decide ((0 : Int) ≤ v0) && decide (v0 < (↑v3.size : Int)))
   (cond ((↑(v3.data.toList.getD v0.toNat (0 : UInt8)).toNat : Int) == (34 : Int))
    (cond (decide ((v4.length + [(92 : Int), (↑(v3.data.toList.getD v0.toNat (0 : UInt8)).toNat : Int)].length) * (1 : Nat) ≤ (140737488355328 : Nat)))
     (r7 (IntKind.i64.wrap (v0 + (1 : Int))) (v1) (v2) (v3) (v4 ++ [(92 : Int), (↑(v3.data.toList.getD v0.toNat (0 : UInt8)).toNat : Int)]))
     none)
    (cond ((↑(v3.data.toList.getD v0.toNat (0 : UInt8)).toNat : Int) == (92 : Int))
     (cond (decide ((v4.length + [(92 : Int), (↑(v3.data.toList.getD v0.toNat (0 : UInt8)).toNat : Int)].length) * (1 : Nat) ≤ (140737488355328 : Nat)))
      (r7 (IntKind.i64.wrap (v0 + (1 : Int))) (v1) (v2) (v3) (v4 ++ [(92 : Int), (↑(v3.data.toList.getD v0.toNat (0 : UInt8)).toNat : Int)]))
      none)
     (cond (decide ((↑(v3.data.toList.getD v0.toNat (0 : UInt8)).toNat : Int) < (32 : Int)))
      (cond (decide ((0 : Int) ≤ IntKind.u8.wrap ((↑(v3.data.toList.getD v0.toNat (0 : UInt8)).toNat : Int).tdiv (16 : Int))) && decide (IntKind.u8.wrap ((↑(v3.data.toList.getD v0.toNat (0 : UInt8)).toNat : Int).tdiv (16 : Int)) < (↑(ByteArray.mk #[(48 : UInt8), (49 : UInt8), (50 : UInt8), (51 : UInt8), (52 : UInt8), (53 : UInt8), (54 : UInt8), (55 : UInt8), (56 : UInt8), (57 : UInt8), (97 : UInt8), (98 : UInt8), (99 : UInt8), (100 : UInt8), (101 : UInt8), (102 : UInt8)]).size : Int)))
       (cond (decide ((0 : Int) ≤ (↑(v3.data.toList.getD v0.toNat (0 : UInt8)).toNat : Int).tmod (16 : Int)) && decide ((↑(v3.data.toList.getD v0.toNat (0 : UInt8)).toNat : Int).tmod (16 : Int) < (↑(ByteArray.mk #[(48 : UInt8), (49 : UInt8), (50 : UInt8), (51 : UInt8), (52 : UInt8), (53 : UInt8), (54 : UInt8), (55 : UInt8), (56 : UInt8), (57 : UInt8), (97 : UInt8), (98 : UInt8), (99 : UInt8), (100 : UInt8), (101 : UInt8), (102 : UInt8)]).size : Int)))
        (cond (decide ((v4.length + [(92 : Int), (120 : Int), (↑((ByteArray.mk #[(48 : UInt8), (49 : UInt8), (50 : UInt8), (51 : UInt8), (52 : UInt8), (53 : UInt8), (54 : UInt8), (55 : UInt8), (56 : UInt8), (57 : UInt8), (97 : UInt8), (98 : UInt8), (99 : UInt8), (100 : UInt8), (101 : UInt8), (102 : UInt8)]).data.toList.getD (IntKind.u8.wrap ((↑(v3.data.toList.getD v0.toNat (0 : UInt8)).toNat : Int).tdiv (16 : Int))).toNat (0 : UInt8)).toNat : Int), (↑((ByteArray.mk #[(48 : UInt8), (49 : UInt8), (50 : UInt8), (51 : UInt8), (52 : UInt8), (53 : UInt8), (54 : UInt8), (55 : UInt8), (56 : UInt8), (57 : UInt8), (97 : UInt8), (98 : UInt8), (99 : UInt8), (100 : UInt8), (101 : UInt8), (102 : UInt8)]).data.toList.getD ((↑(v3.data.toList.getD v0.toNat (0 : UInt8)).toNat : Int).tmod (16 : Int)).toNat (0 : UInt8)).toNat : Int)].length) * (1 : Nat) ≤ (140737488355328 : Nat)))
         (r7 (IntKind.i64.wrap (v0 + (1 : Int))) (v1) (v2) (v3) (v4 ++ [(92 : Int), (120 : Int), (↑((ByteArray.mk #[(48 : UInt8), (49 : UInt8), (50 : UInt8), (51 : UInt8), (52 : UInt8), (53 : UInt8), (54 : UInt8), (55 : UInt8), (56 : UInt8), (57 : UInt8), (97 : UInt8), (98 : UInt8), (99 : UInt8), (100 : UInt8), (101 : UInt8), (102 : UInt8)]).data.toList.getD (IntKind.u8.wrap ((↑(v3.data.toList.getD v0.toNat (0 : UInt8)).toNat : Int).tdiv (16 : Int))).toNat (0 : UInt8)).toNat : Int), (↑((ByteArray.mk #[(48 : UInt8), (49 : UInt8), (50 : UInt8), (51 : UInt8), (52 : UInt8), (53 : UInt8), (54 : UInt8), (55 : UInt8), (56 : UInt8), (57 : UInt8), (97 : UInt8), (98 : UInt8), (99 : UInt8), (100 : UInt8), (101 : UInt8), (102 : UInt8)]).data.toList.getD ((↑(v3.data.toList.getD v0.toNat (0 : UInt8)).toNat : Int).tmod (16 : Int)).toNat (0 : UInt8)).toNat : Int)]))
         none)
        none)
       none)
      (cond (decide ((↑(v3.data.toList.getD v0.toNat (0 : UInt8)).toNat : Int) > (126 : Int)))
       (cond (decide ((0 : Int) ≤ IntKind.u8.wrap ((↑(v3.data.toList.getD v0.toNat (0 : UInt8)).toNat : Int).tdiv (16 : Int))) && decide (IntKind.u8.wrap ((↑(v3.data.toList.getD v0.toNat (0 : UInt8)).toNat : Int).tdiv (16 : Int)) < (↑(ByteArray.mk #[(48 : UInt8), (49 : UInt8), (50 : UInt8), (51 : UInt8), (52 : UInt8), (53 : UInt8), (54 : UInt8), (55 : UInt8), (56 : UInt8), (57 : UInt8), (97 : UInt8), (98 : UInt8), (99 : UInt8), (100 : UInt8), (101 : UInt8), (102 : UInt8)]).size : Int)))
        (cond (decide ((0 : Int) ≤ (↑(v3.data.toList.getD v0.toNat (0 : UInt8)).toNat : Int).tmod (16 : Int)) && decide ((↑(v3.data.toList.getD v0.toNat (0 : UInt8)).toNat : Int).tmod (16 : Int) < (↑(ByteArray.mk #[(48 : UInt8), (49 : UInt8), (50 : UInt8), (51 : UInt8), (52 : UInt8), (53 : UInt8), (54 : UInt8), (55 : UInt8), (56 : UInt8), (57 : UInt8), (97 : UInt8), (98 : UInt8), (99 : UInt8), (100 : UInt8), (101 : UInt8), (102 : UInt8)]).size : Int)))
         (cond (decide ((v4.length + [(92 : Int), (120 : Int), (↑((ByteArray.mk #[(48 : UInt8), (49 : UInt8), (50 : UInt8), (51 : UInt8), (52 : UInt8), (53 : UInt8), (54 : UInt8), (55 : UInt8), (56 : UInt8), (57 : UInt8), (97 : UInt8), (98 : UInt8), (99 : UInt8), (100 : UInt8), (101 : UInt8), (102 : UInt8)]).data.toList.getD (IntKind.u8.wrap ((↑(v3.data.toList.getD v0.toNat (0 : UInt8)).toNat : Int).tdiv (16 : Int))).toNat (0 : UInt8)).toNat : Int), (↑((ByteArray.mk #[(48 : UInt8), (49 : UInt8), (50 : UInt8), (51 : UInt8), (52 : UInt8), (53 : UInt8), (54 : UInt8), (55 : UInt8), (56 : UInt8), (57 : UInt8), (97 : UInt8), (98 : UInt8), (99 : UInt8), (100 : UInt8), (101 : UInt8), (102 : UInt8)]).data.toList.getD ((↑(v3.data.toList.getD v0.toNat (0 : UInt8)).toNat : Int).tmod (16 : Int)).toNat (0 : UInt8)).toNat : Int)].length) * (1 : Nat) ≤ (140737488355328 : Nat)))
          (r7 (IntKind.i64.wrap (v0 + (1 : Int))) (v1) (v2) (v3) (v4 ++ [(92 : Int), (120 : Int), (↑((ByteArray.mk #[(48 : UInt8), (49 : UInt8), (50 : UInt8), (51 : UInt8), (52 : UInt8), (53 : UInt8), (54 : UInt8), (55 : UInt8), (56 : UInt8), (57 : UInt8), (97 : UInt8), (98 : UInt8), (99 : UInt8), (100 : UInt8), (101 : UInt8), (102 : UInt8)]).data.toList.getD (IntKind.u8.wrap ((↑(v3.data.toList.getD v0.toNat (0 : UInt8)).toNat : Int).tdiv (16 : Int))).toNat (0 : UInt8)).toNat : Int), (↑((ByteArray.mk #[(48 : UInt8), (49 : UInt8), (50 : UInt8), (51 : UInt8), (52 : UInt8), (53 : UInt8), (54 : UInt8), (55 : UInt8), (56 : UInt8), (57 : UInt8), (97 : UInt8), (98 : UInt8), (99 : UInt8), (100 : UInt8), (101 : UInt8), (102 : UInt8)]).data.toList.getD ((↑(v3.data.toList.getD v0.toNat (0 : UInt8)).toNat : Int).tmod (16 : Int)).toNat (0 : UInt8)).toNat : Int)]))
          none)
         none)
        none)
       (cond (decide ((v4.length + [(↑(v3.data.toList.getD v0.toNat (0 : UInt8)).toNat : Int)].length) * (1 : Nat) ≤ (140737488355328 : Nat)))
        (r7 (IntKind.i64.wrap (v0 + (1 : Int))) (v1) (v2) (v3) (v4 ++ [(↑(v3.data.toList.getD v0.toNat (0 : UInt8)).toNat : Int)]))
        none)))))
   none)
  (cond (decide ((v4.length + [(34 : Int)].length) * (1 : Nat) ≤ (140737488355328 : Nat)))
   (some (ByteArray.mk (List.map (fun n => UInt8.ofNat n.toNat) (v4 ++ [(34 : Int)])).toArray))
   none))
noncomputable def M22 (r7 : Int → Int → Int → ByteArray → List Int → Option ByteArray) (x1 : (Int × (Int × ByteArray))) : Option ByteArray :=
 (cond (x1.fst == (1 : Int))
  (cond (K.inI64 x1.snd.fst)
   (some (K.itoaB x1.snd.fst))
   none)
  (cond (x1.fst == (2 : Int))
   (r7 ((0 : Int)) (x1.fst) (x1.snd.fst) (x1.snd.snd) ([(34 : Int)]))
   (some (ByteArray.mk #[(63 : UInt8)]))))
theorem B22_7_ok (Lo : Nat → St → Option ByteArray) (v0 : Int) (v1 : Int) (v2 : Int) (v3 : ByteArray) (v4 : List Int) : roundG tab C22 lv22 (dec rs22) Lo Tryd.f22 kx22 7 (st22_7 v0 v1 v2 v3 v4) = B22_7 (fun v0 v1 v2 v3 v4 => Lo 7 (st22_7 v0 v1 v2 v3 v4)) v0 v1 v2 v3 v4 := by kernel_rfl
theorem M22_ok (Lo : Nat → St → Option ByteArray) (x1 : (Int × (Int × ByteArray))) : callG tab C22 lv22 (dec rs22) Lo Tryd.f22 kx22 [canon true (.prod (.int .i64) (.prod (.int .i64) .str)) x1] [] = M22 (fun v0 v1 v2 v3 v4 => Lo 7 (st22_7 v0 v1 v2 v3 v4)) x1 := by kernel_rfl
noncomputable def l22 : Nat → (Int → Int → Int → ByteArray → List Int → Option ByteArray)
  | 0 => (fun _ _ _ _ _ => none)
  | m + 1 => (B22_7 (l22 m))
noncomputable def F22 (m : Nat) (x1 : (Int × (Int × ByteArray))) : Option ByteArray := M22 (l22 m) x1
theorem l22_ok : ∀ m : Nat, (∀ (v0 : Int) (v1 : Int) (v2 : Int) (v3 : ByteArray) (v4 : List Int), loF tab C22 lv22 (dec rs22) Tryd.f22 kx22 m 7 (st22_7 v0 v1 v2 v3 v4) = (l22 m) v0 v1 v2 v3 v4)
  | 0 => by
    exact fun _ _ _ _ _ => rfl
  | m + 1 => by
    have ih := l22_ok m
    have h7 : (fun (v0 : Int) (v1 : Int) (v2 : Int) (v3 : ByteArray) (v4 : List Int) => loF tab C22 lv22 (dec rs22) Tryd.f22 kx22 m 7 (st22_7 v0 v1 v2 v3 v4)) = (l22 m) := by funext v0 v1 v2 v3 v4; exact ih v0 v1 v2 v3 v4
    exact fun v0 v1 v2 v3 v4 => (B22_7_ok (loF tab C22 lv22 (dec rs22) Tryd.f22 kx22 m) v0 v1 v2 v3 v4).trans (congrFun (congrFun (congrFun (congrFun (congrFun (congrArg B22_7 h7) v0) v1) v2) v3) v4)
theorem F22_ok (m : Nat) (x1 : (Int × (Int × ByteArray))) : callF tab C22 lv22 (dec rs22) m Tryd.f22 kx22 [canon true (.prod (.int .i64) (.prod (.int .i64) .str)) x1] [] = F22 m x1 := by
    have ih := l22_ok m
    have h7 : (fun (v0 : Int) (v1 : Int) (v2 : Int) (v3 : ByteArray) (v4 : List Int) => loF tab C22 lv22 (dec rs22) Tryd.f22 kx22 m 7 (st22_7 v0 v1 v2 v3 v4)) = (l22 m) := by funext v0 v1 v2 v3 v4; exact ih v0 v1 v2 v3 v4
    exact (M22_ok (loF tab C22 lv22 (dec rs22) Tryd.f22 kx22 m) x1).trans (congrFun (congrArg M22 h7) x1)
theorem fn22 {G : GB} (hC : COk Tryd.prog G C22) (m : Nat) (x1 : (Int × (Int × ByteArray))) (y : ByteArray) (h : F22 m x1 = some y) : FnR Tryd.prog G 22 [canon true (.prod (.int .i64) (.prod (.int .i64) .str)) x1] [] (fun v hout => dec rs22 v hout = some y) :=
  callF_sound (Lv := lv22) (n := m) (kx := kx22) follows tab_ok hC Tryd.func22 ((F22_ok m x1).trans h)
theorem F22_mono {m m' : Nat} (hm : m ≤ m') (x1 : (Int × (Int × ByteArray))) {y : ByteArray} (h : F22 m x1 = some y) : F22 m' x1 = some y := (F22_ok m' x1).symm.trans (callF_mono hm ((F22_ok m x1).trans h))
theorem ent22 : Ent Tryd.prog 22 := ⟨_, Tryd.func22, by kernel_rfl, by kernel_rfl⟩
theorem C22_ok {G : GB} (h34 : RowOk Tryd.prog G 34 sp34) : COk Tryd.prog G C22 := tabC_ok (by
  intro p hp
  simp only [List.mem_cons, List.not_mem_nil, or_false] at hp
  rcases hp with rfl
  · exact h34
)
end Go.Proofs.YtopplbiadpcalaaDoor.U

/- eyrieref03.Text: what it computes. -/
namespace Go.Proofs.YtopplbiadpcalaaDoor.U
open Go Go.Proofs.YtopplbiadpcalaaDoor.K

theorem rtext_step (k n : Int) (S : ByteArray) (i : Nat) (hi : i < S.data.toList.length) (hL : S.data.toList.length ≤ 1099511627776) (acc : List UInt8) (ha : acc.length ≤ 4 * i + 1) (r : Int → Int → Int → ByteArray → List Int → Option ByteArray) :
    B22_7 r (i : Int) k n S (toI acc) = r ((i + 1 : Nat) : Int) k n S (toI (acc ++ escB S.data.toList[i])) := by
  have hc := u8_lt S.data.toList[i]
  simp only [B22_7, cond_dec, beq_int, and_dec, Int.toNat_natCast, get_byte _ i hi, toI_len, bytes_size S]
  have hw : IntKind.i64.wrap ((i : Int) + 1) = ((i + 1 : Nat) : Int) := by rw [w64 (by omega)]; rfl
  rw [hw]
  rw [toI_app]
  unfold escB
  generalize S.data.toList[i] = c at *
  have hq : IntKind.u8.wrap ((c.toNat : Int).tdiv 16) = ((c.toNat / 16 : Nat) : Int) := by rw [Int.tdiv_eq_ediv_of_nonneg (by omega), wu8 (by omega)]; rfl
  have hm : (c.toNat : Int).tmod 16 = ((c.toNat % 16 : Nat) : Int) := by rw [IntWalk.rem_in _ _ (by omega)]; rfl
  simp only [hq, hm, Int.toNat_natCast, hexd_tab ⟨c.toNat / 16, by omega⟩, hexd_tab ⟨c.toNat % 16, by omega⟩, hexd_size, List.length_cons, List.length_nil]
  by_cases h1 : c.toNat = 34 ∨ c.toNat = 92
  · rw [if_pos h1]
    rcases h1 with h1 | h1
    · repeat (first | rw [if_pos (by omega)] | rw [if_neg (by omega)])
      rfl
    · repeat (first | rw [if_pos (by omega)] | rw [if_neg (by omega)])
      rfl
  · rw [if_neg h1]
    by_cases h2 : c.toNat < 32 ∨ 126 < c.toNat
    · rw [if_pos h2]
      rcases h2 with h2 | h2
      · repeat (first | rw [if_pos (by omega)] | rw [if_neg (by omega)])
        rfl
      · repeat (first | rw [if_pos (by omega)] | rw [if_neg (by omega)])
        rfl
    · rw [if_neg h2]
      repeat (first | rw [if_pos (by omega)] | rw [if_neg (by omega)])
      rfl
theorem rtext_run (k n : Int) (S : ByteArray) (hL : S.data.toList.length ≤ 1099511627776) : ∀ (q i : Nat), i + q = S.data.toList.length → ∀ acc : List UInt8, acc.length ≤ 4 * i + 1 → l22 (q + 1) (i : Int) k n S (toI acc) = some ⟨(acc ++ (S.data.toList.drop i).flatMap escB ++ [34]).toArray⟩
  | 0, i, hn, acc, ha => by
    simp only [l22, B22_7, cond_dec, toI_len, bytes_size S]
    rw [if_neg (by omega), if_pos (by simp only [List.length_cons, List.length_nil]; omega)]
    rw [List.drop_of_length_le (by omega)]
    rw [show toI acc ++ [(34 : Int)] = toI (acc ++ [34]) from by rw [toI_app]; rfl]
    show some (ByteArray.mk (ofI (toI (acc ++ [34]))).toArray) = _
    rw [ofI_toI]
    simp
  | q + 1, i, hn, acc, ha => by
    rw [l22, rtext_step k n S i (by omega) hL acc ha]
    have := escB_len S.data.toList[i]
    rw [rtext_run k n S hL q (i + 1) (by omega) (acc ++ escB S.data.toList[i]) (by rw [List.length_append]; omega)]
    rw [List.drop_eq_getElem_cons (show i < S.data.toList.length by omega)]
    simp only [List.flatMap_cons, List.append_assoc]
theorem rtext_val (v : Val) (h1 : inI64 v.2.1 = true) (h2 : v.2.2.size ≤ 1099511627776) : ∃ m, F22 m v = some (text v) := by
  refine ⟨v.2.2.data.toList.length + 1, ?_⟩
  simp only [F22, M22, cond_dec, beq_int]
  unfold text
  by_cases hk : v.1 = 1
  · rw [if_pos hk, if_pos hk, h1]; rfl
  · rw [if_neg hk, if_neg hk]
    by_cases hk2 : v.1 = 2
    · rw [if_pos hk2, if_pos hk2]
      exact rtext_run v.1 v.2.1 v.2.2 (by rw [← bytes_size]; exact h2) v.2.2.data.toList.length 0 (by omega) [34] (by simp)
    · rw [if_neg hk2, if_neg hk2]
end Go.Proofs.YtopplbiadpcalaaDoor.U

/- The value package's functions, and the document's: their rows, from the rows of Go's library. -/
namespace Go.Proofs.YtopplbiadpcalaaDoor.U
open Go Go.Proofs.YtopplbiadpcalaaDoor.K

/-- What Go's library answers here. -/
structure LibRows (G : GB) : Prop where
  fmt : RowOk Tryd.prog G 33 sp33
  pint : RowOk Tryd.prog G 29 sp29
  err : RowOk Tryd.prog G 39 sp39
section
variable {G : GB}
theorem check_row (v : Val) : M10 v = some (check v) := by
  unfold M10 check
  have h0 : (ByteArray.toList v.2.2 == (ByteArray.mk #[]).toList) = decide (v.2.2.size = 0) := by
    rw [bytes_beq]
    refine decide_eq_decide.2 ⟨fun h => by rw [h]; rfl, fun h => bytes_ext ?_⟩
    have h1 : v.2.2.data.toList.length = 0 := by rw [← bytes_size]; exact h
    exact List.length_eq_zero_iff.1 h1
  have h64 : decide ((v.2.2.size : Int) ≤ (64 : Int)) = decide (v.2.2.size ≤ 64) := decide_eq_decide.2 (by omega)
  simp only [h0, h64, cond_dec, beq_int]
  repeat' (refine ite_i (Q := fun y => y = some _) (fun _ => ?_) (fun _ => ?_))
  all_goals first | (exfalso; omega) | rw [if_pos (by omega)] | rw [if_neg (by omega)]
theorem check_row' (v : Val) : M11 v = some (check v) := check_row v
theorem hex_row (x : Int) : M41 x = some (hexv x) := by
  unfold M41 hexv
  simp only [cond_dec]
  have key : ∀ y z : Int, y = z → some y = some z := fun _ _ h => congrArg some h
  repeat' (refine ite_i (Q := fun y => y = some _) (fun _ => ?_) (fun _ => ?_))
  all_goals first
    | (exfalso; omega)
    | (rw [if_pos (by omega), wu8 (by omega)])
    | (rw [if_neg (by omega), if_pos (by omega), wu8 (n := x - 97) (by omega), wu8 (by omega)]; exact key _ _ (by omega))
    | (rw [if_neg (by omega), if_neg (by omega)])
theorem row56 : RowOk Tryd.prog G 56 sp56 := Sp.of_ok ent56 (fun x1 h => by
  obtain ⟨m, hm⟩ := (⟨0, rfl⟩ : ∃ m, F56 m x1 = some _)
  exact fn56 (C56_ok) m x1 _ hm)
theorem row41 : RowOk Tryd.prog G 41 sp41 := Sp.of_ok ent41 (fun x1 h => by
  obtain ⟨m, hm⟩ := (⟨0, hex_row x1⟩ : ∃ m, F41 m x1 = some _)
  exact fn41 (C41_ok) m x1 _ hm)
theorem row10 : RowOk Tryd.prog G 10 sp10 := Sp.of_ok ent10 (fun x1 h => by
  obtain ⟨m, hm⟩ := (⟨0, check_row x1⟩ : ∃ m, F10 m x1 = some _)
  exact fn10 (C10_ok) m x1 _ hm)
theorem row11 : RowOk Tryd.prog G 11 sp11 := Sp.of_ok ent11 (fun x1 h => by
  obtain ⟨m, hm⟩ := (⟨0, check_row' x1⟩ : ∃ m, F11 m x1 = some _)
  exact fn11 (C11_ok) m x1 _ hm)
theorem row34 : RowOk Tryd.prog G 34 sp34 := Sp.of_ok ent34 (fun x1 h => by
  obtain ⟨m, hm⟩ := digits_val x1 h
  exact fn34 (C34_ok) m x1 _ hm)
theorem row21 (hL : LibRows G) : RowOk Tryd.prog G 21 sp21 := Sp.of_ok ent21 (fun x1 h => by
  have h := Bool.and_eq_true_iff.1 h
  obtain ⟨m, hm⟩ := vtext_val x1 h.1 (of_decide_eq_true h.2)
  exact fn21 (C21_ok hL.fmt) m x1 _ hm)
theorem row22 : RowOk Tryd.prog G 22 sp22 := Sp.of_ok ent22 (fun x1 h => by
  have h := Bool.and_eq_true_iff.1 h
  obtain ⟨m, hm⟩ := rtext_val x1 h.1 (of_decide_eq_true h.2)
  exact fn22 (C22_ok row34) m x1 _ hm)
theorem row31 : RowOk Tryd.prog G 31 sp31 := Sp.of_ok ent31 (fun x1 h => by
  obtain ⟨m, hm⟩ := (quoted_some x1 (of_decide_eq_true h)).1
  exact fn31 (C31_ok row41) m x1 _ hm)
theorem row32 : RowOk Tryd.prog G 32 sp32 := Sp.of_ok ent32 (fun x1 h => by
  obtain ⟨m, hm⟩ := (number_some x1 (of_decide_eq_true h)).1
  exact fn32 (C32_ok) m x1 _ hm)
theorem row46 : RowOk Tryd.prog G 46 sp46 := Sp.of_ok ent46 (fun x1 x2 x3 h => by
  have h := Bool.and_eq_true_iff.1 h
  have h2 := Bool.and_eq_true_iff.1 h.2
  have e2 : x2 = (16 : Int) := of_decide_eq_true h2.1
  have e3 : x3 = (8 : Int) := of_decide_eq_true h2.2
  subst e2
  subst e3
  exact fn46 (C46_ok row56) 3 x1 _ (hex_val x1 (of_decide_eq_true h.1)))
theorem puint_row (s : ByteArray) (h : s.size = 2) : F40 0 s = some ((hex2 s).1, (hex2 s).2.isNone) := by
  show M40 s = _
  unfold M40
  have hs : decide (s.size = (2 : Nat)) = true := decide_eq_true h
  have hl : decide (s.size ≤ (1099511627776 : Nat)) = true := decide_eq_true (by omega)
  rw [hs, b16, b8, hl]
  have hx : (hex2 s).2 = none ∨ (hex2 s).2 = some 2 := by
    unfold hex2
    refine ite_i (Q := fun y : Int × Option Int => y.2 = none ∨ y.2 = some 2) (fun _ => ?_) (fun _ => ?_)
    · exact .inl rfl
    · exact .inr rfl
  rcases hx with hx | hx <;> rw [hx] <;> rfl
theorem row40 (hL : LibRows G) : RowOk Tryd.prog G 40 sp40 := Sp.of_ok ent40 (fun x1 x2 x3 h => by
  have h := Bool.and_eq_true_iff.1 h
  have h2 := Bool.and_eq_true_iff.1 h.2
  have e2 : x2 = (16 : Int) := of_decide_eq_true h2.1
  have e3 : x3 = (8 : Int) := of_decide_eq_true h2.2
  subst e2
  subst e3
  exact fn40 (C40_ok row46 hL.err) 0 x1 _ (puint_row x1 (of_decide_eq_true h.1)))
theorem row30 (hL : LibRows G) : RowOk Tryd.prog G 30 sp30 := Sp.of_ok ent30 (fun x1 h => by
  obtain ⟨m, hm⟩ := (inner_some x1 (of_decide_eq_true h)).1
  exact fn30 (C30_ok (row40 hL)) m x1 _ hm)
theorem fparse (hL : LibRows G) (s : ByteArray) (h : s.size ≤ 1099511627776) : FnR Tryd.prog G 19 [canon false .str s] [] (fun v hout => dec rs19 v hout = some (parse s)) := fn19 (C19_ok hL.pint (row30 hL) row10 (row21 hL)) 0 s _ (vparse_val s h)
theorem rparse (s : ByteArray) (h : s.size ≤ 1099511627776) : FnR Tryd.prog G 20 [canon false .str s] [] (fun v hout => dec rs20 v hout = some (parse s)) := fn20 (C20_ok row31 row32 row11 row22) 0 s _ (rparse_val s h)
end
end Go.Proofs.YtopplbiadpcalaaDoor.U

/- Go's library, as the value package calls it: rows out of the shelf's contracts. -/
namespace Go.Proofs.YtopplbiadpcalaaDoor.U
open Go Go.RowKit Go.Shelf Go.Proofs.YtopplbiadpcalaaDoor.K

structure ErrVars (G : GB) : Prop where
  syn : ∃ tp p, G.var Tryd.prog "strconv.ErrSyntax" #[.iface tp p]
  rng : ∃ tp p, G.var Tryd.prog "strconv.ErrRange" #[.iface tp p]
def TabVar (G : GB) : Prop := G.var Tryd.prog "internal/strconv.uint64pow10" (Lib.pow10Tab.map fun z => Value.int .u64 z).toArray
section
variable {G : GB}
theorem row_fmt (hT : TabVar G) : RowOk Tryd.prog G 33 sp33 := Sp.of_ok ⟨_, Tryd.func33, by kernel_rfl, by kernel_rfl⟩ (fun x1 x2 h => by
  have h := Bool.and_eq_true_iff.1 h
  have e2 : x2 = (10 : Int) := of_decide_eq_true h.1
  subst e2
  obtain ⟨h1, h2⟩ := Bool.and_eq_true_iff.1 h.2
  refine FnR.of_below fun ψ ro w vals hv hG => ?_
  match vals, hv with
  | [a, b], ⟨ha, hb, _⟩ =>
    obtain rfl : a = Value.int .i64 x1 := ha
    obtain rfl : b = Value.int .i64 10 := hb
    refine (Any.strconv_FormatInt_10 Tryd.laysM173 x1 (of_decide_eq_true h1) (of_decide_eq_true h2) w (GB.var_at hT hG)).mono ?_
    rintro e w' ⟨rfl, k, os, rfl⟩
    exact ⟨.l (.str (itoaB x1)), _, rfl, Lib.below_grow _ _ (Nat.le_refl _) _ _, rfl, fun _ _ _ => rfl⟩)
theorem row_err (hE : ErrVars G) : RowOk Tryd.prog G 39 sp39 := Sp.of_ok ⟨_, Tryd.func39, by kernel_rfl, by kernel_rfl⟩ (fun x1 x2 x3 x4 x5 h => by
  have h := Bool.and_eq_true_iff.1 h
  have e5 : x5 = some (2 : Int) := of_decide_eq_true h.2
  subst e5
  have h2 := of_decide_eq_true h.1
  obtain ⟨tp, p, hs⟩ := hE.syn
  refine FnR.of_below fun ψ ro w vals hv hG => ?_
  match vals, hv with
  | [a, b, c, d, e], ⟨ha, hb, hc, hd, he, _⟩ =>
    obtain rfl : a = Value.string x1 := ha
    obtain rfl : b = Value.string x2 := hb
    obtain rfl : c = Value.int .i64 x3 := hc
    obtain rfl : d = Value.int .i64 x4 := hd
    obtain rfl : e = Value.iface 71 (.int .i64 2) := he
    have hc := World.var?_cell (show Tryd.prog.globalNamed "strconv.ErrSyntax" = some 1 by kernel_rfl) (GB.var_at hs hG) 0
    refine (Any.strconv_toError_syntax Tryd.laysC245 x1 x2 x3 x4 (.iface tp p) w (by omega) hc (.inr ⟨_, _, rfl⟩)).mono ?_
    rintro e w' ⟨N, rfl, _, _, hb⟩
    exact ⟨.l (.ifc false), _, rfl, hb, rfl, fun _ _ _ => ⟨_, _, rfl⟩⟩)
theorem row_pint (hE : ErrVars G) : RowOk Tryd.prog G 29 sp29 := Sp.of_ok ⟨_, Tryd.func29, by kernel_rfl, by kernel_rfl⟩ (fun x1 x2 x3 h => by
  have h := Bool.and_eq_true_iff.1 h
  have h' := Bool.and_eq_true_iff.1 h.2
  have e2 : x2 = (10 : Int) := of_decide_eq_true h.1
  have e3 : x3 = (64 : Int) := of_decide_eq_true h'.1
  subst e2
  subst e3
  have h2 := of_decide_eq_true h'.2
  obtain ⟨tp, p, hs⟩ := hE.syn
  obtain ⟨tp', p', hr⟩ := hE.rng
  have key : ∀ n b, (n, b) = pInt x1 → dec [⟨false, .int .i64, false⟩, ⟨false, .ifc, false⟩] (.tup [.inl (.int .i64 n), .inl (.ifc b)]) [] = some ((pInt x1).1, (pInt x1).2) := fun n b e => by rw [← e]; rfl
  refine FnR.of_below fun ψ ro w vals hv hG => ?_
  match vals, hv with
  | [a, b, c], ⟨ha, hb, hc, _⟩ =>
    obtain rfl : a = Value.string x1 := ha
    obtain rfl : b = Value.int .i64 10 := hb
    obtain rfl : c = Value.int .i64 64 := hc
    cases hp : Lib.parseIntB 64 x1.data.toList with
    | ok v =>
      refine (Any.strconv_ParseInt_10_at64_ok Tryd.laysC174 x1 (by omega) v hp w).mono ?_
      rintro e w' ⟨rfl, hw⟩
      refine ⟨.tup [.inl (.int .i64 v), .inl (.ifc true)], _, rfl, ?_, key _ _ (by unfold pInt; rw [hp]), fun _ _ _ => ⟨_, rfl, rfl, rfl, trivial⟩⟩
      rcases hw with rfl | ⟨t, rfl⟩
      · exact Below.refl _ _
      · exact Lib.bytesWorld_below _ _ _
    | range =>
      refine (Any.strconv_ParseInt_10_at64_range_var Tryd.laysC174 x1 (by omega) hp tp' p' w (GB.var_at hr hG)).mono ?_
      rintro e w' ⟨N, rfl, _, _, hb⟩
      exact ⟨.tup [.inl (.int .i64 (Lib.intSat 64 x1.data.toList)), .inl (.ifc false)], _, rfl, hb, key _ _ (by unfold pInt; rw [hp]), fun _ _ _ => ⟨_, rfl, rfl, ⟨_, _, rfl⟩, trivial⟩⟩
    | _ =>
      refine (Any.strconv_ParseInt_10_at64_syntax_var Tryd.laysC174 x1 (by omega) hp tp p w (GB.var_at hs hG)).mono ?_
      rintro e w' ⟨N, rfl, _, _, hb⟩
      exact ⟨.tup [.inl (.int .i64 0), .inl (.ifc false)], _, rfl, hb, key _ _ (by unfold pInt; rw [hp]), fun _ _ _ => ⟨_, rfl, rfl, ⟨_, _, rfl⟩, trivial⟩⟩)
theorem libRows (hT : TabVar G) (hE : ErrVars G) : LibRows G := ⟨row_fmt hT, row_pint hE, row_err hE⟩
end
end Go.Proofs.YtopplbiadpcalaaDoor.U

/- What the laws' rows list (tables of Go's library, its two errors): what a walk gets of it; a world that holds it. -/
namespace Go.Proofs.YtopplbiadpcalaaDoor.U
open Go Go.RowKit Go.ChangeShapes Go.WideShapes Go.ChangeAt

theorem own : ownKnob Tryd.prog.godebug = none := by kernel_rfl
theorem laidOut : laidOutB Tryd.prog = true := by kernel_rfl
theorem star : "*" ++ "errors.errorString" = "*errors.errorString" := by decide
theorem rowErr (u : TypeId) (h : Tryd.prog.typeName? 3 u = some "*errors.errorString") : u = 91 :=
  typeName_ptr_named (nm := "errors.errorString") (by rw [star]; kernel_rfl) (by kernel_rfl) (by decide) u (by rw [star]; exact h)
theorem tab_laid {r : List (String × DataW Unit)} {W : World} (h : laidMet Tryd.prog (("internal/strconv.uint64pow10", Rows.laid_internal_strconv_uint64pow10) :: r) W) : TabVar ⟨W, W.heap.size⟩ :=
  GB.var_mk (Lib.tabIs_of_head (zs := Lib.pow10Tab) (k := .u64) (rest := r) (g := 3) (by kernel_rfl) (t := (Tryd.prog.globals[3]?.map (·.type)).getD 0) (by kernel_rfl) (n := 20) (e := 65) (by kernel_rfl) (by kernel_rfl) (by kernel_rfl) (by kernel_rfl) h)
theorem err_laid {r : List (String × DataW Unit)} {W : World} (h : laidMet Tryd.prog (("strconv.ErrRange", Rows.laid_strconv_ErrRange) :: ("strconv.ErrSyntax", Rows.laid_strconv_ErrSyntax) :: r) W) : ErrVars ⟨W, W.heap.size⟩ := by
  obtain ⟨a0, s0, hv0, -, -, -⟩ := laid_sentinel (te := 93) (ts := 9) (ti := 52) h (g := 2) (by kernel_rfl) (by kernel_rfl) Tryd.underlying52 rowErr (by kernel_rfl) Tryd.underlying93 rfl rfl (by kernel_rfl) (by kernel_rfl) (by kernel_rfl)
  obtain ⟨a1, s1, hv1, -, -, -⟩ := laid_sentinel (te := 93) (ts := 9) (ti := 52) h.tail (g := 1) (by kernel_rfl) (by kernel_rfl) Tryd.underlying52 rowErr (by kernel_rfl) Tryd.underlying93 rfl rfl (by kernel_rfl) (by kernel_rfl) (by kernel_rfl)
  exact ⟨⟨_, _, GB.var_mk hv1⟩, ⟨_, _, GB.var_mk hv0⟩⟩
/-- A table's cells. -/
def tabCells : DataW Unit → Array Value
  | .agg ds => (ds.map fun
    | .lit (.int k n) => Value.int k n
    | _ => undef).toArray
  | _ => #[]
def errText : DataW Unit → Array Value
  | .iface _ (.ptr (.agg [.lit (.string bs)])) => #[.string ⟨bs.toArray⟩]
  | _ => #[]
/-- The settled world, the variables holding what their initialisers lay. -/
noncomputable def laidWorld (os : Os) : World :=
  let N := (World.settled Tryd.prog os).heap.size
  let w0 := World.holding Tryd.prog os ⟨#[.cells (errText Rows.laid_strconv_ErrRange) 93, .cells (errText Rows.laid_strconv_ErrSyntax) 93], #[], []⟩
  let put (h : Array Obj) (g : Nat) (cs : Array Value) : Array Obj := h.modify g fun
    | .cells _ t frozen => .cells cs t frozen
    | o => o
  let h1 := put w0.heap 2 #[.iface 91 (.pointer (some ⟨N, 0, none⟩))]
  let h2 := put h1 1 #[.iface 91 (.pointer (some ⟨N + 1, 0, none⟩))]
  let h3 := put h2 3 (tabCells Rows.laid_internal_strconv_uint64pow10)
  let h4 := put h3 4 (tabCells Rows.laid_math_bits_deBruijn32tab)
  let h5 := put h4 5 (tabCells Rows.laid_math_bits_deBruijn64tab)
  { w0 with heap := h5 }
end Go.Proofs.YtopplbiadpcalaaDoor.U

/- eyrie/value.Swap (function 27): its row: what must hold, what it answers. -/
namespace Go.Proofs.YtopplbiadpcalaaDoor.U
open Go
noncomputable def sp27 : Sp := Sp.of [⟨false, (.int .i64)⟩] [⟨false, (.int .i64), false⟩] (fun x1 => (x1 == 3, (5 : Int)))
end Go.Proofs.YtopplbiadpcalaaDoor.U

/- value.Swap at 3: 5: walked by hand (its table is an array). -/
namespace Go.Proofs.YtopplbiadpcalaaDoor.U
open Go Go.RowKit

theorem swap3 (w : World) : Calls Tryd.prog 27 #[.int .i64 3] w fun e w' => e = .returned (.int .i64 5) ∧ Below w.heap.size w w' := by
  go_enter Tryd.func27, Tryd.ntmps27
  go_wp2
  all_goals go_ret
  all_goals exact ⟨rfl, by exact (Below.refl _ _).alloc (Nat.le_refl _) _⟩
theorem row_swap {G : GB} : RowOk Tryd.prog G 27 sp27 := Sp.of_ok ⟨_, Tryd.func27, by kernel_rfl, by kernel_rfl⟩ (fun x1 h => by
  have e1 : x1 = (3 : Int) := of_decide_eq_true h
  subst e1
  refine FnR.of_below fun ψ ro w vals hv hG => ?_
  match vals, hv with
  | [a], ⟨ha, _⟩ =>
    obtain rfl : a = Value.int .i64 3 := ha
    refine (swap3 w).mono ?_
    rintro e w' ⟨rfl, hb⟩
    exact ⟨.l (.int .i64 5), _, rfl, hb, rfl, fun _ _ _ => rfl⟩)
end Go.Proofs.YtopplbiadpcalaaDoor.U

/- eyrie/value.Name (function 12): what it computes, as a plain function: printed by a program of ours off the small machine, checked by the kernel. -/
namespace Go.Proofs.YtopplbiadpcalaaDoor.U
open Go
def cs12 : List Ac := [⟨false, .str⟩]
def rs12 : List Rc := [⟨false, .bool, false⟩]
def lv12 : Live := fun i => cond (Nat.beq i 2) (some ⟨[(0, []), (7, [.sl (.int .u8) 5]), (8, []), (9, [])], []⟩) (none)
def kx12 : Keep := ⟨[(0, [])], []⟩
noncomputable def C12 : Nat → Option Sp := tabC []
set_option maxRecDepth 100000
def st12_2 (v0 : ByteArray) (v1 : List Int) (v2 : Int) (v3 : Int) : St := ⟨(54 : Nat), [((0 : Nat), .l (.str v0)), ((7 : Nat), .l (.sl (Kn.int IntKind.u8) (5 : Nat) v1 (none))), ((8 : Nat), .l (.int IntKind.i64 v2)), ((9 : Nat), .l (.int IntKind.i64 v3))], [], []⟩
noncomputable def B12_2 (r2 : ByteArray → List Int → Int → Int → Option Bool) (v0 : ByteArray) (v1 : List Int) (v2 : Int) (v3 : Int) : Option Bool :=
 (cond (decide (v3 < v2))
  (cond (decide ((0 : Int) ≤ v3) && decide (v3 < (↑v1.length : Int)))
   (cond (v1.getD v3.toNat (dfl (Kn.int IntKind.u8)) == (95 : Int))
    (r2 (v0) (v1) (v2) (IntKind.i64.wrap (v3 + (1 : Int))))
    (cond (decide (v1.getD v3.toNat (dfl (Kn.int IntKind.u8)) ≥ (97 : Int)))
     (cond (decide (v1.getD v3.toNat (dfl (Kn.int IntKind.u8)) ≤ (122 : Int)))
      (r2 (v0) (v1) (v2) (IntKind.i64.wrap (v3 + (1 : Int))))
      (cond (decide (v1.getD v3.toNat (dfl (Kn.int IntKind.u8)) ≥ (65 : Int)))
       (cond (!decide (v1.getD v3.toNat (dfl (Kn.int IntKind.u8)) ≤ (90 : Int)))
        (cond (v3 == (0 : Int))
         (some (false))
         (cond (decide (v1.getD v3.toNat (dfl (Kn.int IntKind.u8)) < (48 : Int)))
          (some (false))
          (cond (decide (v1.getD v3.toNat (dfl (Kn.int IntKind.u8)) > (57 : Int)))
           (some (false))
           (r2 (v0) (v1) (v2) (IntKind.i64.wrap (v3 + (1 : Int)))))))
        (r2 (v0) (v1) (v2) (IntKind.i64.wrap (v3 + (1 : Int)))))
       (cond (v3 == (0 : Int))
        (some (false))
        (cond (decide (v1.getD v3.toNat (dfl (Kn.int IntKind.u8)) < (48 : Int)))
         (some (false))
         (cond (decide (v1.getD v3.toNat (dfl (Kn.int IntKind.u8)) > (57 : Int)))
          (some (false))
          (r2 (v0) (v1) (v2) (IntKind.i64.wrap (v3 + (1 : Int)))))))))
     (cond (decide (v1.getD v3.toNat (dfl (Kn.int IntKind.u8)) ≥ (65 : Int)))
      (cond (!decide (v1.getD v3.toNat (dfl (Kn.int IntKind.u8)) ≤ (90 : Int)))
       (cond (v3 == (0 : Int))
        (some (false))
        (cond (decide (v1.getD v3.toNat (dfl (Kn.int IntKind.u8)) < (48 : Int)))
         (some (false))
         (cond (decide (v1.getD v3.toNat (dfl (Kn.int IntKind.u8)) > (57 : Int)))
          (some (false))
          (r2 (v0) (v1) (v2) (IntKind.i64.wrap (v3 + (1 : Int)))))))
       (r2 (v0) (v1) (v2) (IntKind.i64.wrap (v3 + (1 : Int)))))
      (cond (v3 == (0 : Int))
       (some (false))
       (cond (decide (v1.getD v3.toNat (dfl (Kn.int IntKind.u8)) < (48 : Int)))
        (some (false))
        (cond (decide (v1.getD v3.toNat (dfl (Kn.int IntKind.u8)) > (57 : Int)))
         (some (false))
         (r2 (v0) (v1) (v2) (IntKind.i64.wrap (v3 + (1 : Int))))))))))
   none)
  (cond (!v0.toList == (ByteArray.mk #[]).toList)
   (some (decide ((↑v0.size : Int) ≤ (32 : Int))))
   (some (false))))
noncomputable def M12 (r2 : ByteArray → List Int → Int → Int → Option Bool) (x1 : ByteArray) : Option Bool :=
 (r2 (x1) (List.map (fun c => (↑c.toNat : Int)) x1.data.toList) ((↑(List.map (fun c => (↑c.toNat : Int)) x1.data.toList).length : Int)) ((0 : Int)))
theorem B12_2_ok (Lo : Nat → St → Option Bool) (v0 : ByteArray) (v1 : List Int) (v2 : Int) (v3 : Int) : roundG tab C12 lv12 (dec rs12) Lo Tryd.f12 kx12 2 (st12_2 v0 v1 v2 v3) = B12_2 (fun v0 v1 v2 v3 => Lo 2 (st12_2 v0 v1 v2 v3)) v0 v1 v2 v3 := by kernel_rfl
theorem M12_ok (Lo : Nat → St → Option Bool) (x1 : ByteArray) : callG tab C12 lv12 (dec rs12) Lo Tryd.f12 kx12 [canon false .str x1] [] = M12 (fun v0 v1 v2 v3 => Lo 2 (st12_2 v0 v1 v2 v3)) x1 := by kernel_rfl
noncomputable def l12 : Nat → (ByteArray → List Int → Int → Int → Option Bool)
  | 0 => (fun _ _ _ _ => none)
  | m + 1 => (B12_2 (l12 m))
noncomputable def F12 (m : Nat) (x1 : ByteArray) : Option Bool := M12 (l12 m) x1
theorem l12_ok : ∀ m : Nat, (∀ (v0 : ByteArray) (v1 : List Int) (v2 : Int) (v3 : Int), loF tab C12 lv12 (dec rs12) Tryd.f12 kx12 m 2 (st12_2 v0 v1 v2 v3) = (l12 m) v0 v1 v2 v3)
  | 0 => by
    exact fun _ _ _ _ => rfl
  | m + 1 => by
    have ih := l12_ok m
    have h2 : (fun (v0 : ByteArray) (v1 : List Int) (v2 : Int) (v3 : Int) => loF tab C12 lv12 (dec rs12) Tryd.f12 kx12 m 2 (st12_2 v0 v1 v2 v3)) = (l12 m) := by funext v0 v1 v2 v3; exact ih v0 v1 v2 v3
    exact fun v0 v1 v2 v3 => (B12_2_ok (loF tab C12 lv12 (dec rs12) Tryd.f12 kx12 m) v0 v1 v2 v3).trans (congrFun (congrFun (congrFun (congrFun (congrArg B12_2 h2) v0) v1) v2) v3)
theorem F12_ok (m : Nat) (x1 : ByteArray) : callF tab C12 lv12 (dec rs12) m Tryd.f12 kx12 [canon false .str x1] [] = F12 m x1 := by
    have ih := l12_ok m
    have h2 : (fun (v0 : ByteArray) (v1 : List Int) (v2 : Int) (v3 : Int) => loF tab C12 lv12 (dec rs12) Tryd.f12 kx12 m 2 (st12_2 v0 v1 v2 v3)) = (l12 m) := by funext v0 v1 v2 v3; exact ih v0 v1 v2 v3
    exact (M12_ok (loF tab C12 lv12 (dec rs12) Tryd.f12 kx12 m) x1).trans (congrFun (congrArg M12 h2) x1)
theorem fn12 {G : GB} (hC : COk Tryd.prog G C12) (m : Nat) (x1 : ByteArray) (y : Bool) (h : F12 m x1 = some y) : FnR Tryd.prog G 12 [canon false .str x1] [] (fun v hout => dec rs12 v hout = some y) :=
  callF_sound (Lv := lv12) (n := m) (kx := kx12) follows tab_ok hC Tryd.func12 ((F12_ok m x1).trans h)
theorem F12_mono {m m' : Nat} (hm : m ≤ m') (x1 : ByteArray) {y : Bool} (h : F12 m x1 = some y) : F12 m' x1 = some y := (F12_ok m' x1).symm.trans (callF_mono hm ((F12_ok m x1).trans h))
theorem ent12 : Ent Tryd.prog 12 := ⟨_, Tryd.func12, by kernel_rfl, by kernel_rfl⟩
theorem C12_ok {G : GB} : COk Tryd.prog G C12 := fun _ _ h => by cases h
end Go.Proofs.YtopplbiadpcalaaDoor.U

/- eyrie/eyrieref03.letter (function 28): its row: what must hold, what it answers. -/
namespace Go.Proofs.YtopplbiadpcalaaDoor.U
open Go
noncomputable def sp28 : Sp := Sp.of [⟨false, (.int .u8)⟩] [⟨false, .bool, false⟩] (fun x1 => (true, K.letter x1))
end Go.Proofs.YtopplbiadpcalaaDoor.U

/- eyrie/eyrieref03.Name (function 13): what it computes, as a plain function: printed by a program of ours off the small machine, checked by the kernel. -/
namespace Go.Proofs.YtopplbiadpcalaaDoor.U
open Go
def cs13 : List Ac := [⟨false, .str⟩]
def rs13 : List Rc := [⟨false, .bool, false⟩]
def lv13 : Live := fun i => cond (Nat.beq i 4) (some ⟨[(0, []), (3, [])], []⟩) (none)
def kx13 : Keep := ⟨[(0, [])], []⟩
noncomputable def C13 : Nat → Option Sp := tabC [(28, sp28)]
set_option maxRecDepth 100000
def st13_4 (v0 : ByteArray) (v1 : Int) : St := ⟨(38 : Nat), [((0 : Nat), .l (.str v0)), ((3 : Nat), .l (.int IntKind.i64 v1))], [], []⟩
noncomputable def B13_4 (r4 : ByteArray → Int → Option Bool) (v0 : ByteArray) (v1 : Int) : Option Bool :=
 (cond (decide (v1 < (↑v0.size : Int)))
  (cond (decide ((0 : Int) ≤ v1) && decide (v1 < (↑v0.size : Int)))
   (cond (!K.letter (↑(v0.data.toList.getD v1.toNat (0 : UInt8)).toNat : Int))
    (cond (v1 == (0 : Int))
     (some (false))
     (cond (decide ((0 : Int) ≤ v1) && decide (v1 < (↑v0.size : Int)))
      (cond (decide ((↑(v0.data.toList.getD v1.toNat (0 : UInt8)).toNat : Int) < (48 : Int)))
       (some (false))
       (cond (decide ((0 : Int) ≤ v1) && decide (v1 < (↑v0.size : Int)))
        (cond (decide ((↑(v0.data.toList.getD v1.toNat (0 : UInt8)).toNat : Int) > (57 : Int)))
         (some (false))
         (r4 (v0) (IntKind.i64.wrap (v1 + (1 : Int)))))
        none))
      none))
    (r4 (v0) (IntKind.i64.wrap (v1 + (1 : Int)))))
   none)
  (some (true)))
noncomputable def M13 (r4 : ByteArray → Int → Option Bool) (x1 : ByteArray) : Option Bool :=
 (cond (x1.toList == (ByteArray.mk #[]).toList)
  (some (false))
  (cond (decide ((↑x1.size : Int) > (32 : Int)))
   (some (false))
   (r4 (x1) ((0 : Int)))))
theorem B13_4_ok (Lo : Nat → St → Option Bool) (v0 : ByteArray) (v1 : Int) : roundG tab C13 lv13 (dec rs13) Lo Tryd.f13 kx13 4 (st13_4 v0 v1) = B13_4 (fun v0 v1 => Lo 4 (st13_4 v0 v1)) v0 v1 := by kernel_rfl
theorem M13_ok (Lo : Nat → St → Option Bool) (x1 : ByteArray) : callG tab C13 lv13 (dec rs13) Lo Tryd.f13 kx13 [canon false .str x1] [] = M13 (fun v0 v1 => Lo 4 (st13_4 v0 v1)) x1 := by kernel_rfl
noncomputable def l13 : Nat → (ByteArray → Int → Option Bool)
  | 0 => (fun _ _ => none)
  | m + 1 => (B13_4 (l13 m))
noncomputable def F13 (m : Nat) (x1 : ByteArray) : Option Bool := M13 (l13 m) x1
theorem l13_ok : ∀ m : Nat, (∀ (v0 : ByteArray) (v1 : Int), loF tab C13 lv13 (dec rs13) Tryd.f13 kx13 m 4 (st13_4 v0 v1) = (l13 m) v0 v1)
  | 0 => by
    exact fun _ _ => rfl
  | m + 1 => by
    have ih := l13_ok m
    have h4 : (fun (v0 : ByteArray) (v1 : Int) => loF tab C13 lv13 (dec rs13) Tryd.f13 kx13 m 4 (st13_4 v0 v1)) = (l13 m) := by funext v0 v1; exact ih v0 v1
    exact fun v0 v1 => (B13_4_ok (loF tab C13 lv13 (dec rs13) Tryd.f13 kx13 m) v0 v1).trans (congrFun (congrFun (congrArg B13_4 h4) v0) v1)
theorem F13_ok (m : Nat) (x1 : ByteArray) : callF tab C13 lv13 (dec rs13) m Tryd.f13 kx13 [canon false .str x1] [] = F13 m x1 := by
    have ih := l13_ok m
    have h4 : (fun (v0 : ByteArray) (v1 : Int) => loF tab C13 lv13 (dec rs13) Tryd.f13 kx13 m 4 (st13_4 v0 v1)) = (l13 m) := by funext v0 v1; exact ih v0 v1
    exact (M13_ok (loF tab C13 lv13 (dec rs13) Tryd.f13 kx13 m) x1).trans (congrFun (congrArg M13 h4) x1)
theorem fn13 {G : GB} (hC : COk Tryd.prog G C13) (m : Nat) (x1 : ByteArray) (y : Bool) (h : F13 m x1 = some y) : FnR Tryd.prog G 13 [canon false .str x1] [] (fun v hout => dec rs13 v hout = some y) :=
  callF_sound (Lv := lv13) (n := m) (kx := kx13) follows tab_ok hC Tryd.func13 ((F13_ok m x1).trans h)
theorem F13_mono {m m' : Nat} (hm : m ≤ m') (x1 : ByteArray) {y : Bool} (h : F13 m x1 = some y) : F13 m' x1 = some y := (F13_ok m' x1).symm.trans (callF_mono hm ((F13_ok m x1).trans h))
theorem ent13 : Ent Tryd.prog 13 := ⟨_, Tryd.func13, by kernel_rfl, by kernel_rfl⟩
theorem C13_ok {G : GB} (h28 : RowOk Tryd.prog G 28 sp28) : COk Tryd.prog G C13 := tabC_ok (by
  intro p hp
  simp only [List.mem_cons, List.not_mem_nil, or_false] at hp
  rcases hp with rfl
  · exact h28
)
end Go.Proofs.YtopplbiadpcalaaDoor.U

/- What a name is. -/
namespace Go.Proofs.YtopplbiadpcalaaDoor.K
open Go

/-- One letter of a name, at place i. -/
def nameC (i : Nat) (c : UInt8) : Bool := letter (c.toNat : Int) || (decide (i ≠ 0) && decide (48 ≤ c.toNat ∧ c.toNat ≤ 57))
def nameL : Nat → List UInt8 → Bool
  | _, [] => true
  | i, c :: r => nameC i c && nameL (i + 1) r
def name (s : ByteArray) : Bool := nameL 0 s.data.toList && decide (s.size ≠ 0 ∧ s.size ≤ 32)
end Go.Proofs.YtopplbiadpcalaaDoor.K

/- eyrie/value.Name (function 12): its row: what must hold, what it answers. -/
namespace Go.Proofs.YtopplbiadpcalaaDoor.U
open Go
noncomputable def sp12 : Sp := Sp.of [⟨false, .str⟩] [⟨false, .bool, false⟩] (fun x1 => (decide (x1.size ≤ 1099511627776), K.name x1))
end Go.Proofs.YtopplbiadpcalaaDoor.U

/- eyrie/eyrieref03.Name (function 13): its row: what must hold, what it answers. -/
namespace Go.Proofs.YtopplbiadpcalaaDoor.U
open Go
noncomputable def sp13 : Sp := Sp.of [⟨false, .str⟩] [⟨false, .bool, false⟩] (fun x1 => (decide (x1.size ≤ 1099511627776), K.name x1))
end Go.Proofs.YtopplbiadpcalaaDoor.U

/- Both functions that ask for a name answer 'name'. -/
namespace Go.Proofs.YtopplbiadpcalaaDoor.U
open Go Go.Proofs.YtopplbiadpcalaaDoor.K

theorem nameC_iff (i k : Nat) (c : UInt8) (hc : c.toNat = k) : nameC i c = decide (97 ≤ k ∧ k ≤ 122 ∨ 65 ≤ k ∧ k ≤ 90 ∨ k = 95 ∨ i ≠ 0 ∧ 48 ≤ k ∧ k ≤ 57) := by
  unfold nameC letter
  rw [hc]
  simp only [or_dec, and_dec]
  exact decide_eq_decide.2 (by omega)
theorem bytes_nil (s : ByteArray) : (s.toList == (ByteArray.mk #[]).toList) = decide (s.size = 0) := by
  rw [bytes_beq]
  refine decide_eq_decide.2 ⟨fun h => by rw [h]; rfl, fun h => bytes_ext ?_⟩
  have h1 : s.data.toList.length = 0 := by rw [← bytes_size]; exact h
  exact List.length_eq_zero_iff.1 h1
theorem vname_step (s : ByteArray) (L : List UInt8) (i : Nat) (hi : i < L.length) (hL : L.length ≤ 1099511627776) (r : ByteArray → List Int → Int → Int → Option Bool) :
    B12_2 r s (toI L) (L.length : Int) (i : Int) = if nameC i L[i] = true then r s (toI L) (L.length : Int) ((i + 1 : Nat) : Int) else some false := by
  obtain ⟨k, hk⟩ : ∃ k, k = L[i].toNat := ⟨_, rfl⟩
  rw [nameC_iff i k _ hk.symm]
  unfold B12_2
  have hg : ∀ d, (toI L).getD (Int.toNat (i : Int)) d = (k : Int) := fun d => by rw [show Int.toNat (i : Int) = i from rfl, toI_get L i hi d, hk]
  have hw : IntKind.i64.wrap ((i : Int) + 1) = ((i + 1 : Nat) : Int) := by rw [w64 (by omega)]; rfl
  have hb : k < 256 := by rw [hk]; exact u8_lt _
  have hl : (toI L).length = L.length := toI_len L
  simp only [hg, hw, hl, cond_dec, and_dec, not_dec, beq_int, decide_eq_true_eq]
  clear hg hw hl hk
  rw [if_pos (show (i : Int) < (L.length : Int) by omega), if_pos (show (0 : Int) ≤ (i : Int) ∧ (i : Int) < (L.length : Int) by omega)]
  repeat' (refine ite_i (Q := fun y => y = ite _ _ _) (fun _ => ?_) (fun _ => ?_))
  all_goals first | (exfalso; omega) | rw [if_pos (by omega)] | rw [if_neg (by omega)]
theorem vname_run (s : ByteArray) (L : List UInt8) (hL : L.length ≤ 1099511627776) : ∀ n i : Nat, i + n = L.length → l12 (n + 1) s (toI L) (L.length : Int) (i : Int) = if nameL i (L.drop i) = true then some (decide (s.size ≠ 0 ∧ s.size ≤ 32)) else some false := by
  intro n
  induction n with
  | zero =>
    intro i hi
    rw [List.drop_of_length_le (by omega)]
    show B12_2 _ s (toI L) _ _ = _
    unfold B12_2
    rw [bytes_nil, decide_eq_false (show ¬ (i : Int) < (L.length : Int) by omega), cond_false, if_pos (show nameL i [] = true from rfl)]
    by_cases h0 : s.size = 0
    · simp [h0]
    · rw [decide_eq_false h0, Bool.not_false, cond_true]
      exact congrArg some (decide_eq_decide.2 (by omega))
  | succ n ih =>
    intro i hi
    have hlt : i < L.length := by omega
    show B12_2 (l12 (n + 1)) s (toI L) _ _ = _
    rw [vname_step s L i hlt hL, ih (i + 1) (by omega), List.drop_eq_getElem_cons hlt]
    show _ = if (nameC i L[i] && nameL (i + 1) (L.drop (i + 1))) = true then _ else _
    cases nameC i L[i] <;> rfl
theorem vname_val (s : ByteArray) (h : s.size ≤ 1099511627776) : ∃ m, F12 m s = some (name s) := by
  rw [bytes_size] at h
  refine ⟨s.data.toList.length + 1, ?_⟩
  have := vname_run s s.data.toList h s.data.toList.length 0 (by omega)
  show l12 _ s (toI s.data.toList) ((toI s.data.toList).length : Int) ((0 : Nat) : Int) = _
  rw [toI_len, this]
  unfold name
  rw [List.drop_zero]
  cases nameL 0 s.data.toList <;> rfl
theorem rname_step (s : ByteArray) (i : Nat) (hi : i < s.data.toList.length) (hL : s.data.toList.length ≤ 1099511627776) (r : ByteArray → Int → Option Bool) :
    B13_4 r s (i : Int) = if nameC i s.data.toList[i] = true then r s ((i + 1 : Nat) : Int) else some false := by
  obtain ⟨k, hk⟩ : ∃ k, k = s.data.toList[i].toNat := ⟨_, rfl⟩
  rw [nameC_iff i k _ hk.symm]
  unfold B13_4
  have hg : ∀ d, s.data.toList.getD (Int.toNat (i : Int)) d = s.data.toList[i] := fun d => by rw [show Int.toNat (i : Int) = i from rfl, get_byte _ i hi d]
  have hw : IntKind.i64.wrap ((i : Int) + 1) = ((i + 1 : Nat) : Int) := by rw [w64 (by omega)]; rfl
  have hb : k < 256 := by rw [hk]; exact u8_lt _
  have hz : (s.size : Int) = (s.data.toList.length : Int) := by rw [bytes_size]
  simp only [hg, hw, hz, ← hk, letter, cond_dec, and_dec, or_dec, not_dec, beq_int, decide_eq_true_eq]
  clear hg hw hk
  rw [if_pos (show (i : Int) < (s.data.toList.length : Int) by omega), if_pos (show (0 : Int) ≤ (i : Int) ∧ (i : Int) < (s.data.toList.length : Int) by omega)]
  repeat' (refine ite_i (Q := fun y => y = ite _ _ _) (fun _ => ?_) (fun _ => ?_))
  all_goals first | (exfalso; omega) | rw [if_pos (by omega)] | rw [if_neg (by omega)]
theorem rname_run (s : ByteArray) (hL : s.data.toList.length ≤ 1099511627776) : ∀ n i : Nat, i + n = s.data.toList.length → l13 (n + 1) s (i : Int) = some (nameL i (s.data.toList.drop i)) := by
  intro n
  induction n with
  | zero =>
    intro i hi
    rw [List.drop_of_length_le (by omega)]
    show B13_4 _ s _ = _
    unfold B13_4
    have hz : (s.size : Int) = (s.data.toList.length : Int) := by rw [bytes_size]
    rw [hz, decide_eq_false (show ¬ (i : Int) < (s.data.toList.length : Int) by omega), cond_false]
    rfl
  | succ n ih =>
    intro i hi
    have hlt : i < s.data.toList.length := by omega
    show B13_4 (l13 (n + 1)) s _ = _
    rw [rname_step s i hlt hL, ih (i + 1) (by omega), List.drop_eq_getElem_cons hlt]
    show _ = some (nameC i s.data.toList[i] && nameL (i + 1) (s.data.toList.drop (i + 1)))
    cases nameC i s.data.toList[i] <;> rfl
theorem rname_val (s : ByteArray) (h : s.size ≤ 1099511627776) : ∃ m, F13 m s = some (name s) := by
  have h' := h
  rw [bytes_size] at h'
  refine ⟨s.data.toList.length + 1, ?_⟩
  have := rname_run s h' s.data.toList.length 0 (by omega)
  show M13 _ s = _
  unfold M13
  rw [show l13 (s.data.toList.length + 1) s (0 : Int) = _ from this, bytes_nil, List.drop_zero]
  unfold name
  by_cases h0 : s.size = 0
  · rw [decide_eq_true h0, cond_true, decide_eq_false (show ¬ (s.size ≠ 0 ∧ s.size ≤ 32) from fun e => e.1 h0), Bool.and_false]
  · by_cases h1 : s.size ≤ 32
    · rw [decide_eq_false h0, decide_eq_false (show ¬ (s.size : Int) > 32 by omega), decide_eq_true ⟨h0, h1⟩]; simp
    · rw [decide_eq_false h0, decide_eq_true (show (s.size : Int) > 32 by omega), cond_false, cond_true, decide_eq_false (show ¬ (s.size ≠ 0 ∧ s.size ≤ 32) from fun e => h1 e.2), Bool.and_false]
end Go.Proofs.YtopplbiadpcalaaDoor.U

/- eyrie/value.Compare (function 26): what it computes, as a plain function: printed by a program of ours off the small machine, checked by the kernel. -/
namespace Go.Proofs.YtopplbiadpcalaaDoor.U
open Go
def cs26 : List Ac := [⟨true, (.prod (.int .i64) (.prod (.int .i64) .str))⟩, ⟨true, (.prod (.int .i64) (.prod (.int .i64) .str))⟩]
def rs26 : List Rc := [⟨false, (.int .i64), false⟩, ⟨false, .bool, false⟩]
def lv26 : Live := fun i => (fun _ => none : Nat → Option Keep) i
def kx26 : Keep := ⟨[(0, []), (1, [])], []⟩
noncomputable def C26 : Nat → Option Sp := tabC []
set_option maxRecDepth 100000
noncomputable def M26 (x1 : (Int × (Int × ByteArray))) (x2 : (Int × (Int × ByteArray))) : Option (Int × Bool) :=
 (cond (x1.fst != x2.fst)
  (some (((0 : Int), false)))
  (cond (x1.fst == (1 : Int))
   (cond (x1.snd.fst != x2.snd.fst)
    (cond (decide (x1.snd.fst < x2.snd.fst))
     (some (((-1 : Int), true)))
     (some (((1 : Int), true))))
    (cond (x1.fst == (2 : Int))
     none
     (some (((0 : Int), x1.fst == (1 : Int))))))
   (cond (x1.fst == (2 : Int))
    none
    (some (((0 : Int), x1.fst == (1 : Int)))))))
theorem M26_ok (Lo : Nat → St → Option (Int × Bool)) (x1 : (Int × (Int × ByteArray))) (x2 : (Int × (Int × ByteArray))) : callG tab C26 lv26 (dec rs26) Lo Tryd.f26 kx26 [canon true (.prod (.int .i64) (.prod (.int .i64) .str)) x1, canon true (.prod (.int .i64) (.prod (.int .i64) .str)) x2] [] = M26 x1 x2 := by kernel_rfl
noncomputable def F26 (_ : Nat) (x1 : (Int × (Int × ByteArray))) (x2 : (Int × (Int × ByteArray))) : Option (Int × Bool) := M26 x1 x2
theorem F26_ok (m : Nat) (x1 : (Int × (Int × ByteArray))) (x2 : (Int × (Int × ByteArray))) : callF tab C26 lv26 (dec rs26) m Tryd.f26 kx26 [canon true (.prod (.int .i64) (.prod (.int .i64) .str)) x1, canon true (.prod (.int .i64) (.prod (.int .i64) .str)) x2] [] = F26 m x1 x2 := M26_ok _ x1 x2
theorem fn26 {G : GB} (hC : COk Tryd.prog G C26) (m : Nat) (x1 : (Int × (Int × ByteArray))) (x2 : (Int × (Int × ByteArray))) (y : (Int × Bool)) (h : F26 m x1 x2 = some y) : FnR Tryd.prog G 26 [canon true (.prod (.int .i64) (.prod (.int .i64) .str)) x1, canon true (.prod (.int .i64) (.prod (.int .i64) .str)) x2] [] (fun v hout => dec rs26 v hout = some y) :=
  callF_sound (Lv := lv26) (n := m) (kx := kx26) follows tab_ok hC Tryd.func26 ((F26_ok m x1 x2).trans h)
theorem F26_mono {m m' : Nat} (hm : m ≤ m') (x1 : (Int × (Int × ByteArray))) (x2 : (Int × (Int × ByteArray))) {y : (Int × Bool)} (h : F26 m x1 x2 = some y) : F26 m' x1 x2 = some y := (F26_ok m' x1 x2).symm.trans (callF_mono hm ((F26_ok m x1 x2).trans h))
theorem ent26 : Ent Tryd.prog 26 := ⟨_, Tryd.func26, by kernel_rfl, by kernel_rfl⟩
theorem C26_ok {G : GB} : COk Tryd.prog G C26 := fun _ _ h => by cases h
end Go.Proofs.YtopplbiadpcalaaDoor.U

/- eyrie/eyrieref03.letter (function 28): what it computes, as a plain function: printed by a program of ours off the small machine, checked by the kernel. -/
namespace Go.Proofs.YtopplbiadpcalaaDoor.U
open Go
def cs28 : List Ac := [⟨false, (.int .u8)⟩]
def rs28 : List Rc := [⟨false, .bool, false⟩]
def lv28 : Live := fun i => (fun _ => none : Nat → Option Keep) i
def kx28 : Keep := ⟨[(0, [])], []⟩
noncomputable def C28 : Nat → Option Sp := tabC []
set_option maxRecDepth 100000
noncomputable def M28 (x1 : Int) : Option Bool :=
 (cond (decide (x1 ≥ (97 : Int)))
  (cond (decide (x1 ≤ (122 : Int)))
   (some (true))
   (cond (decide (x1 ≥ (65 : Int)))
    (cond (decide (x1 ≤ (90 : Int)))
     (some (true))
     (some (x1 == (95 : Int))))
    (some (x1 == (95 : Int)))))
  (cond (decide (x1 ≥ (65 : Int)))
   (cond (decide (x1 ≤ (90 : Int)))
    (some (true))
    (some (x1 == (95 : Int))))
   (some (x1 == (95 : Int)))))
theorem M28_ok (Lo : Nat → St → Option Bool) (x1 : Int) : callG tab C28 lv28 (dec rs28) Lo Tryd.f28 kx28 [canon false (.int .u8) x1] [] = M28 x1 := by kernel_rfl
noncomputable def F28 (_ : Nat) (x1 : Int) : Option Bool := M28 x1
theorem F28_ok (m : Nat) (x1 : Int) : callF tab C28 lv28 (dec rs28) m Tryd.f28 kx28 [canon false (.int .u8) x1] [] = F28 m x1 := M28_ok _ x1
theorem fn28 {G : GB} (hC : COk Tryd.prog G C28) (m : Nat) (x1 : Int) (y : Bool) (h : F28 m x1 = some y) : FnR Tryd.prog G 28 [canon false (.int .u8) x1] [] (fun v hout => dec rs28 v hout = some y) :=
  callF_sound (Lv := lv28) (n := m) (kx := kx28) follows tab_ok hC Tryd.func28 ((F28_ok m x1).trans h)
theorem F28_mono {m m' : Nat} (hm : m ≤ m') (x1 : Int) {y : Bool} (h : F28 m x1 = some y) : F28 m' x1 = some y := (F28_ok m' x1).symm.trans (callF_mono hm ((F28_ok m x1).trans h))
theorem ent28 : Ent Tryd.prog 28 := ⟨_, Tryd.func28, by kernel_rfl, by kernel_rfl⟩
theorem C28_ok {G : GB} : COk Tryd.prog G C28 := fun _ _ h => by cases h
end Go.Proofs.YtopplbiadpcalaaDoor.U

/- eyrie/value.Compare (function 26): its row: what must hold, what it answers. -/
namespace Go.Proofs.YtopplbiadpcalaaDoor.U
open Go
noncomputable def sp26 : Sp := Sp.of [⟨true, (.prod (.int .i64) (.prod (.int .i64) .str))⟩, ⟨true, (.prod (.int .i64) (.prod (.int .i64) .str))⟩] [⟨false, (.int .i64), false⟩, ⟨false, .bool, false⟩] (fun x1 x2 => ((x1.1 == 1 && x2.1 == 1) && (K.inI64 x1.2.1 && K.inI64 x2.2.1), (if x1.2.1 < x2.2.1 then (-1 : Int) else if x1.2.1 = x2.2.1 then 0 else 1, true)))
end Go.Proofs.YtopplbiadpcalaaDoor.U

/- eyrie/eyrielaw03.live (function 9): what it computes, as a plain function: printed by a program of ours off the small machine, checked by the kernel. -/
namespace Go.Proofs.YtopplbiadpcalaaDoor.U
open Go
def cs9 : List Ac := []
def rs9 : List Rc := [⟨false, .bool, false⟩]
def lv9 : Live := fun i => (fun _ => none : Nat → Option Keep) i
def kx9 : Keep := ⟨[(0, [])], []⟩
noncomputable def C9 : Nat → Option Sp := tabC [(26, sp26), (21, sp21), (12, sp12), (27, sp27)]
set_option maxRecDepth 100000
noncomputable def M9 : Option Bool :=
 (some ((5 : Int) == (5 : Int)))
theorem M9_ok (Lo : Nat → St → Option Bool) : callG tab C9 lv9 (dec rs9) Lo Tryd.f9 kx9 [] [] = M9 := by kernel_rfl
noncomputable def F9 (_ : Nat) : Option Bool := M9
theorem F9_ok (m : Nat) : callF tab C9 lv9 (dec rs9) m Tryd.f9 kx9 [] [] = F9 m := M9_ok _
theorem fn9 {G : GB} (hC : COk Tryd.prog G C9) (m : Nat) (y : Bool) (h : F9 m = some y) : FnR Tryd.prog G 9 [] [] (fun v hout => dec rs9 v hout = some y) :=
  callF_sound (Lv := lv9) (n := m) (kx := kx9) follows tab_ok hC Tryd.func9 ((F9_ok m).trans h)
theorem F9_mono {m m' : Nat} (hm : m ≤ m') {y : Bool} (h : F9 m = some y) : F9 m' = some y := (F9_ok m').symm.trans (callF_mono hm ((F9_ok m).trans h))
theorem ent9 : Ent Tryd.prog 9 := ⟨_, Tryd.func9, by kernel_rfl, by kernel_rfl⟩
theorem C9_ok {G : GB} (h26 : RowOk Tryd.prog G 26 sp26) (h21 : RowOk Tryd.prog G 21 sp21) (h12 : RowOk Tryd.prog G 12 sp12) (h27 : RowOk Tryd.prog G 27 sp27) : COk Tryd.prog G C9 := tabC_ok (by
  intro p hp
  simp only [List.mem_cons, List.not_mem_nil, or_false] at hp
  rcases hp with rfl | rfl | rfl | rfl
  · exact h26
  · exact h21
  · exact h12
  · exact h27
)
end Go.Proofs.YtopplbiadpcalaaDoor.U

/- eyrie/value.Parse (function 19): its row: what must hold, what it answers. -/
namespace Go.Proofs.YtopplbiadpcalaaDoor.U
open Go
noncomputable def sp19 : Sp := Sp.of [⟨false, .str⟩] [⟨true, (.prod (.int .i64) (.prod (.int .i64) .str)), false⟩, ⟨false, .bool, false⟩] (fun x1 => (decide (x1.size ≤ 1099511627776), K.parse x1))
end Go.Proofs.YtopplbiadpcalaaDoor.U

/- eyrie/eyrieref03.Parse (function 20): its row: what must hold, what it answers. -/
namespace Go.Proofs.YtopplbiadpcalaaDoor.U
open Go
noncomputable def sp20 : Sp := Sp.of [⟨false, .str⟩] [⟨true, (.prod (.int .i64) (.prod (.int .i64) .str)), false⟩, ⟨false, .bool, false⟩] (fun x1 => (decide (x1.size ≤ 1099511627776), K.parse x1))
end Go.Proofs.YtopplbiadpcalaaDoor.U

/- eyrie/eyrielaw03.live (function 9): its row: what must hold, what it answers. -/
namespace Go.Proofs.YtopplbiadpcalaaDoor.U
open Go
noncomputable def sp9 : Sp := Sp.of [] [⟨false, .bool, false⟩] ((true, true))
end Go.Proofs.YtopplbiadpcalaaDoor.U

/- eyrie/eyrielaw03.ValueTexts (function 5): what it computes, as a plain function: printed by a program of ours off the small machine, checked by the kernel. -/
namespace Go.Proofs.YtopplbiadpcalaaDoor.U
open Go
def cs5 : List Ac := [⟨true, (.prod (.int .i64) (.prod (.int .i64) .str))⟩, ⟨false, .str⟩]
def rs5 : List Rc := [⟨false, .bool, false⟩]
def lv5 : Live := fun i => (fun _ => none : Nat → Option Keep) i
def kx5 : Keep := ⟨[(0, [])], []⟩
noncomputable def C5 : Nat → Option Sp := tabC [(19, sp19), (20, sp20), (9, sp9), (21, sp21), (22, sp22)]
set_option maxRecDepth 100000
noncomputable def M5 (x1 : (Int × (Int × ByteArray))) (x2 : ByteArray) : Option Bool :=
 (cond (decide (x2.size ≤ (1099511627776 : Nat)))
  (cond (decide (x2.size ≤ (1099511627776 : Nat)))
   (cond (K.inI64 x1.snd.fst && decide (ByteArray.size x1.snd.snd ≤ (1099511627776 : Nat)))
    (cond (K.inI64 x1.snd.fst && decide (ByteArray.size x1.snd.snd ≤ (1099511627776 : Nat)))
     (cond ((K.text (x1.fst, x1.snd.fst, x1.snd.snd)).toList == (K.text (x1.fst, x1.snd.fst, x1.snd.snd)).toList)
      (cond ((K.parse x2).fst.fst == (K.parse x2).fst.fst && ((K.parse x2).fst.snd.fst == (K.parse x2).fst.snd.fst && ByteArray.toList (K.parse x2).fst.snd.snd == ByteArray.toList (K.parse x2).fst.snd.snd))
       (some ((K.parse x2).snd == (K.parse x2).snd))
       (some (false)))
      (some (false)))
     none)
    none)
   none)
  none)
theorem M5_ok (Lo : Nat → St → Option Bool) (x1 : (Int × (Int × ByteArray))) (x2 : ByteArray) : callG tab C5 lv5 (dec rs5) Lo Tryd.f5 kx5 [canon true (.prod (.int .i64) (.prod (.int .i64) .str)) x1, canon false .str x2] [] = M5 x1 x2 := by kernel_rfl
noncomputable def F5 (_ : Nat) (x1 : (Int × (Int × ByteArray))) (x2 : ByteArray) : Option Bool := M5 x1 x2
theorem F5_ok (m : Nat) (x1 : (Int × (Int × ByteArray))) (x2 : ByteArray) : callF tab C5 lv5 (dec rs5) m Tryd.f5 kx5 [canon true (.prod (.int .i64) (.prod (.int .i64) .str)) x1, canon false .str x2] [] = F5 m x1 x2 := M5_ok _ x1 x2
theorem fn5 {G : GB} (hC : COk Tryd.prog G C5) (m : Nat) (x1 : (Int × (Int × ByteArray))) (x2 : ByteArray) (y : Bool) (h : F5 m x1 x2 = some y) : FnR Tryd.prog G 5 [canon true (.prod (.int .i64) (.prod (.int .i64) .str)) x1, canon false .str x2] [] (fun v hout => dec rs5 v hout = some y) :=
  callF_sound (Lv := lv5) (n := m) (kx := kx5) follows tab_ok hC Tryd.func5 ((F5_ok m x1 x2).trans h)
theorem F5_mono {m m' : Nat} (hm : m ≤ m') (x1 : (Int × (Int × ByteArray))) (x2 : ByteArray) {y : Bool} (h : F5 m x1 x2 = some y) : F5 m' x1 x2 = some y := (F5_ok m' x1 x2).symm.trans (callF_mono hm ((F5_ok m x1 x2).trans h))
theorem ent5 : Ent Tryd.prog 5 := ⟨_, Tryd.func5, by kernel_rfl, by kernel_rfl⟩
theorem C5_ok {G : GB} (h19 : RowOk Tryd.prog G 19 sp19) (h20 : RowOk Tryd.prog G 20 sp20) (h9 : RowOk Tryd.prog G 9 sp9) (h21 : RowOk Tryd.prog G 21 sp21) (h22 : RowOk Tryd.prog G 22 sp22) : COk Tryd.prog G C5 := tabC_ok (by
  intro p hp
  simp only [List.mem_cons, List.not_mem_nil, or_false] at hp
  rcases hp with rfl | rfl | rfl | rfl | rfl
  · exact h19
  · exact h20
  · exact h9
  · exact h21
  · exact h22
)
end Go.Proofs.YtopplbiadpcalaaDoor.U

/- eyrie/eyrielaw03.ValueBack (function 6): what it computes, as a plain function: printed by a program of ours off the small machine, checked by the kernel. -/
namespace Go.Proofs.YtopplbiadpcalaaDoor.U
open Go
def cs6 : List Ac := [⟨true, (.prod (.int .i64) (.prod (.int .i64) .str))⟩, ⟨false, .str⟩]
def rs6 : List Rc := [⟨false, .bool, false⟩]
def lv6 : Live := fun i => (fun _ => none : Nat → Option Keep) i
def kx6 : Keep := ⟨[(0, [])], []⟩
noncomputable def C6 : Nat → Option Sp := tabC [(11, sp11), (21, sp21), (19, sp19), (10, sp10), (9, sp9)]
set_option maxRecDepth 100000
noncomputable def M6 (x1 : (Int × (Int × ByteArray))) (x2 : ByteArray) : Option Bool :=
 (cond (K.check (x1.fst, x1.snd.fst, x1.snd.snd) == (0 : Int))
  (cond (K.inI64 x1.snd.fst && decide (ByteArray.size x1.snd.snd ≤ (1099511627776 : Nat)))
   (cond (decide ((K.text (x1.fst, x1.snd.fst, x1.snd.snd)).size ≤ (1099511627776 : Nat)))
    (cond (!(K.parse (K.text (x1.fst, x1.snd.fst, x1.snd.snd))).snd)
     (some (false))
     (cond (!((K.parse (K.text (x1.fst, x1.snd.fst, x1.snd.snd))).fst.fst == x1.fst && ((K.parse (K.text (x1.fst, x1.snd.fst, x1.snd.snd))).fst.snd.fst == x1.snd.fst && ByteArray.toList (K.parse (K.text (x1.fst, x1.snd.fst, x1.snd.snd))).fst.snd.snd == ByteArray.toList x1.snd.snd)))
      (some (false))
      (cond (decide (x2.size ≤ (1099511627776 : Nat)))
       (cond ((K.parse x2).snd)
        (cond (K.inI64 (K.parse x2).fst.snd.fst && decide (ByteArray.size (K.parse x2).fst.snd.snd ≤ (1099511627776 : Nat)))
         (cond (!(K.text ((K.parse x2).fst.fst, (K.parse x2).fst.snd.fst, (K.parse x2).fst.snd.snd)).toList == x2.toList)
          (some (false))
          (cond (K.check ((K.parse x2).fst.fst, (K.parse x2).fst.snd.fst, (K.parse x2).fst.snd.snd) != (0 : Int))
           (some (false))
           (some (true))))
         none)
        (some (true)))
       none)))
    none)
   none)
  (cond (decide (x2.size ≤ (1099511627776 : Nat)))
   (cond ((K.parse x2).snd)
    (cond (K.inI64 (K.parse x2).fst.snd.fst && decide (ByteArray.size (K.parse x2).fst.snd.snd ≤ (1099511627776 : Nat)))
     (cond (!(K.text ((K.parse x2).fst.fst, (K.parse x2).fst.snd.fst, (K.parse x2).fst.snd.snd)).toList == x2.toList)
      (some (false))
      (cond (K.check ((K.parse x2).fst.fst, (K.parse x2).fst.snd.fst, (K.parse x2).fst.snd.snd) != (0 : Int))
       (some (false))
       (some (true))))
     none)
    (some (true)))
   none))
theorem M6_ok (Lo : Nat → St → Option Bool) (x1 : (Int × (Int × ByteArray))) (x2 : ByteArray) : callG tab C6 lv6 (dec rs6) Lo Tryd.f6 kx6 [canon true (.prod (.int .i64) (.prod (.int .i64) .str)) x1, canon false .str x2] [] = M6 x1 x2 := by kernel_rfl
noncomputable def F6 (_ : Nat) (x1 : (Int × (Int × ByteArray))) (x2 : ByteArray) : Option Bool := M6 x1 x2
theorem F6_ok (m : Nat) (x1 : (Int × (Int × ByteArray))) (x2 : ByteArray) : callF tab C6 lv6 (dec rs6) m Tryd.f6 kx6 [canon true (.prod (.int .i64) (.prod (.int .i64) .str)) x1, canon false .str x2] [] = F6 m x1 x2 := M6_ok _ x1 x2
theorem fn6 {G : GB} (hC : COk Tryd.prog G C6) (m : Nat) (x1 : (Int × (Int × ByteArray))) (x2 : ByteArray) (y : Bool) (h : F6 m x1 x2 = some y) : FnR Tryd.prog G 6 [canon true (.prod (.int .i64) (.prod (.int .i64) .str)) x1, canon false .str x2] [] (fun v hout => dec rs6 v hout = some y) :=
  callF_sound (Lv := lv6) (n := m) (kx := kx6) follows tab_ok hC Tryd.func6 ((F6_ok m x1 x2).trans h)
theorem F6_mono {m m' : Nat} (hm : m ≤ m') (x1 : (Int × (Int × ByteArray))) (x2 : ByteArray) {y : Bool} (h : F6 m x1 x2 = some y) : F6 m' x1 x2 = some y := (F6_ok m' x1 x2).symm.trans (callF_mono hm ((F6_ok m x1 x2).trans h))
theorem ent6 : Ent Tryd.prog 6 := ⟨_, Tryd.func6, by kernel_rfl, by kernel_rfl⟩
theorem C6_ok {G : GB} (h11 : RowOk Tryd.prog G 11 sp11) (h21 : RowOk Tryd.prog G 21 sp21) (h19 : RowOk Tryd.prog G 19 sp19) (h10 : RowOk Tryd.prog G 10 sp10) (h9 : RowOk Tryd.prog G 9 sp9) : COk Tryd.prog G C6 := tabC_ok (by
  intro p hp
  simp only [List.mem_cons, List.not_mem_nil, or_false] at hp
  rcases hp with rfl | rfl | rfl | rfl | rfl
  · exact h11
  · exact h21
  · exact h19
  · exact h10
  · exact h9
)
end Go.Proofs.YtopplbiadpcalaaDoor.U

/- The laws' functions: what they answer, in plain sight. -/
namespace Go.Proofs.YtopplbiadpcalaaDoor.U
open Go Go.RowKit Go.Proofs.YtopplbiadpcalaaDoor.K
theorem letter_row (x : Int) : M28 x = some (letter x) := by
  unfold M28 letter
  have key : ∀ p q : Prop, ∀ [Decidable p] [Decidable q], (p ↔ q) → some (decide p) = some (decide q) := fun p q _ _ h => congrArg some (decide_eq_decide.2 h)
  simp only [cond_dec, or_dec, beq_int]
  repeat' (refine ite_i (Q := fun y => y = _) (fun _ => ?_) (fun _ => ?_))
  all_goals first
    | (exfalso; omega)
    | exact key _ _ (by omega)
    | (refine congrArg some (Eq.symm (decide_eq_true ?_)); omega)
theorem cmp_row (v u : Val) (e1 : v.1 = 1) (e2 : u.1 = 1) : M26 v u = some (if v.2.1 < u.2.1 then (-1 : Int) else if v.2.1 = u.2.1 then 0 else 1, true) := by
  unfold M26
  rw [e1, e2]
  simp only [bne_int, beq_int, not_dec, cond_dec]
  rw [if_neg (show ¬ ((1 : Int) ≠ 1) from fun h => h rfl), if_pos trivial, if_neg (show ¬ ((1 : Int) = 2) by decide)]
  rcases Int.lt_trichotomy v.2.1 u.2.1 with h | h | h
  · rw [if_pos (by omega), if_pos h, if_pos h]
  · rw [if_neg (by omega), if_neg (by omega), if_pos h]; rfl
  · rw [if_pos (by omega), if_neg (by omega), if_neg (by omega), if_neg (by omega)]
section
variable {G : GB}
theorem row28 : RowOk Tryd.prog G 28 sp28 := Sp.of_ok ent28 (fun x1 _ => fn28 C28_ok 0 x1 _ (letter_row x1))
theorem row12 : RowOk Tryd.prog G 12 sp12 := Sp.of_ok ent12 (fun x1 h => by
  obtain ⟨m, hm⟩ := vname_val x1 (of_decide_eq_true h)
  exact fn12 C12_ok m x1 _ hm)
theorem row13 : RowOk Tryd.prog G 13 sp13 := Sp.of_ok ent13 (fun x1 h => by
  obtain ⟨m, hm⟩ := rname_val x1 (of_decide_eq_true h)
  exact fn13 (C13_ok row28) m x1 _ hm)
theorem row26 : RowOk Tryd.prog G 26 sp26 := Sp.of_ok ent26 (fun x1 x2 h => by
  have h1 := Bool.and_eq_true_iff.1 (Bool.and_eq_true_iff.1 h).1
  have e1 : x1.1 = (1 : Int) := of_decide_eq_true h1.1
  have e2 : x2.1 = (1 : Int) := of_decide_eq_true h1.2
  exact fn26 C26_ok 0 x1 x2 _ (cmp_row x1 x2 e1 e2))
theorem row19 (hL : LibRows G) : RowOk Tryd.prog G 19 sp19 := Sp.of_ok ent19 (fun x1 h => fparse hL x1 (of_decide_eq_true h))
theorem row20 : RowOk Tryd.prog G 20 sp20 := Sp.of_ok ent20 (fun x1 h => rparse x1 (of_decide_eq_true h))
theorem row9 (hL : LibRows G) : RowOk Tryd.prog G 9 sp9 := Sp.of_ok ent9 (fun _ => fn9 (C9_ok row26 (row21 hL) row12 row_swap) 0 _ rfl)
end
theorem texts_true (v : Val) (s : ByteArray) (h1 : inI64 v.2.1 = true) (h2 : v.2.2.size ≤ 1099511627776) (h3 : s.size ≤ 1099511627776) : M5 v s = some true := by
  unfold M5
  simp [h1, h2, h3]
theorem back_half (s : ByteArray) (h3 : s.size ≤ 1099511627776) (b : Bool) (hb : b = true) : (cond (decide (s.size ≤ (1099511627776 : Nat)))
   (cond ((parse s).snd)
    (cond (inI64 (parse s).fst.snd.fst && decide (ByteArray.size (parse s).fst.snd.snd ≤ (1099511627776 : Nat)))
     (cond (!(text ((parse s).fst.fst, (parse s).fst.snd.fst, (parse s).fst.snd.snd)).toList == s.toList)
      (some (false))
      (cond (check ((parse s).fst.fst, (parse s).fst.snd.fst, (parse s).fst.snd.snd) != (0 : Int))
       (some (false))
       (some b)))
     none)
    (some b))
   none) = some true := by
  subst hb
  rw [decide_eq_true h3, cond_true]
  by_cases hx : ∃ v, Says s v
  · obtain ⟨v, hv⟩ := hx
    rw [parse_says hv]
    obtain ⟨k, n, t⟩ := v
    obtain ⟨h4, h5, h6⟩ := hv
    have h7 : t.size ≤ 1099511627776 := by
      rcases check_cases h4 with h | h
      · simp only [Prod.mk.injEq] at h
        rw [h.2.2]
        exact Nat.zero_le _
      · have := h.2
        simp only at this
        omega
    simp only [h4, h5, h6, decide_eq_true h7, Bool.and_self, cond_true, beq_self_eq_true, Bool.not_true, cond_false, bne_self_eq_false]
  · rw [parse_none hx]
    rfl
theorem back_true (v : Val) (s : ByteArray) (h1 : inI64 v.2.1 = true) (h2 : v.2.2.size ≤ 1048576) (h3 : s.size ≤ 1099511627776) : M6 v s = some true := by
  unfold M6
  by_cases hc : check v = 0
  · have hc' : check (v.fst, v.snd.fst, v.snd.snd) = 0 := hc
    have hp : parse (text v) = (v, true) := parse_says ⟨hc, h1, rfl⟩
    have hp' : parse (text (v.fst, v.snd.fst, v.snd.snd)) = (v, true) := hp
    have h4 : v.2.2.size ≤ 1099511627776 := by omega
    have h5 : (text (v.fst, v.snd.fst, v.snd.snd)).size ≤ 1099511627776 := by
      show (text v).size ≤ _
      rcases check_cases hc with h | ⟨h, h'⟩
      · rw [h, text_int]
        have h8 := Bool.and_eq_true_iff.1 h1
        have := Lib.itoa_length_le v.2.1 (of_decide_eq_true h8.1) (of_decide_eq_true h8.2)
        show (ByteArray.mk (Lib.itoa v.2.1).toArray).size ≤ _
        rw [mk_size]
        omega
      · rw [h, text_str]
        have := quoteB_size v.2.2
        omega
    rw [hc', hp']
    simp only [beq_self_eq_true, h1, decide_eq_true h4, decide_eq_true h5, Bool.and_self, cond_true, Bool.not_true, cond_false]
    exact back_half s h3 true rfl
  · have hc' : (check (v.fst, v.snd.fst, v.snd.snd) == 0) = false := by simpa using hc
    rw [hc', cond_false]
    exact back_half s h3 true rfl
end Go.Proofs.YtopplbiadpcalaaDoor.U

/- The small abstract machine: rows of functions that are handed functions, places in boxes and rows of their own. -/
namespace Go.Proofs.YtopplbiadpcalaaDoor.U
open Go Go.RowKit

/-- An argument: plain data; a function; a function with one box; a box; a row that is taken over. -/
inductive Hd where
  | val (c : Ac)
  | fn (f : Nat)
  | clo (f : Nat)
  | ptr
  | row
def Hd.own : Hd → Bool
  | .row => true
  | _ => false
/-- What is handed over: a row, a box. -/
inductive Os where
  | row (e : Nat) (k : Kn)
  | box (t : Nat) (k : Kn)
def Os.kd : Os → Kn
  | .row e k => .sl e k
  | .box _ k => k
def Os.ob : (s : Os) → den s.kd → Ob
  | .row e k, xs => .row k e xs none false
  | .box t k, x => .box t (toL k x)
def Os.dec : (s : Os) → Option Ob → Option (den s.kd)
  | .row e k, some (.row k' e' xs _ false) => if h : k' = k then match Nat.beq e' e with
      | true => some (h ▸ xs)
      | false => none
    else none
  | .box t k, some (.box t' cs) => match Nat.beq t' t with
    | true => fromLs k cs
    | false => none
  | _, _ => none
def Os.kn : List Os → Kn
  | [] => .bool
  | s :: r => .prod s.kd (Os.kn r)
def decOs (hp : Heap) : (os : List Os) → Nat → Option (den (Os.kn os))
  | [], _ => some true
  | s :: r, b => match s.dec (getH hp b), decOs hp r (b + 1) with
    | some x, some y => some (x, y)
    | _, _ => none
def obsAt : (os : List Os) → List Nat → den (Os.kn os) → Heap
  | s :: r, b :: bs, x => (b, s.ob x.1) :: obsAt r bs x.2
  | _, _, _ => []
def FnA : List Hd → Type → Type
  | [], ρ => ρ
  | .val c :: r, ρ => den c.k → FnA r ρ
  | .fn _ :: r, ρ => FnA r ρ
  | .clo _ :: r, ρ => FnA r ρ
  | .ptr :: r, ρ => FnA r ρ
  | .row :: r, ρ => FnA r ρ
def FnO : List Os → Type → Type
  | [], ρ => ρ
  | s :: r, ρ => den s.kd → FnO r ρ
def pushK {ρ : Type} (b : Nat) : Option (ρ × List Nat) → Option (ρ × List Nat)
  | some (y, bs) => some (y, b :: bs)
  | none => none
def appG {ρ : Type} : (cs : List Hd) → FnA cs ρ → List SV → Option (ρ × List Nat)
  | [], g, [] => some (g, [])
  | .val c :: r, g, v :: vs => match fromA c.ag c.k v with
    | some x => appG r (g x) vs
    | none => none
  | .fn f :: r, g, .fn f' [] :: vs => match Nat.beq f' f with
    | true => appG r g vs
    | false => none
  | .clo f :: r, g, .fn f' [.ptr b 0] :: vs => match Nat.beq f' f with
    | true => pushK b (appG r g vs)
    | false => none
  | .ptr :: r, g, .l (.ptr b 0) :: vs => pushK b (appG r g vs)
  | .row :: r, g, .l (.rs b) :: vs => pushK b (appG r g vs)
  | _, _, _ => none
def appO {ρ : Type} (hp : Heap) : (os : List Os) → FnO os ρ → List Nat → Option ρ
  | [], g, [] => some g
  | s :: r, g, b :: bs => match s.dec (getH hp b) with
    | some x => appO hp r (g x) bs
    | none => none
  | _, _, _ => none
def AllA {ρ : Type} : (cs : List Hd) → FnA cs ρ → Nat → (List SV → ρ → Prop) → Prop
  | [], g, _, Q => Q [] g
  | .val c :: r, g, n, Q => ∀ x : den c.k, AllA r (g x) n fun avs y => Q (canon c.ag c.k x :: avs) y
  | .fn f :: r, g, n, Q => AllA r g n fun avs y => Q (.fn f [] :: avs) y
  | .clo f :: r, g, n, Q => AllA r g (n + 1) fun avs y => Q (.fn f [.ptr n 0] :: avs) y
  | .ptr :: r, g, n, Q => AllA r g (n + 1) fun avs y => Q (.l (.ptr n 0) :: avs) y
  | .row :: r, g, n, Q => AllA r g (n + 1) fun avs y => Q (.l (.rs n) :: avs) y
def AllO {ρ : Type} : (os : List Os) → FnO os ρ → Nat → (Heap → ρ → Prop) → Prop
  | [], g, _, Q => Q [] g
  | s :: r, g, n, Q => ∀ x : den s.kd, AllO r (g x) (n + 1) fun hp y => Q ((n, s.ob x) :: hp) y
def sameK : List Nat → List Nat → Bool
  | [], [] => true
  | a :: r, b :: q => Nat.beq a b && sameK r q
  | _, _ => false
theorem sameK_eq : ∀ {a b : List Nat}, sameK a b = true → a = b
  | [], [], _ => rfl
  | a :: r, b :: q, h => by
    simp only [sameK, Bool.and_eq_true] at h
    rw [Nat.eq_of_beq_eq_true h.1, sameK_eq h.2]
  | [], _ :: _, h => by cases h
  | _ :: _, [], h => by cases h
theorem distinct_nodup : ∀ {l : List Nat}, distinct l = true → l.Nodup
  | [], _ => List.nodup_nil
  | b :: bs, h => by
    simp only [distinct, Bool.and_eq_true, Bool.not_eq_true', List.any_eq_false] at h
    refine List.nodup_cons.2 ⟨fun hb => ?_, distinct_nodup h.2⟩
    exact h.1 b hb (Nat.beq_refl b)
def Sp.ofG (cs : List Hd) (os : List Os) (rs : List Rc) (g : FnA cs (FnO os (Bool × (den (Rc.kn rs) × den (Os.kn os))))) : Sp where
  own := cs.map Hd.own
  run d vs hin := match appG cs g vs with
    | some (g', bs) => match sameK (hin.map Prod.fst) bs && (distinct bs && bs.all fun b => Nat.blt b d || Nat.ble (d + rs.length) b) with
      | true => match appO hin os g' bs with
        | some y => some (y.1, (ans rs d y.2.1).1, (ans rs d y.2.1).2 ++ obsAt os bs y.2.2)
        | none => none
      | false => none
    | none => none
/-- The answer and what was handed over, decoded. -/
def decG (rs : List Rc) (os : List Os) (v : SV) (hp : Heap) : Option (den (Rc.kn rs) × den (Os.kn os)) := match dec rs v hp, decOs hp os 1000 with
  | some y, some z => some (y, z)
  | _, _ => none
section
variable {ψ ψ' : Nat → Value} {ro ro' : Addr → Prop} {w w' : World}
theorem Os.dec_ok {s : Os} {o : Ob} {x : den s.kd} (h : s.dec (some o) = some x) : o.live = true ∧ (s.ob x).live = true ∧ ∀ (ψ ψ' : Nat → Value) (ro : Addr → Prop) (w : World) (v : Value), OOk ψ ro w o v → OOk ψ' ro w (s.ob x) v := by
  cases s with
  | row e k =>
    cases o with
    | box t cs => cases h
    | row k' e' xs nil fz =>
      cases fz with
      | true => cases h
      | false =>
        simp only [Os.dec] at h
        split at h
        · rename_i hk
          subst hk
          split at h
          · rename_i he
            obtain rfl := Nat.eq_of_beq_eq_true he
            obtain rfl := Option.some.inj h
            refine ⟨rfl, rfl, fun ψ ψ' ro w v hv => ?_⟩
            obtain ⟨us, h1, h2, _⟩ := hv
            exact ⟨us, h1, h2, fun b hb => by cases hb⟩
          · cases h
        · cases h
  | box t k =>
    cases o with
    | row k' e' xs nil fz => cases h
    | box t' cs =>
      simp only [Os.dec] at h
      split at h
      · rename_i he
        obtain rfl := Nat.eq_of_beq_eq_true he
        refine ⟨rfl, rfl, fun ψ ψ' ro w v hv => ?_⟩
        obtain ⟨g, vs, h1, h2, h3⟩ := hv
        exact ⟨g, vs, h1, h2, toL_ok k x vs (fromLs_ok h h3)⟩
      · cases h
theorem Os.ob_leaf {s : Os} {x : den s.kd} : ∀ y ∈ (s.ob x).leaves, y.ref = none := by
  cases s with
  | row e k => intro y hy; cases hy
  | box t k => intro y hy; exact toL_refs k x y hy
theorem appG_ok {ρ : Type} : ∀ {cs : List Hd} {g : FnA cs ρ} {n : Nat} {vs : List SV} {y : ρ} {bs : List Nat} {Q : List SV → ρ → Prop}, AllA cs g n Q → appG cs g vs = some (y, bs) →
    ∃ avs, Q avs y ∧ ∀ (ψ ψc : Nat → Value) (ro : Addr → Prop) (w : World) (us : List Value), (∀ i b, bs[i]? = some b → ψc (n + i) = ψ b) → RVs ψ ro w vs us → RVs ψc ro w avs us := by
  intro cs
  induction cs with
  | nil =>
    intro g n vs y bs Q hq h
    cases vs with
    | nil =>
      simp only [appG, Option.some.injEq, Prod.mk.injEq] at h
      obtain ⟨rfl, rfl⟩ := h
      refine ⟨[], hq, fun ψ ψc ro w us _ hu => ?_⟩
      cases us with
      | nil => trivial
      | cons _ _ => exact hu.elim
    | cons _ _ => cases h
  | cons c r ih =>
    intro g n vs y bs Q hq h
    have key : ∀ (b : Nat) (vs' : List SV) (g : FnA r ρ) (Q' : List SV → ρ → Prop), AllA r g (n + 1) Q' → pushK b (appG r g vs') = some (y, bs) → ∃ avs, Q' avs y ∧ ∀ (ψ ψc : Nat → Value) (ro : Addr → Prop) (w : World) (us : List Value), (∀ i b, bs[i]? = some b → ψc (n + i) = ψ b) → (ψc n = ψ b ∧ (RVs ψ ro w vs' us → RVs ψc ro w avs us)) := by
      intro b vs' g Q' hq' h'
      cases hx : appG r g vs' with
      | none => rw [hx] at h'; cases h'
      | some p =>
        obtain ⟨y', bs'⟩ := p
        rw [hx] at h'
        simp only [pushK, Option.some.injEq, Prod.mk.injEq] at h'
        obtain ⟨rfl, rfl⟩ := h'
        obtain ⟨avs, h1, h2⟩ := ih hq' hx
        refine ⟨avs, h1, fun ψ ψc ro w us hψ => ⟨hψ 0 b rfl, fun hu => h2 ψ ψc ro w us (fun i b' hi => ?_) hu⟩⟩
        have := hψ (i + 1) b' (by simpa using hi)
        rwa [show n + 1 + i = n + (i + 1) by omega]
    cases c with
    | val c =>
      cases vs with
      | nil => cases h
      | cons v vs =>
        simp only [appG] at h
        split at h
        · rename_i x hx
          obtain ⟨avs, h1, h2⟩ := ih (hq x) h
          refine ⟨canon c.ag c.k x :: avs, h1, fun ψ ψc ro w us hψ hu => ?_⟩
          cases us with
          | nil => exact hu.elim
          | cons u us => exact ⟨canon_ok hx hu.1, h2 ψ ψc ro w us hψ hu.2⟩
        · cases h
    | fn f =>
      cases vs with
      | nil => cases h
      | cons v vs =>
        cases v with
        | fn f' caps =>
          cases caps with
          | nil =>
            simp only [appG] at h
            split at h
            · rename_i hf
              obtain rfl := Nat.eq_of_beq_eq_true hf
              obtain ⟨avs, h1, h2⟩ := ih hq h
              refine ⟨.fn f' [] :: avs, h1, fun ψ ψc ro w us hψ hu => ?_⟩
              cases us with
              | nil => exact hu.elim
              | cons u us =>
                obtain ⟨⟨vs', h3, h4⟩, h5⟩ := hu
                refine ⟨⟨vs', h3, ?_⟩, h2 ψ ψc ro w us hψ h5⟩
                cases vs' with
                | nil => trivial
                | cons _ _ => exact h4.elim
            · cases h
          | cons _ _ => cases h
        | _ => cases h
    | clo f =>
      cases vs with
      | nil => cases h
      | cons v vs =>
        cases v with
        | fn f' caps =>
          cases caps with
          | nil => cases h
          | cons x caps =>
            cases x with
            | ptr b off =>
              cases off with
              | succ _ => cases h
              | zero =>
                cases caps with
                | cons _ _ => cases h
                | nil =>
                  simp only [appG] at h
                  split at h
                  · rename_i hf
                    obtain rfl := Nat.eq_of_beq_eq_true hf
                    obtain ⟨avs, h1, h2⟩ := key b vs g _ hq h
                    refine ⟨.fn f' [.ptr n 0] :: avs, h1, fun ψ ψc ro w us hψ hu => ?_⟩
                    cases us with
                    | nil => exact hu.elim
                    | cons u us =>
                      obtain ⟨⟨vs', h3, h4⟩, h5⟩ := hu
                      obtain ⟨h6, h7⟩ := h2 ψ ψc ro w us hψ
                      refine ⟨⟨vs', h3, ?_⟩, h7 h5⟩
                      match vs', h4 with
                      | [u'], ⟨⟨g, h8, h9⟩, _⟩ => exact ⟨⟨g, h6.trans h8, h9⟩, trivial⟩
                  · cases h
            | _ => cases h
        | _ => cases h
    | ptr =>
      cases vs with
      | nil => cases h
      | cons v vs =>
        cases v with
        | l x =>
          cases x with
          | ptr b off =>
            cases off with
            | succ _ => cases h
            | zero =>
              obtain ⟨avs, h1, h2⟩ := key b vs g _ hq h
              refine ⟨.l (.ptr n 0) :: avs, h1, fun ψ ψc ro w us hψ hu => ?_⟩
              cases us with
              | nil => exact hu.elim
              | cons u us =>
                obtain ⟨⟨g, h8, h9⟩, h5⟩ := hu
                obtain ⟨h6, h7⟩ := h2 ψ ψc ro w us hψ
                exact ⟨⟨g, h6.trans h8, h9⟩, h7 h5⟩
          | _ => cases h
        | _ => cases h
    | row =>
      cases vs with
      | nil => cases h
      | cons v vs =>
        cases v with
        | l x =>
          cases x with
          | rs b =>
            obtain ⟨avs, h1, h2⟩ := key b vs g _ hq h
            refine ⟨.l (.rs n) :: avs, h1, fun ψ ψc ro w us hψ hu => ?_⟩
            cases us with
            | nil => exact hu.elim
            | cons u us =>
              obtain ⟨⟨h8, h9⟩, h5⟩ := hu
              obtain ⟨h6, h7⟩ := h2 ψ ψc ro w us hψ
              exact ⟨⟨h8.trans h6.symm, h9⟩, h7 h5⟩
          | _ => cases h
        | _ => cases h
theorem appO_ok {ρ : Type} {hin : Heap} : ∀ {os : List Os} {g : FnO os ρ} {n : Nat} {bs : List Nat} {y : ρ} {Q : Heap → ρ → Prop}, AllO os g n Q → appO hin os g bs = some y →
    ∃ hp, Q hp y ∧ bs.length = os.length ∧ (∀ i, i < bs.length → getH hp (n + i) ≠ none) ∧ ∀ q o, getH hp q = some o → ∃ i b o', q = n + i ∧ bs[i]? = some b ∧ getH hin b = some o' ∧ o.live = true ∧ o'.live = true ∧ ∀ (ψ ψ' : Nat → Value) (ro : Addr → Prop) (w : World) (v : Value), OOk ψ ro w o' v → OOk ψ' ro w o v
  | [], g, n, [], y, Q, hq, h => by
    obtain rfl := Option.some.inj h
    exact ⟨[], hq, rfl, fun i hi => by simp at hi, fun q o h => by cases h⟩
  | s :: r, g, n, b :: bs, y, Q, hq, h => by
    simp only [appO] at h
    split at h
    · rename_i x hx
      obtain ⟨hp, h1, h2, h2', h3⟩ := appO_ok (hq x) h
      refine ⟨(n, s.ob x) :: hp, h1, by simp [h2], fun i hi => ?_, fun q o ho => ?_⟩
      · simp only [getH]
        split
        · simp
        · rename_i hb
          cases i with
          | zero => rw [Nat.add_zero, Nat.beq_refl] at hb; cases hb
          | succ i => rw [show n + (i + 1) = n + 1 + i by omega]; exact h2' i (by simpa using hi)
      simp only [getH] at ho
      split at ho
      · rename_i hb
        obtain rfl := Nat.eq_of_beq_eq_true hb
        obtain rfl := Option.some.inj ho
        cases hg : getH hin b with
        | none => rw [hg] at hx; cases s <;> cases hx
        | some o' =>
          rw [hg] at hx
          obtain ⟨h4, h5, h6⟩ := Os.dec_ok hx
          exact ⟨0, b, o', rfl, rfl, hg, h5, h4, h6⟩
      · obtain ⟨i, b', o', h4, h5, h6⟩ := h3 q o ho
        exact ⟨i + 1, b', o', by omega, by simpa using h5, h6⟩
    · cases h
  | [], _, _, _ :: _, _, _, _, h => by cases h
  | _ :: _, _, _, [], _, _, _, h => by cases h
theorem obsAt_get : ∀ {os : List Os} {bs : List Nat} {z : den (Os.kn os)} {hp : Heap} {n q : Nat} {o : Ob}, decOs hp os n = some z → getH (obsAt os bs z) q = some o →
    ∃ i o', bs[i]? = some q ∧ i < os.length ∧ getH hp (n + i) = some o' ∧ o.live = true ∧ o'.live = true ∧ (∀ y ∈ o.leaves, y.ref = none) ∧ ∀ (ψ ψ' : Nat → Value) (ro : Addr → Prop) (w : World) (v : Value), OOk ψ ro w o' v → OOk ψ' ro w o v
  | [], bs, z, hp, n, q, o, _, h => by cases bs <;> cases h
  | s :: r, [], z, hp, n, q, o, _, h => by cases h
  | s :: r, b :: bs, z, hp, n, q, o, hd, h => by
    simp only [decOs] at hd
    split at hd
    · rename_i x y hx hy
      obtain rfl := Option.some.inj hd
      simp only [obsAt, getH] at h
      split at h
      · rename_i hb
        obtain rfl := Nat.eq_of_beq_eq_true hb
        obtain rfl := Option.some.inj h
        cases hg : getH hp n with
        | none => rw [hg] at hx; cases s <;> cases hx
        | some o' =>
          rw [hg] at hx
          obtain ⟨h4, h5, h6⟩ := Os.dec_ok hx
          exact ⟨0, o', rfl, Nat.zero_lt_succ _, hg, h5, h4, Os.ob_leaf, h6⟩
      · obtain ⟨i, o', h4, h4', h5, h6⟩ := obsAt_get hy h
        exact ⟨i + 1, o', by simpa using h4, Nat.succ_lt_succ h4', by rw [show n + (i + 1) = n + 1 + i by omega]; exact h5, h6⟩
    · cases hd
theorem obsAt_none : ∀ {os : List Os} {bs : List Nat} {z : den (Os.kn os)} {q : Nat}, bs.length = os.length → q ∈ bs → getH (obsAt os bs z) q ≠ none
  | [], [], _, _, _, h => by cases h
  | s :: r, b :: bs, z, q, hl, h => by
    simp only [obsAt, getH]
    split
    · simp
    · rename_i hb
      rcases List.mem_cons.1 h with rfl | h
      · rw [Nat.beq_refl] at hb; cases hb
      · exact obsAt_none (by simpa using hl) h
  | [], _ :: _, _, _, hl, _ => by simp at hl
  | _ :: _, [], _, _, hl, _ => by simp at hl
theorem ansE_key2 : ∀ {rs : List Rc} {d q : Nat} {y : den (Rc.kn rs)} {o : Ob}, getH (ansE d rs y).2 q = some o → d ≤ q ∧ q < d + rs.length
  | [], _, _, _, _, h => by cases h
  | [c], d, q, y, o, h => by have := ans1_key (c := c) h; simp; omega
  | c :: c' :: r, d, q, y, o, h => by
    simp only [ansE] at h
    rw [getH_app2] at h
    split at h
    · rename_i h1; have := ans1_key h1; simp; omega
    · have := ansE_key2 h; simp at this ⊢; omega
theorem getH_none_key {hp : Heap} {b : Nat} (h : b ∉ hp.map Prod.fst) : getH hp b = none := by
  cases hg : getH hp b with
  | none => rfl
  | some o => exact absurd (List.mem_map_of_mem (getH_mem hg)) h
end
theorem Sp.ofG_ok {P : Program} {G : GB} {f : Nat} {cs : List Hd} {os : List Os} {rs : List Rc} {g : FnA cs (FnO os (Bool × (den (Rc.kn rs) × den (Os.kn os))))} (he : Ent P f) (hrs : rs.length ≤ 1000)
    (h : AllA cs g 1000 fun avs g' => AllO os g' 1000 fun hp y => y.1 = true → FnR P G f avs hp fun v hout => decG rs os v hout = some y.2) : RowOk P G f (Sp.ofG cs os rs g) := by
  intro d args hin v hout hr
  refine ⟨he, ?_⟩
  simp only [Sp.ofG] at hr
  split at hr
  rotate_left
  · cases hr
  rename_i g' bs hg
  split at hr
  rotate_left
  · cases hr
  rename_i hchk
  split at hr
  rotate_left
  · cases hr
  rename_i y hy
  simp only [Option.some.injEq, Prod.mk.injEq] at hr
  obtain ⟨h1, rfl, rfl⟩ := hr
  simp only [Bool.and_eq_true, List.all_eq_true, Bool.or_eq_true] at hchk
  obtain ⟨hkeys, hdis, hfar0⟩ := hchk
  have hkeys := sameK_eq hkeys
  have hnd := distinct_nodup hdis
  have hfar : ∀ b ∈ bs, b < d ∨ d + rs.length ≤ b := fun b hb => by
    rcases hfar0 b hb with h | h
    · exact .inl (by simpa [Nat.blt_eq] using h)
    · exact .inr (Nat.le_of_ble_eq_true h)
  obtain ⟨avs, hA, havs⟩ := appG_ok h hg
  obtain ⟨hpc, hO, hlen, hthere, hobs⟩ := appO_ok hA hy
  have hF := hO h1
  intro ψ ro w vals hv hobj hinj hro hgb
  obtain ⟨ψc, hψc⟩ : ∃ ψc : Nat → Value, ∀ i b, bs[i]? = some b → ψc (1000 + i) = ψ b :=
    ⟨fun n => match bs[n - 1000]? with | some b => ψ b | none => undef, fun i b hi => by simp only [Nat.add_sub_cancel_left]; rw [hi]⟩
  have hlb : ∀ g, LB ψc hpc g → LB ψ hin g := by
    rintro g ⟨q, o, hq, hl, hk⟩
    obtain ⟨i, b, o', rfl, hi, hb, _, hl', _⟩ := hobs q o hq
    rw [hψc i b hi] at hk
    exact ⟨b, o', hb, hl', hk⟩
  refine (hF ψc ro w vals (havs ψ ψc ro w vals hψc hv) ?_ ?_ (fun a ha hb => hro a ha (hlb _ hb)) ⟨hgb.1, hgb.2.1, fun g hg => hgb.2.2 g (hlb g hg)⟩).mono ?_
  · intro q o hq
    obtain ⟨i, b, o', rfl, hi, hb, _, _, hok⟩ := hobs q o hq
    rw [hψc i b hi]
    exact hok _ _ _ _ _ (hobj b o' hb)
  · intro q q' o o' g hq hq' hl hl' hk hk'
    obtain ⟨i, b, p, rfl, hi, hb, _, hp, _⟩ := hobs q o hq
    obtain ⟨i', b', p', rfl, hi', hb', _, hp', _⟩ := hobs q' o' hq'
    rw [hψc i b hi] at hk
    rw [hψc i' b' hi'] at hk'
    have := hinj b b' p p' g hb hb' hp hp' hk hk'
    subst this
    have hlt : i < bs.length := (List.getElem?_eq_some_iff.1 hi).1
    rw [(List.getElem?_inj hlt hnd).1 (hi.trans hi'.symm)]
  · rintro e w' ⟨v, hout, hdec, v', ψ', he', hψ, hfr, hrv, hob, hlb', hij⟩
    simp only [decG] at hdec
    split at hdec
    rotate_left
    · cases hdec
    rename_i y1 z1 hd1 hd2
    have hyy : y.2 = (y1, z1) := (Option.some.inj hdec).symm
    rw [hyy]
    show ∃ v' ψ', _
    have hφj : ∀ j, getH (ans rs d y1).2 (d + j) ≠ none → (fun b => if getH (ans rs d y1).2 b ≠ none then ψ' (b - d) else ψ b) (d + j) = ψ' j := by
      intro j hj
      simp only
      rw [if_pos hj, Nat.add_sub_cancel_left]
    have hans : ∀ q, getH (ans rs d y1).2 q ≠ none → d ≤ q ∧ q < d + rs.length := fun q hq => by
      cases hx : getH (ans rs d y1).2 q with
      | none => exact absurd hx hq
      | some o => exact ansE_key2 hx
    have hbs : ∀ b ∈ bs, getH (ans rs d y1).2 b = none := fun b hb => by
      cases hx : getH (ans rs d y1).2 b with
      | none => rfl
      | some o =>
        have := hans b (by rw [hx]; simp)
        have := hfar b hb
        omega
    generalize hφ : (fun b => if getH (ans rs d y1).2 b ≠ none then ψ' (b - d) else ψ b) = φ at hφj
    have hφn : ∀ b, getH (ans rs d y1).2 b = none → φ b = ψ b := fun b hb => by rw [← hφ]; simp only [hb]; simp
    have h0 := (dec_ok (ro' := RO ⟨w, ro, LB ψc hpc, ψc, hpc.map Prod.fst⟩ ψ' hout) (fun _ _ h1 h2 => ⟨h1, h2⟩) (d := d) (ψ' := φ) hd1 hrv hφj).2
    have huni : ∀ q o, getH ((ans rs d y1).2 ++ obsAt os bs z1) q = some o → ∃ q' o', getH hout q' = some o' ∧ φ q = ψ' q' ∧ o.live = true ∧ o'.live = true ∧ (∀ x ∈ o.leaves, x.ref = none) ∧ (∀ (ro : Addr → Prop) (w : World) (v : Value), OOk ψ' ro w o' v → OOk φ ro w o v) ∧ ((q = d + q' ∧ q' < rs.length) ∨ ∃ i, q' = 1000 + i ∧ bs[i]? = some q) := by
      intro q o hq
      rw [getH_app2] at hq
      split at hq
      · rename_i o1 hx
        obtain rfl := Option.some.inj hq
        obtain ⟨j, k, e, xs, nil, rfl, rfl, hj⟩ := h0 q o1 hx
        have := hans (d + j) (by rw [hx]; simp)
        refine ⟨j, _, hj, hφj j (by rw [hx]; simp), rfl, rfl, (fun x hx => by cases hx), fun ro w v hv => ?_, .inl ⟨rfl, by omega⟩⟩
        obtain ⟨us, h3, h4, _⟩ := hv
        exact ⟨us, h3, h4, fun b hb => by cases hb⟩
      · obtain ⟨i, o', hi, hi', ho', h5, h6, h7, h8⟩ := obsAt_get hd2 hq
        have hmem : q ∈ bs := List.mem_of_getElem? hi
        refine ⟨1000 + i, o', ho', ?_, h5, h6, h7, fun ro w v hv => h8 _ _ _ _ _ hv, .inr ⟨i, rfl, hi⟩⟩
        rw [hφn q (hbs q hmem), hψ (1000 + i) (.inl (hthere i (List.getElem?_eq_some_iff.1 hi).1)), hψc i q hi]
    have hL : ∀ g, LB φ ((ans rs d y1).2 ++ obsAt os bs z1) g → LB ψ' hout g := by
      rintro g ⟨q, o, hq, hl, hk⟩
      obtain ⟨q', o', h2, h3, _, h5, _⟩ := huni q o hq
      rw [h3] at hk
      exact ⟨q', o', h2, h5, hk⟩
    have hro' : ∀ p u, RO ⟨w, ro, LB ψc hpc, ψc, hpc.map Prod.fst⟩ ψ' hout p → w'.cell? p = some u → RO ⟨w, ro, LB ψ hin, ψ, hin.map Prod.fst⟩ φ ((ans rs d y1).2 ++ obsAt os bs z1) p ∧ w'.cell? p = some u :=
      fun p u h1 h2 => ⟨⟨fun hb => (h1.1 hb).imp id (hlb _), fun hb => h1.2 (hL _ hb)⟩, h2⟩
    refine ⟨v', φ, he', fun b hb => ?_, ⟨hfr.os, hfr.tape, hfr.output, hfr.size, fun i hi hn => hfr.block i hi (fun hb => hn (hlb i hb))⟩, (dec_ok hro' (d := d) hd1 hrv hφj).1, fun b o hb => ?_, fun g hg => (hlb' g (hL g hg)).imp id (hlb g), fun b b' o o' g hb hb' hl hl' hk hk' => ?_⟩
    · refine hφn b ?_
      rcases hb with hb | hb
      · refine hbs b ?_
        rw [← hkeys]
        exact getH_key hb
      · rw [getH_app2] at hb
        split at hb
        · cases hb
        · assumption
    · obtain ⟨q', o', h2, h3, _, _, h6, h7, _⟩ := huni b o hb
      rw [h3]
      exact (h7 _ _ _ (hob q' o' h2)).move (fun x hx b hb => absurd ((h6 x hx).symm.trans hb) (by simp)) hro' (fun _ _ _ => rfl)
    · obtain ⟨q1, o1, h2, h3, _, h5, _, _, h8⟩ := huni b o hb
      obtain ⟨q2, o2, k2, k3, _, k5, _, _, k8⟩ := huni b' o' hb'
      rw [h3] at hk
      rw [k3] at hk'
      have := hij q1 q2 o1 o2 g h2 k2 h5 k5 hk hk'
      subst this
      rcases h8 with ⟨rfl, h8⟩ | ⟨i, rfl, h8⟩ <;> rcases k8 with ⟨rfl, k8⟩ | ⟨i', hi', k8⟩
      · rfl
      · omega
      · omega
      · obtain rfl : i = i' := by omega
        rw [h8] at k8
        exact Option.some.inj k8
end Go.Proofs.YtopplbiadpcalaaDoor.U

/- The small abstract machine: a slice that may be nil or not. -/
namespace Go.Proofs.YtopplbiadpcalaaDoor.U
open Go Go.RowKit
theorem FnR.nil1 {P : Program} {G : GB} {f : Nat} {e : Nat} {k : Kn} {xs : List (den k)} {R : SV → Heap → Prop} (h : ∀ b : Bool, (b = true → xs = []) → FnR P G f [.l (.sl k e xs (some b))] [] R) : FnR P G f [canon false (.sl e k) xs] [] R := by
  intro ψ ro w vals hv
  match vals, hv with
  | [v], ⟨⟨A, c, h1, h2, h3, h4⟩, _⟩ =>
    refine h A.isNone (fun hn => ?_) ψ ro w [v] ⟨⟨A, c, h1, h2, fun b hb => Option.some.inj hb, h4⟩, trivial⟩
    cases xs with
    | nil => rfl
    | cons x r =>
      obtain ⟨b, o, rfl, _⟩ := h4 (Nat.zero_lt_succ _)
      cases hn
end Go.Proofs.YtopplbiadpcalaaDoor.U

/- How names are held against one another; what stands for the one call within the other. -/
namespace Go.Proofs.YtopplbiadpcalaaDoor.K
open Go
abbrev Attr := ByteArray × (Int × (Int × ByteArray))
noncomputable def cmpS (a b : ByteArray) : Int := Lib.compareBytes a.data.toList b.data.toList
noncomputable def p_sz : Int := Classical.choice ⟨0⟩
noncomputable def p_g : Int → Int → Int → List Attr → List Attr := Classical.choice ⟨fun _ _ _ y => y⟩
noncomputable def smOk (sz a m b : Int) (y : List Attr) : Bool := decide (0 ≤ a ∧ a < m ∧ m < b ∧ b ≤ y.length ∧ b - a ≤ sz ∧ (y.length : Int) ≤ 1099511627776)
noncomputable def inR (a b : Int) (y : List Attr) : Bool := decide (0 ≤ a ∧ a ≤ b ∧ b ≤ (y.length : Int) ∧ (y.length : Int) ≤ 1099511627776)
end Go.Proofs.YtopplbiadpcalaaDoor.K

/- What is wrong with attributes. -/
namespace Go.Proofs.YtopplbiadpcalaaDoor.K
open Go Go.Proofs.YtopplbiadpcalaaDoor.U

def atA (l : List Attr) (i : Nat) : Attr := l.getD i (dfl (Kn.str.prod ((Kn.int IntKind.i64).prod ((Kn.int IntKind.i64).prod Kn.str))))
noncomputable def leB (a b : ByteArray) : Bool := Op.bytesLess (ByteArray.toList a) (ByteArray.toList b) || ByteArray.toList a == ByteArray.toList b
noncomputable def chkI (l : List Attr) : Nat → Nat → Int
  | 0, _ => 0
  | n + 1, i => if name (atA l i).1 = false then 31 else if check (atA l i).2 ≠ 0 then check (atA l i).2 else if 0 < i ∧ leB (atA l i).1 (atA l (i - 1)).1 = true then 32 else chkI l n (i + 1)
noncomputable def chkA (l : List Attr) : Int := if 8 < l.length then 3 else chkI l l.length 0
def okA (l : List Attr) : Bool := decide ((l.length : Int) ≤ 1099511627776 ∧ (8 < l.length ∨ ∀ a ∈ l, a.1.size ≤ 1099511627776))
def okI (l : List Attr) : Bool := decide ((l.length : Int) ≤ 1099511627776 ∧ ∀ a ∈ l, a.1.size ≤ 1099511627776)
open Classical in
noncomputable def same (a b : List Attr) : Bool := decide (a = b ∧ (a.length : Int) ≤ 1099511627776)
end Go.Proofs.YtopplbiadpcalaaDoor.K

/- eyrie/eyrieref03.CheckAttrs (function 15): its row: what must hold, what it answers. -/
namespace Go.Proofs.YtopplbiadpcalaaDoor.U
open Go
noncomputable def sp15 : Sp := Sp.of [⟨false, (.sl 37 (.prod .str (.prod (.int .i64) (.prod (.int .i64) .str))))⟩] [⟨false, (.int .i64), false⟩] (fun x1 => (K.okA x1, K.chkA x1))
end Go.Proofs.YtopplbiadpcalaaDoor.U

/- eyrie/eyrieref03.Attrs (function 8): what it computes, as a plain function: printed by a program of ours off the small machine, checked by the kernel. -/
namespace Go.Proofs.YtopplbiadpcalaaDoor.U
open Go
def cs8 : List Ac := [⟨false, (.sl 37 (.prod .str (.prod (.int .i64) (.prod (.int .i64) .str))))⟩]
def rs8 : List Rc := [⟨false, (.sl 37 (.prod .str (.prod (.int .i64) (.prod (.int .i64) .str)))), true⟩, ⟨false, (.int .i64), false⟩]
def lv8 : Live := fun i => cond (Nat.beq i 5) (some ⟨[(0, [.sl (.prod .str (.prod (.int .i64) (.prod (.int .i64) .str))) 37]), (4, [.own 4 (.prod .str (.prod (.int .i64) (.prod (.int .i64) .str))) 37]), (5, [])], []⟩) (cond (Nat.beq i 8) (some ⟨[(0, [.sl (.prod .str (.prod (.int .i64) (.prod (.int .i64) .str))) 37]), (4, [.own 4 (.prod .str (.prod (.int .i64) (.prod (.int .i64) .str))) 37]), (5, []), (6, [])], []⟩) (none))
def kx8 : Keep := ⟨[(0, [.own 0 (.prod .str (.prod (.int .i64) (.prod (.int .i64) .str))) 37]), (1, [])], []⟩
noncomputable def C8 : Nat → Option Sp := tabC [(15, sp15)]
set_option maxRecDepth 100000
def st8_5 (v0 : List (ByteArray × (Int × (Int × ByteArray)))) (v1 : Int) (v2 : List (ByteArray × (Int × (Int × ByteArray)))) : St := ⟨(60 : Nat), [((0 : Nat), .l (.sl (Kn.str.prod ((Kn.int IntKind.i64).prod ((Kn.int IntKind.i64).prod Kn.str))) (37 : Nat) v0 (none))), ((4 : Nat), .l (.rs (4 : Nat))), ((5 : Nat), .l (.int IntKind.i64 v1))], [((4 : Nat), .row (Kn.str.prod ((Kn.int IntKind.i64).prod ((Kn.int IntKind.i64).prod Kn.str))) (37 : Nat) v2 (none) false)], []⟩
def st8_8 (v0 : List (ByteArray × (Int × (Int × ByteArray)))) (v1 : Int) (v2 : Int) (v3 : List (ByteArray × (Int × (Int × ByteArray)))) : St := ⟨(60 : Nat), [((0 : Nat), .l (.sl (Kn.str.prod ((Kn.int IntKind.i64).prod ((Kn.int IntKind.i64).prod Kn.str))) (37 : Nat) v0 (none))), ((4 : Nat), .l (.rs (4 : Nat))), ((5 : Nat), .l (.int IntKind.i64 v1)), ((6 : Nat), .l (.int IntKind.i64 v2))], [((4 : Nat), .row (Kn.str.prod ((Kn.int IntKind.i64).prod ((Kn.int IntKind.i64).prod Kn.str))) (37 : Nat) v3 (none) false)], []⟩
noncomputable def B8_5 (r5 : List (ByteArray × (Int × (Int × ByteArray))) → Int → List (ByteArray × (Int × (Int × ByteArray))) → Option ((List (ByteArray × (Int × (Int × ByteArray)))) × Int)) (r8 : List (ByteArray × (Int × (Int × ByteArray))) → Int → Int → List (ByteArray × (Int × (Int × ByteArray))) → Option ((List (ByteArray × (Int × (Int × ByteArray)))) × Int)) (v0 : List (ByteArray × (Int × (Int × ByteArray)))) (v1 : Int) (v2 : List (ByteArray × (Int × (Int × ByteArray)))) : Option ((List (ByteArray × (Int × (Int × ByteArray)))) × Int) :=
 (cond (decide (v1 < (↑v0.length : Int)))
  (r8 (v0) (v1) ((↑v2.length : Int)) (v2))
  (cond (K.okA v2)
   (cond (K.chkA v2 != (0 : Int))
    (some (([], K.chkA v2)))
    (some ((v2, (0 : Int)))))
   none))
noncomputable def B8_8 (r5 : List (ByteArray × (Int × (Int × ByteArray))) → Int → List (ByteArray × (Int × (Int × ByteArray))) → Option ((List (ByteArray × (Int × (Int × ByteArray)))) × Int)) (r8 : List (ByteArray × (Int × (Int × ByteArray))) → Int → Int → List (ByteArray × (Int × (Int × ByteArray))) → Option ((List (ByteArray × (Int × (Int × ByteArray)))) × Int)) (v0 : List (ByteArray × (Int × (Int × ByteArray)))) (v1 : Int) (v2 : Int) (v3 : List (ByteArray × (Int × (Int × ByteArray)))) : Option ((List (ByteArray × (Int × (Int × ByteArray)))) × Int) :=
 (cond (decide (v2 > (0 : Int)))
  (cond (decide ((0 : Int) ≤ IntKind.i64.wrap (v2 - (1 : Int))) && decide (IntKind.i64.wrap (v2 - (1 : Int)) < (↑v3.length : Int)))
   (cond (decide ((0 : Int) ≤ v1) && decide (v1 < (↑v0.length : Int)))
    (cond (!(Op.bytesLess (ByteArray.toList (v3.getD (IntKind.i64.wrap (v2 - (1 : Int))).toNat (dfl (Kn.str.prod ((Kn.int IntKind.i64).prod ((Kn.int IntKind.i64).prod Kn.str))))).fst) (ByteArray.toList (v0.getD v1.toNat (dfl (Kn.str.prod ((Kn.int IntKind.i64).prod ((Kn.int IntKind.i64).prod Kn.str))))).fst) || ByteArray.toList (v3.getD (IntKind.i64.wrap (v2 - (1 : Int))).toNat (dfl (Kn.str.prod ((Kn.int IntKind.i64).prod ((Kn.int IntKind.i64).prod Kn.str))))).fst == ByteArray.toList (v0.getD v1.toNat (dfl (Kn.str.prod ((Kn.int IntKind.i64).prod ((Kn.int IntKind.i64).prod Kn.str))))).fst))
     (r8 (v0) (v1) (IntKind.i64.wrap (v2 - (1 : Int))) (v3))
     (cond (decide ((0 : Int) ≤ (0 : Int)) && decide ((0 : Int) ≤ v2) && decide (v2 ≤ (↑v3.length : Int)))
      (cond (decide ((List.drop (Int.toNat (0 : Int)) (List.take v2.toNat v3)).length * (48 : Nat) ≤ (140737488355328 : Nat)))
       (cond (decide ((0 : Int) ≤ v1) && decide (v1 < (↑v0.length : Int)))
        (cond (decide (((List.drop (Int.toNat (0 : Int)) (List.take v2.toNat v3)).length + [((v0.getD v1.toNat (dfl (Kn.str.prod ((Kn.int IntKind.i64).prod ((Kn.int IntKind.i64).prod Kn.str))))).fst, (v0.getD v1.toNat (dfl (Kn.str.prod ((Kn.int IntKind.i64).prod ((Kn.int IntKind.i64).prod Kn.str))))).snd.fst, (v0.getD v1.toNat (dfl (Kn.str.prod ((Kn.int IntKind.i64).prod ((Kn.int IntKind.i64).prod Kn.str))))).snd.snd.fst, (v0.getD v1.toNat (dfl (Kn.str.prod ((Kn.int IntKind.i64).prod ((Kn.int IntKind.i64).prod Kn.str))))).snd.snd.snd)].length) * (48 : Nat) ≤ (140737488355328 : Nat)))
         (cond (decide ((0 : Int) ≤ v2) && decide (v2 ≤ (↑v3.length : Int)) && decide ((↑v3.length : Int) ≤ (↑v3.length : Int)))
          (cond (decide (((List.drop (Int.toNat (0 : Int)) (List.take v2.toNat v3) ++ [((v0.getD v1.toNat (dfl (Kn.str.prod ((Kn.int IntKind.i64).prod ((Kn.int IntKind.i64).prod Kn.str))))).fst, (v0.getD v1.toNat (dfl (Kn.str.prod ((Kn.int IntKind.i64).prod ((Kn.int IntKind.i64).prod Kn.str))))).snd.fst, (v0.getD v1.toNat (dfl (Kn.str.prod ((Kn.int IntKind.i64).prod ((Kn.int IntKind.i64).prod Kn.str))))).snd.snd.fst, (v0.getD v1.toNat (dfl (Kn.str.prod ((Kn.int IntKind.i64).prod ((Kn.int IntKind.i64).prod Kn.str))))).snd.snd.snd)]).length + (List.drop v2.toNat (List.take (↑v3.length : Int).toNat v3)).length) * (48 : Nat) ≤ (140737488355328 : Nat)))
           (r5 (v0) (IntKind.i64.wrap (v1 + (1 : Int))) (List.drop (Int.toNat (0 : Int)) (List.take v2.toNat v3) ++ [((v0.getD v1.toNat (dfl (Kn.str.prod ((Kn.int IntKind.i64).prod ((Kn.int IntKind.i64).prod Kn.str))))).fst, (v0.getD v1.toNat (dfl (Kn.str.prod ((Kn.int IntKind.i64).prod ((Kn.int IntKind.i64).prod Kn.str))))).snd.fst, (v0.getD v1.toNat (dfl (Kn.str.prod ((Kn.int IntKind.i64).prod ((Kn.int IntKind.i64).prod Kn.str))))).snd.snd.fst, (v0.getD v1.toNat (dfl (Kn.str.prod ((Kn.int IntKind.i64).prod ((Kn.int IntKind.i64).prod Kn.str))))).snd.snd.snd)] ++ List.drop v2.toNat (List.take (↑v3.length : Int).toNat v3)))
           none)
          none)
         none)
        none)
       none)
      none))
    none)
   none)
  (cond (decide ((0 : Int) ≤ (0 : Int)) && decide ((0 : Int) ≤ v2) && decide (v2 ≤ (↑v3.length : Int)))
   (cond (decide ((List.drop (Int.toNat (0 : Int)) (List.take v2.toNat v3)).length * (48 : Nat) ≤ (140737488355328 : Nat)))
    (cond (decide ((0 : Int) ≤ v1) && decide (v1 < (↑v0.length : Int)))
     (cond (decide (((List.drop (Int.toNat (0 : Int)) (List.take v2.toNat v3)).length + [((v0.getD v1.toNat (dfl (Kn.str.prod ((Kn.int IntKind.i64).prod ((Kn.int IntKind.i64).prod Kn.str))))).fst, (v0.getD v1.toNat (dfl (Kn.str.prod ((Kn.int IntKind.i64).prod ((Kn.int IntKind.i64).prod Kn.str))))).snd.fst, (v0.getD v1.toNat (dfl (Kn.str.prod ((Kn.int IntKind.i64).prod ((Kn.int IntKind.i64).prod Kn.str))))).snd.snd.fst, (v0.getD v1.toNat (dfl (Kn.str.prod ((Kn.int IntKind.i64).prod ((Kn.int IntKind.i64).prod Kn.str))))).snd.snd.snd)].length) * (48 : Nat) ≤ (140737488355328 : Nat)))
      (cond (decide ((0 : Int) ≤ v2) && decide (v2 ≤ (↑v3.length : Int)) && decide ((↑v3.length : Int) ≤ (↑v3.length : Int)))
       (cond (decide (((List.drop (Int.toNat (0 : Int)) (List.take v2.toNat v3) ++ [((v0.getD v1.toNat (dfl (Kn.str.prod ((Kn.int IntKind.i64).prod ((Kn.int IntKind.i64).prod Kn.str))))).fst, (v0.getD v1.toNat (dfl (Kn.str.prod ((Kn.int IntKind.i64).prod ((Kn.int IntKind.i64).prod Kn.str))))).snd.fst, (v0.getD v1.toNat (dfl (Kn.str.prod ((Kn.int IntKind.i64).prod ((Kn.int IntKind.i64).prod Kn.str))))).snd.snd.fst, (v0.getD v1.toNat (dfl (Kn.str.prod ((Kn.int IntKind.i64).prod ((Kn.int IntKind.i64).prod Kn.str))))).snd.snd.snd)]).length + (List.drop v2.toNat (List.take (↑v3.length : Int).toNat v3)).length) * (48 : Nat) ≤ (140737488355328 : Nat)))
        (r5 (v0) (IntKind.i64.wrap (v1 + (1 : Int))) (List.drop (Int.toNat (0 : Int)) (List.take v2.toNat v3) ++ [((v0.getD v1.toNat (dfl (Kn.str.prod ((Kn.int IntKind.i64).prod ((Kn.int IntKind.i64).prod Kn.str))))).fst, (v0.getD v1.toNat (dfl (Kn.str.prod ((Kn.int IntKind.i64).prod ((Kn.int IntKind.i64).prod Kn.str))))).snd.fst, (v0.getD v1.toNat (dfl (Kn.str.prod ((Kn.int IntKind.i64).prod ((Kn.int IntKind.i64).prod Kn.str))))).snd.snd.fst, (v0.getD v1.toNat (dfl (Kn.str.prod ((Kn.int IntKind.i64).prod ((Kn.int IntKind.i64).prod Kn.str))))).snd.snd.snd)] ++ List.drop v2.toNat (List.take (↑v3.length : Int).toNat v3)))
        none)
       none)
      none)
     none)
    none)
   none))
noncomputable def M8 (r5 : List (ByteArray × (Int × (Int × ByteArray))) → Int → List (ByteArray × (Int × (Int × ByteArray))) → Option ((List (ByteArray × (Int × (Int × ByteArray)))) × Int)) (r8 : List (ByteArray × (Int × (Int × ByteArray))) → Int → Int → List (ByteArray × (Int × (Int × ByteArray))) → Option ((List (ByteArray × (Int × (Int × ByteArray)))) × Int)) (x1 : (List (ByteArray × (Int × (Int × ByteArray))))) : Option ((List (ByteArray × (Int × (Int × ByteArray)))) × Int) :=
 (cond (decide ((↑x1.length : Int) > (8 : Int)))
  (some (([], (3 : Int))))
  (r5 (x1) ((0 : Int)) ([])))
theorem B8_5_ok (Lo : Nat → St → Option ((List (ByteArray × (Int × (Int × ByteArray)))) × Int)) (v0 : List (ByteArray × (Int × (Int × ByteArray)))) (v1 : Int) (v2 : List (ByteArray × (Int × (Int × ByteArray)))) : roundG tab C8 lv8 (dec rs8) Lo Tryd.f8 kx8 5 (st8_5 v0 v1 v2) = B8_5 (fun v0 v1 v2 => Lo 5 (st8_5 v0 v1 v2)) (fun v0 v1 v2 v3 => Lo 8 (st8_8 v0 v1 v2 v3)) v0 v1 v2 := by kernel_rfl
theorem B8_8_ok (Lo : Nat → St → Option ((List (ByteArray × (Int × (Int × ByteArray)))) × Int)) (v0 : List (ByteArray × (Int × (Int × ByteArray)))) (v1 : Int) (v2 : Int) (v3 : List (ByteArray × (Int × (Int × ByteArray)))) : roundG tab C8 lv8 (dec rs8) Lo Tryd.f8 kx8 8 (st8_8 v0 v1 v2 v3) = B8_8 (fun v0 v1 v2 => Lo 5 (st8_5 v0 v1 v2)) (fun v0 v1 v2 v3 => Lo 8 (st8_8 v0 v1 v2 v3)) v0 v1 v2 v3 := by kernel_rfl
theorem M8_ok (Lo : Nat → St → Option ((List (ByteArray × (Int × (Int × ByteArray)))) × Int)) (x1 : (List (ByteArray × (Int × (Int × ByteArray))))) : callG tab C8 lv8 (dec rs8) Lo Tryd.f8 kx8 [canon false (.sl 37 (.prod .str (.prod (.int .i64) (.prod (.int .i64) .str)))) x1] [] = M8 (fun v0 v1 v2 => Lo 5 (st8_5 v0 v1 v2)) (fun v0 v1 v2 v3 => Lo 8 (st8_8 v0 v1 v2 v3)) x1 := by kernel_rfl
noncomputable def l8 : Nat → (List (ByteArray × (Int × (Int × ByteArray))) → Int → List (ByteArray × (Int × (Int × ByteArray))) → Option ((List (ByteArray × (Int × (Int × ByteArray)))) × Int)) × (List (ByteArray × (Int × (Int × ByteArray))) → Int → Int → List (ByteArray × (Int × (Int × ByteArray))) → Option ((List (ByteArray × (Int × (Int × ByteArray)))) × Int))
  | 0 => (fun _ _ _ => none, fun _ _ _ _ => none)
  | m + 1 => (B8_5 (l8 m).1 (l8 m).2, B8_8 (l8 m).1 (l8 m).2)
noncomputable def F8 (m : Nat) (x1 : (List (ByteArray × (Int × (Int × ByteArray))))) : Option ((List (ByteArray × (Int × (Int × ByteArray)))) × Int) := M8 (l8 m).1 (l8 m).2 x1
theorem l8_ok : ∀ m : Nat, (∀ (v0 : List (ByteArray × (Int × (Int × ByteArray)))) (v1 : Int) (v2 : List (ByteArray × (Int × (Int × ByteArray)))), loF tab C8 lv8 (dec rs8) Tryd.f8 kx8 m 5 (st8_5 v0 v1 v2) = (l8 m).1 v0 v1 v2) ∧ (∀ (v0 : List (ByteArray × (Int × (Int × ByteArray)))) (v1 : Int) (v2 : Int) (v3 : List (ByteArray × (Int × (Int × ByteArray)))), loF tab C8 lv8 (dec rs8) Tryd.f8 kx8 m 8 (st8_8 v0 v1 v2 v3) = (l8 m).2 v0 v1 v2 v3)
  | 0 => by
    exact ⟨fun _ _ _ => rfl, fun _ _ _ _ => rfl⟩
  | m + 1 => by
    have ih := l8_ok m
    have h5 : (fun (v0 : List (ByteArray × (Int × (Int × ByteArray)))) (v1 : Int) (v2 : List (ByteArray × (Int × (Int × ByteArray)))) => loF tab C8 lv8 (dec rs8) Tryd.f8 kx8 m 5 (st8_5 v0 v1 v2)) = (l8 m).1 := by funext v0 v1 v2; exact ih.1 v0 v1 v2
    have h8 : (fun (v0 : List (ByteArray × (Int × (Int × ByteArray)))) (v1 : Int) (v2 : Int) (v3 : List (ByteArray × (Int × (Int × ByteArray)))) => loF tab C8 lv8 (dec rs8) Tryd.f8 kx8 m 8 (st8_8 v0 v1 v2 v3)) = (l8 m).2 := by funext v0 v1 v2 v3; exact ih.2 v0 v1 v2 v3
    exact ⟨fun v0 v1 v2 => (B8_5_ok (loF tab C8 lv8 (dec rs8) Tryd.f8 kx8 m) v0 v1 v2).trans (congrFun (congrFun (congrFun (congr (congrArg B8_5 h5) h8) v0) v1) v2), fun v0 v1 v2 v3 => (B8_8_ok (loF tab C8 lv8 (dec rs8) Tryd.f8 kx8 m) v0 v1 v2 v3).trans (congrFun (congrFun (congrFun (congrFun (congr (congrArg B8_8 h5) h8) v0) v1) v2) v3)⟩
theorem F8_ok (m : Nat) (x1 : (List (ByteArray × (Int × (Int × ByteArray))))) : callF tab C8 lv8 (dec rs8) m Tryd.f8 kx8 [canon false (.sl 37 (.prod .str (.prod (.int .i64) (.prod (.int .i64) .str)))) x1] [] = F8 m x1 := by
    have ih := l8_ok m
    have h5 : (fun (v0 : List (ByteArray × (Int × (Int × ByteArray)))) (v1 : Int) (v2 : List (ByteArray × (Int × (Int × ByteArray)))) => loF tab C8 lv8 (dec rs8) Tryd.f8 kx8 m 5 (st8_5 v0 v1 v2)) = (l8 m).1 := by funext v0 v1 v2; exact ih.1 v0 v1 v2
    have h8 : (fun (v0 : List (ByteArray × (Int × (Int × ByteArray)))) (v1 : Int) (v2 : Int) (v3 : List (ByteArray × (Int × (Int × ByteArray)))) => loF tab C8 lv8 (dec rs8) Tryd.f8 kx8 m 8 (st8_8 v0 v1 v2 v3)) = (l8 m).2 := by funext v0 v1 v2 v3; exact ih.2 v0 v1 v2 v3
    exact (M8_ok (loF tab C8 lv8 (dec rs8) Tryd.f8 kx8 m) x1).trans (congrFun (congr (congrArg M8 h5) h8) x1)
theorem fn8 {G : GB} (hC : COk Tryd.prog G C8) (m : Nat) (x1 : (List (ByteArray × (Int × (Int × ByteArray))))) (y : ((List (ByteArray × (Int × (Int × ByteArray)))) × Int)) (h : F8 m x1 = some y) : FnR Tryd.prog G 8 [canon false (.sl 37 (.prod .str (.prod (.int .i64) (.prod (.int .i64) .str)))) x1] [] (fun v hout => dec rs8 v hout = some y) :=
  callF_sound (Lv := lv8) (n := m) (kx := kx8) follows tab_ok hC Tryd.func8 ((F8_ok m x1).trans h)
theorem F8_mono {m m' : Nat} (hm : m ≤ m') (x1 : (List (ByteArray × (Int × (Int × ByteArray))))) {y : ((List (ByteArray × (Int × (Int × ByteArray)))) × Int)} (h : F8 m x1 = some y) : F8 m' x1 = some y := (F8_ok m' x1).symm.trans (callF_mono hm ((F8_ok m x1).trans h))
theorem ent8 : Ent Tryd.prog 8 := ⟨_, Tryd.func8, by kernel_rfl, by kernel_rfl⟩
theorem C8_ok {G : GB} (h15 : RowOk Tryd.prog G 15 sp15) : COk Tryd.prog G C8 := tabC_ok (by
  intro p hp
  simp only [List.mem_cons, List.not_mem_nil, or_false] at hp
  rcases hp with rfl
  · exact h15
)
end Go.Proofs.YtopplbiadpcalaaDoor.U

/- slices.Clone[[]eyrie/api.Attr,eyrie/api.Attr] (function 17): its row: what must hold, what it answers. -/
namespace Go.Proofs.YtopplbiadpcalaaDoor.U
open Go
noncomputable def sp17 : Sp := Sp.of [⟨false, (.sl 37 (.prod .str (.prod (.int .i64) (.prod (.int .i64) .str))))⟩] [⟨false, (.sl 37 (.prod .str (.prod (.int .i64) (.prod (.int .i64) .str)))), true⟩] (fun x1 => (decide ((x1.length : Int) ≤ 1099511627776), x1))
end Go.Proofs.YtopplbiadpcalaaDoor.U

/- eyrie/value.Attrs$1 (function 24): its row: what must hold, what it answers. -/
namespace Go.Proofs.YtopplbiadpcalaaDoor.U
open Go
noncomputable def sp24 : Sp := Sp.of [⟨true, (.prod .str (.prod (.int .i64) (.prod (.int .i64) .str)))⟩, ⟨true, (.prod .str (.prod (.int .i64) (.prod (.int .i64) .str)))⟩] [⟨false, (.int .i64), false⟩] (fun x1 x2 => (true, K.cmpS x1.1 x2.1))
end Go.Proofs.YtopplbiadpcalaaDoor.U

/- slices.insertionSortCmpFunc[eyrie/api.Attr] (function 43): what it computes, as a plain function: printed by a program of ours off the small machine, checked by the kernel. -/
namespace Go.Proofs.YtopplbiadpcalaaDoor.U
open Go
def hd43 : List Hd := [.row, .val ⟨false, (.int .i64)⟩, .val ⟨false, (.int .i64)⟩, .fn 24]
def os43 : List Os := [.row 37 (.prod .str (.prod (.int .i64) (.prod (.int .i64) .str)))]
def rs43 : List Rc := []
def lv43 : Live := fun i => cond (Nat.beq i 1) (some ⟨[(0, [.own 1000 (.prod .str (.prod (.int .i64) (.prod (.int .i64) .str))) 37]), (1, []), (2, []), (3, []), (8, [])], []⟩) (cond (Nat.beq i 4) (some ⟨[(0, [.own 1000 (.prod .str (.prod (.int .i64) (.prod (.int .i64) .str))) 37]), (1, []), (2, []), (3, []), (8, []), (9, [])], []⟩) (none))
def kx43 : Keep := ⟨[(1000, [.row 1000 (.prod .str (.prod (.int .i64) (.prod (.int .i64) .str))) 37])], []⟩
noncomputable def C43 : Nat → Option Sp := tabC [(24, sp24)]
set_option maxRecDepth 100000
def st43_1 (v0 : Int) (v1 : Int) (v2 : Int) (v3 : List (ByteArray × (Int × (Int × ByteArray)))) : St := ⟨(53 : Nat), [((0 : Nat), .l (.rs (1000 : Nat))), ((1 : Nat), .l (.int IntKind.i64 v0)), ((2 : Nat), .l (.int IntKind.i64 v1)), ((3 : Nat), .fn (24 : Nat) []), ((8 : Nat), .l (.int IntKind.i64 v2))], [((1000 : Nat), .row (Kn.str.prod ((Kn.int IntKind.i64).prod ((Kn.int IntKind.i64).prod Kn.str))) (37 : Nat) v3 (none) false)], [(1000 : Nat)]⟩
def st43_4 (v0 : Int) (v1 : Int) (v2 : Int) (v3 : Int) (v4 : List (ByteArray × (Int × (Int × ByteArray)))) : St := ⟨(53 : Nat), [((0 : Nat), .l (.rs (1000 : Nat))), ((1 : Nat), .l (.int IntKind.i64 v0)), ((2 : Nat), .l (.int IntKind.i64 v1)), ((3 : Nat), .fn (24 : Nat) []), ((8 : Nat), .l (.int IntKind.i64 v2)), ((9 : Nat), .l (.int IntKind.i64 v3))], [((1000 : Nat), .row (Kn.str.prod ((Kn.int IntKind.i64).prod ((Kn.int IntKind.i64).prod Kn.str))) (37 : Nat) v4 (none) false)], [(1000 : Nat)]⟩
noncomputable def B43_1 (r1 : Int → Int → Int → List (ByteArray × (Int × (Int × ByteArray))) → Option (Bool × ((List (ByteArray × (Int × (Int × ByteArray)))) × Bool))) (r4 : Int → Int → Int → Int → List (ByteArray × (Int × (Int × ByteArray))) → Option (Bool × ((List (ByteArray × (Int × (Int × ByteArray)))) × Bool))) (v0 : Int) (v1 : Int) (v2 : Int) (v3 : List (ByteArray × (Int × (Int × ByteArray)))) : Option (Bool × ((List (ByteArray × (Int × (Int × ByteArray)))) × Bool)) :=
 (cond (decide (v2 < v1))
  (r4 (v0) (v1) (v2) (v2) (v3))
  (some ((true, v3, true))))
noncomputable def B43_4 (r1 : Int → Int → Int → List (ByteArray × (Int × (Int × ByteArray))) → Option (Bool × ((List (ByteArray × (Int × (Int × ByteArray)))) × Bool))) (r4 : Int → Int → Int → Int → List (ByteArray × (Int × (Int × ByteArray))) → Option (Bool × ((List (ByteArray × (Int × (Int × ByteArray)))) × Bool))) (v0 : Int) (v1 : Int) (v2 : Int) (v3 : Int) (v4 : List (ByteArray × (Int × (Int × ByteArray)))) : Option (Bool × ((List (ByteArray × (Int × (Int × ByteArray)))) × Bool)) :=
 (cond (decide (v3 > v0))
  (cond (decide ((0 : Int) ≤ v3) && decide (v3 < (↑v4.length : Int)))
   (cond (decide ((0 : Int) ≤ IntKind.i64.wrap (v3 - (1 : Int))) && decide (IntKind.i64.wrap (v3 - (1 : Int)) < (↑v4.length : Int)))
    (cond (decide (K.cmpS (v4.getD v3.toNat (dfl (Kn.str.prod ((Kn.int IntKind.i64).prod ((Kn.int IntKind.i64).prod Kn.str))))).fst (v4.getD (IntKind.i64.wrap (v3 - (1 : Int))).toNat (dfl (Kn.str.prod ((Kn.int IntKind.i64).prod ((Kn.int IntKind.i64).prod Kn.str))))).fst < (0 : Int)))
     (cond (decide ((0 : Int) ≤ IntKind.i64.wrap (v3 - (1 : Int))) && decide (IntKind.i64.wrap (v3 - (1 : Int)) < (↑v4.length : Int)))
      (cond (decide ((0 : Int) ≤ v3) && decide (v3 < (↑v4.length : Int)))
       (cond (decide ((0 : Int) ≤ v3) && decide (v3 < (↑v4.length : Int)))
        (cond (decide ((0 : Int) ≤ IntKind.i64.wrap (v3 - (1 : Int))) && decide (IntKind.i64.wrap (v3 - (1 : Int)) < (↑(v4.set v3.toNat ((v4.getD (IntKind.i64.wrap (v3 - (1 : Int))).toNat (dfl (Kn.str.prod ((Kn.int IntKind.i64).prod ((Kn.int IntKind.i64).prod Kn.str))))).fst, (v4.getD (IntKind.i64.wrap (v3 - (1 : Int))).toNat (dfl (Kn.str.prod ((Kn.int IntKind.i64).prod ((Kn.int IntKind.i64).prod Kn.str))))).snd.fst, (v4.getD (IntKind.i64.wrap (v3 - (1 : Int))).toNat (dfl (Kn.str.prod ((Kn.int IntKind.i64).prod ((Kn.int IntKind.i64).prod Kn.str))))).snd.snd.fst, (v4.getD (IntKind.i64.wrap (v3 - (1 : Int))).toNat (dfl (Kn.str.prod ((Kn.int IntKind.i64).prod ((Kn.int IntKind.i64).prod Kn.str))))).snd.snd.snd)).length : Int)))
         (r4 (v0) (v1) (v2) (IntKind.i64.wrap (v3 - (1 : Int))) ((v4.set v3.toNat ((v4.getD (IntKind.i64.wrap (v3 - (1 : Int))).toNat (dfl (Kn.str.prod ((Kn.int IntKind.i64).prod ((Kn.int IntKind.i64).prod Kn.str))))).fst, (v4.getD (IntKind.i64.wrap (v3 - (1 : Int))).toNat (dfl (Kn.str.prod ((Kn.int IntKind.i64).prod ((Kn.int IntKind.i64).prod Kn.str))))).snd.fst, (v4.getD (IntKind.i64.wrap (v3 - (1 : Int))).toNat (dfl (Kn.str.prod ((Kn.int IntKind.i64).prod ((Kn.int IntKind.i64).prod Kn.str))))).snd.snd.fst, (v4.getD (IntKind.i64.wrap (v3 - (1 : Int))).toNat (dfl (Kn.str.prod ((Kn.int IntKind.i64).prod ((Kn.int IntKind.i64).prod Kn.str))))).snd.snd.snd)).set (IntKind.i64.wrap (v3 - (1 : Int))).toNat ((v4.getD v3.toNat (dfl (Kn.str.prod ((Kn.int IntKind.i64).prod ((Kn.int IntKind.i64).prod Kn.str))))).fst, (v4.getD v3.toNat (dfl (Kn.str.prod ((Kn.int IntKind.i64).prod ((Kn.int IntKind.i64).prod Kn.str))))).snd.fst, (v4.getD v3.toNat (dfl (Kn.str.prod ((Kn.int IntKind.i64).prod ((Kn.int IntKind.i64).prod Kn.str))))).snd.snd.fst, (v4.getD v3.toNat (dfl (Kn.str.prod ((Kn.int IntKind.i64).prod ((Kn.int IntKind.i64).prod Kn.str))))).snd.snd.snd)))
         none)
        none)
       none)
      none)
     (r1 (v0) (v1) (IntKind.i64.wrap (v2 + (1 : Int))) (v4)))
    none)
   none)
  (r1 (v0) (v1) (IntKind.i64.wrap (v2 + (1 : Int))) (v4)))
noncomputable def M43 (r1 : Int → Int → Int → List (ByteArray × (Int × (Int × ByteArray))) → Option (Bool × ((List (ByteArray × (Int × (Int × ByteArray)))) × Bool))) (r4 : Int → Int → Int → Int → List (ByteArray × (Int × (Int × ByteArray))) → Option (Bool × ((List (ByteArray × (Int × (Int × ByteArray)))) × Bool))) (x2 : Int) (x3 : Int) (y1 : (List (ByteArray × (Int × (Int × ByteArray))))) : Option (Bool × ((List (ByteArray × (Int × (Int × ByteArray)))) × Bool)) :=
 (r1 (x2) (x3) (IntKind.i64.wrap (x2 + (1 : Int))) (y1))
theorem B43_1_ok (Lo : Nat → St → Option (Bool × ((List (ByteArray × (Int × (Int × ByteArray)))) × Bool))) (v0 : Int) (v1 : Int) (v2 : Int) (v3 : List (ByteArray × (Int × (Int × ByteArray)))) : roundG tab C43 lv43 (decG rs43 os43) Lo Tryd.f43 kx43 1 (st43_1 v0 v1 v2 v3) = B43_1 (fun v0 v1 v2 v3 => Lo 1 (st43_1 v0 v1 v2 v3)) (fun v0 v1 v2 v3 v4 => Lo 4 (st43_4 v0 v1 v2 v3 v4)) v0 v1 v2 v3 := by kernel_rfl
theorem B43_4_ok (Lo : Nat → St → Option (Bool × ((List (ByteArray × (Int × (Int × ByteArray)))) × Bool))) (v0 : Int) (v1 : Int) (v2 : Int) (v3 : Int) (v4 : List (ByteArray × (Int × (Int × ByteArray)))) : roundG tab C43 lv43 (decG rs43 os43) Lo Tryd.f43 kx43 4 (st43_4 v0 v1 v2 v3 v4) = B43_4 (fun v0 v1 v2 v3 => Lo 1 (st43_1 v0 v1 v2 v3)) (fun v0 v1 v2 v3 v4 => Lo 4 (st43_4 v0 v1 v2 v3 v4)) v0 v1 v2 v3 v4 := by kernel_rfl
theorem M43_ok (Lo : Nat → St → Option (Bool × ((List (ByteArray × (Int × (Int × ByteArray)))) × Bool))) (x2 : Int) (x3 : Int) (y1 : (List (ByteArray × (Int × (Int × ByteArray))))) : callG tab C43 lv43 (decG rs43 os43) Lo Tryd.f43 kx43 [.l (.rs 1000), canon false (.int .i64) x2, canon false (.int .i64) x3, .fn 24 []] [(1000, Os.ob (.row 37 (.prod .str (.prod (.int .i64) (.prod (.int .i64) .str)))) y1)] = M43 (fun v0 v1 v2 v3 => Lo 1 (st43_1 v0 v1 v2 v3)) (fun v0 v1 v2 v3 v4 => Lo 4 (st43_4 v0 v1 v2 v3 v4)) x2 x3 y1 := by kernel_rfl
noncomputable def l43 : Nat → (Int → Int → Int → List (ByteArray × (Int × (Int × ByteArray))) → Option (Bool × ((List (ByteArray × (Int × (Int × ByteArray)))) × Bool))) × (Int → Int → Int → Int → List (ByteArray × (Int × (Int × ByteArray))) → Option (Bool × ((List (ByteArray × (Int × (Int × ByteArray)))) × Bool)))
  | 0 => (fun _ _ _ _ => none, fun _ _ _ _ _ => none)
  | m + 1 => (B43_1 (l43 m).1 (l43 m).2, B43_4 (l43 m).1 (l43 m).2)
noncomputable def F43 (m : Nat) (x2 : Int) (x3 : Int) (y1 : (List (ByteArray × (Int × (Int × ByteArray))))) : Option (Bool × ((List (ByteArray × (Int × (Int × ByteArray)))) × Bool)) := M43 (l43 m).1 (l43 m).2 x2 x3 y1
theorem l43_ok : ∀ m : Nat, (∀ (v0 : Int) (v1 : Int) (v2 : Int) (v3 : List (ByteArray × (Int × (Int × ByteArray)))), loF tab C43 lv43 (decG rs43 os43) Tryd.f43 kx43 m 1 (st43_1 v0 v1 v2 v3) = (l43 m).1 v0 v1 v2 v3) ∧ (∀ (v0 : Int) (v1 : Int) (v2 : Int) (v3 : Int) (v4 : List (ByteArray × (Int × (Int × ByteArray)))), loF tab C43 lv43 (decG rs43 os43) Tryd.f43 kx43 m 4 (st43_4 v0 v1 v2 v3 v4) = (l43 m).2 v0 v1 v2 v3 v4)
  | 0 => by
    exact ⟨fun _ _ _ _ => rfl, fun _ _ _ _ _ => rfl⟩
  | m + 1 => by
    have ih := l43_ok m
    have h1 : (fun (v0 : Int) (v1 : Int) (v2 : Int) (v3 : List (ByteArray × (Int × (Int × ByteArray)))) => loF tab C43 lv43 (decG rs43 os43) Tryd.f43 kx43 m 1 (st43_1 v0 v1 v2 v3)) = (l43 m).1 := by funext v0 v1 v2 v3; exact ih.1 v0 v1 v2 v3
    have h4 : (fun (v0 : Int) (v1 : Int) (v2 : Int) (v3 : Int) (v4 : List (ByteArray × (Int × (Int × ByteArray)))) => loF tab C43 lv43 (decG rs43 os43) Tryd.f43 kx43 m 4 (st43_4 v0 v1 v2 v3 v4)) = (l43 m).2 := by funext v0 v1 v2 v3 v4; exact ih.2 v0 v1 v2 v3 v4
    exact ⟨fun v0 v1 v2 v3 => (B43_1_ok (loF tab C43 lv43 (decG rs43 os43) Tryd.f43 kx43 m) v0 v1 v2 v3).trans (congrFun (congrFun (congrFun (congrFun (congr (congrArg B43_1 h1) h4) v0) v1) v2) v3), fun v0 v1 v2 v3 v4 => (B43_4_ok (loF tab C43 lv43 (decG rs43 os43) Tryd.f43 kx43 m) v0 v1 v2 v3 v4).trans (congrFun (congrFun (congrFun (congrFun (congrFun (congr (congrArg B43_4 h1) h4) v0) v1) v2) v3) v4)⟩
theorem F43_ok (m : Nat) (x2 : Int) (x3 : Int) (y1 : (List (ByteArray × (Int × (Int × ByteArray))))) : callF tab C43 lv43 (decG rs43 os43) m Tryd.f43 kx43 [.l (.rs 1000), canon false (.int .i64) x2, canon false (.int .i64) x3, .fn 24 []] [(1000, Os.ob (.row 37 (.prod .str (.prod (.int .i64) (.prod (.int .i64) .str)))) y1)] = F43 m x2 x3 y1 := by
    have ih := l43_ok m
    have h1 : (fun (v0 : Int) (v1 : Int) (v2 : Int) (v3 : List (ByteArray × (Int × (Int × ByteArray)))) => loF tab C43 lv43 (decG rs43 os43) Tryd.f43 kx43 m 1 (st43_1 v0 v1 v2 v3)) = (l43 m).1 := by funext v0 v1 v2 v3; exact ih.1 v0 v1 v2 v3
    have h4 : (fun (v0 : Int) (v1 : Int) (v2 : Int) (v3 : Int) (v4 : List (ByteArray × (Int × (Int × ByteArray)))) => loF tab C43 lv43 (decG rs43 os43) Tryd.f43 kx43 m 4 (st43_4 v0 v1 v2 v3 v4)) = (l43 m).2 := by funext v0 v1 v2 v3 v4; exact ih.2 v0 v1 v2 v3 v4
    exact (M43_ok (loF tab C43 lv43 (decG rs43 os43) Tryd.f43 kx43 m) x2 x3 y1).trans (congrFun (congrFun (congrFun (congr (congrArg M43 h1) h4) x2) x3) y1)
theorem fn43 {G : GB} (hC : COk Tryd.prog G C43) (m : Nat) (x2 : Int) (x3 : Int) (y1 : (List (ByteArray × (Int × (Int × ByteArray))))) (y : (Bool × ((List (ByteArray × (Int × (Int × ByteArray)))) × Bool))) (h : F43 m x2 x3 y1 = some y) : FnR Tryd.prog G 43 [.l (.rs 1000), canon false (.int .i64) x2, canon false (.int .i64) x3, .fn 24 []] [(1000, Os.ob (.row 37 (.prod .str (.prod (.int .i64) (.prod (.int .i64) .str)))) y1)] (fun v hout => decG rs43 os43 v hout = some y) :=
  callF_sound (Lv := lv43) (n := m) (kx := kx43) follows tab_ok hC Tryd.func43 ((F43_ok m x2 x3 y1).trans h)
theorem F43_mono {m m' : Nat} (hm : m ≤ m') (x2 : Int) (x3 : Int) (y1 : (List (ByteArray × (Int × (Int × ByteArray))))) {y : (Bool × ((List (ByteArray × (Int × (Int × ByteArray)))) × Bool))} (h : F43 m x2 x3 y1 = some y) : F43 m' x2 x3 y1 = some y := (F43_ok m' x2 x3 y1).symm.trans (callF_mono hm ((F43_ok m x2 x3 y1).trans h))
theorem ent43 : Ent Tryd.prog 43 := ⟨_, Tryd.func43, by kernel_rfl, by kernel_rfl⟩
theorem C43_ok {G : GB} (h24 : RowOk Tryd.prog G 24 sp24) : COk Tryd.prog G C43 := tabC_ok (by
  intro p hp
  simp only [List.mem_cons, List.not_mem_nil, or_false] at hp
  rcases hp with rfl
  · exact h24
)
end Go.Proofs.YtopplbiadpcalaaDoor.U

/- slices.swapRangeCmpFunc[eyrie/api.Attr] (function 66): what it computes, as a plain function: printed by a program of ours off the small machine, checked by the kernel. -/
namespace Go.Proofs.YtopplbiadpcalaaDoor.U
open Go
def hd66 : List Hd := [.row, .val ⟨false, (.int .i64)⟩, .val ⟨false, (.int .i64)⟩, .val ⟨false, (.int .i64)⟩, .fn 24]
def os66 : List Os := [.row 37 (.prod .str (.prod (.int .i64) (.prod (.int .i64) .str)))]
def rs66 : List Rc := []
def lv66 : Live := fun i => cond (Nat.beq i 1) (some ⟨[(0, [.own 1000 (.prod .str (.prod (.int .i64) (.prod (.int .i64) .str))) 37]), (1, []), (2, []), (3, []), (10, [])], []⟩) (none)
def kx66 : Keep := ⟨[(1000, [.row 1000 (.prod .str (.prod (.int .i64) (.prod (.int .i64) .str))) 37])], []⟩
noncomputable def C66 : Nat → Option Sp := tabC []
set_option maxRecDepth 100000
def st66_1 (v0 : Int) (v1 : Int) (v2 : Int) (v3 : Int) (v4 : List (ByteArray × (Int × (Int × ByteArray)))) : St := ⟨(38 : Nat), [((0 : Nat), .l (.rs (1000 : Nat))), ((1 : Nat), .l (.int IntKind.i64 v0)), ((2 : Nat), .l (.int IntKind.i64 v1)), ((3 : Nat), .l (.int IntKind.i64 v2)), ((10 : Nat), .l (.int IntKind.i64 v3))], [((1000 : Nat), .row (Kn.str.prod ((Kn.int IntKind.i64).prod ((Kn.int IntKind.i64).prod Kn.str))) (37 : Nat) v4 (none) false)], [(1000 : Nat)]⟩
noncomputable def B66_1 (r1 : Int → Int → Int → Int → List (ByteArray × (Int × (Int × ByteArray))) → Option (Bool × ((List (ByteArray × (Int × (Int × ByteArray)))) × Bool))) (v0 : Int) (v1 : Int) (v2 : Int) (v3 : Int) (v4 : List (ByteArray × (Int × (Int × ByteArray)))) : Option (Bool × ((List (ByteArray × (Int × (Int × ByteArray)))) × Bool)) :=
 (cond (decide (v3 < v2))
  (cond (decide ((0 : Int) ≤ IntKind.i64.wrap (v1 + v3)) && decide (IntKind.i64.wrap (v1 + v3) < (↑v4.length : Int)))
   (cond (decide ((0 : Int) ≤ IntKind.i64.wrap (v0 + v3)) && decide (IntKind.i64.wrap (v0 + v3) < (↑v4.length : Int)))
    (cond (decide ((0 : Int) ≤ IntKind.i64.wrap (v0 + v3)) && decide (IntKind.i64.wrap (v0 + v3) < (↑v4.length : Int)))
     (cond (decide ((0 : Int) ≤ IntKind.i64.wrap (v1 + v3)) && decide (IntKind.i64.wrap (v1 + v3) < (↑(v4.set (IntKind.i64.wrap (v0 + v3)).toNat ((v4.getD (IntKind.i64.wrap (v1 + v3)).toNat (dfl (Kn.str.prod ((Kn.int IntKind.i64).prod ((Kn.int IntKind.i64).prod Kn.str))))).fst, (v4.getD (IntKind.i64.wrap (v1 + v3)).toNat (dfl (Kn.str.prod ((Kn.int IntKind.i64).prod ((Kn.int IntKind.i64).prod Kn.str))))).snd.fst, (v4.getD (IntKind.i64.wrap (v1 + v3)).toNat (dfl (Kn.str.prod ((Kn.int IntKind.i64).prod ((Kn.int IntKind.i64).prod Kn.str))))).snd.snd.fst, (v4.getD (IntKind.i64.wrap (v1 + v3)).toNat (dfl (Kn.str.prod ((Kn.int IntKind.i64).prod ((Kn.int IntKind.i64).prod Kn.str))))).snd.snd.snd)).length : Int)))
      (r1 (v0) (v1) (v2) (IntKind.i64.wrap (v3 + (1 : Int))) ((v4.set (IntKind.i64.wrap (v0 + v3)).toNat ((v4.getD (IntKind.i64.wrap (v1 + v3)).toNat (dfl (Kn.str.prod ((Kn.int IntKind.i64).prod ((Kn.int IntKind.i64).prod Kn.str))))).fst, (v4.getD (IntKind.i64.wrap (v1 + v3)).toNat (dfl (Kn.str.prod ((Kn.int IntKind.i64).prod ((Kn.int IntKind.i64).prod Kn.str))))).snd.fst, (v4.getD (IntKind.i64.wrap (v1 + v3)).toNat (dfl (Kn.str.prod ((Kn.int IntKind.i64).prod ((Kn.int IntKind.i64).prod Kn.str))))).snd.snd.fst, (v4.getD (IntKind.i64.wrap (v1 + v3)).toNat (dfl (Kn.str.prod ((Kn.int IntKind.i64).prod ((Kn.int IntKind.i64).prod Kn.str))))).snd.snd.snd)).set (IntKind.i64.wrap (v1 + v3)).toNat ((v4.getD (IntKind.i64.wrap (v0 + v3)).toNat (dfl (Kn.str.prod ((Kn.int IntKind.i64).prod ((Kn.int IntKind.i64).prod Kn.str))))).fst, (v4.getD (IntKind.i64.wrap (v0 + v3)).toNat (dfl (Kn.str.prod ((Kn.int IntKind.i64).prod ((Kn.int IntKind.i64).prod Kn.str))))).snd.fst, (v4.getD (IntKind.i64.wrap (v0 + v3)).toNat (dfl (Kn.str.prod ((Kn.int IntKind.i64).prod ((Kn.int IntKind.i64).prod Kn.str))))).snd.snd.fst, (v4.getD (IntKind.i64.wrap (v0 + v3)).toNat (dfl (Kn.str.prod ((Kn.int IntKind.i64).prod ((Kn.int IntKind.i64).prod Kn.str))))).snd.snd.snd)))
      none)
     none)
    none)
   none)
  (some ((true, v4, true))))
noncomputable def M66 (r1 : Int → Int → Int → Int → List (ByteArray × (Int × (Int × ByteArray))) → Option (Bool × ((List (ByteArray × (Int × (Int × ByteArray)))) × Bool))) (x2 : Int) (x3 : Int) (x4 : Int) (y1 : (List (ByteArray × (Int × (Int × ByteArray))))) : Option (Bool × ((List (ByteArray × (Int × (Int × ByteArray)))) × Bool)) :=
 (r1 (x2) (x3) (x4) ((0 : Int)) (y1))
theorem B66_1_ok (Lo : Nat → St → Option (Bool × ((List (ByteArray × (Int × (Int × ByteArray)))) × Bool))) (v0 : Int) (v1 : Int) (v2 : Int) (v3 : Int) (v4 : List (ByteArray × (Int × (Int × ByteArray)))) : roundG tab C66 lv66 (decG rs66 os66) Lo Tryd.f66 kx66 1 (st66_1 v0 v1 v2 v3 v4) = B66_1 (fun v0 v1 v2 v3 v4 => Lo 1 (st66_1 v0 v1 v2 v3 v4)) v0 v1 v2 v3 v4 := by kernel_rfl
theorem M66_ok (Lo : Nat → St → Option (Bool × ((List (ByteArray × (Int × (Int × ByteArray)))) × Bool))) (x2 : Int) (x3 : Int) (x4 : Int) (y1 : (List (ByteArray × (Int × (Int × ByteArray))))) : callG tab C66 lv66 (decG rs66 os66) Lo Tryd.f66 kx66 [.l (.rs 1000), canon false (.int .i64) x2, canon false (.int .i64) x3, canon false (.int .i64) x4, .fn 24 []] [(1000, Os.ob (.row 37 (.prod .str (.prod (.int .i64) (.prod (.int .i64) .str)))) y1)] = M66 (fun v0 v1 v2 v3 v4 => Lo 1 (st66_1 v0 v1 v2 v3 v4)) x2 x3 x4 y1 := by kernel_rfl
noncomputable def l66 : Nat → (Int → Int → Int → Int → List (ByteArray × (Int × (Int × ByteArray))) → Option (Bool × ((List (ByteArray × (Int × (Int × ByteArray)))) × Bool)))
  | 0 => (fun _ _ _ _ _ => none)
  | m + 1 => (B66_1 (l66 m))
noncomputable def F66 (m : Nat) (x2 : Int) (x3 : Int) (x4 : Int) (y1 : (List (ByteArray × (Int × (Int × ByteArray))))) : Option (Bool × ((List (ByteArray × (Int × (Int × ByteArray)))) × Bool)) := M66 (l66 m) x2 x3 x4 y1
theorem l66_ok : ∀ m : Nat, (∀ (v0 : Int) (v1 : Int) (v2 : Int) (v3 : Int) (v4 : List (ByteArray × (Int × (Int × ByteArray)))), loF tab C66 lv66 (decG rs66 os66) Tryd.f66 kx66 m 1 (st66_1 v0 v1 v2 v3 v4) = (l66 m) v0 v1 v2 v3 v4)
  | 0 => by
    exact fun _ _ _ _ _ => rfl
  | m + 1 => by
    have ih := l66_ok m
    have h1 : (fun (v0 : Int) (v1 : Int) (v2 : Int) (v3 : Int) (v4 : List (ByteArray × (Int × (Int × ByteArray)))) => loF tab C66 lv66 (decG rs66 os66) Tryd.f66 kx66 m 1 (st66_1 v0 v1 v2 v3 v4)) = (l66 m) := by funext v0 v1 v2 v3 v4; exact ih v0 v1 v2 v3 v4
    exact fun v0 v1 v2 v3 v4 => (B66_1_ok (loF tab C66 lv66 (decG rs66 os66) Tryd.f66 kx66 m) v0 v1 v2 v3 v4).trans (congrFun (congrFun (congrFun (congrFun (congrFun (congrArg B66_1 h1) v0) v1) v2) v3) v4)
theorem F66_ok (m : Nat) (x2 : Int) (x3 : Int) (x4 : Int) (y1 : (List (ByteArray × (Int × (Int × ByteArray))))) : callF tab C66 lv66 (decG rs66 os66) m Tryd.f66 kx66 [.l (.rs 1000), canon false (.int .i64) x2, canon false (.int .i64) x3, canon false (.int .i64) x4, .fn 24 []] [(1000, Os.ob (.row 37 (.prod .str (.prod (.int .i64) (.prod (.int .i64) .str)))) y1)] = F66 m x2 x3 x4 y1 := by
    have ih := l66_ok m
    have h1 : (fun (v0 : Int) (v1 : Int) (v2 : Int) (v3 : Int) (v4 : List (ByteArray × (Int × (Int × ByteArray)))) => loF tab C66 lv66 (decG rs66 os66) Tryd.f66 kx66 m 1 (st66_1 v0 v1 v2 v3 v4)) = (l66 m) := by funext v0 v1 v2 v3 v4; exact ih v0 v1 v2 v3 v4
    exact (M66_ok (loF tab C66 lv66 (decG rs66 os66) Tryd.f66 kx66 m) x2 x3 x4 y1).trans (congrFun (congrFun (congrFun (congrFun (congrArg M66 h1) x2) x3) x4) y1)
theorem fn66 {G : GB} (hC : COk Tryd.prog G C66) (m : Nat) (x2 : Int) (x3 : Int) (x4 : Int) (y1 : (List (ByteArray × (Int × (Int × ByteArray))))) (y : (Bool × ((List (ByteArray × (Int × (Int × ByteArray)))) × Bool))) (h : F66 m x2 x3 x4 y1 = some y) : FnR Tryd.prog G 66 [.l (.rs 1000), canon false (.int .i64) x2, canon false (.int .i64) x3, canon false (.int .i64) x4, .fn 24 []] [(1000, Os.ob (.row 37 (.prod .str (.prod (.int .i64) (.prod (.int .i64) .str)))) y1)] (fun v hout => decG rs66 os66 v hout = some y) :=
  callF_sound (Lv := lv66) (n := m) (kx := kx66) follows tab_ok hC Tryd.func66 ((F66_ok m x2 x3 x4 y1).trans h)
theorem F66_mono {m m' : Nat} (hm : m ≤ m') (x2 : Int) (x3 : Int) (x4 : Int) (y1 : (List (ByteArray × (Int × (Int × ByteArray))))) {y : (Bool × ((List (ByteArray × (Int × (Int × ByteArray)))) × Bool))} (h : F66 m x2 x3 x4 y1 = some y) : F66 m' x2 x3 x4 y1 = some y := (F66_ok m' x2 x3 x4 y1).symm.trans (callF_mono hm ((F66_ok m x2 x3 x4 y1).trans h))
theorem ent66 : Ent Tryd.prog 66 := ⟨_, Tryd.func66, by kernel_rfl, by kernel_rfl⟩
theorem C66_ok {G : GB} : COk Tryd.prog G C66 := fun _ _ h => by cases h
end Go.Proofs.YtopplbiadpcalaaDoor.U

/- slices' swapRange: it ends, and no cell is lost. -/
namespace Go.Proofs.YtopplbiadpcalaaDoor.U
open Go Go.Proofs.YtopplbiadpcalaaDoor.K

theorem sw_step (a b n i : Int) (y : List Attr) (h : 0 ≤ a ∧ 0 ≤ b ∧ 0 ≤ i ∧ i < n ∧ a + n ≤ y.length ∧ b + n ≤ y.length ∧ (y.length : Int) ≤ 1099511627776) (r : Int → Int → Int → Int → List Attr → Option (Bool × (List Attr × Bool))) :
    ∃ y' : List Attr, y'.length = y.length ∧ B66_1 r a b n i y = r a b n (i + 1) y' := by
  unfold B66_1
  have w1 : IntKind.i64.wrap (b + i) = b + i := w64 (by omega)
  have w2 : IntKind.i64.wrap (a + i) = a + i := w64 (by omega)
  have w3 : IntKind.i64.wrap (i + 1) = i + 1 := w64 (by omega)
  simp only [w1, w2, w3, cond_dec, and_dec, List.length_set]
  rw [if_pos (by omega), if_pos (by omega), if_pos (by omega), if_pos (by omega), if_pos (by omega)]
  exact ⟨_, by simp only [List.length_set], rfl⟩
theorem sw_run (a b n : Int) : ∀ (k : Nat) (i : Int) (y : List Attr), n ≤ i + k → 0 ≤ a ∧ 0 ≤ b ∧ 0 ≤ i ∧ i ≤ n ∧ a + n ≤ y.length ∧ b + n ≤ y.length ∧ (y.length : Int) ≤ 1099511627776 →
    ∃ y' : List Attr, y'.length = y.length ∧ l66 (k + 1) a b n i y = some (true, (y', true)) := by
  intro k
  induction k with
  | zero =>
    intro i y hk h
    refine ⟨y, rfl, ?_⟩
    show B66_1 _ a b n i y = _
    unfold B66_1
    rw [decide_eq_false (by omega), cond_false]
  | succ k ih =>
    intro i y hk h
    by_cases hi : i < n
    · obtain ⟨y', h1, h2⟩ := sw_step a b n i y (by omega) (l66 (k + 1))
      obtain ⟨y2, h3, h4⟩ := ih (i + 1) y' (by omega) (by omega)
      exact ⟨y2, by omega, h2.trans h4⟩
    · refine ⟨y, rfl, ?_⟩
      show B66_1 _ a b n i y = _
      unfold B66_1
      rw [decide_eq_false (by omega), cond_false]
end Go.Proofs.YtopplbiadpcalaaDoor.U
namespace Go.Proofs.YtopplbiadpcalaaDoor.K
open Go Go.Proofs.YtopplbiadpcalaaDoor.U
/-- What is in the row behind a call. -/
noncomputable def outOf (F : Nat → Option (Bool × (List Attr × Bool))) : List Attr := (limit F (true, ([], true))).2.1
theorem outOf_some {F : Nat → Option (Bool × (List Attr × Bool))} (hm : ∀ m n y, m ≤ n → F m = some y → F n = some y) {m : Nat} {y : List Attr} (h : F m = some (true, (y, true))) : F m = some (true, (outOf F, true)) ∧ outOf F = y := by
  have : outOf F = y := by unfold outOf; rw [limit_eq hm h]
  rw [this]
  exact ⟨h, rfl⟩
def swOk (a b n : Int) (y : List Attr) : Bool := decide (0 ≤ a ∧ 0 ≤ b ∧ 0 ≤ n ∧ a + n ≤ y.length ∧ b + n ≤ y.length ∧ (y.length : Int) ≤ 1099511627776)
noncomputable def swR (a b n : Int) (y : List Attr) : List Attr := outOf (fun m => F66 m a b n y)
theorem swR_some (a b n : Int) (y : List Attr) (h : 0 ≤ a ∧ 0 ≤ b ∧ 0 ≤ n ∧ a + n ≤ y.length ∧ b + n ≤ y.length ∧ (y.length : Int) ≤ 1099511627776) :
    (∃ m, F66 m a b n y = some (true, (swR a b n y, true))) ∧ (swR a b n y).length = y.length := by
  obtain ⟨y', h1, h2⟩ := sw_run a b n n.toNat 0 y (by omega) (by omega)
  obtain ⟨h3, h4⟩ := outOf_some (F := fun m => F66 m a b n y) (fun _ _ _ hm h => F66_mono hm a b n y h) (m := n.toNat + 1) h2
  exact ⟨⟨_, h3⟩, by unfold swR; rw [h4, h1]⟩
end Go.Proofs.YtopplbiadpcalaaDoor.K

/- slices' insertionSort: it ends, and no cell is lost. -/
namespace Go.Proofs.YtopplbiadpcalaaDoor.U
open Go Go.Proofs.YtopplbiadpcalaaDoor.K

/-- Two cells change places. -/
def swA (j : Nat) (y : List Attr) : List Attr := (y.set (j + 1) (y.getD j (dfl (Kn.str.prod ((Kn.int IntKind.i64).prod ((Kn.int IntKind.i64).prod Kn.str)))))).set j (y.getD (j + 1) (dfl (Kn.str.prod ((Kn.int IntKind.i64).prod ((Kn.int IntKind.i64).prod Kn.str)))))
theorem swA_len (j : Nat) (y : List Attr) : (swA j y).length = y.length := by unfold swA; simp only [List.length_set]
def nameAt (y : List Attr) (j : Nat) : ByteArray := (y.getD j (dfl (Kn.str.prod ((Kn.int IntKind.i64).prod ((Kn.int IntKind.i64).prod Kn.str))))).1
abbrev RA := Option (Bool × (List Attr × Bool))
theorem ins_in (a b i : Int) (j : Nat) (y : List Attr) (h : 0 ≤ a ∧ a ≤ j ∧ (j : Int) + 1 < y.length ∧ (y.length : Int) ≤ 1099511627776 ∧ 0 ≤ i ∧ i < 1099511627776) (r1 : Int → Int → Int → List Attr → RA) (r4 : Int → Int → Int → Int → List Attr → RA) :
    B43_4 r1 r4 a b i ((j + 1 : Nat) : Int) y = if cmpS (nameAt y (j + 1)) (nameAt y j) < 0 then r4 a b i (j : Int) (swA j y) else r1 a b (i + 1) y := by
  unfold B43_4
  have w1 : IntKind.i64.wrap (((j + 1 : Nat) : Int) - 1) = (j : Int) := by rw [w64 (by omega)]; omega
  have w3 : IntKind.i64.wrap (i + 1) = i + 1 := w64 (by omega)
  simp only [w1, w3, cond_dec, and_dec, List.length_set]
  rw [if_pos (show ((j + 1 : Nat) : Int) > a by omega), if_pos (by omega), if_pos (by omega)]
  rw [show Int.toNat ((j + 1 : Nat) : Int) = j + 1 from rfl, show Int.toNat (j : Int) = j from rfl]
  refine ite_i (Q := fun z => z = ite _ _ _) (fun hc => ?_) (fun hc => ?_)
  · rw [if_pos (by omega), if_pos (by omega), if_pos (by omega), if_pos (by omega)]
    exact (if_pos (c := cmpS (nameAt y (j + 1)) (nameAt y j) < 0) hc).symm
  · exact (if_neg (c := cmpS (nameAt y (j + 1)) (nameAt y j) < 0) hc).symm
theorem ins_out (a b i : Int) (y : List Attr) (h : -1099511627776 ≤ i ∧ i < 1099511627776) (r1 : Int → Int → Int → List Attr → RA) (r4 : Int → Int → Int → Int → List Attr → RA) : B43_4 r1 r4 a b i a y = r1 a b (i + 1) y := by
  unfold B43_4
  have w3 : IntKind.i64.wrap (i + 1) = i + 1 := w64 (by omega)
  rw [decide_eq_false (show ¬ a > a by omega), cond_false, w3]
/-- How one cell is put in its place: down from j. -/
noncomputable def insJ (a : Nat) : Nat → List Attr → List Attr
  | 0, y => y
  | j + 1, y => if a ≤ j then if cmpS (nameAt y (j + 1)) (nameAt y j) < 0 then insJ a j (swA j y) else y else y
theorem insJ_len (a : Nat) : ∀ (j : Nat) (y : List Attr), (insJ a j y).length = y.length := by
  intro j
  induction j with
  | zero => intro y; rfl
  | succ j ih =>
    intro y
    simp only [insJ]
    split
    · split
      · rw [ih, swA_len]
      · rfl
    · rfl
/-- The inner loop. -/
theorem ins_inner (a : Nat) (b i : Int) (hi : 0 ≤ i ∧ i < 1099511627776) (R : Bool × (List Attr × Bool)) : ∀ (j : Nat) (y : List Attr), a ≤ j → j < y.length → (y.length : Int) ≤ 1099511627776 →
    (∃ k, (l43 k).1 (a : Int) b (i + 1) (insJ a j y) = some R) → ∃ k, (l43 k).2 (a : Int) b i (j : Int) y = some R := by
  intro j
  induction j with
  | zero =>
    intro y ha hj hL hk
    obtain ⟨k, hk⟩ := hk
    obtain rfl : a = 0 := by omega
    refine ⟨k + 1, ?_⟩
    show B43_4 (l43 k).1 (l43 k).2 ((0 : Nat) : Int) b i ((0 : Nat) : Int) y = _
    rw [ins_out _ b i y (by omega)]
    exact hk
  | succ j ih =>
    intro y ha hj hL hk
    by_cases haj : a ≤ j
    · by_cases hc : cmpS (nameAt y (j + 1)) (nameAt y j) < 0
      · obtain ⟨k, hk⟩ := ih (swA j y) haj (by rw [swA_len]; omega) (by rw [swA_len]; exact hL) (by
          obtain ⟨k, hk⟩ := hk
          simp only [insJ] at hk
          rw [if_pos haj, if_pos hc] at hk
          exact ⟨k, hk⟩)
        refine ⟨k + 1, ?_⟩
        show B43_4 (l43 k).1 (l43 k).2 (a : Int) b i ((j + 1 : Nat) : Int) y = _
        rw [ins_in (a : Int) b i j y (by omega), if_pos hc]
        exact hk
      · obtain ⟨k, hk⟩ := hk
        simp only [insJ] at hk
        rw [if_pos haj, if_neg hc] at hk
        refine ⟨k + 1, ?_⟩
        show B43_4 (l43 k).1 (l43 k).2 (a : Int) b i ((j + 1 : Nat) : Int) y = _
        rw [ins_in (a : Int) b i j y (by omega), if_neg hc]
        exact hk
    · obtain ⟨k, hk⟩ := hk
      simp only [insJ] at hk
      rw [if_neg haj] at hk
      obtain rfl : a = j + 1 := by omega
      refine ⟨k + 1, ?_⟩
      show B43_4 (l43 k).1 (l43 k).2 ((j + 1 : Nat) : Int) b i ((j + 1 : Nat) : Int) y = _
      rw [ins_out _ b i y (by omega)]
      exact hk
noncomputable def insI (a : Nat) : Nat → Nat → List Attr → List Attr
  | 0, _, y => y
  | n + 1, i, y => insI a n (i + 1) (insJ a i y)
theorem insI_len (a : Nat) : ∀ (n i : Nat) (y : List Attr), (insI a n i y).length = y.length := by
  intro n
  induction n with
  | zero => intro i y; rfl
  | succ n ih => intro i y; simp only [insI]; rw [ih, insJ_len]
theorem ins_outer (a : Nat) (b : Int) : ∀ (n i : Nat) (y : List Attr), a < i → b ≤ (i : Int) + n → (n = 0 ∨ b = (i : Int) + n) → b ≤ y.length → (y.length : Int) ≤ 1099511627776 →
    ∃ k, (l43 k).1 (a : Int) b (i : Int) y = some (true, (insI a n i y, true)) := by
  intro n
  induction n with
  | zero =>
    intro i y ha hb _ hl hL
    refine ⟨1, ?_⟩
    show B43_1 (l43 0).1 (l43 0).2 (a : Int) b (i : Int) y = _
    unfold B43_1
    rw [decide_eq_false (by omega), cond_false]
    rfl
  | succ n ih =>
    intro i y ha hb he hl hL
    obtain ⟨k, hk⟩ := ih (i + 1) (insJ a i y) (by omega) (by omega) (by omega) (by rw [insJ_len]; exact hl) (by rw [insJ_len]; exact hL)
    obtain ⟨k, hk⟩ := ins_inner a b (i : Int) (by omega) _ i y (by omega) (by omega) hL ⟨k, hk⟩
    refine ⟨k + 1, ?_⟩
    show B43_1 (l43 k).1 (l43 k).2 (a : Int) b (i : Int) y = _
    unfold B43_1
    rw [decide_eq_true (by omega), cond_true]
    exact hk
end Go.Proofs.YtopplbiadpcalaaDoor.U
namespace Go.Proofs.YtopplbiadpcalaaDoor.K
open Go Go.Proofs.YtopplbiadpcalaaDoor.U
def insOk (a b : Int) (y : List Attr) : Bool := decide (0 ≤ a ∧ a ≤ b ∧ b ≤ y.length ∧ (y.length : Int) ≤ 1099511627776)
noncomputable def insR (a b : Int) (y : List Attr) : List Attr := insI a.toNat (b.toNat - (a.toNat + 1)) (a.toNat + 1) y
theorem insR_some (a b : Int) (y : List Attr) (h : 0 ≤ a ∧ a ≤ b ∧ b ≤ y.length ∧ (y.length : Int) ≤ 1099511627776) :
    (∃ k, F43 k a b y = some (true, (insR a b y, true))) ∧ (insR a b y).length = y.length := by
  refine ⟨?_, insI_len _ _ _ _⟩
  obtain ⟨k, hk⟩ := ins_outer a.toNat b (b.toNat - (a.toNat + 1)) (a.toNat + 1) y (by omega) (by omega) (by omega) h.2.2.1 h.2.2.2
  refine ⟨k, ?_⟩
  show M43 _ _ a b y = _
  unfold M43
  have w : IntKind.i64.wrap (a + 1) = ((a.toNat + 1 : Nat) : Int) := by rw [w64 (by omega)]; omega
  rw [w]
  rw [show ((a.toNat : Nat) : Int) = a by omega] at hk
  exact hk
end Go.Proofs.YtopplbiadpcalaaDoor.K

/- slices.insertionSortCmpFunc[eyrie/api.Attr] (function 43): its row: what must hold, what it answers. -/
namespace Go.Proofs.YtopplbiadpcalaaDoor.U
open Go
noncomputable def sp43 : Sp := Sp.ofG [.row, .val ⟨false, (.int .i64)⟩, .val ⟨false, (.int .i64)⟩, .fn 24] [.row 37 (.prod .str (.prod (.int .i64) (.prod (.int .i64) .str)))] [] (fun x2 x3 y1 => (K.insOk x2 x3 y1, (true, (K.insR x2 x3 y1, true))))
end Go.Proofs.YtopplbiadpcalaaDoor.U

/- slices.swapRangeCmpFunc[eyrie/api.Attr] (function 66): its row: what must hold, what it answers. -/
namespace Go.Proofs.YtopplbiadpcalaaDoor.U
open Go
noncomputable def sp66 : Sp := Sp.ofG [.row, .val ⟨false, (.int .i64)⟩, .val ⟨false, (.int .i64)⟩, .val ⟨false, (.int .i64)⟩, .fn 24] [.row 37 (.prod .str (.prod (.int .i64) (.prod (.int .i64) .str)))] [] (fun x2 x3 x4 y1 => (K.swOk x2 x3 x4 y1, (true, (K.swR x2 x3 x4 y1, true))))
end Go.Proofs.YtopplbiadpcalaaDoor.U

/- slices.rotateCmpFunc[eyrie/api.Attr] (function 55): what it computes, as a plain function: printed by a program of ours off the small machine, checked by the kernel. -/
namespace Go.Proofs.YtopplbiadpcalaaDoor.U
open Go
def hd55 : List Hd := [.row, .val ⟨false, (.int .i64)⟩, .val ⟨false, (.int .i64)⟩, .val ⟨false, (.int .i64)⟩, .fn 24]
def os55 : List Os := [.row 37 (.prod .str (.prod (.int .i64) (.prod (.int .i64) .str)))]
def rs55 : List Rc := []
def lv55 : Live := fun i => cond (Nat.beq i 2) (some ⟨[(0, [.own 1000 (.prod .str (.prod (.int .i64) (.prod (.int .i64) .str))) 37]), (2, []), (4, []), (10, []), (11, [])], []⟩) (none)
def kx55 : Keep := ⟨[(1000, [.row 1000 (.prod .str (.prod (.int .i64) (.prod (.int .i64) .str))) 37])], []⟩
noncomputable def C55 : Nat → Option Sp := tabC [(66, sp66)]
set_option maxRecDepth 100000
def st55_2 (v0 : Int) (v1 : Int) (v2 : Int) (v3 : List (ByteArray × (Int × (Int × ByteArray)))) : St := ⟨(58 : Nat), [((0 : Nat), .l (.rs (1000 : Nat))), ((2 : Nat), .l (.int IntKind.i64 v0)), ((4 : Nat), .fn (24 : Nat) []), ((10 : Nat), .l (.int IntKind.i64 v1)), ((11 : Nat), .l (.int IntKind.i64 v2))], [((1000 : Nat), .row (Kn.str.prod ((Kn.int IntKind.i64).prod ((Kn.int IntKind.i64).prod Kn.str))) (37 : Nat) v3 (none) false)], [(1000 : Nat)]⟩
noncomputable def B55_2 (r2 : Int → Int → Int → List (ByteArray × (Int × (Int × ByteArray))) → Option (Bool × ((List (ByteArray × (Int × (Int × ByteArray)))) × Bool))) (v0 : Int) (v1 : Int) (v2 : Int) (v3 : List (ByteArray × (Int × (Int × ByteArray)))) : Option (Bool × ((List (ByteArray × (Int × (Int × ByteArray)))) × Bool)) :=
 (cond (v1 != v2)
  (cond (decide (v1 > v2))
   (cond (K.swOk (IntKind.i64.wrap (v0 - v1)) v0 v2 v3)
    (r2 (v0) (IntKind.i64.wrap (v1 - v2)) (v2) (K.swR (IntKind.i64.wrap (v0 - v1)) v0 v2 v3))
    none)
   (cond (K.swOk (IntKind.i64.wrap (v0 - v1)) (IntKind.i64.wrap (IntKind.i64.wrap (v0 + v2) - v1)) v1 v3)
    (r2 (v0) (v1) (IntKind.i64.wrap (v2 - v1)) (K.swR (IntKind.i64.wrap (v0 - v1)) (IntKind.i64.wrap (IntKind.i64.wrap (v0 + v2) - v1)) v1 v3))
    none))
  (cond (K.swOk (IntKind.i64.wrap (v0 - v1)) v0 v1 v3)
   (some ((true, K.swR (IntKind.i64.wrap (v0 - v1)) v0 v1 v3, true)))
   none))
noncomputable def M55 (r2 : Int → Int → Int → List (ByteArray × (Int × (Int × ByteArray))) → Option (Bool × ((List (ByteArray × (Int × (Int × ByteArray)))) × Bool))) (x2 : Int) (x3 : Int) (x4 : Int) (y1 : (List (ByteArray × (Int × (Int × ByteArray))))) : Option (Bool × ((List (ByteArray × (Int × (Int × ByteArray)))) × Bool)) :=
 (r2 (x3) (IntKind.i64.wrap (x3 - x2)) (IntKind.i64.wrap (x4 - x3)) (y1))
theorem B55_2_ok (Lo : Nat → St → Option (Bool × ((List (ByteArray × (Int × (Int × ByteArray)))) × Bool))) (v0 : Int) (v1 : Int) (v2 : Int) (v3 : List (ByteArray × (Int × (Int × ByteArray)))) : roundG tab C55 lv55 (decG rs55 os55) Lo Tryd.f55 kx55 2 (st55_2 v0 v1 v2 v3) = B55_2 (fun v0 v1 v2 v3 => Lo 2 (st55_2 v0 v1 v2 v3)) v0 v1 v2 v3 := by kernel_rfl
theorem M55_ok (Lo : Nat → St → Option (Bool × ((List (ByteArray × (Int × (Int × ByteArray)))) × Bool))) (x2 : Int) (x3 : Int) (x4 : Int) (y1 : (List (ByteArray × (Int × (Int × ByteArray))))) : callG tab C55 lv55 (decG rs55 os55) Lo Tryd.f55 kx55 [.l (.rs 1000), canon false (.int .i64) x2, canon false (.int .i64) x3, canon false (.int .i64) x4, .fn 24 []] [(1000, Os.ob (.row 37 (.prod .str (.prod (.int .i64) (.prod (.int .i64) .str)))) y1)] = M55 (fun v0 v1 v2 v3 => Lo 2 (st55_2 v0 v1 v2 v3)) x2 x3 x4 y1 := by kernel_rfl
noncomputable def l55 : Nat → (Int → Int → Int → List (ByteArray × (Int × (Int × ByteArray))) → Option (Bool × ((List (ByteArray × (Int × (Int × ByteArray)))) × Bool)))
  | 0 => (fun _ _ _ _ => none)
  | m + 1 => (B55_2 (l55 m))
noncomputable def F55 (m : Nat) (x2 : Int) (x3 : Int) (x4 : Int) (y1 : (List (ByteArray × (Int × (Int × ByteArray))))) : Option (Bool × ((List (ByteArray × (Int × (Int × ByteArray)))) × Bool)) := M55 (l55 m) x2 x3 x4 y1
theorem l55_ok : ∀ m : Nat, (∀ (v0 : Int) (v1 : Int) (v2 : Int) (v3 : List (ByteArray × (Int × (Int × ByteArray)))), loF tab C55 lv55 (decG rs55 os55) Tryd.f55 kx55 m 2 (st55_2 v0 v1 v2 v3) = (l55 m) v0 v1 v2 v3)
  | 0 => by
    exact fun _ _ _ _ => rfl
  | m + 1 => by
    have ih := l55_ok m
    have h2 : (fun (v0 : Int) (v1 : Int) (v2 : Int) (v3 : List (ByteArray × (Int × (Int × ByteArray)))) => loF tab C55 lv55 (decG rs55 os55) Tryd.f55 kx55 m 2 (st55_2 v0 v1 v2 v3)) = (l55 m) := by funext v0 v1 v2 v3; exact ih v0 v1 v2 v3
    exact fun v0 v1 v2 v3 => (B55_2_ok (loF tab C55 lv55 (decG rs55 os55) Tryd.f55 kx55 m) v0 v1 v2 v3).trans (congrFun (congrFun (congrFun (congrFun (congrArg B55_2 h2) v0) v1) v2) v3)
theorem F55_ok (m : Nat) (x2 : Int) (x3 : Int) (x4 : Int) (y1 : (List (ByteArray × (Int × (Int × ByteArray))))) : callF tab C55 lv55 (decG rs55 os55) m Tryd.f55 kx55 [.l (.rs 1000), canon false (.int .i64) x2, canon false (.int .i64) x3, canon false (.int .i64) x4, .fn 24 []] [(1000, Os.ob (.row 37 (.prod .str (.prod (.int .i64) (.prod (.int .i64) .str)))) y1)] = F55 m x2 x3 x4 y1 := by
    have ih := l55_ok m
    have h2 : (fun (v0 : Int) (v1 : Int) (v2 : Int) (v3 : List (ByteArray × (Int × (Int × ByteArray)))) => loF tab C55 lv55 (decG rs55 os55) Tryd.f55 kx55 m 2 (st55_2 v0 v1 v2 v3)) = (l55 m) := by funext v0 v1 v2 v3; exact ih v0 v1 v2 v3
    exact (M55_ok (loF tab C55 lv55 (decG rs55 os55) Tryd.f55 kx55 m) x2 x3 x4 y1).trans (congrFun (congrFun (congrFun (congrFun (congrArg M55 h2) x2) x3) x4) y1)
theorem fn55 {G : GB} (hC : COk Tryd.prog G C55) (m : Nat) (x2 : Int) (x3 : Int) (x4 : Int) (y1 : (List (ByteArray × (Int × (Int × ByteArray))))) (y : (Bool × ((List (ByteArray × (Int × (Int × ByteArray)))) × Bool))) (h : F55 m x2 x3 x4 y1 = some y) : FnR Tryd.prog G 55 [.l (.rs 1000), canon false (.int .i64) x2, canon false (.int .i64) x3, canon false (.int .i64) x4, .fn 24 []] [(1000, Os.ob (.row 37 (.prod .str (.prod (.int .i64) (.prod (.int .i64) .str)))) y1)] (fun v hout => decG rs55 os55 v hout = some y) :=
  callF_sound (Lv := lv55) (n := m) (kx := kx55) follows tab_ok hC Tryd.func55 ((F55_ok m x2 x3 x4 y1).trans h)
theorem F55_mono {m m' : Nat} (hm : m ≤ m') (x2 : Int) (x3 : Int) (x4 : Int) (y1 : (List (ByteArray × (Int × (Int × ByteArray))))) {y : (Bool × ((List (ByteArray × (Int × (Int × ByteArray)))) × Bool))} (h : F55 m x2 x3 x4 y1 = some y) : F55 m' x2 x3 x4 y1 = some y := (F55_ok m' x2 x3 x4 y1).symm.trans (callF_mono hm ((F55_ok m x2 x3 x4 y1).trans h))
theorem ent55 : Ent Tryd.prog 55 := ⟨_, Tryd.func55, by kernel_rfl, by kernel_rfl⟩
theorem C55_ok {G : GB} (h66 : RowOk Tryd.prog G 66 sp66) : COk Tryd.prog G C55 := tabC_ok (by
  intro p hp
  simp only [List.mem_cons, List.not_mem_nil, or_false] at hp
  rcases hp with rfl
  · exact h66
)
end Go.Proofs.YtopplbiadpcalaaDoor.U

/- slices' rotate: it ends, and no cell is lost. -/
namespace Go.Proofs.YtopplbiadpcalaaDoor.U
open Go Go.Proofs.YtopplbiadpcalaaDoor.K

theorem rot_run (m : Int) : ∀ (k : Nat) (i j : Int) (y : List Attr), i + j ≤ k → 0 < i ∧ 0 < j ∧ i ≤ m ∧ m + j ≤ y.length ∧ (y.length : Int) ≤ 1099511627776 →
    ∃ y' : List Attr, y'.length = y.length ∧ l55 (k + 1) m i j y = some (true, (y', true)) := by
  intro k
  induction k with
  | zero => intro i j y hk h; omega
  | succ k ih =>
    intro i j y hk h
    show ∃ y' : List Attr, y'.length = y.length ∧ B55_2 (l55 (k + 1)) m i j y = _
    unfold B55_2
    have w1 : IntKind.i64.wrap (m - i) = m - i := w64 (by omega)
    have w2 : IntKind.i64.wrap (i - j) = i - j := w64 (by omega)
    have w3 : IntKind.i64.wrap (j - i) = j - i := w64 (by omega)
    have w4 : IntKind.i64.wrap (m + j) = m + j := w64 (by omega)
    have w5 : IntKind.i64.wrap (m + j - i) = m + j - i := w64 (by omega)
    simp only [w1, w2, w3, w4, w5, swOk, cond_dec, bne_int]
    by_cases hij : i = j
    · rw [if_neg (fun e => e hij), if_pos (by omega)]
      exact ⟨_, (swR_some _ _ _ _ (by omega)).2, rfl⟩
    · rw [if_pos hij]
      by_cases hgt : i > j
      · rw [if_pos hgt, if_pos (by omega)]
        have hs := (swR_some (m - i) m j y (by omega)).2
        obtain ⟨y', h1, h2⟩ := ih (i - j) j (swR (m - i) m j y) (by omega) (by omega)
        exact ⟨y', by omega, h2⟩
      · rw [if_neg hgt, if_pos (by omega)]
        have hs := (swR_some (m - i) (m + j - i) i y (by omega)).2
        obtain ⟨y', h1, h2⟩ := ih i (j - i) (swR (m - i) (m + j - i) i y) (by omega) (by omega)
        exact ⟨y', by omega, h2⟩
end Go.Proofs.YtopplbiadpcalaaDoor.U
namespace Go.Proofs.YtopplbiadpcalaaDoor.K
open Go Go.Proofs.YtopplbiadpcalaaDoor.U
def rotOk (a m b : Int) (y : List Attr) : Bool := decide (0 ≤ a ∧ a < m ∧ m < b ∧ b ≤ y.length ∧ (y.length : Int) ≤ 1099511627776)
noncomputable def rotR (a m b : Int) (y : List Attr) : List Attr := outOf (fun k => F55 k a m b y)
theorem rotR_some (a m b : Int) (y : List Attr) (h : 0 ≤ a ∧ a < m ∧ m < b ∧ b ≤ y.length ∧ (y.length : Int) ≤ 1099511627776) :
    (∃ k, F55 k a m b y = some (true, (rotR a m b y, true))) ∧ (rotR a m b y).length = y.length := by
  have w1 : IntKind.i64.wrap (m - a) = m - a := w64 (by omega)
  have w2 : IntKind.i64.wrap (b - m) = b - m := w64 (by omega)
  obtain ⟨y', h1, h2⟩ := rot_run m (b - a).toNat (m - a) (b - m) y (by omega) (by omega)
  have h3 : F55 ((b - a).toNat + 1) a m b y = some (true, (y', true)) := by
    show M55 _ a m b y = _
    unfold M55
    rw [w1, w2]
    exact h2
  obtain ⟨h4, h5⟩ := outOf_some (F := fun k => F55 k a m b y) (fun _ _ _ hm h => F55_mono hm a m b y h) h3
  exact ⟨⟨_, h4⟩, by unfold rotR; rw [h5, h1]⟩
end Go.Proofs.YtopplbiadpcalaaDoor.K

/- slices.rotateCmpFunc[eyrie/api.Attr] (function 55): its row: what must hold, what it answers. -/
namespace Go.Proofs.YtopplbiadpcalaaDoor.U
open Go
noncomputable def sp55 : Sp := Sp.ofG [.row, .val ⟨false, (.int .i64)⟩, .val ⟨false, (.int .i64)⟩, .val ⟨false, (.int .i64)⟩, .fn 24] [.row 37 (.prod .str (.prod (.int .i64) (.prod (.int .i64) .str)))] [] (fun x2 x3 x4 y1 => (K.rotOk x2 x3 x4 y1, (true, (K.rotR x2 x3 x4 y1, true))))
end Go.Proofs.YtopplbiadpcalaaDoor.U

/- slices.symMergeCmpFunc[eyrie/api.Attr] (function 44): its row: what must hold, what it answers. -/
namespace Go.Proofs.YtopplbiadpcalaaDoor.U
open Go
noncomputable def sp44 (sz : Int) (g : (Int → Int → Int → List K.Attr → List K.Attr)) : Sp := Sp.ofG [.row, .val ⟨false, (.int .i64)⟩, .val ⟨false, (.int .i64)⟩, .val ⟨false, (.int .i64)⟩, .fn 24] [.row 37 (.prod .str (.prod (.int .i64) (.prod (.int .i64) .str)))] [] (fun x2 x3 x4 y1 => (K.smOk sz x2 x3 x4 y1, (true, (g x2 x3 x4 y1, true))))
end Go.Proofs.YtopplbiadpcalaaDoor.U
