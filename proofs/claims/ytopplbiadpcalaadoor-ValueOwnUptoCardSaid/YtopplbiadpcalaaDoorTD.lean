/- ValueOwn, where what it reads is of bulk at most 1048576: true, and the input reads as it did. Conditions: the row's own. -/
import Derived.Test.YtopplbiadpcalaaDoorTC
import Derived.Test.YtopplbiadpcalaaDoorCards
import Derived.Test.YtopplbiadpcalaaDoorTie
import Derived.WalkKit
import Derived.ProofKit
import Derived.OpenShut
import Derived.Lib.LaidTab
set_option linter.unusedVariables false
set_option linter.unusedSimpArgs false
/- slices.symMergeCmpFunc[eyrie/api.Attr] (function 44): what it computes, as a plain function: printed by a program of ours off the small machine, checked by the kernel. -/
namespace Go.Proofs.YtopplbiadpcalaaDoor.U
open Go
def hd44 : List Hd := [.row, .val ⟨false, (.int .i64)⟩, .val ⟨false, (.int .i64)⟩, .val ⟨false, (.int .i64)⟩, .fn 24]
def os44 : List Os := [.row 37 (.prod .str (.prod (.int .i64) (.prod (.int .i64) .str)))]
def rs44 : List Rc := []
def lv44 : Live := fun i => cond (Nat.beq i 3) (some ⟨[(0, [.own 1000 (.prod .str (.prod (.int .i64) (.prod (.int .i64) .str))) 37]), (1, []), (4, []), (10, []), (11, [])], []⟩) (cond (Nat.beq i 9) (some ⟨[(0, [.own 1000 (.prod .str (.prod (.int .i64) (.prod (.int .i64) .str))) 37]), (10, []), (13, [])], []⟩) (cond (Nat.beq i 15) (some ⟨[(0, [.own 1000 (.prod .str (.prod (.int .i64) (.prod (.int .i64) .str))) 37]), (2, []), (4, []), (14, []), (15, [])], []⟩) (cond (Nat.beq i 21) (some ⟨[(0, [.own 1000 (.prod .str (.prod (.int .i64) (.prod (.int .i64) .str))) 37]), (14, []), (17, [])], []⟩) (cond (Nat.beq i 33) (some ⟨[(0, [.own 1000 (.prod .str (.prod (.int .i64) (.prod (.int .i64) .str))) 37]), (1, []), (2, []), (3, []), (4, []), (18, []), (19, []), (20, []), (21, []), (22, [])], []⟩) (none)))))
def kx44 : Keep := ⟨[(1000, [.row 1000 (.prod .str (.prod (.int .i64) (.prod (.int .i64) .str))) 37])], []⟩
noncomputable def C44 (sz : Int) (g : (Int → Int → Int → List K.Attr → List K.Attr)) : Nat → Option Sp := tabC [(24, sp24), (55, sp55), (44, sp44 sz g)]
set_option maxRecDepth 100000
def st44_3 (v0 : Int) (v1 : Int) (v2 : Int) (v3 : List (ByteArray × (Int × (Int × ByteArray)))) : St := ⟨(220 : Nat), [((0 : Nat), .l (.rs (1000 : Nat))), ((1 : Nat), .l (.int IntKind.i64 v0)), ((4 : Nat), .fn (24 : Nat) []), ((10 : Nat), .l (.int IntKind.i64 v1)), ((11 : Nat), .l (.int IntKind.i64 v2))], [((1000 : Nat), .row (Kn.str.prod ((Kn.int IntKind.i64).prod ((Kn.int IntKind.i64).prod Kn.str))) (37 : Nat) v3 (none) false)], [(1000 : Nat)]⟩
def st44_15 (v0 : Int) (v1 : Int) (v2 : Int) (v3 : List (ByteArray × (Int × (Int × ByteArray)))) : St := ⟨(220 : Nat), [((0 : Nat), .l (.rs (1000 : Nat))), ((2 : Nat), .l (.int IntKind.i64 v0)), ((4 : Nat), .fn (24 : Nat) []), ((14 : Nat), .l (.int IntKind.i64 v1)), ((15 : Nat), .l (.int IntKind.i64 v2))], [((1000 : Nat), .row (Kn.str.prod ((Kn.int IntKind.i64).prod ((Kn.int IntKind.i64).prod Kn.str))) (37 : Nat) v3 (none) false)], [(1000 : Nat)]⟩
def st44_33 (v0 : Int) (v1 : Int) (v2 : Int) (v3 : Int) (v4 : Int) (v5 : Int) (v6 : Int) (v7 : Int) (v8 : List (ByteArray × (Int × (Int × ByteArray)))) : St := ⟨(220 : Nat), [((0 : Nat), .l (.rs (1000 : Nat))), ((1 : Nat), .l (.int IntKind.i64 v0)), ((2 : Nat), .l (.int IntKind.i64 v1)), ((3 : Nat), .l (.int IntKind.i64 v2)), ((4 : Nat), .fn (24 : Nat) []), ((18 : Nat), .l (.int IntKind.i64 v3)), ((19 : Nat), .l (.int IntKind.i64 v4)), ((20 : Nat), .l (.int IntKind.i64 v5)), ((21 : Nat), .l (.int IntKind.i64 v6)), ((22 : Nat), .l (.int IntKind.i64 v7))], [((1000 : Nat), .row (Kn.str.prod ((Kn.int IntKind.i64).prod ((Kn.int IntKind.i64).prod Kn.str))) (37 : Nat) v8 (none) false)], [(1000 : Nat)]⟩
def st44_9 (v0 : Int) (v1 : Int) (v2 : List (ByteArray × (Int × (Int × ByteArray)))) : St := ⟨(220 : Nat), [((0 : Nat), .l (.rs (1000 : Nat))), ((10 : Nat), .l (.int IntKind.i64 v0)), ((13 : Nat), .l (.int IntKind.i64 v1))], [((1000 : Nat), .row (Kn.str.prod ((Kn.int IntKind.i64).prod ((Kn.int IntKind.i64).prod Kn.str))) (37 : Nat) v2 (none) false)], [(1000 : Nat)]⟩
def st44_21 (v0 : Int) (v1 : Int) (v2 : List (ByteArray × (Int × (Int × ByteArray)))) : St := ⟨(220 : Nat), [((0 : Nat), .l (.rs (1000 : Nat))), ((14 : Nat), .l (.int IntKind.i64 v0)), ((17 : Nat), .l (.int IntKind.i64 v1))], [((1000 : Nat), .row (Kn.str.prod ((Kn.int IntKind.i64).prod ((Kn.int IntKind.i64).prod Kn.str))) (37 : Nat) v2 (none) false)], [(1000 : Nat)]⟩
noncomputable def B44_3 (sz : Int) (g : (Int → Int → Int → List K.Attr → List K.Attr)) (r3 : Int → Int → Int → List (ByteArray × (Int × (Int × ByteArray))) → Option (Bool × ((List (ByteArray × (Int × (Int × ByteArray)))) × Bool))) (r15 : Int → Int → Int → List (ByteArray × (Int × (Int × ByteArray))) → Option (Bool × ((List (ByteArray × (Int × (Int × ByteArray)))) × Bool))) (r33 : Int → Int → Int → Int → Int → Int → Int → Int → List (ByteArray × (Int × (Int × ByteArray))) → Option (Bool × ((List (ByteArray × (Int × (Int × ByteArray)))) × Bool))) (r9 : Int → Int → List (ByteArray × (Int × (Int × ByteArray))) → Option (Bool × ((List (ByteArray × (Int × (Int × ByteArray)))) × Bool))) (r21 : Int → Int → List (ByteArray × (Int × (Int × ByteArray))) → Option (Bool × ((List (ByteArray × (Int × (Int × ByteArray)))) × Bool))) (v0 : Int) (v1 : Int) (v2 : Int) (v3 : List (ByteArray × (Int × (Int × ByteArray)))) : Option (Bool × ((List (ByteArray × (Int × (Int × ByteArray)))) × Bool)) :=
 (cond (decide (v1 < v2))
  (cond (decide ((0 : Int) ≤ IntKind.i64.wrap ((IntKind.u64.wrap (IntKind.i64.wrap (v1 + v2))).fdiv ((2 : Int) ^ min (Int.toNat (1 : Int)) (64 : Nat)))) && decide (IntKind.i64.wrap ((IntKind.u64.wrap (IntKind.i64.wrap (v1 + v2))).fdiv ((2 : Int) ^ min (Int.toNat (1 : Int)) (64 : Nat))) < (↑v3.length : Int)))
   (cond (decide ((0 : Int) ≤ v0) && decide (v0 < (↑v3.length : Int)))
    (cond (decide (K.cmpS (v3.getD (IntKind.i64.wrap ((IntKind.u64.wrap (IntKind.i64.wrap (v1 + v2))).fdiv ((2 : Int) ^ min (Int.toNat (1 : Int)) (64 : Nat)))).toNat (dfl (Kn.str.prod ((Kn.int IntKind.i64).prod ((Kn.int IntKind.i64).prod Kn.str))))).fst (v3.getD v0.toNat (dfl (Kn.str.prod ((Kn.int IntKind.i64).prod ((Kn.int IntKind.i64).prod Kn.str))))).fst < (0 : Int)))
     (r3 (v0) (IntKind.i64.wrap (IntKind.i64.wrap ((IntKind.u64.wrap (IntKind.i64.wrap (v1 + v2))).fdiv ((2 : Int) ^ min (Int.toNat (1 : Int)) (64 : Nat))) + (1 : Int))) (v2) (v3))
     (r3 (v0) (v1) (IntKind.i64.wrap ((IntKind.u64.wrap (IntKind.i64.wrap (v1 + v2))).fdiv ((2 : Int) ^ min (Int.toNat (1 : Int)) (64 : Nat)))) (v3)))
    none)
   none)
  (r9 (v1) (v0) (v3)))
noncomputable def B44_15 (sz : Int) (g : (Int → Int → Int → List K.Attr → List K.Attr)) (r3 : Int → Int → Int → List (ByteArray × (Int × (Int × ByteArray))) → Option (Bool × ((List (ByteArray × (Int × (Int × ByteArray)))) × Bool))) (r15 : Int → Int → Int → List (ByteArray × (Int × (Int × ByteArray))) → Option (Bool × ((List (ByteArray × (Int × (Int × ByteArray)))) × Bool))) (r33 : Int → Int → Int → Int → Int → Int → Int → Int → List (ByteArray × (Int × (Int × ByteArray))) → Option (Bool × ((List (ByteArray × (Int × (Int × ByteArray)))) × Bool))) (r9 : Int → Int → List (ByteArray × (Int × (Int × ByteArray))) → Option (Bool × ((List (ByteArray × (Int × (Int × ByteArray)))) × Bool))) (r21 : Int → Int → List (ByteArray × (Int × (Int × ByteArray))) → Option (Bool × ((List (ByteArray × (Int × (Int × ByteArray)))) × Bool))) (v0 : Int) (v1 : Int) (v2 : Int) (v3 : List (ByteArray × (Int × (Int × ByteArray)))) : Option (Bool × ((List (ByteArray × (Int × (Int × ByteArray)))) × Bool)) :=
 (cond (decide (v1 < v2))
  (cond (decide ((0 : Int) ≤ v0) && decide (v0 < (↑v3.length : Int)))
   (cond (decide ((0 : Int) ≤ IntKind.i64.wrap ((IntKind.u64.wrap (IntKind.i64.wrap (v1 + v2))).fdiv ((2 : Int) ^ min (Int.toNat (1 : Int)) (64 : Nat)))) && decide (IntKind.i64.wrap ((IntKind.u64.wrap (IntKind.i64.wrap (v1 + v2))).fdiv ((2 : Int) ^ min (Int.toNat (1 : Int)) (64 : Nat))) < (↑v3.length : Int)))
    (cond (!decide (K.cmpS (v3.getD v0.toNat (dfl (Kn.str.prod ((Kn.int IntKind.i64).prod ((Kn.int IntKind.i64).prod Kn.str))))).fst (v3.getD (IntKind.i64.wrap ((IntKind.u64.wrap (IntKind.i64.wrap (v1 + v2))).fdiv ((2 : Int) ^ min (Int.toNat (1 : Int)) (64 : Nat)))).toNat (dfl (Kn.str.prod ((Kn.int IntKind.i64).prod ((Kn.int IntKind.i64).prod Kn.str))))).fst < (0 : Int)))
     (r15 (v0) (IntKind.i64.wrap (IntKind.i64.wrap ((IntKind.u64.wrap (IntKind.i64.wrap (v1 + v2))).fdiv ((2 : Int) ^ min (Int.toNat (1 : Int)) (64 : Nat))) + (1 : Int))) (v2) (v3))
     (r15 (v0) (v1) (IntKind.i64.wrap ((IntKind.u64.wrap (IntKind.i64.wrap (v1 + v2))).fdiv ((2 : Int) ^ min (Int.toNat (1 : Int)) (64 : Nat)))) (v3)))
    none)
   none)
  (r21 (v1) (v0) (v3)))
noncomputable def B44_33 (sz : Int) (g : (Int → Int → Int → List K.Attr → List K.Attr)) (r3 : Int → Int → Int → List (ByteArray × (Int × (Int × ByteArray))) → Option (Bool × ((List (ByteArray × (Int × (Int × ByteArray)))) × Bool))) (r15 : Int → Int → Int → List (ByteArray × (Int × (Int × ByteArray))) → Option (Bool × ((List (ByteArray × (Int × (Int × ByteArray)))) × Bool))) (r33 : Int → Int → Int → Int → Int → Int → Int → Int → List (ByteArray × (Int × (Int × ByteArray))) → Option (Bool × ((List (ByteArray × (Int × (Int × ByteArray)))) × Bool))) (r9 : Int → Int → List (ByteArray × (Int × (Int × ByteArray))) → Option (Bool × ((List (ByteArray × (Int × (Int × ByteArray)))) × Bool))) (r21 : Int → Int → List (ByteArray × (Int × (Int × ByteArray))) → Option (Bool × ((List (ByteArray × (Int × (Int × ByteArray)))) × Bool))) (v0 : Int) (v1 : Int) (v2 : Int) (v3 : Int) (v4 : Int) (v5 : Int) (v6 : Int) (v7 : Int) (v8 : List (ByteArray × (Int × (Int × ByteArray)))) : Option (Bool × ((List (ByteArray × (Int × (Int × ByteArray)))) × Bool)) :=
 (cond (decide (v5 < v6))
  (cond (decide ((0 : Int) ≤ IntKind.i64.wrap (v7 - IntKind.i64.wrap ((IntKind.u64.wrap (IntKind.i64.wrap (v5 + v6))).fdiv ((2 : Int) ^ min (Int.toNat (1 : Int)) (64 : Nat))))) && decide (IntKind.i64.wrap (v7 - IntKind.i64.wrap ((IntKind.u64.wrap (IntKind.i64.wrap (v5 + v6))).fdiv ((2 : Int) ^ min (Int.toNat (1 : Int)) (64 : Nat)))) < (↑v8.length : Int)))
   (cond (decide ((0 : Int) ≤ IntKind.i64.wrap ((IntKind.u64.wrap (IntKind.i64.wrap (v5 + v6))).fdiv ((2 : Int) ^ min (Int.toNat (1 : Int)) (64 : Nat)))) && decide (IntKind.i64.wrap ((IntKind.u64.wrap (IntKind.i64.wrap (v5 + v6))).fdiv ((2 : Int) ^ min (Int.toNat (1 : Int)) (64 : Nat))) < (↑v8.length : Int)))
    (cond (!decide (K.cmpS (v8.getD (IntKind.i64.wrap (v7 - IntKind.i64.wrap ((IntKind.u64.wrap (IntKind.i64.wrap (v5 + v6))).fdiv ((2 : Int) ^ min (Int.toNat (1 : Int)) (64 : Nat))))).toNat (dfl (Kn.str.prod ((Kn.int IntKind.i64).prod ((Kn.int IntKind.i64).prod Kn.str))))).fst (v8.getD (IntKind.i64.wrap ((IntKind.u64.wrap (IntKind.i64.wrap (v5 + v6))).fdiv ((2 : Int) ^ min (Int.toNat (1 : Int)) (64 : Nat)))).toNat (dfl (Kn.str.prod ((Kn.int IntKind.i64).prod ((Kn.int IntKind.i64).prod Kn.str))))).fst < (0 : Int)))
     (r33 (v0) (v1) (v2) (v3) (v4) (IntKind.i64.wrap (IntKind.i64.wrap ((IntKind.u64.wrap (IntKind.i64.wrap (v5 + v6))).fdiv ((2 : Int) ^ min (Int.toNat (1 : Int)) (64 : Nat))) + (1 : Int))) (v6) (v7) (v8))
     (r33 (v0) (v1) (v2) (v3) (v4) (v5) (IntKind.i64.wrap ((IntKind.u64.wrap (IntKind.i64.wrap (v5 + v6))).fdiv ((2 : Int) ^ min (Int.toNat (1 : Int)) (64 : Nat)))) (v7) (v8)))
    none)
   none)
  (cond (decide (v5 < v1))
   (cond (decide (v1 < IntKind.i64.wrap (v4 - v5)))
    (cond (K.rotOk v5 v1 (IntKind.i64.wrap (v4 - v5)) v8)
     (cond (decide (v0 < v5))
      (cond (decide (v5 < v3))
       (cond (K.smOk sz v0 v5 v3 (K.rotR v5 v1 (IntKind.i64.wrap (v4 - v5)) v8))
        (cond (decide (v3 < IntKind.i64.wrap (v4 - v5)))
         (cond (decide (IntKind.i64.wrap (v4 - v5) < v2))
          (cond (K.smOk sz v3 (IntKind.i64.wrap (v4 - v5)) v2 (g v0 v5 v3 (K.rotR v5 v1 (IntKind.i64.wrap (v4 - v5)) v8)))
           (some ((true, g v3 (IntKind.i64.wrap (v4 - v5)) v2 (g v0 v5 v3 (K.rotR v5 v1 (IntKind.i64.wrap (v4 - v5)) v8)), true)))
           none)
          (some ((true, g v0 v5 v3 (K.rotR v5 v1 (IntKind.i64.wrap (v4 - v5)) v8), true))))
         (some ((true, g v0 v5 v3 (K.rotR v5 v1 (IntKind.i64.wrap (v4 - v5)) v8), true))))
        none)
       (cond (decide (v3 < IntKind.i64.wrap (v4 - v5)))
        (cond (decide (IntKind.i64.wrap (v4 - v5) < v2))
         (cond (K.smOk sz v3 (IntKind.i64.wrap (v4 - v5)) v2 (K.rotR v5 v1 (IntKind.i64.wrap (v4 - v5)) v8))
          (some ((true, g v3 (IntKind.i64.wrap (v4 - v5)) v2 (K.rotR v5 v1 (IntKind.i64.wrap (v4 - v5)) v8), true)))
          none)
         (some ((true, K.rotR v5 v1 (IntKind.i64.wrap (v4 - v5)) v8, true))))
        (some ((true, K.rotR v5 v1 (IntKind.i64.wrap (v4 - v5)) v8, true)))))
      (cond (decide (v3 < IntKind.i64.wrap (v4 - v5)))
       (cond (decide (IntKind.i64.wrap (v4 - v5) < v2))
        (cond (K.smOk sz v3 (IntKind.i64.wrap (v4 - v5)) v2 (K.rotR v5 v1 (IntKind.i64.wrap (v4 - v5)) v8))
         (some ((true, g v3 (IntKind.i64.wrap (v4 - v5)) v2 (K.rotR v5 v1 (IntKind.i64.wrap (v4 - v5)) v8), true)))
         none)
        (some ((true, K.rotR v5 v1 (IntKind.i64.wrap (v4 - v5)) v8, true))))
       (some ((true, K.rotR v5 v1 (IntKind.i64.wrap (v4 - v5)) v8, true)))))
     none)
    (cond (decide (v0 < v5))
     (cond (decide (v5 < v3))
      (cond (K.smOk sz v0 v5 v3 v8)
       (cond (decide (v3 < IntKind.i64.wrap (v4 - v5)))
        (cond (decide (IntKind.i64.wrap (v4 - v5) < v2))
         (cond (K.smOk sz v3 (IntKind.i64.wrap (v4 - v5)) v2 (g v0 v5 v3 v8))
          (some ((true, g v3 (IntKind.i64.wrap (v4 - v5)) v2 (g v0 v5 v3 v8), true)))
          none)
         (some ((true, g v0 v5 v3 v8, true))))
        (some ((true, g v0 v5 v3 v8, true))))
       none)
      (cond (decide (v3 < IntKind.i64.wrap (v4 - v5)))
       (cond (decide (IntKind.i64.wrap (v4 - v5) < v2))
        (cond (K.smOk sz v3 (IntKind.i64.wrap (v4 - v5)) v2 v8)
         (some ((true, g v3 (IntKind.i64.wrap (v4 - v5)) v2 v8, true)))
         none)
        (some ((true, v8, true))))
       (some ((true, v8, true)))))
     (cond (decide (v3 < IntKind.i64.wrap (v4 - v5)))
      (cond (decide (IntKind.i64.wrap (v4 - v5) < v2))
       (cond (K.smOk sz v3 (IntKind.i64.wrap (v4 - v5)) v2 v8)
        (some ((true, g v3 (IntKind.i64.wrap (v4 - v5)) v2 v8, true)))
        none)
       (some ((true, v8, true))))
      (some ((true, v8, true))))))
   (cond (decide (v0 < v5))
    (cond (decide (v5 < v3))
     (cond (K.smOk sz v0 v5 v3 v8)
      (cond (decide (v3 < IntKind.i64.wrap (v4 - v5)))
       (cond (decide (IntKind.i64.wrap (v4 - v5) < v2))
        (cond (K.smOk sz v3 (IntKind.i64.wrap (v4 - v5)) v2 (g v0 v5 v3 v8))
         (some ((true, g v3 (IntKind.i64.wrap (v4 - v5)) v2 (g v0 v5 v3 v8), true)))
         none)
        (some ((true, g v0 v5 v3 v8, true))))
       (some ((true, g v0 v5 v3 v8, true))))
      none)
     (cond (decide (v3 < IntKind.i64.wrap (v4 - v5)))
      (cond (decide (IntKind.i64.wrap (v4 - v5) < v2))
       (cond (K.smOk sz v3 (IntKind.i64.wrap (v4 - v5)) v2 v8)
        (some ((true, g v3 (IntKind.i64.wrap (v4 - v5)) v2 v8, true)))
        none)
       (some ((true, v8, true))))
      (some ((true, v8, true)))))
    (cond (decide (v3 < IntKind.i64.wrap (v4 - v5)))
     (cond (decide (IntKind.i64.wrap (v4 - v5) < v2))
      (cond (K.smOk sz v3 (IntKind.i64.wrap (v4 - v5)) v2 v8)
       (some ((true, g v3 (IntKind.i64.wrap (v4 - v5)) v2 v8, true)))
       none)
      (some ((true, v8, true))))
     (some ((true, v8, true)))))))
noncomputable def B44_9 (sz : Int) (g : (Int → Int → Int → List K.Attr → List K.Attr)) (r3 : Int → Int → Int → List (ByteArray × (Int × (Int × ByteArray))) → Option (Bool × ((List (ByteArray × (Int × (Int × ByteArray)))) × Bool))) (r15 : Int → Int → Int → List (ByteArray × (Int × (Int × ByteArray))) → Option (Bool × ((List (ByteArray × (Int × (Int × ByteArray)))) × Bool))) (r33 : Int → Int → Int → Int → Int → Int → Int → Int → List (ByteArray × (Int × (Int × ByteArray))) → Option (Bool × ((List (ByteArray × (Int × (Int × ByteArray)))) × Bool))) (r9 : Int → Int → List (ByteArray × (Int × (Int × ByteArray))) → Option (Bool × ((List (ByteArray × (Int × (Int × ByteArray)))) × Bool))) (r21 : Int → Int → List (ByteArray × (Int × (Int × ByteArray))) → Option (Bool × ((List (ByteArray × (Int × (Int × ByteArray)))) × Bool))) (v0 : Int) (v1 : Int) (v2 : List (ByteArray × (Int × (Int × ByteArray)))) : Option (Bool × ((List (ByteArray × (Int × (Int × ByteArray)))) × Bool)) :=
 (cond (decide (v1 < IntKind.i64.wrap (v0 - (1 : Int))))
  (cond (decide ((0 : Int) ≤ IntKind.i64.wrap (v1 + (1 : Int))) && decide (IntKind.i64.wrap (v1 + (1 : Int)) < (↑v2.length : Int)))
   (cond (decide ((0 : Int) ≤ v1) && decide (v1 < (↑v2.length : Int)))
    (cond (decide ((0 : Int) ≤ v1) && decide (v1 < (↑v2.length : Int)))
     (cond (decide ((0 : Int) ≤ IntKind.i64.wrap (v1 + (1 : Int))) && decide (IntKind.i64.wrap (v1 + (1 : Int)) < (↑(v2.set v1.toNat ((v2.getD (IntKind.i64.wrap (v1 + (1 : Int))).toNat (dfl (Kn.str.prod ((Kn.int IntKind.i64).prod ((Kn.int IntKind.i64).prod Kn.str))))).fst, (v2.getD (IntKind.i64.wrap (v1 + (1 : Int))).toNat (dfl (Kn.str.prod ((Kn.int IntKind.i64).prod ((Kn.int IntKind.i64).prod Kn.str))))).snd.fst, (v2.getD (IntKind.i64.wrap (v1 + (1 : Int))).toNat (dfl (Kn.str.prod ((Kn.int IntKind.i64).prod ((Kn.int IntKind.i64).prod Kn.str))))).snd.snd.fst, (v2.getD (IntKind.i64.wrap (v1 + (1 : Int))).toNat (dfl (Kn.str.prod ((Kn.int IntKind.i64).prod ((Kn.int IntKind.i64).prod Kn.str))))).snd.snd.snd)).length : Int)))
      (r9 (v0) (IntKind.i64.wrap (v1 + (1 : Int))) ((v2.set v1.toNat ((v2.getD (IntKind.i64.wrap (v1 + (1 : Int))).toNat (dfl (Kn.str.prod ((Kn.int IntKind.i64).prod ((Kn.int IntKind.i64).prod Kn.str))))).fst, (v2.getD (IntKind.i64.wrap (v1 + (1 : Int))).toNat (dfl (Kn.str.prod ((Kn.int IntKind.i64).prod ((Kn.int IntKind.i64).prod Kn.str))))).snd.fst, (v2.getD (IntKind.i64.wrap (v1 + (1 : Int))).toNat (dfl (Kn.str.prod ((Kn.int IntKind.i64).prod ((Kn.int IntKind.i64).prod Kn.str))))).snd.snd.fst, (v2.getD (IntKind.i64.wrap (v1 + (1 : Int))).toNat (dfl (Kn.str.prod ((Kn.int IntKind.i64).prod ((Kn.int IntKind.i64).prod Kn.str))))).snd.snd.snd)).set (IntKind.i64.wrap (v1 + (1 : Int))).toNat ((v2.getD v1.toNat (dfl (Kn.str.prod ((Kn.int IntKind.i64).prod ((Kn.int IntKind.i64).prod Kn.str))))).fst, (v2.getD v1.toNat (dfl (Kn.str.prod ((Kn.int IntKind.i64).prod ((Kn.int IntKind.i64).prod Kn.str))))).snd.fst, (v2.getD v1.toNat (dfl (Kn.str.prod ((Kn.int IntKind.i64).prod ((Kn.int IntKind.i64).prod Kn.str))))).snd.snd.fst, (v2.getD v1.toNat (dfl (Kn.str.prod ((Kn.int IntKind.i64).prod ((Kn.int IntKind.i64).prod Kn.str))))).snd.snd.snd)))
      none)
     none)
    none)
   none)
  (some ((true, v2, true))))
noncomputable def B44_21 (sz : Int) (g : (Int → Int → Int → List K.Attr → List K.Attr)) (r3 : Int → Int → Int → List (ByteArray × (Int × (Int × ByteArray))) → Option (Bool × ((List (ByteArray × (Int × (Int × ByteArray)))) × Bool))) (r15 : Int → Int → Int → List (ByteArray × (Int × (Int × ByteArray))) → Option (Bool × ((List (ByteArray × (Int × (Int × ByteArray)))) × Bool))) (r33 : Int → Int → Int → Int → Int → Int → Int → Int → List (ByteArray × (Int × (Int × ByteArray))) → Option (Bool × ((List (ByteArray × (Int × (Int × ByteArray)))) × Bool))) (r9 : Int → Int → List (ByteArray × (Int × (Int × ByteArray))) → Option (Bool × ((List (ByteArray × (Int × (Int × ByteArray)))) × Bool))) (r21 : Int → Int → List (ByteArray × (Int × (Int × ByteArray))) → Option (Bool × ((List (ByteArray × (Int × (Int × ByteArray)))) × Bool))) (v0 : Int) (v1 : Int) (v2 : List (ByteArray × (Int × (Int × ByteArray)))) : Option (Bool × ((List (ByteArray × (Int × (Int × ByteArray)))) × Bool)) :=
 (cond (decide (v1 > v0))
  (cond (decide ((0 : Int) ≤ IntKind.i64.wrap (v1 - (1 : Int))) && decide (IntKind.i64.wrap (v1 - (1 : Int)) < (↑v2.length : Int)))
   (cond (decide ((0 : Int) ≤ v1) && decide (v1 < (↑v2.length : Int)))
    (cond (decide ((0 : Int) ≤ v1) && decide (v1 < (↑v2.length : Int)))
     (cond (decide ((0 : Int) ≤ IntKind.i64.wrap (v1 - (1 : Int))) && decide (IntKind.i64.wrap (v1 - (1 : Int)) < (↑(v2.set v1.toNat ((v2.getD (IntKind.i64.wrap (v1 - (1 : Int))).toNat (dfl (Kn.str.prod ((Kn.int IntKind.i64).prod ((Kn.int IntKind.i64).prod Kn.str))))).fst, (v2.getD (IntKind.i64.wrap (v1 - (1 : Int))).toNat (dfl (Kn.str.prod ((Kn.int IntKind.i64).prod ((Kn.int IntKind.i64).prod Kn.str))))).snd.fst, (v2.getD (IntKind.i64.wrap (v1 - (1 : Int))).toNat (dfl (Kn.str.prod ((Kn.int IntKind.i64).prod ((Kn.int IntKind.i64).prod Kn.str))))).snd.snd.fst, (v2.getD (IntKind.i64.wrap (v1 - (1 : Int))).toNat (dfl (Kn.str.prod ((Kn.int IntKind.i64).prod ((Kn.int IntKind.i64).prod Kn.str))))).snd.snd.snd)).length : Int)))
      (r21 (v0) (IntKind.i64.wrap (v1 - (1 : Int))) ((v2.set v1.toNat ((v2.getD (IntKind.i64.wrap (v1 - (1 : Int))).toNat (dfl (Kn.str.prod ((Kn.int IntKind.i64).prod ((Kn.int IntKind.i64).prod Kn.str))))).fst, (v2.getD (IntKind.i64.wrap (v1 - (1 : Int))).toNat (dfl (Kn.str.prod ((Kn.int IntKind.i64).prod ((Kn.int IntKind.i64).prod Kn.str))))).snd.fst, (v2.getD (IntKind.i64.wrap (v1 - (1 : Int))).toNat (dfl (Kn.str.prod ((Kn.int IntKind.i64).prod ((Kn.int IntKind.i64).prod Kn.str))))).snd.snd.fst, (v2.getD (IntKind.i64.wrap (v1 - (1 : Int))).toNat (dfl (Kn.str.prod ((Kn.int IntKind.i64).prod ((Kn.int IntKind.i64).prod Kn.str))))).snd.snd.snd)).set (IntKind.i64.wrap (v1 - (1 : Int))).toNat ((v2.getD v1.toNat (dfl (Kn.str.prod ((Kn.int IntKind.i64).prod ((Kn.int IntKind.i64).prod Kn.str))))).fst, (v2.getD v1.toNat (dfl (Kn.str.prod ((Kn.int IntKind.i64).prod ((Kn.int IntKind.i64).prod Kn.str))))).snd.fst, (v2.getD v1.toNat (dfl (Kn.str.prod ((Kn.int IntKind.i64).prod ((Kn.int IntKind.i64).prod Kn.str))))).snd.snd.fst, (v2.getD v1.toNat (dfl (Kn.str.prod ((Kn.int IntKind.i64).prod ((Kn.int IntKind.i64).prod Kn.str))))).snd.snd.snd)))
      none)
     none)
    none)
   none)
  (some ((true, v2, true))))
noncomputable def M44 (sz : Int) (g : (Int → Int → Int → List K.Attr → List K.Attr)) (r3 : Int → Int → Int → List (ByteArray × (Int × (Int × ByteArray))) → Option (Bool × ((List (ByteArray × (Int × (Int × ByteArray)))) × Bool))) (r15 : Int → Int → Int → List (ByteArray × (Int × (Int × ByteArray))) → Option (Bool × ((List (ByteArray × (Int × (Int × ByteArray)))) × Bool))) (r33 : Int → Int → Int → Int → Int → Int → Int → Int → List (ByteArray × (Int × (Int × ByteArray))) → Option (Bool × ((List (ByteArray × (Int × (Int × ByteArray)))) × Bool))) (r9 : Int → Int → List (ByteArray × (Int × (Int × ByteArray))) → Option (Bool × ((List (ByteArray × (Int × (Int × ByteArray)))) × Bool))) (r21 : Int → Int → List (ByteArray × (Int × (Int × ByteArray))) → Option (Bool × ((List (ByteArray × (Int × (Int × ByteArray)))) × Bool))) (x2 : Int) (x3 : Int) (x4 : Int) (y1 : (List (ByteArray × (Int × (Int × ByteArray))))) : Option (Bool × ((List (ByteArray × (Int × (Int × ByteArray)))) × Bool)) :=
 (cond (IntKind.i64.wrap (x3 - x2) == (1 : Int))
  (r3 (x2) (x3) (x4) (y1))
  (cond (IntKind.i64.wrap (x4 - x3) == (1 : Int))
   (r15 (x3) (x2) (x3) (y1))
   (cond (decide (x3 > IntKind.i64.wrap ((IntKind.u64.wrap (IntKind.i64.wrap (x2 + x4))).fdiv ((2 : Int) ^ min (Int.toNat (1 : Int)) (64 : Nat)))))
    (r33 (x2) (x3) (x4) (IntKind.i64.wrap ((IntKind.u64.wrap (IntKind.i64.wrap (x2 + x4))).fdiv ((2 : Int) ^ min (Int.toNat (1 : Int)) (64 : Nat)))) (IntKind.i64.wrap (IntKind.i64.wrap ((IntKind.u64.wrap (IntKind.i64.wrap (x2 + x4))).fdiv ((2 : Int) ^ min (Int.toNat (1 : Int)) (64 : Nat))) + x3)) (IntKind.i64.wrap (IntKind.i64.wrap (IntKind.i64.wrap ((IntKind.u64.wrap (IntKind.i64.wrap (x2 + x4))).fdiv ((2 : Int) ^ min (Int.toNat (1 : Int)) (64 : Nat))) + x3) - x4)) (IntKind.i64.wrap ((IntKind.u64.wrap (IntKind.i64.wrap (x2 + x4))).fdiv ((2 : Int) ^ min (Int.toNat (1 : Int)) (64 : Nat)))) (IntKind.i64.wrap (IntKind.i64.wrap (IntKind.i64.wrap ((IntKind.u64.wrap (IntKind.i64.wrap (x2 + x4))).fdiv ((2 : Int) ^ min (Int.toNat (1 : Int)) (64 : Nat))) + x3) - (1 : Int))) (y1))
    (r33 (x2) (x3) (x4) (IntKind.i64.wrap ((IntKind.u64.wrap (IntKind.i64.wrap (x2 + x4))).fdiv ((2 : Int) ^ min (Int.toNat (1 : Int)) (64 : Nat)))) (IntKind.i64.wrap (IntKind.i64.wrap ((IntKind.u64.wrap (IntKind.i64.wrap (x2 + x4))).fdiv ((2 : Int) ^ min (Int.toNat (1 : Int)) (64 : Nat))) + x3)) (x2) (x3) (IntKind.i64.wrap (IntKind.i64.wrap (IntKind.i64.wrap ((IntKind.u64.wrap (IntKind.i64.wrap (x2 + x4))).fdiv ((2 : Int) ^ min (Int.toNat (1 : Int)) (64 : Nat))) + x3) - (1 : Int))) (y1)))))
theorem B44_3_ok (sz : Int) (g : (Int → Int → Int → List K.Attr → List K.Attr)) (Lo : Nat → St → Option (Bool × ((List (ByteArray × (Int × (Int × ByteArray)))) × Bool))) (v0 : Int) (v1 : Int) (v2 : Int) (v3 : List (ByteArray × (Int × (Int × ByteArray)))) : roundG tab (C44 sz g) lv44 (decG rs44 os44) Lo Tryd.f44 kx44 3 (st44_3 v0 v1 v2 v3) = (B44_3 sz g) (fun v0 v1 v2 v3 => Lo 3 (st44_3 v0 v1 v2 v3)) (fun v0 v1 v2 v3 => Lo 15 (st44_15 v0 v1 v2 v3)) (fun v0 v1 v2 v3 v4 v5 v6 v7 v8 => Lo 33 (st44_33 v0 v1 v2 v3 v4 v5 v6 v7 v8)) (fun v0 v1 v2 => Lo 9 (st44_9 v0 v1 v2)) (fun v0 v1 v2 => Lo 21 (st44_21 v0 v1 v2)) v0 v1 v2 v3 := by kernel_rfl
theorem B44_15_ok (sz : Int) (g : (Int → Int → Int → List K.Attr → List K.Attr)) (Lo : Nat → St → Option (Bool × ((List (ByteArray × (Int × (Int × ByteArray)))) × Bool))) (v0 : Int) (v1 : Int) (v2 : Int) (v3 : List (ByteArray × (Int × (Int × ByteArray)))) : roundG tab (C44 sz g) lv44 (decG rs44 os44) Lo Tryd.f44 kx44 15 (st44_15 v0 v1 v2 v3) = (B44_15 sz g) (fun v0 v1 v2 v3 => Lo 3 (st44_3 v0 v1 v2 v3)) (fun v0 v1 v2 v3 => Lo 15 (st44_15 v0 v1 v2 v3)) (fun v0 v1 v2 v3 v4 v5 v6 v7 v8 => Lo 33 (st44_33 v0 v1 v2 v3 v4 v5 v6 v7 v8)) (fun v0 v1 v2 => Lo 9 (st44_9 v0 v1 v2)) (fun v0 v1 v2 => Lo 21 (st44_21 v0 v1 v2)) v0 v1 v2 v3 := by kernel_rfl
theorem B44_33_ok (sz : Int) (g : (Int → Int → Int → List K.Attr → List K.Attr)) (Lo : Nat → St → Option (Bool × ((List (ByteArray × (Int × (Int × ByteArray)))) × Bool))) (v0 : Int) (v1 : Int) (v2 : Int) (v3 : Int) (v4 : Int) (v5 : Int) (v6 : Int) (v7 : Int) (v8 : List (ByteArray × (Int × (Int × ByteArray)))) : roundG tab (C44 sz g) lv44 (decG rs44 os44) Lo Tryd.f44 kx44 33 (st44_33 v0 v1 v2 v3 v4 v5 v6 v7 v8) = (B44_33 sz g) (fun v0 v1 v2 v3 => Lo 3 (st44_3 v0 v1 v2 v3)) (fun v0 v1 v2 v3 => Lo 15 (st44_15 v0 v1 v2 v3)) (fun v0 v1 v2 v3 v4 v5 v6 v7 v8 => Lo 33 (st44_33 v0 v1 v2 v3 v4 v5 v6 v7 v8)) (fun v0 v1 v2 => Lo 9 (st44_9 v0 v1 v2)) (fun v0 v1 v2 => Lo 21 (st44_21 v0 v1 v2)) v0 v1 v2 v3 v4 v5 v6 v7 v8 := by kernel_rfl
theorem B44_9_ok (sz : Int) (g : (Int → Int → Int → List K.Attr → List K.Attr)) (Lo : Nat → St → Option (Bool × ((List (ByteArray × (Int × (Int × ByteArray)))) × Bool))) (v0 : Int) (v1 : Int) (v2 : List (ByteArray × (Int × (Int × ByteArray)))) : roundG tab (C44 sz g) lv44 (decG rs44 os44) Lo Tryd.f44 kx44 9 (st44_9 v0 v1 v2) = (B44_9 sz g) (fun v0 v1 v2 v3 => Lo 3 (st44_3 v0 v1 v2 v3)) (fun v0 v1 v2 v3 => Lo 15 (st44_15 v0 v1 v2 v3)) (fun v0 v1 v2 v3 v4 v5 v6 v7 v8 => Lo 33 (st44_33 v0 v1 v2 v3 v4 v5 v6 v7 v8)) (fun v0 v1 v2 => Lo 9 (st44_9 v0 v1 v2)) (fun v0 v1 v2 => Lo 21 (st44_21 v0 v1 v2)) v0 v1 v2 := by kernel_rfl
theorem B44_21_ok (sz : Int) (g : (Int → Int → Int → List K.Attr → List K.Attr)) (Lo : Nat → St → Option (Bool × ((List (ByteArray × (Int × (Int × ByteArray)))) × Bool))) (v0 : Int) (v1 : Int) (v2 : List (ByteArray × (Int × (Int × ByteArray)))) : roundG tab (C44 sz g) lv44 (decG rs44 os44) Lo Tryd.f44 kx44 21 (st44_21 v0 v1 v2) = (B44_21 sz g) (fun v0 v1 v2 v3 => Lo 3 (st44_3 v0 v1 v2 v3)) (fun v0 v1 v2 v3 => Lo 15 (st44_15 v0 v1 v2 v3)) (fun v0 v1 v2 v3 v4 v5 v6 v7 v8 => Lo 33 (st44_33 v0 v1 v2 v3 v4 v5 v6 v7 v8)) (fun v0 v1 v2 => Lo 9 (st44_9 v0 v1 v2)) (fun v0 v1 v2 => Lo 21 (st44_21 v0 v1 v2)) v0 v1 v2 := by kernel_rfl
theorem M44_ok (sz : Int) (g : (Int → Int → Int → List K.Attr → List K.Attr)) (Lo : Nat → St → Option (Bool × ((List (ByteArray × (Int × (Int × ByteArray)))) × Bool))) (x2 : Int) (x3 : Int) (x4 : Int) (y1 : (List (ByteArray × (Int × (Int × ByteArray))))) : callG tab (C44 sz g) lv44 (decG rs44 os44) Lo Tryd.f44 kx44 [.l (.rs 1000), canon false (.int .i64) x2, canon false (.int .i64) x3, canon false (.int .i64) x4, .fn 24 []] [(1000, Os.ob (.row 37 (.prod .str (.prod (.int .i64) (.prod (.int .i64) .str)))) y1)] = (M44 sz g) (fun v0 v1 v2 v3 => Lo 3 (st44_3 v0 v1 v2 v3)) (fun v0 v1 v2 v3 => Lo 15 (st44_15 v0 v1 v2 v3)) (fun v0 v1 v2 v3 v4 v5 v6 v7 v8 => Lo 33 (st44_33 v0 v1 v2 v3 v4 v5 v6 v7 v8)) (fun v0 v1 v2 => Lo 9 (st44_9 v0 v1 v2)) (fun v0 v1 v2 => Lo 21 (st44_21 v0 v1 v2)) x2 x3 x4 y1 := by kernel_rfl
noncomputable def l44 (sz : Int) (g : (Int → Int → Int → List K.Attr → List K.Attr)) : Nat → (Int → Int → Int → List (ByteArray × (Int × (Int × ByteArray))) → Option (Bool × ((List (ByteArray × (Int × (Int × ByteArray)))) × Bool))) × (Int → Int → Int → List (ByteArray × (Int × (Int × ByteArray))) → Option (Bool × ((List (ByteArray × (Int × (Int × ByteArray)))) × Bool))) × (Int → Int → Int → Int → Int → Int → Int → Int → List (ByteArray × (Int × (Int × ByteArray))) → Option (Bool × ((List (ByteArray × (Int × (Int × ByteArray)))) × Bool))) × (Int → Int → List (ByteArray × (Int × (Int × ByteArray))) → Option (Bool × ((List (ByteArray × (Int × (Int × ByteArray)))) × Bool))) × (Int → Int → List (ByteArray × (Int × (Int × ByteArray))) → Option (Bool × ((List (ByteArray × (Int × (Int × ByteArray)))) × Bool)))
  | 0 => (fun _ _ _ _ => none, fun _ _ _ _ => none, fun _ _ _ _ _ _ _ _ _ => none, fun _ _ _ => none, fun _ _ _ => none)
  | m + 1 => ((B44_3 sz g) ((l44 sz g) m).1 ((l44 sz g) m).2.1 ((l44 sz g) m).2.2.1 ((l44 sz g) m).2.2.2.1 ((l44 sz g) m).2.2.2.2, (B44_15 sz g) ((l44 sz g) m).1 ((l44 sz g) m).2.1 ((l44 sz g) m).2.2.1 ((l44 sz g) m).2.2.2.1 ((l44 sz g) m).2.2.2.2, (B44_33 sz g) ((l44 sz g) m).1 ((l44 sz g) m).2.1 ((l44 sz g) m).2.2.1 ((l44 sz g) m).2.2.2.1 ((l44 sz g) m).2.2.2.2, (B44_9 sz g) ((l44 sz g) m).1 ((l44 sz g) m).2.1 ((l44 sz g) m).2.2.1 ((l44 sz g) m).2.2.2.1 ((l44 sz g) m).2.2.2.2, (B44_21 sz g) ((l44 sz g) m).1 ((l44 sz g) m).2.1 ((l44 sz g) m).2.2.1 ((l44 sz g) m).2.2.2.1 ((l44 sz g) m).2.2.2.2)
noncomputable def F44 (sz : Int) (g : (Int → Int → Int → List K.Attr → List K.Attr)) (m : Nat) (x2 : Int) (x3 : Int) (x4 : Int) (y1 : (List (ByteArray × (Int × (Int × ByteArray))))) : Option (Bool × ((List (ByteArray × (Int × (Int × ByteArray)))) × Bool)) := (M44 sz g) ((l44 sz g) m).1 ((l44 sz g) m).2.1 ((l44 sz g) m).2.2.1 ((l44 sz g) m).2.2.2.1 ((l44 sz g) m).2.2.2.2 x2 x3 x4 y1
theorem l44_ok (sz : Int) (g : (Int → Int → Int → List K.Attr → List K.Attr)) : ∀ m : Nat, (∀ (v0 : Int) (v1 : Int) (v2 : Int) (v3 : List (ByteArray × (Int × (Int × ByteArray)))), loF tab (C44 sz g) lv44 (decG rs44 os44) Tryd.f44 kx44 m 3 (st44_3 v0 v1 v2 v3) = ((l44 sz g) m).1 v0 v1 v2 v3) ∧ (∀ (v0 : Int) (v1 : Int) (v2 : Int) (v3 : List (ByteArray × (Int × (Int × ByteArray)))), loF tab (C44 sz g) lv44 (decG rs44 os44) Tryd.f44 kx44 m 15 (st44_15 v0 v1 v2 v3) = ((l44 sz g) m).2.1 v0 v1 v2 v3) ∧ (∀ (v0 : Int) (v1 : Int) (v2 : Int) (v3 : Int) (v4 : Int) (v5 : Int) (v6 : Int) (v7 : Int) (v8 : List (ByteArray × (Int × (Int × ByteArray)))), loF tab (C44 sz g) lv44 (decG rs44 os44) Tryd.f44 kx44 m 33 (st44_33 v0 v1 v2 v3 v4 v5 v6 v7 v8) = ((l44 sz g) m).2.2.1 v0 v1 v2 v3 v4 v5 v6 v7 v8) ∧ (∀ (v0 : Int) (v1 : Int) (v2 : List (ByteArray × (Int × (Int × ByteArray)))), loF tab (C44 sz g) lv44 (decG rs44 os44) Tryd.f44 kx44 m 9 (st44_9 v0 v1 v2) = ((l44 sz g) m).2.2.2.1 v0 v1 v2) ∧ (∀ (v0 : Int) (v1 : Int) (v2 : List (ByteArray × (Int × (Int × ByteArray)))), loF tab (C44 sz g) lv44 (decG rs44 os44) Tryd.f44 kx44 m 21 (st44_21 v0 v1 v2) = ((l44 sz g) m).2.2.2.2 v0 v1 v2)
  | 0 => by
    exact ⟨fun _ _ _ _ => rfl, fun _ _ _ _ => rfl, fun _ _ _ _ _ _ _ _ _ => rfl, fun _ _ _ => rfl, fun _ _ _ => rfl⟩
  | m + 1 => by
    have ih := (l44_ok sz g) m
    have h3 : (fun (v0 : Int) (v1 : Int) (v2 : Int) (v3 : List (ByteArray × (Int × (Int × ByteArray)))) => loF tab (C44 sz g) lv44 (decG rs44 os44) Tryd.f44 kx44 m 3 (st44_3 v0 v1 v2 v3)) = ((l44 sz g) m).1 := by funext v0 v1 v2 v3; exact ih.1 v0 v1 v2 v3
    have h15 : (fun (v0 : Int) (v1 : Int) (v2 : Int) (v3 : List (ByteArray × (Int × (Int × ByteArray)))) => loF tab (C44 sz g) lv44 (decG rs44 os44) Tryd.f44 kx44 m 15 (st44_15 v0 v1 v2 v3)) = ((l44 sz g) m).2.1 := by funext v0 v1 v2 v3; exact ih.2.1 v0 v1 v2 v3
    have h33 : (fun (v0 : Int) (v1 : Int) (v2 : Int) (v3 : Int) (v4 : Int) (v5 : Int) (v6 : Int) (v7 : Int) (v8 : List (ByteArray × (Int × (Int × ByteArray)))) => loF tab (C44 sz g) lv44 (decG rs44 os44) Tryd.f44 kx44 m 33 (st44_33 v0 v1 v2 v3 v4 v5 v6 v7 v8)) = ((l44 sz g) m).2.2.1 := by funext v0 v1 v2 v3 v4 v5 v6 v7 v8; exact ih.2.2.1 v0 v1 v2 v3 v4 v5 v6 v7 v8
    have h9 : (fun (v0 : Int) (v1 : Int) (v2 : List (ByteArray × (Int × (Int × ByteArray)))) => loF tab (C44 sz g) lv44 (decG rs44 os44) Tryd.f44 kx44 m 9 (st44_9 v0 v1 v2)) = ((l44 sz g) m).2.2.2.1 := by funext v0 v1 v2; exact ih.2.2.2.1 v0 v1 v2
    have h21 : (fun (v0 : Int) (v1 : Int) (v2 : List (ByteArray × (Int × (Int × ByteArray)))) => loF tab (C44 sz g) lv44 (decG rs44 os44) Tryd.f44 kx44 m 21 (st44_21 v0 v1 v2)) = ((l44 sz g) m).2.2.2.2 := by funext v0 v1 v2; exact ih.2.2.2.2 v0 v1 v2
    exact ⟨fun v0 v1 v2 v3 => ((B44_3_ok sz g) (loF tab (C44 sz g) lv44 (decG rs44 os44) Tryd.f44 kx44 m) v0 v1 v2 v3).trans (congrFun (congrFun (congrFun (congrFun (congr (congr (congr (congr (congrArg (B44_3 sz g) h3) h15) h33) h9) h21) v0) v1) v2) v3), fun v0 v1 v2 v3 => ((B44_15_ok sz g) (loF tab (C44 sz g) lv44 (decG rs44 os44) Tryd.f44 kx44 m) v0 v1 v2 v3).trans (congrFun (congrFun (congrFun (congrFun (congr (congr (congr (congr (congrArg (B44_15 sz g) h3) h15) h33) h9) h21) v0) v1) v2) v3), fun v0 v1 v2 v3 v4 v5 v6 v7 v8 => ((B44_33_ok sz g) (loF tab (C44 sz g) lv44 (decG rs44 os44) Tryd.f44 kx44 m) v0 v1 v2 v3 v4 v5 v6 v7 v8).trans (congrFun (congrFun (congrFun (congrFun (congrFun (congrFun (congrFun (congrFun (congrFun (congr (congr (congr (congr (congrArg (B44_33 sz g) h3) h15) h33) h9) h21) v0) v1) v2) v3) v4) v5) v6) v7) v8), fun v0 v1 v2 => ((B44_9_ok sz g) (loF tab (C44 sz g) lv44 (decG rs44 os44) Tryd.f44 kx44 m) v0 v1 v2).trans (congrFun (congrFun (congrFun (congr (congr (congr (congr (congrArg (B44_9 sz g) h3) h15) h33) h9) h21) v0) v1) v2), fun v0 v1 v2 => ((B44_21_ok sz g) (loF tab (C44 sz g) lv44 (decG rs44 os44) Tryd.f44 kx44 m) v0 v1 v2).trans (congrFun (congrFun (congrFun (congr (congr (congr (congr (congrArg (B44_21 sz g) h3) h15) h33) h9) h21) v0) v1) v2)⟩
theorem F44_ok (sz : Int) (g : (Int → Int → Int → List K.Attr → List K.Attr)) (m : Nat) (x2 : Int) (x3 : Int) (x4 : Int) (y1 : (List (ByteArray × (Int × (Int × ByteArray))))) : callF tab (C44 sz g) lv44 (decG rs44 os44) m Tryd.f44 kx44 [.l (.rs 1000), canon false (.int .i64) x2, canon false (.int .i64) x3, canon false (.int .i64) x4, .fn 24 []] [(1000, Os.ob (.row 37 (.prod .str (.prod (.int .i64) (.prod (.int .i64) .str)))) y1)] = (F44 sz g) m x2 x3 x4 y1 := by
    have ih := (l44_ok sz g) m
    have h3 : (fun (v0 : Int) (v1 : Int) (v2 : Int) (v3 : List (ByteArray × (Int × (Int × ByteArray)))) => loF tab (C44 sz g) lv44 (decG rs44 os44) Tryd.f44 kx44 m 3 (st44_3 v0 v1 v2 v3)) = ((l44 sz g) m).1 := by funext v0 v1 v2 v3; exact ih.1 v0 v1 v2 v3
    have h15 : (fun (v0 : Int) (v1 : Int) (v2 : Int) (v3 : List (ByteArray × (Int × (Int × ByteArray)))) => loF tab (C44 sz g) lv44 (decG rs44 os44) Tryd.f44 kx44 m 15 (st44_15 v0 v1 v2 v3)) = ((l44 sz g) m).2.1 := by funext v0 v1 v2 v3; exact ih.2.1 v0 v1 v2 v3
    have h33 : (fun (v0 : Int) (v1 : Int) (v2 : Int) (v3 : Int) (v4 : Int) (v5 : Int) (v6 : Int) (v7 : Int) (v8 : List (ByteArray × (Int × (Int × ByteArray)))) => loF tab (C44 sz g) lv44 (decG rs44 os44) Tryd.f44 kx44 m 33 (st44_33 v0 v1 v2 v3 v4 v5 v6 v7 v8)) = ((l44 sz g) m).2.2.1 := by funext v0 v1 v2 v3 v4 v5 v6 v7 v8; exact ih.2.2.1 v0 v1 v2 v3 v4 v5 v6 v7 v8
    have h9 : (fun (v0 : Int) (v1 : Int) (v2 : List (ByteArray × (Int × (Int × ByteArray)))) => loF tab (C44 sz g) lv44 (decG rs44 os44) Tryd.f44 kx44 m 9 (st44_9 v0 v1 v2)) = ((l44 sz g) m).2.2.2.1 := by funext v0 v1 v2; exact ih.2.2.2.1 v0 v1 v2
    have h21 : (fun (v0 : Int) (v1 : Int) (v2 : List (ByteArray × (Int × (Int × ByteArray)))) => loF tab (C44 sz g) lv44 (decG rs44 os44) Tryd.f44 kx44 m 21 (st44_21 v0 v1 v2)) = ((l44 sz g) m).2.2.2.2 := by funext v0 v1 v2; exact ih.2.2.2.2 v0 v1 v2
    exact ((M44_ok sz g) (loF tab (C44 sz g) lv44 (decG rs44 os44) Tryd.f44 kx44 m) x2 x3 x4 y1).trans (congrFun (congrFun (congrFun (congrFun (congr (congr (congr (congr (congrArg (M44 sz g) h3) h15) h33) h9) h21) x2) x3) x4) y1)
theorem fn44 (sz : Int) (g : (Int → Int → Int → List K.Attr → List K.Attr)) {G : GB} (hC : COk Tryd.prog G (C44 sz g)) (m : Nat) (x2 : Int) (x3 : Int) (x4 : Int) (y1 : (List (ByteArray × (Int × (Int × ByteArray))))) (y : (Bool × ((List (ByteArray × (Int × (Int × ByteArray)))) × Bool))) (h : (F44 sz g) m x2 x3 x4 y1 = some y) : FnR Tryd.prog G 44 [.l (.rs 1000), canon false (.int .i64) x2, canon false (.int .i64) x3, canon false (.int .i64) x4, .fn 24 []] [(1000, Os.ob (.row 37 (.prod .str (.prod (.int .i64) (.prod (.int .i64) .str)))) y1)] (fun v hout => decG rs44 os44 v hout = some y) :=
  callF_sound (Lv := lv44) (n := m) (kx := kx44) follows tab_ok hC Tryd.func44 (((F44_ok sz g) m x2 x3 x4 y1).trans h)
theorem F44_mono (sz : Int) (g : (Int → Int → Int → List K.Attr → List K.Attr)) {m m' : Nat} (hm : m ≤ m') (x2 : Int) (x3 : Int) (x4 : Int) (y1 : (List (ByteArray × (Int × (Int × ByteArray))))) {y : (Bool × ((List (ByteArray × (Int × (Int × ByteArray)))) × Bool))} (h : (F44 sz g) m x2 x3 x4 y1 = some y) : (F44 sz g) m' x2 x3 x4 y1 = some y := ((F44_ok sz g) m' x2 x3 x4 y1).symm.trans (callF_mono hm (((F44_ok sz g) m x2 x3 x4 y1).trans h))
theorem ent44 : Ent Tryd.prog 44 := ⟨_, Tryd.func44, by kernel_rfl, by kernel_rfl⟩
theorem C44_ok (sz : Int) (g : (Int → Int → Int → List K.Attr → List K.Attr)) {G : GB} (h24 : RowOk Tryd.prog G 24 sp24) (h55 : RowOk Tryd.prog G 55 sp55) (h44 : RowOk Tryd.prog G 44 (sp44 sz g)) : COk Tryd.prog G (C44 sz g) := tabC_ok (by
  intro p hp
  simp only [List.mem_cons, List.not_mem_nil, or_false] at hp
  rcases hp with rfl | rfl | rfl
  · exact h24
  · exact h55
  · exact h44
)
end Go.Proofs.YtopplbiadpcalaaDoor.U

/- slices' symMerge: it ends, and no cell is lost. -/
namespace Go.Proofs.YtopplbiadpcalaaDoor.U
open Go Go.Proofs.YtopplbiadpcalaaDoor.K

theorem half_eq (a b : Int) (h : 0 ≤ a ∧ 0 ≤ b ∧ a ≤ 1099511627776 ∧ b ≤ 1099511627776) : IntKind.i64.wrap ((IntKind.u64.wrap (IntKind.i64.wrap (a + b))).fdiv ((2 : Int) ^ min (Int.toNat (1 : Int)) (64 : Nat))) = (a + b) / 2 := by
  rw [w64 (n := a + b) (by omega), wu64 (by omega), show ((2 : Int) ^ min (Int.toNat (1 : Int)) (64 : Nat)) = 2 from rfl, Int.fdiv_eq_ediv_of_nonneg _ (by decide), w64 (by omega)]
/-- It ends, with so many cells. -/
def Ends (f : Nat → RA) (n : Nat) : Prop := ∃ k y', f k = some (true, (y', true)) ∧ y'.length = n
def swB (j : Nat) (y : List Attr) : List Attr := (y.set j (y.getD (j + 1) (dfl (Kn.str.prod ((Kn.int IntKind.i64).prod ((Kn.int IntKind.i64).prod Kn.str)))))).set (j + 1) (y.getD j (dfl (Kn.str.prod ((Kn.int IntKind.i64).prod ((Kn.int IntKind.i64).prod Kn.str)))))
theorem swB_len (j : Nat) (y : List Attr) : (swB j y).length = y.length := by unfold swB; simp only [List.length_set]
section
variable {sz : Int} {g : Int → Int → Int → List Attr → List Attr}
theorem s9 (v0 : Int) (j : Nat) (y : List Attr) (h : (j : Int) < v0 - 1 ∧ v0 ≤ y.length ∧ (y.length : Int) ≤ 1099511627776) (k : Nat) : (l44 sz g (k + 1)).2.2.2.1 v0 (j : Int) y = (l44 sz g k).2.2.2.1 v0 ((j + 1 : Nat) : Int) (swB j y) := by
  show B44_9 sz g (l44 sz g k).1 (l44 sz g k).2.1 (l44 sz g k).2.2.1 (l44 sz g k).2.2.2.1 (l44 sz g k).2.2.2.2 v0 (j : Int) y = _
  unfold B44_9
  have w : IntKind.i64.wrap (v0 - 1) = v0 - 1 := w64 (by omega)
  have w2 : IntKind.i64.wrap ((j : Int) + 1) = ((j + 1 : Nat) : Int) := by rw [w64 (by omega)]; rfl
  simp only [w, w2, cond_dec, and_dec, List.length_set]
  rw [if_pos h.1, if_pos (by omega), if_pos (by omega), if_pos (by omega), if_pos (by omega)]
  rfl
theorem s9' (v0 v1 : Int) (y : List Attr) (h : ¬ v1 < v0 - 1 ∧ -1099511627776 ≤ v0 ∧ v0 ≤ 1099511627776) (k : Nat) : (l44 sz g (k + 1)).2.2.2.1 v0 v1 y = some (true, (y, true)) := by
  show B44_9 sz g (l44 sz g k).1 (l44 sz g k).2.1 (l44 sz g k).2.2.1 (l44 sz g k).2.2.2.1 (l44 sz g k).2.2.2.2 v0 v1 y = _
  unfold B44_9
  have w : IntKind.i64.wrap (v0 - 1) = v0 - 1 := w64 (by omega)
  rw [w, decide_eq_false h.1, cond_false]
theorem e9 (v0 : Int) : ∀ (n j : Nat) (y : List Attr), v0 ≤ (j : Int) + n → v0 ≤ y.length → (y.length : Int) ≤ 1099511627776 → -1099511627776 ≤ v0 → Ends (fun k => (l44 sz g k).2.2.2.1 v0 (j : Int) y) y.length := by
  intro n
  induction n with
  | zero => intro j y hn h2 h3 h4; exact ⟨1, y, s9' v0 j y (by omega) 0, rfl⟩
  | succ n ih =>
    intro j y hn h2 h3 h4
    by_cases hlt : (j : Int) < v0 - 1
    · obtain ⟨k, y2, h9, h10⟩ := ih (j + 1) (swB j y) (by omega) (by rw [swB_len]; exact h2) (by rw [swB_len]; exact h3) h4
      exact ⟨k + 1, y2, (s9 v0 j y (by omega) k).trans h9, by rw [h10, swB_len]⟩
    · exact ⟨1, y, s9' v0 j y (by omega) 0, rfl⟩
theorem s21 (v0 : Int) (j : Nat) (y : List Attr) (h : v0 ≤ j ∧ (j : Int) + 1 < y.length ∧ (y.length : Int) ≤ 1099511627776) (k : Nat) : (l44 sz g (k + 1)).2.2.2.2 v0 ((j + 1 : Nat) : Int) y = (l44 sz g k).2.2.2.2 v0 (j : Int) (swA j y) := by
  show B44_21 sz g (l44 sz g k).1 (l44 sz g k).2.1 (l44 sz g k).2.2.1 (l44 sz g k).2.2.2.1 (l44 sz g k).2.2.2.2 v0 ((j + 1 : Nat) : Int) y = _
  unfold B44_21
  have w : IntKind.i64.wrap (((j + 1 : Nat) : Int) - 1) = (j : Int) := by rw [w64 (by omega)]; omega
  simp only [w, cond_dec, and_dec, List.length_set]
  rw [if_pos (by omega), if_pos (by omega), if_pos (by omega), if_pos (by omega), if_pos (by omega)]
  rfl
theorem s21' (v0 v1 : Int) (y : List Attr) (h : ¬ v1 > v0) (k : Nat) : (l44 sz g (k + 1)).2.2.2.2 v0 v1 y = some (true, (y, true)) := by
  show B44_21 sz g (l44 sz g k).1 (l44 sz g k).2.1 (l44 sz g k).2.2.1 (l44 sz g k).2.2.2.1 (l44 sz g k).2.2.2.2 v0 v1 y = _
  unfold B44_21
  rw [decide_eq_false h, cond_false]
theorem e21 (v0 : Int) (h0 : 0 ≤ v0) : ∀ (j : Nat) (y : List Attr), (j : Int) < y.length → (y.length : Int) ≤ 1099511627776 → Ends (fun k => (l44 sz g k).2.2.2.2 v0 (j : Int) y) y.length := by
  intro j
  induction j with
  | zero => intro y h1 h2; exact ⟨1, y, s21' v0 _ y (by omega) 0, rfl⟩
  | succ j ih =>
    intro y h1 h2
    by_cases hlt : v0 ≤ j
    · obtain ⟨k, y2, h9, h10⟩ := ih (swA j y) (by rw [swA_len]; omega) (by rw [swA_len]; exact h2)
      exact ⟨k + 1, y2, (s21 v0 j y (by omega) k).trans h9, by rw [h10, swA_len]⟩
    · exact ⟨1, y, s21' v0 _ y (by omega) 0, rfl⟩
theorem s3 (a : Nat) (i j : Int) (y : List Attr) (h : (a : Int) < y.length ∧ 0 ≤ i ∧ i < j ∧ j ≤ y.length ∧ (y.length : Int) ≤ 1099511627776) : (∀ k, (l44 sz g (k + 1)).1 (a : Int) i j y = (l44 sz g k).1 (a : Int) ((i + j) / 2 + 1) j y) ∨ (∀ k, (l44 sz g (k + 1)).1 (a : Int) i j y = (l44 sz g k).1 (a : Int) i ((i + j) / 2) y) := by
  have w : IntKind.i64.wrap ((i + j) / 2 + 1) = (i + j) / 2 + 1 := w64 (by omega)
  by_cases hc : cmpS (nameAt y ((i + j) / 2).toNat) (nameAt y (Int.toNat (a : Int))) < 0
  · left
    intro k
    show B44_3 sz g (l44 sz g k).1 (l44 sz g k).2.1 (l44 sz g k).2.2.1 (l44 sz g k).2.2.2.1 (l44 sz g k).2.2.2.2 (a : Int) i j y = _
    unfold B44_3
    simp only [half_eq i j (by omega), w, cond_dec, and_dec, not_dec]
    rw [if_pos h.2.2.1, if_pos (by omega), if_pos (by omega)]
    exact if_pos hc
  · right
    intro k
    show B44_3 sz g (l44 sz g k).1 (l44 sz g k).2.1 (l44 sz g k).2.2.1 (l44 sz g k).2.2.2.1 (l44 sz g k).2.2.2.2 (a : Int) i j y = _
    unfold B44_3
    simp only [half_eq i j (by omega), w, cond_dec, and_dec, not_dec]
    rw [if_pos h.2.2.1, if_pos (by omega), if_pos (by omega)]
    exact if_neg hc
theorem s3' (a i j : Int) (y : List Attr) (h : ¬ i < j) (k : Nat) : (l44 sz g (k + 1)).1 a i j y = (l44 sz g k).2.2.2.1 i a y := by
  show B44_3 sz g (l44 sz g k).1 (l44 sz g k).2.1 (l44 sz g k).2.2.1 (l44 sz g k).2.2.2.1 (l44 sz g k).2.2.2.2 a i j y = _
  unfold B44_3
  rw [decide_eq_false h, cond_false]
theorem e3 (a : Nat) : ∀ (n : Nat) (i j : Int) (y : List Attr), j - i ≤ n → 0 ≤ i → i ≤ j → j ≤ y.length → (a : Int) < y.length → (y.length : Int) ≤ 1099511627776 → Ends (fun k => (l44 sz g k).1 (a : Int) i j y) y.length := by
  intro n
  induction n with
  | zero =>
    intro i j y hn h0 hij h1 h2 h3
    obtain ⟨k, y2, h4, h5⟩ := e9 (sz := sz) (g := g) i i.toNat a y (by omega) (by omega) h3 (by omega)
    exact ⟨k + 1, y2, (s3' (a : Int) i j y (by omega) k).trans h4, h5⟩
  | succ n ih =>
    intro i j y hn h0 hij h1 h2 h3
    by_cases hlt : i < j
    · rcases s3 (sz := sz) (g := g) a i j y (by omega) with h6 | h6
      · obtain ⟨k, y1, h4, h5⟩ := ih ((i + j) / 2 + 1) j y (by omega) (by omega) (by omega) h1 h2 h3
        exact ⟨k + 1, y1, (h6 k).trans h4, h5⟩
      · obtain ⟨k, y1, h4, h5⟩ := ih i ((i + j) / 2) y (by omega) h0 (by omega) (by omega) h2 h3
        exact ⟨k + 1, y1, (h6 k).trans h4, h5⟩
    · obtain ⟨k, y2, h4, h5⟩ := e9 (sz := sz) (g := g) i i.toNat a y (by omega) (by omega) h3 (by omega)
      exact ⟨k + 1, y2, (s3' (a : Int) i j y (by omega) k).trans h4, h5⟩
theorem s15 (a : Nat) (i j : Int) (y : List Attr) (h : (a : Int) < y.length ∧ 0 ≤ i ∧ i < j ∧ j ≤ y.length ∧ (y.length : Int) ≤ 1099511627776) : (∀ k, (l44 sz g (k + 1)).2.1 (a : Int) i j y = (l44 sz g k).2.1 (a : Int) ((i + j) / 2 + 1) j y) ∨ (∀ k, (l44 sz g (k + 1)).2.1 (a : Int) i j y = (l44 sz g k).2.1 (a : Int) i ((i + j) / 2) y) := by
  have w : IntKind.i64.wrap ((i + j) / 2 + 1) = (i + j) / 2 + 1 := w64 (by omega)
  by_cases hc : ¬ cmpS (nameAt y (Int.toNat (a : Int))) (nameAt y ((i + j) / 2).toNat) < 0
  · left
    intro k
    show B44_15 sz g (l44 sz g k).1 (l44 sz g k).2.1 (l44 sz g k).2.2.1 (l44 sz g k).2.2.2.1 (l44 sz g k).2.2.2.2 (a : Int) i j y = _
    unfold B44_15
    simp only [half_eq i j (by omega), w, cond_dec, and_dec, not_dec]
    rw [if_pos h.2.2.1, if_pos (by omega), if_pos (by omega)]
    exact if_pos hc
  · right
    intro k
    show B44_15 sz g (l44 sz g k).1 (l44 sz g k).2.1 (l44 sz g k).2.2.1 (l44 sz g k).2.2.2.1 (l44 sz g k).2.2.2.2 (a : Int) i j y = _
    unfold B44_15
    simp only [half_eq i j (by omega), w, cond_dec, and_dec, not_dec]
    rw [if_pos h.2.2.1, if_pos (by omega), if_pos (by omega)]
    exact if_neg hc
theorem s15' (a i j : Int) (y : List Attr) (h : ¬ i < j) (k : Nat) : (l44 sz g (k + 1)).2.1 a i j y = (l44 sz g k).2.2.2.2 i a y := by
  show B44_15 sz g (l44 sz g k).1 (l44 sz g k).2.1 (l44 sz g k).2.2.1 (l44 sz g k).2.2.2.1 (l44 sz g k).2.2.2.2 a i j y = _
  unfold B44_15
  rw [decide_eq_false h, cond_false]
theorem e15 (a : Nat) : ∀ (n : Nat) (i j : Int) (y : List Attr), j - i ≤ n → 0 ≤ i → i ≤ j → j ≤ y.length → (a : Int) < y.length → (y.length : Int) ≤ 1099511627776 → Ends (fun k => (l44 sz g k).2.1 (a : Int) i j y) y.length := by
  intro n
  induction n with
  | zero =>
    intro i j y hn h0 hij h1 h2 h3
    obtain ⟨k, y2, h4, h5⟩ := e21 (sz := sz) (g := g) i h0 a y h2 h3
    exact ⟨k + 1, y2, (s15' (a : Int) i j y (by omega) k).trans h4, h5⟩
  | succ n ih =>
    intro i j y hn h0 hij h1 h2 h3
    by_cases hlt : i < j
    · rcases s15 (sz := sz) (g := g) a i j y (by omega) with h6 | h6
      · obtain ⟨k, y1, h4, h5⟩ := ih ((i + j) / 2 + 1) j y (by omega) (by omega) (by omega) h1 h2 h3
        exact ⟨k + 1, y1, (h6 k).trans h4, h5⟩
      · obtain ⟨k, y1, h4, h5⟩ := ih i ((i + j) / 2) y (by omega) h0 (by omega) (by omega) h2 h3
        exact ⟨k + 1, y1, (h6 k).trans h4, h5⟩
    · obtain ⟨k, y2, h4, h5⟩ := e21 (sz := sz) (g := g) i h0 a y h2 h3
      exact ⟨k + 1, y2, (s15' (a : Int) i j y (by omega) k).trans h4, h5⟩
theorem s33 (a m b mid n s r p : Int) (y : List Attr) (h : 0 ≤ a ∧ a ≤ s ∧ s < r ∧ r ≤ mid ∧ r ≤ m ∧ n = mid + m ∧ p = n - 1 ∧ n - s ≤ b ∧ b ≤ y.length ∧ m < b ∧ mid < b ∧ (y.length : Int) ≤ 1099511627776) :
    (∀ k, (l44 sz g (k + 1)).2.2.1 a m b mid n s r p y = (l44 sz g k).2.2.1 a m b mid n ((s + r) / 2 + 1) r p y) ∨ (∀ k, (l44 sz g (k + 1)).2.2.1 a m b mid n s r p y = (l44 sz g k).2.2.1 a m b mid n s ((s + r) / 2) p y) := by
  have w : IntKind.i64.wrap ((s + r) / 2 + 1) = (s + r) / 2 + 1 := w64 (by omega)
  have w2 : IntKind.i64.wrap (p - (s + r) / 2) = p - (s + r) / 2 := w64 (by omega)
  by_cases hc : ¬ cmpS (nameAt y (p - (s + r) / 2).toNat) (nameAt y ((s + r) / 2).toNat) < 0
  · left
    intro k
    show B44_33 sz g (l44 sz g k).1 (l44 sz g k).2.1 (l44 sz g k).2.2.1 (l44 sz g k).2.2.2.1 (l44 sz g k).2.2.2.2 a m b mid n s r p y = _
    unfold B44_33
    rw [decide_eq_true h.2.2.1, cond_true]
    simp only [half_eq s r (by omega), w, w2]
    rw [and_dec, and_dec, not_dec, cond_dec, cond_dec, cond_dec, if_pos (by omega), if_pos (by omega)]
    exact if_pos hc
  · right
    intro k
    show B44_33 sz g (l44 sz g k).1 (l44 sz g k).2.1 (l44 sz g k).2.2.1 (l44 sz g k).2.2.2.1 (l44 sz g k).2.2.2.2 a m b mid n s r p y = _
    unfold B44_33
    rw [decide_eq_true h.2.2.1, cond_true]
    simp only [half_eq s r (by omega), w, w2]
    rw [and_dec, and_dec, not_dec, cond_dec, cond_dec, cond_dec, if_pos (by omega), if_pos (by omega)]
    exact if_neg hc
theorem s33' (hg : ∀ a m b y, smOk sz a m b y = true → (g a m b y).length = y.length) (a m b mid n s r p : Int) (y : List Attr) (h : 0 ≤ a ∧ a ≤ s ∧ s = r ∧ r ≤ mid ∧ r ≤ m ∧ n = mid + m ∧ n - s ≤ b ∧ b ≤ y.length ∧ m < b ∧ a < mid ∧ mid < b ∧ b - a ≤ sz + 1 ∧ (y.length : Int) ≤ 1099511627776) (k : Nat) :
    ∃ y', (l44 sz g (k + 1)).2.2.1 a m b mid n s r p y = some (true, (y', true)) ∧ y'.length = y.length := by
  show ∃ y', B44_33 sz g (l44 sz g k).1 (l44 sz g k).2.1 (l44 sz g k).2.2.1 (l44 sz g k).2.2.2.1 (l44 sz g k).2.2.2.2 a m b mid n s r p y = _ ∧ _
  unfold B44_33
  rw [decide_eq_false (show ¬ s < r by omega), cond_false]
  have w : IntKind.i64.wrap (n - s) = n - s := w64 (by omega)
  have hg' : ∀ (a m b : Int) (z : List Attr), z.length = y.length → (0 ≤ a ∧ a < m ∧ m < b ∧ b ≤ y.length ∧ b - a ≤ sz) → smOk sz a m b z = true ∧ (g a m b z).length = y.length := fun a m b z hz hh => by
    have : smOk sz a m b z = true := decide_eq_true (by rw [hz]; omega)
    exact ⟨this, by rw [hg a m b z this, hz]⟩
  simp only [w]
  have tail : ∀ z : List Attr, z.length = y.length → ∃ y', cond (decide (mid < n - s)) (cond (decide (n - s < b)) (cond (smOk sz mid (n - s) b z) (some (true, (g mid (n - s) b z, true))) none) (some (true, (z, true)))) (some (true, (z, true))) = some (true, (y', true)) ∧ y'.length = y.length := by
    intro z hz
    by_cases h1 : mid < n - s
    · rw [decide_eq_true h1, cond_true]
      by_cases h2 : n - s < b
      · obtain ⟨h3, h4⟩ := hg' mid (n - s) b z hz (by omega)
        rw [decide_eq_true h2, cond_true, h3, cond_true]
        exact ⟨_, rfl, h4⟩
      · rw [decide_eq_false h2, cond_false]
        exact ⟨_, rfl, hz⟩
    · rw [decide_eq_false h1, cond_false]
      exact ⟨_, rfl, hz⟩
  have mids : ∀ z : List Attr, z.length = y.length → ∃ y', cond (decide (a < s)) (cond (decide (s < mid)) (cond (smOk sz a s mid z) (cond (decide (mid < n - s)) (cond (decide (n - s < b)) (cond (smOk sz mid (n - s) b (g a s mid z)) (some (true, (g mid (n - s) b (g a s mid z), true))) none) (some (true, (g a s mid z, true)))) (some (true, (g a s mid z, true)))) none)
      (cond (decide (mid < n - s)) (cond (decide (n - s < b)) (cond (smOk sz mid (n - s) b z) (some (true, (g mid (n - s) b z, true))) none) (some (true, (z, true)))) (some (true, (z, true)))))
      (cond (decide (mid < n - s)) (cond (decide (n - s < b)) (cond (smOk sz mid (n - s) b z) (some (true, (g mid (n - s) b z, true))) none) (some (true, (z, true)))) (some (true, (z, true)))) = some (true, (y', true)) ∧ y'.length = y.length := by
    intro z hz
    by_cases h1 : a < s
    · rw [decide_eq_true h1, cond_true]
      by_cases h2 : s < mid
      · obtain ⟨h3, h4⟩ := hg' a s mid z hz (by omega)
        rw [decide_eq_true h2, cond_true, h3, cond_true]
        exact tail _ h4
      · rw [decide_eq_false h2, cond_false]
        exact tail _ hz
    · rw [decide_eq_false h1, cond_false]
      exact tail _ hz
  by_cases h1 : s < m
  · rw [decide_eq_true h1, cond_true]
    by_cases h2 : m < n - s
    · rw [decide_eq_true h2, cond_true, show rotOk s m (n - s) y = true from decide_eq_true (by omega), cond_true]
      exact mids _ (rotR_some s m (n - s) y (by omega)).2
    · rw [decide_eq_false h2, cond_false]
      exact mids y rfl
  · rw [decide_eq_false h1, cond_false]
    exact mids y rfl
theorem e33 (hg : ∀ a m b y, smOk sz a m b y = true → (g a m b y).length = y.length) (a m b mid n p : Int) : ∀ (q : Nat) (s r : Int) (y : List Attr), r - s ≤ q → (0 ≤ a ∧ a ≤ s ∧ s ≤ r ∧ r ≤ mid ∧ r ≤ m ∧ n = mid + m ∧ p = n - 1 ∧ n - s ≤ b ∧ b ≤ y.length ∧ m < b ∧ a < mid ∧ mid < b ∧ b - a ≤ sz + 1 ∧ (y.length : Int) ≤ 1099511627776) →
    Ends (fun k => (l44 sz g k).2.2.1 a m b mid n s r p y) y.length := by
  intro q
  induction q with
  | zero =>
    intro s r y hn h
    obtain ⟨y', h1, h2⟩ := s33' hg a m b mid n s r p y (by omega) 0
    exact ⟨1, y', h1, h2⟩
  | succ q ih =>
    intro s r y hn h
    by_cases hlt : s < r
    · rcases s33 (sz := sz) (g := g) a m b mid n s r p y (by omega) with h6 | h6
      · obtain ⟨k, y1, h4, h5⟩ := ih ((s + r) / 2 + 1) r y (by omega) (by omega)
        exact ⟨k + 1, y1, (h6 k).trans h4, h5⟩
      · obtain ⟨k, y1, h4, h5⟩ := ih s ((s + r) / 2) y (by omega) (by omega)
        exact ⟨k + 1, y1, (h6 k).trans h4, h5⟩
    · obtain ⟨y', h1, h2⟩ := s33' hg a m b mid n s r p y (by omega) 0
      exact ⟨1, y', h1, h2⟩
theorem merge_ends (hg : ∀ a m b y, smOk sz a m b y = true → (g a m b y).length = y.length) (a m b : Int) (y : List Attr) (h : 0 ≤ a ∧ a < m ∧ m < b ∧ b ≤ y.length ∧ b - a ≤ sz + 1 ∧ (y.length : Int) ≤ 1099511627776) : Ends (fun k => F44 sz g k a m b y) y.length := by
  show Ends (fun k => M44 sz g (l44 sz g k).1 (l44 sz g k).2.1 (l44 sz g k).2.2.1 (l44 sz g k).2.2.2.1 (l44 sz g k).2.2.2.2 a m b y) y.length
  unfold M44
  have w1 : IntKind.i64.wrap (m - a) = m - a := w64 (by omega)
  have w2 : IntKind.i64.wrap (b - m) = b - m := w64 (by omega)
  have w3 : IntKind.i64.wrap ((a + b) / 2 + m) = (a + b) / 2 + m := w64 (by omega)
  have w4 : IntKind.i64.wrap ((a + b) / 2 + m - b) = (a + b) / 2 + m - b := w64 (by omega)
  have w5 : IntKind.i64.wrap ((a + b) / 2 + m - 1) = (a + b) / 2 + m - 1 := w64 (by omega)
  simp only [half_eq a b (by omega), w1, w2, w3, w4, w5, cond_dec, beq_int]
  by_cases h1 : m - a = 1
  · simp only [if_pos h1]
    have := e3 (sz := sz) (g := g) a.toNat (b - m).toNat m b y (by omega) (by omega) (by omega) (by omega) (by omega) (by omega)
    rwa [show ((a.toNat : Nat) : Int) = a by omega] at this
  · simp only [if_neg h1]
    by_cases h2 : b - m = 1
    · simp only [if_pos h2]
      have := e15 (sz := sz) (g := g) m.toNat (m - a).toNat a m y (by omega) (by omega) (by omega) (by omega) (by omega) (by omega)
      rwa [show ((m.toNat : Nat) : Int) = m by omega] at this
    · simp only [if_neg h2]
      by_cases h3 : m > (a + b) / 2
      · simp only [if_pos h3]
        exact e33 hg a m b ((a + b) / 2) ((a + b) / 2 + m) ((a + b) / 2 + m - 1) (b - a).toNat ((a + b) / 2 + m - b) ((a + b) / 2) y (by omega) (by omega)
      · simp only [if_neg h3]
        exact e33 hg a m b ((a + b) / 2) ((a + b) / 2 + m) ((a + b) / 2 + m - 1) (b - a).toNat a m y (by omega) (by omega)
end
end Go.Proofs.YtopplbiadpcalaaDoor.U
namespace Go.Proofs.YtopplbiadpcalaaDoor.K
open Go Go.Proofs.YtopplbiadpcalaaDoor.U
/-- What symMerge leaves, of so deep a call. -/
noncomputable def smv : Nat → Int → Int → Int → List Attr → List Attr
  | 0, _, _, _, y => y
  | n + 1, a, m, b, y => outOf (fun k => F44 (n : Int) (smv n) k a m b y)
theorem smv_some : ∀ n : Nat, (∀ a m b y, smOk n a m b y = true → (smv n a m b y).length = y.length) ∧ ∀ a m b y, smOk (n + 1 : Nat) a m b y = true → ∃ k, F44 (n : Int) (smv n) k a m b y = some (true, (smv (n + 1) a m b y, true)) := by
  intro n
  induction n with
  | zero =>
    have h0 : ∀ a m b (y : List Attr), smOk ((0 : Nat) : Int) a m b y = true → (smv 0 a m b y).length = y.length := fun _ _ _ _ _ => rfl
    refine ⟨h0, fun a m b y h => ?_⟩
    have h := of_decide_eq_true h
    obtain ⟨k, y', h1, h2⟩ := merge_ends (sz := ((0 : Nat) : Int)) (g := smv 0) h0 a m b y (by omega)
    exact ⟨k, (outOf_some (F := fun k => F44 ((0 : Nat) : Int) (smv 0) k a m b y) (fun _ _ _ hm h => F44_mono _ _ hm a m b y h) h1).1⟩
  | succ n ih =>
    obtain ⟨ih1, ih2⟩ := ih
    have hl : ∀ a m b y, smOk (n + 1 : Nat) a m b y = true → (smv (n + 1) a m b y).length = y.length := fun a m b y h => by
      have h := of_decide_eq_true h
      obtain ⟨k, y', h1, h2⟩ := merge_ends (sz := (n : Int)) (g := smv n) ih1 a m b y (by omega)
      have := (outOf_some (F := fun k => F44 (n : Int) (smv n) k a m b y) (fun _ _ _ hm h => F44_mono _ _ hm a m b y h) h1).2
      show (outOf _).length = _
      rw [this, h2]
    refine ⟨hl, fun a m b y h => ?_⟩
    have h := of_decide_eq_true h
    obtain ⟨k, y', h1, h2⟩ := merge_ends (sz := ((n + 1 : Nat) : Int)) (g := smv (n + 1)) hl a m b y (by omega)
    exact ⟨k, (outOf_some (F := fun k => F44 ((n + 1 : Nat) : Int) (smv (n + 1)) k a m b y) (fun _ _ _ hm h => F44_mono _ _ hm a m b y h) h1).1⟩
end Go.Proofs.YtopplbiadpcalaaDoor.K

/- slices' symMerge: its row, of calls however deep. -/
namespace Go.Proofs.YtopplbiadpcalaaDoor.K
open Go Go.Proofs.YtopplbiadpcalaaDoor.U
noncomputable def smR (a m b : Int) (y : List Attr) : List Attr := smv 1099511627776 a m b y
def smSz : Int := ((1099511627776 : Nat) : Int)
def mergeOk (a m b : Int) (y : List Attr) : Bool := decide (0 ≤ a ∧ a < m ∧ m < b ∧ b ≤ y.length ∧ (y.length : Int) ≤ 1099511627776)
end Go.Proofs.YtopplbiadpcalaaDoor.K
namespace Go.Proofs.YtopplbiadpcalaaDoor.U
open Go Go.Proofs.YtopplbiadpcalaaDoor.K
noncomputable def sp44x : Sp := sp44 smSz smR
theorem row_merge {G : GB} (h1 : RowOk Tryd.prog G 24 sp24) (h2 : RowOk Tryd.prog G 55 sp55) : ∀ n : Nat, RowOk Tryd.prog G 44 (sp44 (n : Int) (smv n)) := by
  intro n
  induction n with
  | zero =>
    refine Sp.ofG_ok ent44 (by decide) (fun x2 x3 x4 y1 h => ?_)
    have h : smOk ((0 : Nat) : Int) x2 x3 x4 y1 = true := h
    have h := of_decide_eq_true h
    exact absurd h.1 (by obtain ⟨a, b, c, d, e, f⟩ := h; intro _; exact absurd (Int.lt_trans b c) (by exact fun hh => absurd (Int.sub_pos_of_lt hh) (Int.not_lt.2 e)))
  | succ n ih =>
    refine Sp.ofG_ok ent44 (by decide) (fun x2 x3 x4 y1 h => ?_)
    obtain ⟨k, hk⟩ := (smv_some n).2 x2 x3 x4 y1 h
    exact fn44 (n : Int) (smv n) (C44_ok (n : Int) (smv n) h1 h2 ih) k x2 x3 x4 y1 _ hk
theorem row_mergex {G : GB} (h1 : RowOk Tryd.prog G 24 sp24) (h2 : RowOk Tryd.prog G 55 sp55) : RowOk Tryd.prog G 44 sp44x :=
  row_merge h1 h2 1099511627776
theorem smR_len (a m b : Int) (y : List Attr) (h : smOk smSz a m b y = true) : (smR a m b y).length = y.length := (smv_some 1099511627776).1 a m b y h
end Go.Proofs.YtopplbiadpcalaaDoor.U

/- slices.stableCmpFunc[eyrie/api.Attr] (function 35): what it computes, as a plain function: printed by a program of ours off the small machine, checked by the kernel. -/
namespace Go.Proofs.YtopplbiadpcalaaDoor.U
open Go
def hd35 : List Hd := [.row, .val ⟨false, (.int .i64)⟩, .fn 24]
def os35 : List Os := [.row 37 (.prod .str (.prod (.int .i64) (.prod (.int .i64) .str)))]
def rs35 : List Rc := []
def lv35 : Live := fun i => cond (Nat.beq i 2) (some ⟨[(0, [.own 1000 (.prod .str (.prod (.int .i64) (.prod (.int .i64) .str))) 37]), (1, []), (2, []), (6, []), (7, []), (8, [])], []⟩) (cond (Nat.beq i 7) (some ⟨[(0, [.own 1000 (.prod .str (.prod (.int .i64) (.prod (.int .i64) .str))) 37]), (1, []), (2, []), (6, [])], []⟩) (cond (Nat.beq i 9) (some ⟨[(0, [.own 1000 (.prod .str (.prod (.int .i64) (.prod (.int .i64) .str))) 37]), (1, []), (2, []), (6, []), (7, []), (8, [])], []⟩) (none)))
def kx35 : Keep := ⟨[(1000, [.row 1000 (.prod .str (.prod (.int .i64) (.prod (.int .i64) .str))) 37])], []⟩
noncomputable def C35 : Nat → Option Sp := tabC [(43, sp43), (44, sp44x)]
set_option maxRecDepth 100000
def st35_2 (v0 : Int) (v1 : Int) (v2 : Int) (v3 : Int) (v4 : List (ByteArray × (Int × (Int × ByteArray)))) : St := ⟨(63 : Nat), [((0 : Nat), .l (.rs (1000 : Nat))), ((1 : Nat), .l (.int IntKind.i64 v0)), ((2 : Nat), .fn (24 : Nat) []), ((6 : Nat), .l (.int IntKind.i64 v1)), ((7 : Nat), .l (.int IntKind.i64 v2)), ((8 : Nat), .l (.int IntKind.i64 v3))], [((1000 : Nat), .row (Kn.str.prod ((Kn.int IntKind.i64).prod ((Kn.int IntKind.i64).prod Kn.str))) (37 : Nat) v4 (none) false)], [(1000 : Nat)]⟩
def st35_7 (v0 : Int) (v1 : Int) (v2 : List (ByteArray × (Int × (Int × ByteArray)))) : St := ⟨(63 : Nat), [((0 : Nat), .l (.rs (1000 : Nat))), ((1 : Nat), .l (.int IntKind.i64 v0)), ((2 : Nat), .fn (24 : Nat) []), ((6 : Nat), .l (.int IntKind.i64 v1))], [((1000 : Nat), .row (Kn.str.prod ((Kn.int IntKind.i64).prod ((Kn.int IntKind.i64).prod Kn.str))) (37 : Nat) v2 (none) false)], [(1000 : Nat)]⟩
def st35_9 (v0 : Int) (v1 : Int) (v2 : Int) (v3 : Int) (v4 : List (ByteArray × (Int × (Int × ByteArray)))) : St := ⟨(63 : Nat), [((0 : Nat), .l (.rs (1000 : Nat))), ((1 : Nat), .l (.int IntKind.i64 v0)), ((2 : Nat), .fn (24 : Nat) []), ((6 : Nat), .l (.int IntKind.i64 v1)), ((7 : Nat), .l (.int IntKind.i64 v2)), ((8 : Nat), .l (.int IntKind.i64 v3))], [((1000 : Nat), .row (Kn.str.prod ((Kn.int IntKind.i64).prod ((Kn.int IntKind.i64).prod Kn.str))) (37 : Nat) v4 (none) false)], [(1000 : Nat)]⟩
noncomputable def B35_2 (r2 : Int → Int → Int → Int → List (ByteArray × (Int × (Int × ByteArray))) → Option (Bool × ((List (ByteArray × (Int × (Int × ByteArray)))) × Bool))) (r7 : Int → Int → List (ByteArray × (Int × (Int × ByteArray))) → Option (Bool × ((List (ByteArray × (Int × (Int × ByteArray)))) × Bool))) (r9 : Int → Int → Int → Int → List (ByteArray × (Int × (Int × ByteArray))) → Option (Bool × ((List (ByteArray × (Int × (Int × ByteArray)))) × Bool))) (v0 : Int) (v1 : Int) (v2 : Int) (v3 : Int) (v4 : List (ByteArray × (Int × (Int × ByteArray)))) : Option (Bool × ((List (ByteArray × (Int × (Int × ByteArray)))) × Bool)) :=
 (cond (decide (v3 ≤ v0))
  (cond (K.insOk v2 v3 v4)
   (r2 (v0) (v1) (v3) (IntKind.i64.wrap (v3 + v1)) (K.insR v2 v3 v4))
   none)
  (cond (K.insOk v2 v0 v4)
   (r7 (v0) (v1) (K.insR v2 v0 v4))
   none))
noncomputable def B35_7 (r2 : Int → Int → Int → Int → List (ByteArray × (Int × (Int × ByteArray))) → Option (Bool × ((List (ByteArray × (Int × (Int × ByteArray)))) × Bool))) (r7 : Int → Int → List (ByteArray × (Int × (Int × ByteArray))) → Option (Bool × ((List (ByteArray × (Int × (Int × ByteArray)))) × Bool))) (r9 : Int → Int → Int → Int → List (ByteArray × (Int × (Int × ByteArray))) → Option (Bool × ((List (ByteArray × (Int × (Int × ByteArray)))) × Bool))) (v0 : Int) (v1 : Int) (v2 : List (ByteArray × (Int × (Int × ByteArray)))) : Option (Bool × ((List (ByteArray × (Int × (Int × ByteArray)))) × Bool)) :=
 (cond (decide (v1 < v0))
  (r9 (v0) (v1) ((0 : Int)) (IntKind.i64.wrap ((2 : Int) * v1)) (v2))
  (some ((true, v2, true))))
noncomputable def B35_9 (r2 : Int → Int → Int → Int → List (ByteArray × (Int × (Int × ByteArray))) → Option (Bool × ((List (ByteArray × (Int × (Int × ByteArray)))) × Bool))) (r7 : Int → Int → List (ByteArray × (Int × (Int × ByteArray))) → Option (Bool × ((List (ByteArray × (Int × (Int × ByteArray)))) × Bool))) (r9 : Int → Int → Int → Int → List (ByteArray × (Int × (Int × ByteArray))) → Option (Bool × ((List (ByteArray × (Int × (Int × ByteArray)))) × Bool))) (v0 : Int) (v1 : Int) (v2 : Int) (v3 : Int) (v4 : List (ByteArray × (Int × (Int × ByteArray)))) : Option (Bool × ((List (ByteArray × (Int × (Int × ByteArray)))) × Bool)) :=
 (cond (decide (v3 ≤ v0))
  (cond (K.smOk K.smSz v2 (IntKind.i64.wrap (v2 + v1)) v3 v4)
   (r9 (v0) (v1) (v3) (IntKind.i64.wrap (v3 + IntKind.i64.wrap ((2 : Int) * v1))) (K.smR v2 (IntKind.i64.wrap (v2 + v1)) v3 v4))
   none)
  (cond (decide (IntKind.i64.wrap (v2 + v1) < v0))
   (cond (K.smOk K.smSz v2 (IntKind.i64.wrap (v2 + v1)) v0 v4)
    (r7 (v0) (IntKind.i64.wrap (v1 * (2 : Int))) (K.smR v2 (IntKind.i64.wrap (v2 + v1)) v0 v4))
    none)
   (r7 (v0) (IntKind.i64.wrap (v1 * (2 : Int))) (v4))))
noncomputable def M35 (r2 : Int → Int → Int → Int → List (ByteArray × (Int × (Int × ByteArray))) → Option (Bool × ((List (ByteArray × (Int × (Int × ByteArray)))) × Bool))) (r7 : Int → Int → List (ByteArray × (Int × (Int × ByteArray))) → Option (Bool × ((List (ByteArray × (Int × (Int × ByteArray)))) × Bool))) (r9 : Int → Int → Int → Int → List (ByteArray × (Int × (Int × ByteArray))) → Option (Bool × ((List (ByteArray × (Int × (Int × ByteArray)))) × Bool))) (x2 : Int) (y1 : (List (ByteArray × (Int × (Int × ByteArray))))) : Option (Bool × ((List (ByteArray × (Int × (Int × ByteArray)))) × Bool)) :=
 (r2 (x2) ((20 : Int)) ((0 : Int)) ((20 : Int)) (y1))
theorem B35_2_ok (Lo : Nat → St → Option (Bool × ((List (ByteArray × (Int × (Int × ByteArray)))) × Bool))) (v0 : Int) (v1 : Int) (v2 : Int) (v3 : Int) (v4 : List (ByteArray × (Int × (Int × ByteArray)))) : roundG tab C35 lv35 (decG rs35 os35) Lo Tryd.f35 kx35 2 (st35_2 v0 v1 v2 v3 v4) = B35_2 (fun v0 v1 v2 v3 v4 => Lo 2 (st35_2 v0 v1 v2 v3 v4)) (fun v0 v1 v2 => Lo 7 (st35_7 v0 v1 v2)) (fun v0 v1 v2 v3 v4 => Lo 9 (st35_9 v0 v1 v2 v3 v4)) v0 v1 v2 v3 v4 := by kernel_rfl
theorem B35_7_ok (Lo : Nat → St → Option (Bool × ((List (ByteArray × (Int × (Int × ByteArray)))) × Bool))) (v0 : Int) (v1 : Int) (v2 : List (ByteArray × (Int × (Int × ByteArray)))) : roundG tab C35 lv35 (decG rs35 os35) Lo Tryd.f35 kx35 7 (st35_7 v0 v1 v2) = B35_7 (fun v0 v1 v2 v3 v4 => Lo 2 (st35_2 v0 v1 v2 v3 v4)) (fun v0 v1 v2 => Lo 7 (st35_7 v0 v1 v2)) (fun v0 v1 v2 v3 v4 => Lo 9 (st35_9 v0 v1 v2 v3 v4)) v0 v1 v2 := by kernel_rfl
theorem B35_9_ok (Lo : Nat → St → Option (Bool × ((List (ByteArray × (Int × (Int × ByteArray)))) × Bool))) (v0 : Int) (v1 : Int) (v2 : Int) (v3 : Int) (v4 : List (ByteArray × (Int × (Int × ByteArray)))) : roundG tab C35 lv35 (decG rs35 os35) Lo Tryd.f35 kx35 9 (st35_9 v0 v1 v2 v3 v4) = B35_9 (fun v0 v1 v2 v3 v4 => Lo 2 (st35_2 v0 v1 v2 v3 v4)) (fun v0 v1 v2 => Lo 7 (st35_7 v0 v1 v2)) (fun v0 v1 v2 v3 v4 => Lo 9 (st35_9 v0 v1 v2 v3 v4)) v0 v1 v2 v3 v4 := by kernel_rfl
theorem M35_ok (Lo : Nat → St → Option (Bool × ((List (ByteArray × (Int × (Int × ByteArray)))) × Bool))) (x2 : Int) (y1 : (List (ByteArray × (Int × (Int × ByteArray))))) : callG tab C35 lv35 (decG rs35 os35) Lo Tryd.f35 kx35 [.l (.rs 1000), canon false (.int .i64) x2, .fn 24 []] [(1000, Os.ob (.row 37 (.prod .str (.prod (.int .i64) (.prod (.int .i64) .str)))) y1)] = M35 (fun v0 v1 v2 v3 v4 => Lo 2 (st35_2 v0 v1 v2 v3 v4)) (fun v0 v1 v2 => Lo 7 (st35_7 v0 v1 v2)) (fun v0 v1 v2 v3 v4 => Lo 9 (st35_9 v0 v1 v2 v3 v4)) x2 y1 := by kernel_rfl
noncomputable def l35 : Nat → (Int → Int → Int → Int → List (ByteArray × (Int × (Int × ByteArray))) → Option (Bool × ((List (ByteArray × (Int × (Int × ByteArray)))) × Bool))) × (Int → Int → List (ByteArray × (Int × (Int × ByteArray))) → Option (Bool × ((List (ByteArray × (Int × (Int × ByteArray)))) × Bool))) × (Int → Int → Int → Int → List (ByteArray × (Int × (Int × ByteArray))) → Option (Bool × ((List (ByteArray × (Int × (Int × ByteArray)))) × Bool)))
  | 0 => (fun _ _ _ _ _ => none, fun _ _ _ => none, fun _ _ _ _ _ => none)
  | m + 1 => (B35_2 (l35 m).1 (l35 m).2.1 (l35 m).2.2, B35_7 (l35 m).1 (l35 m).2.1 (l35 m).2.2, B35_9 (l35 m).1 (l35 m).2.1 (l35 m).2.2)
noncomputable def F35 (m : Nat) (x2 : Int) (y1 : (List (ByteArray × (Int × (Int × ByteArray))))) : Option (Bool × ((List (ByteArray × (Int × (Int × ByteArray)))) × Bool)) := M35 (l35 m).1 (l35 m).2.1 (l35 m).2.2 x2 y1
theorem l35_ok : ∀ m : Nat, (∀ (v0 : Int) (v1 : Int) (v2 : Int) (v3 : Int) (v4 : List (ByteArray × (Int × (Int × ByteArray)))), loF tab C35 lv35 (decG rs35 os35) Tryd.f35 kx35 m 2 (st35_2 v0 v1 v2 v3 v4) = (l35 m).1 v0 v1 v2 v3 v4) ∧ (∀ (v0 : Int) (v1 : Int) (v2 : List (ByteArray × (Int × (Int × ByteArray)))), loF tab C35 lv35 (decG rs35 os35) Tryd.f35 kx35 m 7 (st35_7 v0 v1 v2) = (l35 m).2.1 v0 v1 v2) ∧ (∀ (v0 : Int) (v1 : Int) (v2 : Int) (v3 : Int) (v4 : List (ByteArray × (Int × (Int × ByteArray)))), loF tab C35 lv35 (decG rs35 os35) Tryd.f35 kx35 m 9 (st35_9 v0 v1 v2 v3 v4) = (l35 m).2.2 v0 v1 v2 v3 v4)
  | 0 => by
    exact ⟨fun _ _ _ _ _ => rfl, fun _ _ _ => rfl, fun _ _ _ _ _ => rfl⟩
  | m + 1 => by
    have ih := l35_ok m
    have h2 : (fun (v0 : Int) (v1 : Int) (v2 : Int) (v3 : Int) (v4 : List (ByteArray × (Int × (Int × ByteArray)))) => loF tab C35 lv35 (decG rs35 os35) Tryd.f35 kx35 m 2 (st35_2 v0 v1 v2 v3 v4)) = (l35 m).1 := by funext v0 v1 v2 v3 v4; exact ih.1 v0 v1 v2 v3 v4
    have h7 : (fun (v0 : Int) (v1 : Int) (v2 : List (ByteArray × (Int × (Int × ByteArray)))) => loF tab C35 lv35 (decG rs35 os35) Tryd.f35 kx35 m 7 (st35_7 v0 v1 v2)) = (l35 m).2.1 := by funext v0 v1 v2; exact ih.2.1 v0 v1 v2
    have h9 : (fun (v0 : Int) (v1 : Int) (v2 : Int) (v3 : Int) (v4 : List (ByteArray × (Int × (Int × ByteArray)))) => loF tab C35 lv35 (decG rs35 os35) Tryd.f35 kx35 m 9 (st35_9 v0 v1 v2 v3 v4)) = (l35 m).2.2 := by funext v0 v1 v2 v3 v4; exact ih.2.2 v0 v1 v2 v3 v4
    exact ⟨fun v0 v1 v2 v3 v4 => (B35_2_ok (loF tab C35 lv35 (decG rs35 os35) Tryd.f35 kx35 m) v0 v1 v2 v3 v4).trans (congrFun (congrFun (congrFun (congrFun (congrFun (congr (congr (congrArg B35_2 h2) h7) h9) v0) v1) v2) v3) v4), fun v0 v1 v2 => (B35_7_ok (loF tab C35 lv35 (decG rs35 os35) Tryd.f35 kx35 m) v0 v1 v2).trans (congrFun (congrFun (congrFun (congr (congr (congrArg B35_7 h2) h7) h9) v0) v1) v2), fun v0 v1 v2 v3 v4 => (B35_9_ok (loF tab C35 lv35 (decG rs35 os35) Tryd.f35 kx35 m) v0 v1 v2 v3 v4).trans (congrFun (congrFun (congrFun (congrFun (congrFun (congr (congr (congrArg B35_9 h2) h7) h9) v0) v1) v2) v3) v4)⟩
theorem F35_ok (m : Nat) (x2 : Int) (y1 : (List (ByteArray × (Int × (Int × ByteArray))))) : callF tab C35 lv35 (decG rs35 os35) m Tryd.f35 kx35 [.l (.rs 1000), canon false (.int .i64) x2, .fn 24 []] [(1000, Os.ob (.row 37 (.prod .str (.prod (.int .i64) (.prod (.int .i64) .str)))) y1)] = F35 m x2 y1 := by
    have ih := l35_ok m
    have h2 : (fun (v0 : Int) (v1 : Int) (v2 : Int) (v3 : Int) (v4 : List (ByteArray × (Int × (Int × ByteArray)))) => loF tab C35 lv35 (decG rs35 os35) Tryd.f35 kx35 m 2 (st35_2 v0 v1 v2 v3 v4)) = (l35 m).1 := by funext v0 v1 v2 v3 v4; exact ih.1 v0 v1 v2 v3 v4
    have h7 : (fun (v0 : Int) (v1 : Int) (v2 : List (ByteArray × (Int × (Int × ByteArray)))) => loF tab C35 lv35 (decG rs35 os35) Tryd.f35 kx35 m 7 (st35_7 v0 v1 v2)) = (l35 m).2.1 := by funext v0 v1 v2; exact ih.2.1 v0 v1 v2
    have h9 : (fun (v0 : Int) (v1 : Int) (v2 : Int) (v3 : Int) (v4 : List (ByteArray × (Int × (Int × ByteArray)))) => loF tab C35 lv35 (decG rs35 os35) Tryd.f35 kx35 m 9 (st35_9 v0 v1 v2 v3 v4)) = (l35 m).2.2 := by funext v0 v1 v2 v3 v4; exact ih.2.2 v0 v1 v2 v3 v4
    exact (M35_ok (loF tab C35 lv35 (decG rs35 os35) Tryd.f35 kx35 m) x2 y1).trans (congrFun (congrFun (congr (congr (congrArg M35 h2) h7) h9) x2) y1)
theorem fn35 {G : GB} (hC : COk Tryd.prog G C35) (m : Nat) (x2 : Int) (y1 : (List (ByteArray × (Int × (Int × ByteArray))))) (y : (Bool × ((List (ByteArray × (Int × (Int × ByteArray)))) × Bool))) (h : F35 m x2 y1 = some y) : FnR Tryd.prog G 35 [.l (.rs 1000), canon false (.int .i64) x2, .fn 24 []] [(1000, Os.ob (.row 37 (.prod .str (.prod (.int .i64) (.prod (.int .i64) .str)))) y1)] (fun v hout => decG rs35 os35 v hout = some y) :=
  callF_sound (Lv := lv35) (n := m) (kx := kx35) follows tab_ok hC Tryd.func35 ((F35_ok m x2 y1).trans h)
theorem F35_mono {m m' : Nat} (hm : m ≤ m') (x2 : Int) (y1 : (List (ByteArray × (Int × (Int × ByteArray))))) {y : (Bool × ((List (ByteArray × (Int × (Int × ByteArray)))) × Bool))} (h : F35 m x2 y1 = some y) : F35 m' x2 y1 = some y := (F35_ok m' x2 y1).symm.trans (callF_mono hm ((F35_ok m x2 y1).trans h))
theorem ent35 : Ent Tryd.prog 35 := ⟨_, Tryd.func35, by kernel_rfl, by kernel_rfl⟩
theorem C35_ok {G : GB} (h43 : RowOk Tryd.prog G 43 sp43) (h44x : RowOk Tryd.prog G 44 sp44x) : COk Tryd.prog G C35 := tabC_ok (by
  intro p hp
  simp only [List.mem_cons, List.not_mem_nil, or_false] at hp
  rcases hp with rfl | rfl
  · exact h43
  · exact h44x
)
end Go.Proofs.YtopplbiadpcalaaDoor.U

/- slices' stable sort: it ends, and no cell is lost; where there are few cells, it is the insertion sort. -/
namespace Go.Proofs.YtopplbiadpcalaaDoor.U
open Go Go.Proofs.YtopplbiadpcalaaDoor.K

theorem s7' (n bs : Int) (y : List Attr) (h : ¬ bs < n) (k : Nat) : (l35 (k + 1)).2.1 n bs y = some (true, (y, true)) := by
  show B35_7 (l35 k).1 (l35 k).2.1 (l35 k).2.2 n bs y = _
  unfold B35_7
  rw [decide_eq_false h, cond_false]
theorem s7 (n bs : Int) (y : List Attr) (h : bs < n ∧ 0 < bs ∧ n ≤ 1099511627776) (k : Nat) : (l35 (k + 1)).2.1 n bs y = (l35 k).2.2 n bs 0 (2 * bs) y := by
  show B35_7 (l35 k).1 (l35 k).2.1 (l35 k).2.2 n bs y = _
  unfold B35_7
  have w : IntKind.i64.wrap (2 * bs) = 2 * bs := w64 (by omega)
  rw [decide_eq_true h.1, cond_true, w]
theorem st9 (n bs : Int) (hn : n ≤ 1099511627776 ∧ 0 < bs ∧ bs < n) (N : Nat) (hN : n = N) (H : ∀ y : List Attr, y.length = N → Ends (fun k => (l35 k).2.1 n (bs * 2) y) N) : ∀ (q : Nat) (a : Int) (y : List Attr), n - a ≤ q → 0 ≤ a → a ≤ n → y.length = N → Ends (fun k => (l35 k).2.2 n bs a (a + 2 * bs) y) N := by
  intro q
  induction q with
  | zero =>
    intro a y hq h0 ha hy
    obtain ⟨k, y', h1, h2⟩ := H y hy
    refine ⟨k + 1, y', ?_, h2⟩
    show B35_9 (l35 k).1 (l35 k).2.1 (l35 k).2.2 n bs a (a + 2 * bs) y = _
    unfold B35_9
    have w : IntKind.i64.wrap (a + bs) = a + bs := w64 (by omega)
    have w2 : IntKind.i64.wrap (bs * 2) = bs * 2 := w64 (by omega)
    rw [decide_eq_false (by omega), cond_false, w, decide_eq_false (by omega), cond_false, w2]
    exact h1
  | succ q ih =>
    intro a y hq h0 ha hy
    have w : IntKind.i64.wrap (a + bs) = a + bs := w64 (by omega)
    have w2 : IntKind.i64.wrap (bs * 2) = bs * 2 := w64 (by omega)
    have w3 : IntKind.i64.wrap (2 * bs) = 2 * bs := w64 (by omega)
    have w4 : IntKind.i64.wrap (a + 2 * bs + 2 * bs) = a + 2 * bs + 2 * bs := w64 (by omega)
    by_cases h1 : a + 2 * bs ≤ n
    · have hk : smOk smSz a (a + bs) (a + 2 * bs) y = true := decide_eq_true (by rw [hy]; unfold smSz; omega)
      obtain ⟨k, y', h2, h3⟩ := ih (a + 2 * bs) (smR a (a + bs) (a + 2 * bs) y) (by omega) (by omega) h1 (by rw [smR_len _ _ _ _ hk, hy])
      refine ⟨k + 1, y', ?_, h3⟩
      show B35_9 (l35 k).1 (l35 k).2.1 (l35 k).2.2 n bs a (a + 2 * bs) y = _
      unfold B35_9
      rw [decide_eq_true h1, cond_true, w, hk, cond_true, w3, w4]
      exact h2
    · by_cases h4 : a + bs < n
      · have hk : smOk smSz a (a + bs) n y = true := decide_eq_true (by rw [hy]; unfold smSz; omega)
        obtain ⟨k, y', h2, h3⟩ := H (smR a (a + bs) n y) (by rw [smR_len _ _ _ _ hk, hy])
        refine ⟨k + 1, y', ?_, h3⟩
        show B35_9 (l35 k).1 (l35 k).2.1 (l35 k).2.2 n bs a (a + 2 * bs) y = _
        unfold B35_9
        rw [decide_eq_false h1, cond_false, w, decide_eq_true h4, cond_true, hk, cond_true, w2]
        exact h2
      · obtain ⟨k, y', h2, h3⟩ := H y hy
        refine ⟨k + 1, y', ?_, h3⟩
        show B35_9 (l35 k).1 (l35 k).2.1 (l35 k).2.2 n bs a (a + 2 * bs) y = _
        unfold B35_9
        rw [decide_eq_false h1, cond_false, w, decide_eq_false h4, cond_false, w2]
        exact h2
theorem st7 (n : Int) (hn : n ≤ 1099511627776) (N : Nat) (hN : n = N) : ∀ (q : Nat) (bs : Int) (y : List Attr), n - bs ≤ q → 0 < bs → y.length = N → Ends (fun k => (l35 k).2.1 n bs y) N := by
  intro q
  induction q with
  | zero => intro bs y hq h0 hy; exact ⟨1, y, s7' n bs y (by omega) 0, hy⟩
  | succ q ih =>
    intro bs y hq h0 hy
    by_cases h1 : bs < n
    · obtain ⟨k, y', h2, h3⟩ := st9 n bs (by omega) N hN (fun y hy => ih (bs * 2) y (by omega) (by omega) hy) n.toNat 0 y (by omega) (by omega) (by omega) hy
      refine ⟨k + 1, y', ?_, h3⟩
      have h2 : (l35 k).2.2 n bs 0 (0 + 2 * bs) y = some (true, (y', true)) := h2
      rw [Int.zero_add] at h2
      exact (s7 n bs y (by omega) k).trans h2
    · exact ⟨1, y, s7' n bs y h1 0, hy⟩
theorem st2 (n : Int) (hn : n ≤ 1099511627776) (N : Nat) (hN : n = N) : ∀ (q : Nat) (a : Int) (y : List Attr), n - a ≤ q → 0 ≤ a → a ≤ n → y.length = N → Ends (fun k => (l35 k).1 n 20 a (a + 20) y) N := by
  intro q
  induction q with
  | zero =>
    intro a y hq h0 ha hy
    have hk : insOk a n y = true := decide_eq_true (by rw [hy]; omega)
    obtain ⟨k, y', h2, h3⟩ := st7 n hn N hN n.toNat 20 (insR a n y) (by omega) (by omega) (by rw [(insR_some a n y (of_decide_eq_true hk)).2, hy])
    refine ⟨k + 1, y', ?_, h3⟩
    show B35_2 (l35 k).1 (l35 k).2.1 (l35 k).2.2 n 20 a (a + 20) y = _
    unfold B35_2
    rw [decide_eq_false (by omega), cond_false, hk, cond_true]
    exact h2
  | succ q ih =>
    intro a y hq h0 ha hy
    by_cases h1 : a + 20 ≤ n
    · have hk : insOk a (a + 20) y = true := decide_eq_true (by rw [hy]; omega)
      obtain ⟨k, y', h2, h3⟩ := ih (a + 20) (insR a (a + 20) y) (by omega) (by omega) h1 (by rw [(insR_some a _ y (of_decide_eq_true hk)).2, hy])
      refine ⟨k + 1, y', ?_, h3⟩
      show B35_2 (l35 k).1 (l35 k).2.1 (l35 k).2.2 n 20 a (a + 20) y = _
      unfold B35_2
      have w : IntKind.i64.wrap (a + 20 + 20) = a + 20 + 20 := w64 (by omega)
      rw [decide_eq_true h1, cond_true, hk, cond_true, w]
      exact h2
    · have hk : insOk a n y = true := decide_eq_true (by rw [hy]; omega)
      obtain ⟨k, y', h2, h3⟩ := st7 n hn N hN n.toNat 20 (insR a n y) (by omega) (by omega) (by rw [(insR_some a n y (of_decide_eq_true hk)).2, hy])
      refine ⟨k + 1, y', ?_, h3⟩
      show B35_2 (l35 k).1 (l35 k).2.1 (l35 k).2.2 n 20 a (a + 20) y = _
      unfold B35_2
      rw [decide_eq_false h1, cond_false, hk, cond_true]
      exact h2
theorem st_small (n : Int) (y : List Attr) (h : 0 ≤ n ∧ n < 20 ∧ n = y.length) : F35 2 n y = some (true, (insR 0 n y, true)) := by
  show B35_2 (l35 1).1 (l35 1).2.1 (l35 1).2.2 n 20 0 20 y = _
  unfold B35_2
  have hk : insOk 0 n y = true := decide_eq_true (by omega)
  rw [decide_eq_false (by omega), cond_false, hk, cond_true]
  exact s7' n 20 _ (by omega) 0
end Go.Proofs.YtopplbiadpcalaaDoor.U
namespace Go.Proofs.YtopplbiadpcalaaDoor.K
open Go Go.Proofs.YtopplbiadpcalaaDoor.U
def stOk (n : Int) (y : List Attr) : Bool := decide (n = y.length ∧ (y.length : Int) ≤ 1099511627776)
noncomputable def stR (n : Int) (y : List Attr) : List Attr := outOf (fun k => F35 k n y)
theorem stR_some (n : Int) (y : List Attr) (h : n = y.length ∧ (y.length : Int) ≤ 1099511627776) : (∃ k, F35 k n y = some (true, (stR n y, true))) ∧ (stR n y).length = y.length ∧ (n < 20 → stR n y = insR 0 n y) := by
  obtain ⟨k, y', h1, h2⟩ := st2 n (by omega) y.length h.1 n.toNat 0 y (by omega) (by omega) (by omega) rfl
  obtain ⟨h3, h4⟩ := outOf_some (F := fun k => F35 k n y) (fun _ _ _ hm h => F35_mono hm n y h) h1
  refine ⟨⟨_, h3⟩, by unfold stR; rw [h4, h2], fun hs => ?_⟩
  exact (outOf_some (F := fun k => F35 k n y) (fun _ _ _ hm h => F35_mono hm n y h) (st_small n y (by omega))).2
end Go.Proofs.YtopplbiadpcalaaDoor.K

/- slices.SortStableFunc[[]eyrie/api.Attr,eyrie/api.Attr] (function 23): its row: what must hold, what it answers. -/
namespace Go.Proofs.YtopplbiadpcalaaDoor.U
open Go
noncomputable def sp23 : Sp := Sp.ofG [.row, .fn 24] [.row 37 (.prod .str (.prod (.int .i64) (.prod (.int .i64) .str)))] [] (fun y1 => (decide ((y1.length : Int) ≤ 1099511627776), (true, (K.stR (y1.length : Int) y1, true))))
end Go.Proofs.YtopplbiadpcalaaDoor.U

/- eyrie/value.CheckAttrs (function 14): its row: what must hold, what it answers. -/
namespace Go.Proofs.YtopplbiadpcalaaDoor.U
open Go
noncomputable def sp14 : Sp := Sp.of [⟨false, (.sl 37 (.prod .str (.prod (.int .i64) (.prod (.int .i64) .str))))⟩] [⟨false, (.int .i64), false⟩] (fun x1 => (K.okA x1, K.chkA x1))
end Go.Proofs.YtopplbiadpcalaaDoor.U

/- eyrie/value.Attrs (function 7): what it computes, as a plain function: printed by a program of ours off the small machine, checked by the kernel. -/
namespace Go.Proofs.YtopplbiadpcalaaDoor.U
open Go
def cs7 : List Ac := [⟨false, (.sl 37 (.prod .str (.prod (.int .i64) (.prod (.int .i64) .str))))⟩]
def rs7 : List Rc := [⟨false, (.sl 37 (.prod .str (.prod (.int .i64) (.prod (.int .i64) .str)))), true⟩, ⟨false, (.int .i64), false⟩]
def lv7 : Live := fun i => (fun _ => none : Nat → Option Keep) i
def kx7 : Keep := ⟨[(0, [.own 0 (.prod .str (.prod (.int .i64) (.prod (.int .i64) .str))) 37]), (1, [])], []⟩
noncomputable def C7 : Nat → Option Sp := tabC [(17, sp17), (23, sp23), (14, sp14)]
set_option maxRecDepth 100000
noncomputable def M7 (x1 : (List (ByteArray × (Int × (Int × ByteArray))))) : Option ((List (ByteArray × (Int × (Int × ByteArray)))) × Int) :=
 (cond (decide ((↑x1.length : Int) ≤ (1099511627776 : Int)))
  (cond (decide ((↑x1.length : Int) ≤ (1099511627776 : Int)))
   (cond (K.okA (K.stR (↑x1.length : Int) x1))
    (cond (K.chkA (K.stR (↑x1.length : Int) x1) != (0 : Int))
     (some (([], K.chkA (K.stR (↑x1.length : Int) x1))))
     (some ((K.stR (↑x1.length : Int) x1, (0 : Int)))))
    none)
   none)
  none)
theorem M7_ok (Lo : Nat → St → Option ((List (ByteArray × (Int × (Int × ByteArray)))) × Int)) (x1 : (List (ByteArray × (Int × (Int × ByteArray))))) : callG tab C7 lv7 (dec rs7) Lo Tryd.f7 kx7 [canon false (.sl 37 (.prod .str (.prod (.int .i64) (.prod (.int .i64) .str)))) x1] [] = M7 x1 := by kernel_rfl
noncomputable def F7 (_ : Nat) (x1 : (List (ByteArray × (Int × (Int × ByteArray))))) : Option ((List (ByteArray × (Int × (Int × ByteArray)))) × Int) := M7 x1
theorem F7_ok (m : Nat) (x1 : (List (ByteArray × (Int × (Int × ByteArray))))) : callF tab C7 lv7 (dec rs7) m Tryd.f7 kx7 [canon false (.sl 37 (.prod .str (.prod (.int .i64) (.prod (.int .i64) .str)))) x1] [] = F7 m x1 := M7_ok _ x1
theorem fn7 {G : GB} (hC : COk Tryd.prog G C7) (m : Nat) (x1 : (List (ByteArray × (Int × (Int × ByteArray))))) (y : ((List (ByteArray × (Int × (Int × ByteArray)))) × Int)) (h : F7 m x1 = some y) : FnR Tryd.prog G 7 [canon false (.sl 37 (.prod .str (.prod (.int .i64) (.prod (.int .i64) .str)))) x1] [] (fun v hout => dec rs7 v hout = some y) :=
  callF_sound (Lv := lv7) (n := m) (kx := kx7) follows tab_ok hC Tryd.func7 ((F7_ok m x1).trans h)
theorem F7_mono {m m' : Nat} (hm : m ≤ m') (x1 : (List (ByteArray × (Int × (Int × ByteArray))))) {y : ((List (ByteArray × (Int × (Int × ByteArray)))) × Int)} (h : F7 m x1 = some y) : F7 m' x1 = some y := (F7_ok m' x1).symm.trans (callF_mono hm ((F7_ok m x1).trans h))
theorem ent7 : Ent Tryd.prog 7 := ⟨_, Tryd.func7, by kernel_rfl, by kernel_rfl⟩
theorem C7_ok {G : GB} (h17 : RowOk Tryd.prog G 17 sp17) (h23 : RowOk Tryd.prog G 23 sp23) (h14 : RowOk Tryd.prog G 14 sp14) : COk Tryd.prog G C7 := tabC_ok (by
  intro p hp
  simp only [List.mem_cons, List.not_mem_nil, or_false] at hp
  rcases hp with rfl | rfl | rfl
  · exact h17
  · exact h23
  · exact h14
)
end Go.Proofs.YtopplbiadpcalaaDoor.U

/- eyrie/value.CheckAttrs (function 14): what it computes, as a plain function: printed by a program of ours off the small machine, checked by the kernel. -/
namespace Go.Proofs.YtopplbiadpcalaaDoor.U
open Go
def cs14 : List Ac := [⟨false, (.sl 37 (.prod .str (.prod (.int .i64) (.prod (.int .i64) .str))))⟩]
def rs14 : List Rc := [⟨false, (.int .i64), false⟩]
def lv14 : Live := fun i => cond (Nat.beq i 4) (some ⟨[(0, [.sl (.prod .str (.prod (.int .i64) (.prod (.int .i64) .str))) 37]), (9, [.sl (.prod .str (.prod (.int .i64) (.prod (.int .i64) .str))) 37]), (10, []), (11, [])], []⟩) (none)
def kx14 : Keep := ⟨[(0, [])], []⟩
noncomputable def C14 : Nat → Option Sp := tabC [(12, sp12), (10, sp10)]
set_option maxRecDepth 100000
def st14_4 (v0 : List (ByteArray × (Int × (Int × ByteArray)))) (v1 : List (ByteArray × (Int × (Int × ByteArray)))) (v2 : Int) (v3 : Int) : St := ⟨(40 : Nat), [((0 : Nat), .l (.sl (Kn.str.prod ((Kn.int IntKind.i64).prod ((Kn.int IntKind.i64).prod Kn.str))) (37 : Nat) v0 (none))), ((9 : Nat), .l (.sl (Kn.str.prod ((Kn.int IntKind.i64).prod ((Kn.int IntKind.i64).prod Kn.str))) (37 : Nat) v1 (none))), ((10 : Nat), .l (.int IntKind.i64 v2)), ((11 : Nat), .l (.int IntKind.i64 v3))], [], []⟩
noncomputable def B14_4 (r4 : List (ByteArray × (Int × (Int × ByteArray))) → List (ByteArray × (Int × (Int × ByteArray))) → Int → Int → Option Int) (v0 : List (ByteArray × (Int × (Int × ByteArray)))) (v1 : List (ByteArray × (Int × (Int × ByteArray)))) (v2 : Int) (v3 : Int) : Option Int :=
 (cond (decide (v3 < v2))
  (cond (decide ((0 : Int) ≤ v3) && decide (v3 < (↑v1.length : Int)))
   (cond (decide (ByteArray.size (v1.getD v3.toNat (dfl (Kn.str.prod ((Kn.int IntKind.i64).prod ((Kn.int IntKind.i64).prod Kn.str))))).fst ≤ (1099511627776 : Nat)))
    (cond (!K.name (v1.getD v3.toNat (dfl (Kn.str.prod ((Kn.int IntKind.i64).prod ((Kn.int IntKind.i64).prod Kn.str))))).fst)
     (some ((31 : Int)))
     (cond (K.check ((v1.getD v3.toNat (dfl (Kn.str.prod ((Kn.int IntKind.i64).prod ((Kn.int IntKind.i64).prod Kn.str))))).snd.fst, (v1.getD v3.toNat (dfl (Kn.str.prod ((Kn.int IntKind.i64).prod ((Kn.int IntKind.i64).prod Kn.str))))).snd.snd.fst, (v1.getD v3.toNat (dfl (Kn.str.prod ((Kn.int IntKind.i64).prod ((Kn.int IntKind.i64).prod Kn.str))))).snd.snd.snd) != (0 : Int))
      (some (K.check ((v1.getD v3.toNat (dfl (Kn.str.prod ((Kn.int IntKind.i64).prod ((Kn.int IntKind.i64).prod Kn.str))))).snd.fst, (v1.getD v3.toNat (dfl (Kn.str.prod ((Kn.int IntKind.i64).prod ((Kn.int IntKind.i64).prod Kn.str))))).snd.snd.fst, (v1.getD v3.toNat (dfl (Kn.str.prod ((Kn.int IntKind.i64).prod ((Kn.int IntKind.i64).prod Kn.str))))).snd.snd.snd)))
      (cond (decide (v3 > (0 : Int)))
       (cond (decide ((0 : Int) ≤ IntKind.i64.wrap (v3 - (1 : Int))) && decide (IntKind.i64.wrap (v3 - (1 : Int)) < (↑v0.length : Int)))
        (cond (Op.bytesLess (ByteArray.toList (v1.getD v3.toNat (dfl (Kn.str.prod ((Kn.int IntKind.i64).prod ((Kn.int IntKind.i64).prod Kn.str))))).fst) (ByteArray.toList (v0.getD (IntKind.i64.wrap (v3 - (1 : Int))).toNat (dfl (Kn.str.prod ((Kn.int IntKind.i64).prod ((Kn.int IntKind.i64).prod Kn.str))))).fst) || ByteArray.toList (v1.getD v3.toNat (dfl (Kn.str.prod ((Kn.int IntKind.i64).prod ((Kn.int IntKind.i64).prod Kn.str))))).fst == ByteArray.toList (v0.getD (IntKind.i64.wrap (v3 - (1 : Int))).toNat (dfl (Kn.str.prod ((Kn.int IntKind.i64).prod ((Kn.int IntKind.i64).prod Kn.str))))).fst)
         (some ((32 : Int)))
         (r4 (v0) (v1) (v2) (IntKind.i64.wrap (v3 + (1 : Int)))))
        none)
       (r4 (v0) (v1) (v2) (IntKind.i64.wrap (v3 + (1 : Int)))))))
    none)
   none)
  (some ((0 : Int))))
noncomputable def M14 (r4 : List (ByteArray × (Int × (Int × ByteArray))) → List (ByteArray × (Int × (Int × ByteArray))) → Int → Int → Option Int) (x1 : (List (ByteArray × (Int × (Int × ByteArray))))) : Option Int :=
 (cond (decide ((↑x1.length : Int) > (8 : Int)))
  (some ((3 : Int)))
  (r4 (x1) (x1) ((↑x1.length : Int)) ((0 : Int))))
theorem B14_4_ok (Lo : Nat → St → Option Int) (v0 : List (ByteArray × (Int × (Int × ByteArray)))) (v1 : List (ByteArray × (Int × (Int × ByteArray)))) (v2 : Int) (v3 : Int) : roundG tab C14 lv14 (dec rs14) Lo Tryd.f14 kx14 4 (st14_4 v0 v1 v2 v3) = B14_4 (fun v0 v1 v2 v3 => Lo 4 (st14_4 v0 v1 v2 v3)) v0 v1 v2 v3 := by kernel_rfl
theorem M14_ok (Lo : Nat → St → Option Int) (x1 : (List (ByteArray × (Int × (Int × ByteArray))))) : callG tab C14 lv14 (dec rs14) Lo Tryd.f14 kx14 [canon false (.sl 37 (.prod .str (.prod (.int .i64) (.prod (.int .i64) .str)))) x1] [] = M14 (fun v0 v1 v2 v3 => Lo 4 (st14_4 v0 v1 v2 v3)) x1 := by kernel_rfl
noncomputable def l14 : Nat → (List (ByteArray × (Int × (Int × ByteArray))) → List (ByteArray × (Int × (Int × ByteArray))) → Int → Int → Option Int)
  | 0 => (fun _ _ _ _ => none)
  | m + 1 => (B14_4 (l14 m))
noncomputable def F14 (m : Nat) (x1 : (List (ByteArray × (Int × (Int × ByteArray))))) : Option Int := M14 (l14 m) x1
theorem l14_ok : ∀ m : Nat, (∀ (v0 : List (ByteArray × (Int × (Int × ByteArray)))) (v1 : List (ByteArray × (Int × (Int × ByteArray)))) (v2 : Int) (v3 : Int), loF tab C14 lv14 (dec rs14) Tryd.f14 kx14 m 4 (st14_4 v0 v1 v2 v3) = (l14 m) v0 v1 v2 v3)
  | 0 => by
    exact fun _ _ _ _ => rfl
  | m + 1 => by
    have ih := l14_ok m
    have h4 : (fun (v0 : List (ByteArray × (Int × (Int × ByteArray)))) (v1 : List (ByteArray × (Int × (Int × ByteArray)))) (v2 : Int) (v3 : Int) => loF tab C14 lv14 (dec rs14) Tryd.f14 kx14 m 4 (st14_4 v0 v1 v2 v3)) = (l14 m) := by funext v0 v1 v2 v3; exact ih v0 v1 v2 v3
    exact fun v0 v1 v2 v3 => (B14_4_ok (loF tab C14 lv14 (dec rs14) Tryd.f14 kx14 m) v0 v1 v2 v3).trans (congrFun (congrFun (congrFun (congrFun (congrArg B14_4 h4) v0) v1) v2) v3)
theorem F14_ok (m : Nat) (x1 : (List (ByteArray × (Int × (Int × ByteArray))))) : callF tab C14 lv14 (dec rs14) m Tryd.f14 kx14 [canon false (.sl 37 (.prod .str (.prod (.int .i64) (.prod (.int .i64) .str)))) x1] [] = F14 m x1 := by
    have ih := l14_ok m
    have h4 : (fun (v0 : List (ByteArray × (Int × (Int × ByteArray)))) (v1 : List (ByteArray × (Int × (Int × ByteArray)))) (v2 : Int) (v3 : Int) => loF tab C14 lv14 (dec rs14) Tryd.f14 kx14 m 4 (st14_4 v0 v1 v2 v3)) = (l14 m) := by funext v0 v1 v2 v3; exact ih v0 v1 v2 v3
    exact (M14_ok (loF tab C14 lv14 (dec rs14) Tryd.f14 kx14 m) x1).trans (congrFun (congrArg M14 h4) x1)
theorem fn14 {G : GB} (hC : COk Tryd.prog G C14) (m : Nat) (x1 : (List (ByteArray × (Int × (Int × ByteArray))))) (y : Int) (h : F14 m x1 = some y) : FnR Tryd.prog G 14 [canon false (.sl 37 (.prod .str (.prod (.int .i64) (.prod (.int .i64) .str)))) x1] [] (fun v hout => dec rs14 v hout = some y) :=
  callF_sound (Lv := lv14) (n := m) (kx := kx14) follows tab_ok hC Tryd.func14 ((F14_ok m x1).trans h)
theorem F14_mono {m m' : Nat} (hm : m ≤ m') (x1 : (List (ByteArray × (Int × (Int × ByteArray))))) {y : Int} (h : F14 m x1 = some y) : F14 m' x1 = some y := (F14_ok m' x1).symm.trans (callF_mono hm ((F14_ok m x1).trans h))
theorem ent14 : Ent Tryd.prog 14 := ⟨_, Tryd.func14, by kernel_rfl, by kernel_rfl⟩
theorem C14_ok {G : GB} (h12 : RowOk Tryd.prog G 12 sp12) (h10 : RowOk Tryd.prog G 10 sp10) : COk Tryd.prog G C14 := tabC_ok (by
  intro p hp
  simp only [List.mem_cons, List.not_mem_nil, or_false] at hp
  rcases hp with rfl | rfl
  · exact h12
  · exact h10
)
end Go.Proofs.YtopplbiadpcalaaDoor.U

/- eyrie/eyrieref03.CheckAttrs (function 15): what it computes, as a plain function: printed by a program of ours off the small machine, checked by the kernel. -/
namespace Go.Proofs.YtopplbiadpcalaaDoor.U
open Go
def cs15 : List Ac := [⟨false, (.sl 37 (.prod .str (.prod (.int .i64) (.prod (.int .i64) .str))))⟩]
def rs15 : List Rc := [⟨false, (.int .i64), false⟩]
def lv15 : Live := fun i => cond (Nat.beq i 4) (some ⟨[(0, [.sl (.prod .str (.prod (.int .i64) (.prod (.int .i64) .str))) 37]), (3, [])], []⟩) (none)
def kx15 : Keep := ⟨[(0, [])], []⟩
noncomputable def C15 : Nat → Option Sp := tabC [(13, sp13), (11, sp11)]
set_option maxRecDepth 100000
def st15_4 (v0 : List (ByteArray × (Int × (Int × ByteArray)))) (v1 : Int) : St := ⟨(46 : Nat), [((0 : Nat), .l (.sl (Kn.str.prod ((Kn.int IntKind.i64).prod ((Kn.int IntKind.i64).prod Kn.str))) (37 : Nat) v0 (none))), ((3 : Nat), .l (.int IntKind.i64 v1))], [], []⟩
noncomputable def B15_4 (r4 : List (ByteArray × (Int × (Int × ByteArray))) → Int → Option Int) (v0 : List (ByteArray × (Int × (Int × ByteArray)))) (v1 : Int) : Option Int :=
 (cond (decide (v1 < (↑v0.length : Int)))
  (cond (decide ((0 : Int) ≤ v1) && decide (v1 < (↑v0.length : Int)))
   (cond (decide (ByteArray.size (v0.getD v1.toNat (dfl (Kn.str.prod ((Kn.int IntKind.i64).prod ((Kn.int IntKind.i64).prod Kn.str))))).fst ≤ (1099511627776 : Nat)))
    (cond (!K.name (v0.getD v1.toNat (dfl (Kn.str.prod ((Kn.int IntKind.i64).prod ((Kn.int IntKind.i64).prod Kn.str))))).fst)
     (some ((31 : Int)))
     (cond (decide ((0 : Int) ≤ v1) && decide (v1 < (↑v0.length : Int)))
      (cond (K.check ((v0.getD v1.toNat (dfl (Kn.str.prod ((Kn.int IntKind.i64).prod ((Kn.int IntKind.i64).prod Kn.str))))).snd.fst, (v0.getD v1.toNat (dfl (Kn.str.prod ((Kn.int IntKind.i64).prod ((Kn.int IntKind.i64).prod Kn.str))))).snd.snd.fst, (v0.getD v1.toNat (dfl (Kn.str.prod ((Kn.int IntKind.i64).prod ((Kn.int IntKind.i64).prod Kn.str))))).snd.snd.snd) != (0 : Int))
       (some (K.check ((v0.getD v1.toNat (dfl (Kn.str.prod ((Kn.int IntKind.i64).prod ((Kn.int IntKind.i64).prod Kn.str))))).snd.fst, (v0.getD v1.toNat (dfl (Kn.str.prod ((Kn.int IntKind.i64).prod ((Kn.int IntKind.i64).prod Kn.str))))).snd.snd.fst, (v0.getD v1.toNat (dfl (Kn.str.prod ((Kn.int IntKind.i64).prod ((Kn.int IntKind.i64).prod Kn.str))))).snd.snd.snd)))
       (cond (decide (v1 > (0 : Int)))
        (cond (decide ((0 : Int) ≤ v1) && decide (v1 < (↑v0.length : Int)))
         (cond (decide ((0 : Int) ≤ IntKind.i64.wrap (v1 - (1 : Int))) && decide (IntKind.i64.wrap (v1 - (1 : Int)) < (↑v0.length : Int)))
          (cond (Op.bytesLess (ByteArray.toList (v0.getD v1.toNat (dfl (Kn.str.prod ((Kn.int IntKind.i64).prod ((Kn.int IntKind.i64).prod Kn.str))))).fst) (ByteArray.toList (v0.getD (IntKind.i64.wrap (v1 - (1 : Int))).toNat (dfl (Kn.str.prod ((Kn.int IntKind.i64).prod ((Kn.int IntKind.i64).prod Kn.str))))).fst) || ByteArray.toList (v0.getD v1.toNat (dfl (Kn.str.prod ((Kn.int IntKind.i64).prod ((Kn.int IntKind.i64).prod Kn.str))))).fst == ByteArray.toList (v0.getD (IntKind.i64.wrap (v1 - (1 : Int))).toNat (dfl (Kn.str.prod ((Kn.int IntKind.i64).prod ((Kn.int IntKind.i64).prod Kn.str))))).fst)
           (some ((32 : Int)))
           (r4 (v0) (IntKind.i64.wrap (v1 + (1 : Int)))))
          none)
         none)
        (r4 (v0) (IntKind.i64.wrap (v1 + (1 : Int))))))
      none))
    none)
   none)
  (some ((0 : Int))))
noncomputable def M15 (r4 : List (ByteArray × (Int × (Int × ByteArray))) → Int → Option Int) (x1 : (List (ByteArray × (Int × (Int × ByteArray))))) : Option Int :=
 (cond (decide ((↑x1.length : Int) > (8 : Int)))
  (some ((3 : Int)))
  (r4 (x1) ((0 : Int))))
theorem B15_4_ok (Lo : Nat → St → Option Int) (v0 : List (ByteArray × (Int × (Int × ByteArray)))) (v1 : Int) : roundG tab C15 lv15 (dec rs15) Lo Tryd.f15 kx15 4 (st15_4 v0 v1) = B15_4 (fun v0 v1 => Lo 4 (st15_4 v0 v1)) v0 v1 := by kernel_rfl
theorem M15_ok (Lo : Nat → St → Option Int) (x1 : (List (ByteArray × (Int × (Int × ByteArray))))) : callG tab C15 lv15 (dec rs15) Lo Tryd.f15 kx15 [canon false (.sl 37 (.prod .str (.prod (.int .i64) (.prod (.int .i64) .str)))) x1] [] = M15 (fun v0 v1 => Lo 4 (st15_4 v0 v1)) x1 := by kernel_rfl
noncomputable def l15 : Nat → (List (ByteArray × (Int × (Int × ByteArray))) → Int → Option Int)
  | 0 => (fun _ _ => none)
  | m + 1 => (B15_4 (l15 m))
noncomputable def F15 (m : Nat) (x1 : (List (ByteArray × (Int × (Int × ByteArray))))) : Option Int := M15 (l15 m) x1
theorem l15_ok : ∀ m : Nat, (∀ (v0 : List (ByteArray × (Int × (Int × ByteArray)))) (v1 : Int), loF tab C15 lv15 (dec rs15) Tryd.f15 kx15 m 4 (st15_4 v0 v1) = (l15 m) v0 v1)
  | 0 => by
    exact fun _ _ => rfl
  | m + 1 => by
    have ih := l15_ok m
    have h4 : (fun (v0 : List (ByteArray × (Int × (Int × ByteArray)))) (v1 : Int) => loF tab C15 lv15 (dec rs15) Tryd.f15 kx15 m 4 (st15_4 v0 v1)) = (l15 m) := by funext v0 v1; exact ih v0 v1
    exact fun v0 v1 => (B15_4_ok (loF tab C15 lv15 (dec rs15) Tryd.f15 kx15 m) v0 v1).trans (congrFun (congrFun (congrArg B15_4 h4) v0) v1)
theorem F15_ok (m : Nat) (x1 : (List (ByteArray × (Int × (Int × ByteArray))))) : callF tab C15 lv15 (dec rs15) m Tryd.f15 kx15 [canon false (.sl 37 (.prod .str (.prod (.int .i64) (.prod (.int .i64) .str)))) x1] [] = F15 m x1 := by
    have ih := l15_ok m
    have h4 : (fun (v0 : List (ByteArray × (Int × (Int × ByteArray)))) (v1 : Int) => loF tab C15 lv15 (dec rs15) Tryd.f15 kx15 m 4 (st15_4 v0 v1)) = (l15 m) := by funext v0 v1; exact ih v0 v1
    exact (M15_ok (loF tab C15 lv15 (dec rs15) Tryd.f15 kx15 m) x1).trans (congrFun (congrArg M15 h4) x1)
theorem fn15 {G : GB} (hC : COk Tryd.prog G C15) (m : Nat) (x1 : (List (ByteArray × (Int × (Int × ByteArray))))) (y : Int) (h : F15 m x1 = some y) : FnR Tryd.prog G 15 [canon false (.sl 37 (.prod .str (.prod (.int .i64) (.prod (.int .i64) .str)))) x1] [] (fun v hout => dec rs15 v hout = some y) :=
  callF_sound (Lv := lv15) (n := m) (kx := kx15) follows tab_ok hC Tryd.func15 ((F15_ok m x1).trans h)
theorem F15_mono {m m' : Nat} (hm : m ≤ m') (x1 : (List (ByteArray × (Int × (Int × ByteArray))))) {y : Int} (h : F15 m x1 = some y) : F15 m' x1 = some y := (F15_ok m' x1).symm.trans (callF_mono hm ((F15_ok m x1).trans h))
theorem ent15 : Ent Tryd.prog 15 := ⟨_, Tryd.func15, by kernel_rfl, by kernel_rfl⟩
theorem C15_ok {G : GB} (h13 : RowOk Tryd.prog G 13 sp13) (h11 : RowOk Tryd.prog G 11 sp11) : COk Tryd.prog G C15 := tabC_ok (by
  intro p hp
  simp only [List.mem_cons, List.not_mem_nil, or_false] at hp
  rcases hp with rfl | rfl
  · exact h13
  · exact h11
)
end Go.Proofs.YtopplbiadpcalaaDoor.U

/- eyrie/eyrieref03.SameAttrs (function 16): what it computes, as a plain function: printed by a program of ours off the small machine, checked by the kernel. -/
namespace Go.Proofs.YtopplbiadpcalaaDoor.U
open Go
def cs16 : List Ac := [⟨false, (.sl 37 (.prod .str (.prod (.int .i64) (.prod (.int .i64) .str))))⟩, ⟨false, (.sl 37 (.prod .str (.prod (.int .i64) (.prod (.int .i64) .str))))⟩]
def rs16 : List Rc := [⟨false, .bool, false⟩]
def lv16 : Live := fun i => cond (Nat.beq i 4) (some ⟨[(0, [.sl (.prod .str (.prod (.int .i64) (.prod (.int .i64) .str))) 37]), (1, [.sl (.prod .str (.prod (.int .i64) (.prod (.int .i64) .str))) 37]), (5, [])], []⟩) (none)
def kx16 : Keep := ⟨[(0, [])], []⟩
noncomputable def C16 : Nat → Option Sp := tabC []
set_option maxRecDepth 100000
def st16_4 (v0 : List (ByteArray × (Int × (Int × ByteArray)))) (v1 : List (ByteArray × (Int × (Int × ByteArray)))) (v2 : Int) : St := ⟨(26 : Nat), [((0 : Nat), .l (.sl (Kn.str.prod ((Kn.int IntKind.i64).prod ((Kn.int IntKind.i64).prod Kn.str))) (37 : Nat) v0 (none))), ((1 : Nat), .l (.sl (Kn.str.prod ((Kn.int IntKind.i64).prod ((Kn.int IntKind.i64).prod Kn.str))) (37 : Nat) v1 (none))), ((5 : Nat), .l (.int IntKind.i64 v2))], [], []⟩
noncomputable def B16_4 (r4 : List (ByteArray × (Int × (Int × ByteArray))) → List (ByteArray × (Int × (Int × ByteArray))) → Int → Option Bool) (v0 : List (ByteArray × (Int × (Int × ByteArray)))) (v1 : List (ByteArray × (Int × (Int × ByteArray)))) (v2 : Int) : Option Bool :=
 (cond (decide (v2 < (↑v0.length : Int)))
  (cond (decide ((0 : Int) ≤ v2) && decide (v2 < (↑v0.length : Int)))
   (cond (decide ((0 : Int) ≤ v2) && decide (v2 < (↑v1.length : Int)))
    (cond (!(ByteArray.toList (v0.getD v2.toNat (dfl (Kn.str.prod ((Kn.int IntKind.i64).prod ((Kn.int IntKind.i64).prod Kn.str))))).fst == ByteArray.toList (v1.getD v2.toNat (dfl (Kn.str.prod ((Kn.int IntKind.i64).prod ((Kn.int IntKind.i64).prod Kn.str))))).fst && ((v0.getD v2.toNat (dfl (Kn.str.prod ((Kn.int IntKind.i64).prod ((Kn.int IntKind.i64).prod Kn.str))))).snd.fst == (v1.getD v2.toNat (dfl (Kn.str.prod ((Kn.int IntKind.i64).prod ((Kn.int IntKind.i64).prod Kn.str))))).snd.fst && ((v0.getD v2.toNat (dfl (Kn.str.prod ((Kn.int IntKind.i64).prod ((Kn.int IntKind.i64).prod Kn.str))))).snd.snd.fst == (v1.getD v2.toNat (dfl (Kn.str.prod ((Kn.int IntKind.i64).prod ((Kn.int IntKind.i64).prod Kn.str))))).snd.snd.fst && ByteArray.toList (v0.getD v2.toNat (dfl (Kn.str.prod ((Kn.int IntKind.i64).prod ((Kn.int IntKind.i64).prod Kn.str))))).snd.snd.snd == ByteArray.toList (v1.getD v2.toNat (dfl (Kn.str.prod ((Kn.int IntKind.i64).prod ((Kn.int IntKind.i64).prod Kn.str))))).snd.snd.snd))))
     (some (false))
     (r4 (v0) (v1) (IntKind.i64.wrap (v2 + (1 : Int)))))
    none)
   none)
  (some (true)))
noncomputable def M16 (r4 : List (ByteArray × (Int × (Int × ByteArray))) → List (ByteArray × (Int × (Int × ByteArray))) → Int → Option Bool) (x1 : (List (ByteArray × (Int × (Int × ByteArray))))) (x2 : (List (ByteArray × (Int × (Int × ByteArray))))) : Option Bool :=
 (cond ((↑x1.length : Int) != (↑x2.length : Int))
  (some (false))
  (r4 (x1) (x2) ((0 : Int))))
theorem B16_4_ok (Lo : Nat → St → Option Bool) (v0 : List (ByteArray × (Int × (Int × ByteArray)))) (v1 : List (ByteArray × (Int × (Int × ByteArray)))) (v2 : Int) : roundG tab C16 lv16 (dec rs16) Lo Tryd.f16 kx16 4 (st16_4 v0 v1 v2) = B16_4 (fun v0 v1 v2 => Lo 4 (st16_4 v0 v1 v2)) v0 v1 v2 := by kernel_rfl
theorem M16_ok (Lo : Nat → St → Option Bool) (x1 : (List (ByteArray × (Int × (Int × ByteArray))))) (x2 : (List (ByteArray × (Int × (Int × ByteArray))))) : callG tab C16 lv16 (dec rs16) Lo Tryd.f16 kx16 [canon false (.sl 37 (.prod .str (.prod (.int .i64) (.prod (.int .i64) .str)))) x1, canon false (.sl 37 (.prod .str (.prod (.int .i64) (.prod (.int .i64) .str)))) x2] [] = M16 (fun v0 v1 v2 => Lo 4 (st16_4 v0 v1 v2)) x1 x2 := by kernel_rfl
noncomputable def l16 : Nat → (List (ByteArray × (Int × (Int × ByteArray))) → List (ByteArray × (Int × (Int × ByteArray))) → Int → Option Bool)
  | 0 => (fun _ _ _ => none)
  | m + 1 => (B16_4 (l16 m))
noncomputable def F16 (m : Nat) (x1 : (List (ByteArray × (Int × (Int × ByteArray))))) (x2 : (List (ByteArray × (Int × (Int × ByteArray))))) : Option Bool := M16 (l16 m) x1 x2
theorem l16_ok : ∀ m : Nat, (∀ (v0 : List (ByteArray × (Int × (Int × ByteArray)))) (v1 : List (ByteArray × (Int × (Int × ByteArray)))) (v2 : Int), loF tab C16 lv16 (dec rs16) Tryd.f16 kx16 m 4 (st16_4 v0 v1 v2) = (l16 m) v0 v1 v2)
  | 0 => by
    exact fun _ _ _ => rfl
  | m + 1 => by
    have ih := l16_ok m
    have h4 : (fun (v0 : List (ByteArray × (Int × (Int × ByteArray)))) (v1 : List (ByteArray × (Int × (Int × ByteArray)))) (v2 : Int) => loF tab C16 lv16 (dec rs16) Tryd.f16 kx16 m 4 (st16_4 v0 v1 v2)) = (l16 m) := by funext v0 v1 v2; exact ih v0 v1 v2
    exact fun v0 v1 v2 => (B16_4_ok (loF tab C16 lv16 (dec rs16) Tryd.f16 kx16 m) v0 v1 v2).trans (congrFun (congrFun (congrFun (congrArg B16_4 h4) v0) v1) v2)
theorem F16_ok (m : Nat) (x1 : (List (ByteArray × (Int × (Int × ByteArray))))) (x2 : (List (ByteArray × (Int × (Int × ByteArray))))) : callF tab C16 lv16 (dec rs16) m Tryd.f16 kx16 [canon false (.sl 37 (.prod .str (.prod (.int .i64) (.prod (.int .i64) .str)))) x1, canon false (.sl 37 (.prod .str (.prod (.int .i64) (.prod (.int .i64) .str)))) x2] [] = F16 m x1 x2 := by
    have ih := l16_ok m
    have h4 : (fun (v0 : List (ByteArray × (Int × (Int × ByteArray)))) (v1 : List (ByteArray × (Int × (Int × ByteArray)))) (v2 : Int) => loF tab C16 lv16 (dec rs16) Tryd.f16 kx16 m 4 (st16_4 v0 v1 v2)) = (l16 m) := by funext v0 v1 v2; exact ih v0 v1 v2
    exact (M16_ok (loF tab C16 lv16 (dec rs16) Tryd.f16 kx16 m) x1 x2).trans (congrFun (congrFun (congrArg M16 h4) x1) x2)
theorem fn16 {G : GB} (hC : COk Tryd.prog G C16) (m : Nat) (x1 : (List (ByteArray × (Int × (Int × ByteArray))))) (x2 : (List (ByteArray × (Int × (Int × ByteArray))))) (y : Bool) (h : F16 m x1 x2 = some y) : FnR Tryd.prog G 16 [canon false (.sl 37 (.prod .str (.prod (.int .i64) (.prod (.int .i64) .str)))) x1, canon false (.sl 37 (.prod .str (.prod (.int .i64) (.prod (.int .i64) .str)))) x2] [] (fun v hout => dec rs16 v hout = some y) :=
  callF_sound (Lv := lv16) (n := m) (kx := kx16) follows tab_ok hC Tryd.func16 ((F16_ok m x1 x2).trans h)
theorem F16_mono {m m' : Nat} (hm : m ≤ m') (x1 : (List (ByteArray × (Int × (Int × ByteArray))))) (x2 : (List (ByteArray × (Int × (Int × ByteArray))))) {y : Bool} (h : F16 m x1 x2 = some y) : F16 m' x1 x2 = some y := (F16_ok m' x1 x2).symm.trans (callF_mono hm ((F16_ok m x1 x2).trans h))
theorem ent16 : Ent Tryd.prog 16 := ⟨_, Tryd.func16, by kernel_rfl, by kernel_rfl⟩
theorem C16_ok {G : GB} : COk Tryd.prog G C16 := fun _ _ h => by cases h
end Go.Proofs.YtopplbiadpcalaaDoor.U

/- slices.Equal[[]eyrie/api.Attr,eyrie/api.Attr] (function 18): what it computes, as a plain function: printed by a program of ours off the small machine, checked by the kernel. -/
namespace Go.Proofs.YtopplbiadpcalaaDoor.U
open Go
def cs18 : List Ac := [⟨false, (.sl 37 (.prod .str (.prod (.int .i64) (.prod (.int .i64) .str))))⟩, ⟨false, (.sl 37 (.prod .str (.prod (.int .i64) (.prod (.int .i64) .str))))⟩]
def rs18 : List Rc := [⟨false, .bool, false⟩]
def lv18 : Live := fun i => cond (Nat.beq i 4) (some ⟨[(0, [.sl (.prod .str (.prod (.int .i64) (.prod (.int .i64) .str))) 37]), (1, [.sl (.prod .str (.prod (.int .i64) (.prod (.int .i64) .str))) 37]), (12, []), (13, [])], []⟩) (none)
def kx18 : Keep := ⟨[(0, [])], []⟩
noncomputable def C18 : Nat → Option Sp := tabC []
set_option maxRecDepth 100000
def st18_4 (v0 : List (ByteArray × (Int × (Int × ByteArray)))) (v1 : List (ByteArray × (Int × (Int × ByteArray)))) (v2 : Int) (v3 : Int) : St := ⟨(26 : Nat), [((0 : Nat), .l (.sl (Kn.str.prod ((Kn.int IntKind.i64).prod ((Kn.int IntKind.i64).prod Kn.str))) (37 : Nat) v0 (none))), ((1 : Nat), .l (.sl (Kn.str.prod ((Kn.int IntKind.i64).prod ((Kn.int IntKind.i64).prod Kn.str))) (37 : Nat) v1 (none))), ((12 : Nat), .l (.int IntKind.i64 v2)), ((13 : Nat), .l (.int IntKind.i64 v3))], [], []⟩
noncomputable def B18_4 (r4 : List (ByteArray × (Int × (Int × ByteArray))) → List (ByteArray × (Int × (Int × ByteArray))) → Int → Int → Option Bool) (v0 : List (ByteArray × (Int × (Int × ByteArray)))) (v1 : List (ByteArray × (Int × (Int × ByteArray)))) (v2 : Int) (v3 : Int) : Option Bool :=
 (cond (decide (v3 < v2))
  (cond (decide ((0 : Int) ≤ v3) && decide (v3 < (↑v0.length : Int)))
   (cond (decide ((0 : Int) ≤ v3) && decide (v3 < (↑v1.length : Int)))
    (cond (!(ByteArray.toList (v0.getD v3.toNat (dfl (Kn.str.prod ((Kn.int IntKind.i64).prod ((Kn.int IntKind.i64).prod Kn.str))))).fst == ByteArray.toList (v1.getD v3.toNat (dfl (Kn.str.prod ((Kn.int IntKind.i64).prod ((Kn.int IntKind.i64).prod Kn.str))))).fst && ((v0.getD v3.toNat (dfl (Kn.str.prod ((Kn.int IntKind.i64).prod ((Kn.int IntKind.i64).prod Kn.str))))).snd.fst == (v1.getD v3.toNat (dfl (Kn.str.prod ((Kn.int IntKind.i64).prod ((Kn.int IntKind.i64).prod Kn.str))))).snd.fst && ((v0.getD v3.toNat (dfl (Kn.str.prod ((Kn.int IntKind.i64).prod ((Kn.int IntKind.i64).prod Kn.str))))).snd.snd.fst == (v1.getD v3.toNat (dfl (Kn.str.prod ((Kn.int IntKind.i64).prod ((Kn.int IntKind.i64).prod Kn.str))))).snd.snd.fst && ByteArray.toList (v0.getD v3.toNat (dfl (Kn.str.prod ((Kn.int IntKind.i64).prod ((Kn.int IntKind.i64).prod Kn.str))))).snd.snd.snd == ByteArray.toList (v1.getD v3.toNat (dfl (Kn.str.prod ((Kn.int IntKind.i64).prod ((Kn.int IntKind.i64).prod Kn.str))))).snd.snd.snd))))
     (some (false))
     (r4 (v0) (v1) (v2) (IntKind.i64.wrap (v3 + (1 : Int)))))
    none)
   none)
  (some (true)))
noncomputable def M18 (r4 : List (ByteArray × (Int × (Int × ByteArray))) → List (ByteArray × (Int × (Int × ByteArray))) → Int → Int → Option Bool) (x1 : (List (ByteArray × (Int × (Int × ByteArray))))) (x2 : (List (ByteArray × (Int × (Int × ByteArray))))) : Option Bool :=
 (cond ((↑x1.length : Int) != (↑x2.length : Int))
  (some (false))
  (r4 (x1) (x2) ((↑x1.length : Int)) ((0 : Int))))
theorem B18_4_ok (Lo : Nat → St → Option Bool) (v0 : List (ByteArray × (Int × (Int × ByteArray)))) (v1 : List (ByteArray × (Int × (Int × ByteArray)))) (v2 : Int) (v3 : Int) : roundG tab C18 lv18 (dec rs18) Lo Tryd.f18 kx18 4 (st18_4 v0 v1 v2 v3) = B18_4 (fun v0 v1 v2 v3 => Lo 4 (st18_4 v0 v1 v2 v3)) v0 v1 v2 v3 := by kernel_rfl
theorem M18_ok (Lo : Nat → St → Option Bool) (x1 : (List (ByteArray × (Int × (Int × ByteArray))))) (x2 : (List (ByteArray × (Int × (Int × ByteArray))))) : callG tab C18 lv18 (dec rs18) Lo Tryd.f18 kx18 [canon false (.sl 37 (.prod .str (.prod (.int .i64) (.prod (.int .i64) .str)))) x1, canon false (.sl 37 (.prod .str (.prod (.int .i64) (.prod (.int .i64) .str)))) x2] [] = M18 (fun v0 v1 v2 v3 => Lo 4 (st18_4 v0 v1 v2 v3)) x1 x2 := by kernel_rfl
noncomputable def l18 : Nat → (List (ByteArray × (Int × (Int × ByteArray))) → List (ByteArray × (Int × (Int × ByteArray))) → Int → Int → Option Bool)
  | 0 => (fun _ _ _ _ => none)
  | m + 1 => (B18_4 (l18 m))
noncomputable def F18 (m : Nat) (x1 : (List (ByteArray × (Int × (Int × ByteArray))))) (x2 : (List (ByteArray × (Int × (Int × ByteArray))))) : Option Bool := M18 (l18 m) x1 x2
theorem l18_ok : ∀ m : Nat, (∀ (v0 : List (ByteArray × (Int × (Int × ByteArray)))) (v1 : List (ByteArray × (Int × (Int × ByteArray)))) (v2 : Int) (v3 : Int), loF tab C18 lv18 (dec rs18) Tryd.f18 kx18 m 4 (st18_4 v0 v1 v2 v3) = (l18 m) v0 v1 v2 v3)
  | 0 => by
    exact fun _ _ _ _ => rfl
  | m + 1 => by
    have ih := l18_ok m
    have h4 : (fun (v0 : List (ByteArray × (Int × (Int × ByteArray)))) (v1 : List (ByteArray × (Int × (Int × ByteArray)))) (v2 : Int) (v3 : Int) => loF tab C18 lv18 (dec rs18) Tryd.f18 kx18 m 4 (st18_4 v0 v1 v2 v3)) = (l18 m) := by funext v0 v1 v2 v3; exact ih v0 v1 v2 v3
    exact fun v0 v1 v2 v3 => (B18_4_ok (loF tab C18 lv18 (dec rs18) Tryd.f18 kx18 m) v0 v1 v2 v3).trans (congrFun (congrFun (congrFun (congrFun (congrArg B18_4 h4) v0) v1) v2) v3)
theorem F18_ok (m : Nat) (x1 : (List (ByteArray × (Int × (Int × ByteArray))))) (x2 : (List (ByteArray × (Int × (Int × ByteArray))))) : callF tab C18 lv18 (dec rs18) m Tryd.f18 kx18 [canon false (.sl 37 (.prod .str (.prod (.int .i64) (.prod (.int .i64) .str)))) x1, canon false (.sl 37 (.prod .str (.prod (.int .i64) (.prod (.int .i64) .str)))) x2] [] = F18 m x1 x2 := by
    have ih := l18_ok m
    have h4 : (fun (v0 : List (ByteArray × (Int × (Int × ByteArray)))) (v1 : List (ByteArray × (Int × (Int × ByteArray)))) (v2 : Int) (v3 : Int) => loF tab C18 lv18 (dec rs18) Tryd.f18 kx18 m 4 (st18_4 v0 v1 v2 v3)) = (l18 m) := by funext v0 v1 v2 v3; exact ih v0 v1 v2 v3
    exact (M18_ok (loF tab C18 lv18 (dec rs18) Tryd.f18 kx18 m) x1 x2).trans (congrFun (congrFun (congrArg M18 h4) x1) x2)
theorem fn18 {G : GB} (hC : COk Tryd.prog G C18) (m : Nat) (x1 : (List (ByteArray × (Int × (Int × ByteArray))))) (x2 : (List (ByteArray × (Int × (Int × ByteArray))))) (y : Bool) (h : F18 m x1 x2 = some y) : FnR Tryd.prog G 18 [canon false (.sl 37 (.prod .str (.prod (.int .i64) (.prod (.int .i64) .str)))) x1, canon false (.sl 37 (.prod .str (.prod (.int .i64) (.prod (.int .i64) .str)))) x2] [] (fun v hout => dec rs18 v hout = some y) :=
  callF_sound (Lv := lv18) (n := m) (kx := kx18) follows tab_ok hC Tryd.func18 ((F18_ok m x1 x2).trans h)
theorem F18_mono {m m' : Nat} (hm : m ≤ m') (x1 : (List (ByteArray × (Int × (Int × ByteArray))))) (x2 : (List (ByteArray × (Int × (Int × ByteArray))))) {y : Bool} (h : F18 m x1 x2 = some y) : F18 m' x1 x2 = some y := (F18_ok m' x1 x2).symm.trans (callF_mono hm ((F18_ok m x1 x2).trans h))
theorem ent18 : Ent Tryd.prog 18 := ⟨_, Tryd.func18, by kernel_rfl, by kernel_rfl⟩
theorem C18_ok {G : GB} : COk Tryd.prog G C18 := fun _ _ h => by cases h
end Go.Proofs.YtopplbiadpcalaaDoor.U

/- Both functions that look attributes over answer 'chkA'; a list is the same as itself. -/
namespace Go.Proofs.YtopplbiadpcalaaDoor.U
open Go Go.Proofs.YtopplbiadpcalaaDoor.K

noncomputable def nextC (l : List Attr) (i : Nat) (z : Option Int) : Option Int := if name (atA l i).1 = false then some 31 else if check (atA l i).2 ≠ 0 then some (check (atA l i).2) else if 0 < i ∧ leB (atA l i).1 (atA l (i - 1)).1 = true then some 32 else z
theorem atA_mem (l : List Attr) (i : Nat) (h : i < l.length) : atA l i ∈ l := by
  unfold atA
  rw [List.getD_eq_getElem?_getD, List.getElem?_eq_getElem h]
  exact List.getElem_mem h
theorem cv_step (l : List Attr) (i : Nat) (hi : i < l.length) (hl : (l.length : Int) ≤ 1099511627776) (hs : (atA l i).1.size ≤ 1099511627776) (r : List Attr → List Attr → Int → Int → Option Int) :
    B14_4 r l l (l.length : Int) (i : Int) = nextC l i (r l l (l.length : Int) ((i + 1 : Nat) : Int)) := by
  unfold B14_4 nextC
  have w : IntKind.i64.wrap ((i : Int) + 1) = ((i + 1 : Nat) : Int) := by rw [w64 (by omega)]; rfl
  rw [decide_eq_true (show (i : Int) < (l.length : Int) by omega), cond_true, decide_eq_true (show (0 : Int) ≤ (i : Int) by omega), Bool.and_true, cond_true, show Int.toNat (i : Int) = i from rfl, w]
  rw [show decide (ByteArray.size (l.getD i (dfl (Kn.str.prod ((Kn.int IntKind.i64).prod ((Kn.int IntKind.i64).prod Kn.str))))).fst ≤ (1099511627776 : Nat)) = true from decide_eq_true hs, cond_true]
  show cond (!name (atA l i).1) _ (cond (check (atA l i).2 != 0) (some (check (atA l i).2)) _) = _
  cases hn : name (atA l i).1 with
  | false => rw [if_pos rfl]; rfl
  | true =>
    rw [if_neg (by simp), Bool.not_true, cond_false, bne_int, cond_dec]
    by_cases hc : check (atA l i).2 ≠ 0
    · rw [if_pos hc, if_pos hc]
    · rw [if_neg hc, if_neg hc]
      cases i with
      | zero => rw [decide_eq_false (by omega), cond_false, if_neg (by omega)]
      | succ j =>
        have w2 : IntKind.i64.wrap (((j + 1 : Nat) : Int) - 1) = (j : Int) := by rw [w64 (by omega)]; omega
        rw [decide_eq_true (show ((j + 1 : Nat) : Int) > 0 by omega), cond_true, w2, and_dec, decide_eq_true (show (0 : Int) ≤ (j : Int) ∧ (j : Int) < (l.length : Int) by omega), cond_true]
        show cond (leB (atA l (j + 1)).1 (atA l j).1) _ _ = _
        cases hle : leB (atA l (j + 1)).1 (atA l j).1 with
        | true => rw [if_pos ⟨by omega, hle⟩]; rfl
        | false => rw [if_neg (fun e => by rw [show j + 1 - 1 = j from rfl, hle] at e; exact absurd e.2 (by simp))]; rfl
theorem cr_step (l : List Attr) (i : Nat) (hi : i < l.length) (hl : (l.length : Int) ≤ 1099511627776) (hs : (atA l i).1.size ≤ 1099511627776) (r : List Attr → Int → Option Int) :
    B15_4 r l (i : Int) = nextC l i (r l ((i + 1 : Nat) : Int)) := by
  unfold B15_4 nextC
  have w : IntKind.i64.wrap ((i : Int) + 1) = ((i + 1 : Nat) : Int) := by rw [w64 (by omega)]; rfl
  rw [decide_eq_true (show (i : Int) < (l.length : Int) by omega), cond_true, decide_eq_true (show (0 : Int) ≤ (i : Int) by omega), Bool.and_true, cond_true, cond_true, cond_true, show Int.toNat (i : Int) = i from rfl, w]
  rw [show decide (ByteArray.size (l.getD i (dfl (Kn.str.prod ((Kn.int IntKind.i64).prod ((Kn.int IntKind.i64).prod Kn.str))))).fst ≤ (1099511627776 : Nat)) = true from decide_eq_true hs, cond_true]
  show cond (!name (atA l i).1) _ (cond (check (atA l i).2 != 0) (some (check (atA l i).2)) _) = _
  cases hn : name (atA l i).1 with
  | false => rw [if_pos rfl]; rfl
  | true =>
    rw [if_neg (by simp), Bool.not_true, cond_false, bne_int, cond_dec]
    by_cases hc : check (atA l i).2 ≠ 0
    · rw [if_pos hc, if_pos hc]
    · rw [if_neg hc, if_neg hc]
      cases i with
      | zero => rw [decide_eq_false (by omega), cond_false, if_neg (by omega)]
      | succ j =>
        have w2 : IntKind.i64.wrap (((j + 1 : Nat) : Int) - 1) = (j : Int) := by rw [w64 (by omega)]; omega
        rw [decide_eq_true (show ((j + 1 : Nat) : Int) > 0 by omega), cond_true, w2, and_dec, decide_eq_true (show (0 : Int) ≤ (j : Int) ∧ (j : Int) < (l.length : Int) by omega), cond_true]
        show cond (leB (atA l (j + 1)).1 (atA l j).1) _ _ = _
        cases hle : leB (atA l (j + 1)).1 (atA l j).1 with
        | true => rw [if_pos ⟨by omega, hle⟩]; rfl
        | false => rw [if_neg (fun e => by rw [show j + 1 - 1 = j from rfl, hle] at e; exact absurd e.2 (by simp))]; rfl
theorem chkI_next (l : List Attr) (n i : Nat) : some (chkI l (n + 1) i) = nextC l i (some (chkI l n (i + 1))) := by
  unfold nextC
  simp only [chkI]
  repeat' (first | rfl | split)
theorem cv_run (l : List Attr) (hl : (l.length : Int) ≤ 1099511627776) (hs : ∀ a ∈ l, a.1.size ≤ 1099511627776) : ∀ n i : Nat, i + n = l.length → l14 (n + 1) l l (l.length : Int) (i : Int) = some (chkI l n i) := by
  intro n
  induction n with
  | zero =>
    intro i hi
    show B14_4 (l14 0) l l (l.length : Int) (i : Int) = _
    unfold B14_4
    rw [decide_eq_false (by omega), cond_false]
    rfl
  | succ n ih =>
    intro i hi
    show B14_4 (l14 (n + 1)) l l (l.length : Int) (i : Int) = _
    rw [cv_step l i (by omega) hl (hs _ (atA_mem l i (by omega))), ih (i + 1) (by omega), chkI_next]
theorem cr_run (l : List Attr) (hl : (l.length : Int) ≤ 1099511627776) (hs : ∀ a ∈ l, a.1.size ≤ 1099511627776) : ∀ n i : Nat, i + n = l.length → l15 (n + 1) l (i : Int) = some (chkI l n i) := by
  intro n
  induction n with
  | zero =>
    intro i hi
    show B15_4 (l15 0) l (i : Int) = _
    unfold B15_4
    rw [decide_eq_false (by omega), cond_false]
    rfl
  | succ n ih =>
    intro i hi
    show B15_4 (l15 (n + 1)) l (i : Int) = _
    rw [cr_step l i (by omega) hl (hs _ (atA_mem l i (by omega))), ih (i + 1) (by omega), chkI_next]
theorem cv_val (l : List Attr) (h : okA l = true) : ∃ m, F14 m l = some (chkA l) := by
  have h := of_decide_eq_true h
  refine ⟨l.length + 1, ?_⟩
  show M14 (l14 (l.length + 1)) l = _
  unfold M14 chkA
  by_cases h8 : 8 < l.length
  · rw [decide_eq_true (by omega), cond_true, if_pos h8]
  · rw [decide_eq_false (by omega), cond_false, if_neg h8]
    exact cv_run l h.1 (h.2.resolve_left h8) l.length 0 (by omega)
theorem cr_val (l : List Attr) (h : okA l = true) : ∃ m, F15 m l = some (chkA l) := by
  have h := of_decide_eq_true h
  refine ⟨l.length + 1, ?_⟩
  show M15 (l15 (l.length + 1)) l = _
  unfold M15 chkA
  by_cases h8 : 8 < l.length
  · rw [decide_eq_true (by omega), cond_true, if_pos h8]
  · rw [decide_eq_false (by omega), cond_false, if_neg h8]
    exact cr_run l h.1 (h.2.resolve_left h8) l.length 0 (by omega)
theorem sa_run (l : List Attr) (hl : (l.length : Int) ≤ 1099511627776) : ∀ n i : Nat, i + n = l.length → l16 (n + 1) l l (i : Int) = some true := by
  intro n
  induction n with
  | zero =>
    intro i hi
    show B16_4 (l16 0) l l (i : Int) = _
    unfold B16_4
    rw [decide_eq_false (by omega), cond_false]
  | succ n ih =>
    intro i hi
    show B16_4 (l16 (n + 1)) l l (i : Int) = _
    unfold B16_4
    have w : IntKind.i64.wrap ((i : Int) + 1) = ((i + 1 : Nat) : Int) := by rw [w64 (by omega)]; rfl
    rw [decide_eq_true (show (i : Int) < (l.length : Int) by omega), cond_true, decide_eq_true (show (0 : Int) ≤ (i : Int) by omega), Bool.and_true, cond_true, cond_true, w]
    simp only [beq_self_eq_true, Bool.and_self, Bool.not_true, cond_false]
    exact ih (i + 1) (by omega)
theorem sl_run (l : List Attr) (hl : (l.length : Int) ≤ 1099511627776) : ∀ n i : Nat, i + n = l.length → l18 (n + 1) l l (l.length : Int) (i : Int) = some true := by
  intro n
  induction n with
  | zero =>
    intro i hi
    show B18_4 (l18 0) l l (l.length : Int) (i : Int) = _
    unfold B18_4
    rw [decide_eq_false (by omega), cond_false]
  | succ n ih =>
    intro i hi
    show B18_4 (l18 (n + 1)) l l (l.length : Int) (i : Int) = _
    unfold B18_4
    have w : IntKind.i64.wrap ((i : Int) + 1) = ((i + 1 : Nat) : Int) := by rw [w64 (by omega)]; rfl
    rw [decide_eq_true (show (i : Int) < (l.length : Int) by omega), cond_true, decide_eq_true (show (0 : Int) ≤ (i : Int) by omega), Bool.and_true, cond_true, cond_true, w]
    simp only [beq_self_eq_true, Bool.and_self, Bool.not_true, cond_false]
    exact ih (i + 1) (by omega)
theorem sa_val (a b : List Attr) (h : same a b = true) : ∃ m, F16 m a b = some true := by
  obtain ⟨rfl, h'⟩ := of_decide_eq_true h
  refine ⟨a.length + 1, ?_⟩
  show M16 (l16 (a.length + 1)) a a = _
  unfold M16
  rw [bne_self_eq_false, cond_false]
  exact sa_run a h' a.length 0 (by omega)
theorem eq_val (a b : List Attr) (h : same a b = true) : ∃ m, F18 m a b = some true := by
  obtain ⟨rfl, h'⟩ := of_decide_eq_true h
  refine ⟨a.length + 1, ?_⟩
  show M18 (l18 (a.length + 1)) a a = _
  unfold M18
  rw [bne_self_eq_false, cond_false]
  exact sl_run a h' a.length 0 (by omega)
end Go.Proofs.YtopplbiadpcalaaDoor.U

/- Both functions that put attributes in order answer 'attrs'. -/
namespace Go.Proofs.YtopplbiadpcalaaDoor.K
open Go Go.Proofs.YtopplbiadpcalaaDoor.U
noncomputable def sortA (l : List Attr) : List Attr := stR (l.length : Int) l
noncomputable def attrs (l : List Attr) : List Attr × Int := if chkA (sortA l) ≠ 0 then ([], chkA (sortA l)) else (sortA l, 0)
end Go.Proofs.YtopplbiadpcalaaDoor.K
namespace Go.Proofs.YtopplbiadpcalaaDoor.U
open Go Go.Proofs.YtopplbiadpcalaaDoor.K

/-- How far down a cell goes. -/
noncomputable def scanK (p : List Attr) (x : Attr) : Nat → Nat
  | 0 => 0
  | k + 1 => if leB (atA p k).1 x.1 = true then k + 1 else scanK p x k
theorem scanK_le (p : List Attr) (x : Attr) : ∀ k, scanK p x k ≤ k := by
  intro k
  induction k with
  | zero => exact Nat.le_refl _
  | succ k ih => simp only [scanK]; split <;> omega
theorem atA_app (p q : List Attr) (k : Nat) (h : k < p.length) : atA (p ++ q) k = atA p k := by
  unfold atA
  simp only [List.getD_eq_getElem?_getD]
  rw [List.getElem?_append_left h]
theorem scanK_app (p q : List Attr) (x : Attr) : ∀ k, k ≤ p.length → scanK (p ++ q) x k = scanK p x k := by
  intro k
  induction k with
  | zero => intro _; rfl
  | succ k ih => intro h; simp only [scanK]; rw [atA_app p q k (by omega), ih (by omega)]
/-- Names held against one another, both ways of saying so. -/
theorem cmp_lists : ∀ a b : List UInt8, Lib.compareBytes a b < 0 ↔ (Op.bytesLess b a || b == a) = false
  | [], [] => by simp [Lib.compareBytes, Op.bytesLess]
  | [], _ :: _ => by simp [Lib.compareBytes, Op.bytesLess]
  | _ :: _, [] => by simp [Lib.compareBytes, Op.bytesLess]
  | a :: x, b :: y => by
    have ih := cmp_lists x y
    simp only [Lib.compareBytes, Op.bytesLess]
    by_cases h1 : a < b
    · have h2 : ¬ b < a := fun h => absurd (UInt8.lt_trans h1 h) (UInt8.lt_irrefl _)
      have h3 : b ≠ a := fun h => by rw [h] at h1; exact absurd h1 (UInt8.lt_irrefl _)
      simp [h1, h2, h3]
    · by_cases h2 : b < a
      · simp [h1, h2]
      · have h3 : a = b := UInt8.le_antisymm (UInt8.not_lt.1 h2) (UInt8.not_lt.1 h1)
        subst h3
        simp only [h1, if_false]
        rw [ih]
        simp [h1]
theorem cmp_less (a b : ByteArray) : (cmpS a b < 0) ↔ ¬ leB b a = true := by
  unfold cmpS leB
  rw [cmp_lists, ByteArray.toList_eq, ByteArray.toList_eq]
  simp
theorem nameAt_eq (y : List Attr) (j : Nat) : nameAt y j = (atA y j).1 := rfl
theorem swA_mid (p q : List Attr) (b x : Attr) : swA p.length (p ++ b :: x :: q) = p ++ x :: b :: q := by
  unfold swA
  have h1 : (p ++ b :: x :: q).getD p.length (dfl (Kn.str.prod ((Kn.int IntKind.i64).prod ((Kn.int IntKind.i64).prod Kn.str)))) = b := by simp [List.getD_eq_getElem?_getD]
  have h2 : (p ++ b :: x :: q).getD (p.length + 1) (dfl (Kn.str.prod ((Kn.int IntKind.i64).prod ((Kn.int IntKind.i64).prod Kn.str)))) = x := by simp [List.getD_eq_getElem?_getD]
  rw [h1, h2]
  rw [List.set_append_right _ _ (by omega), Nat.add_sub_cancel_left, List.set_append_right _ _ (by omega), Nat.sub_self]
  rfl
theorem insJ_eq (x : Attr) : ∀ (n : Nat) (p q : List Attr), p.length = n → insJ 0 n (p ++ x :: q) = p.take (scanK p x n) ++ x :: (p.drop (scanK p x n) ++ q) := by
  intro n
  induction n with
  | zero => intro p q hp; obtain rfl := List.length_eq_zero_iff.1 hp; rfl
  | succ n ih =>
    intro p q hp
    obtain ⟨p', b, rfl⟩ : ∃ p' b, p = p' ++ [b] := by
      rcases List.eq_nil_or_concat p with h | ⟨p', b, h⟩
      · rw [h] at hp; cases hp
      · exact ⟨p', b, by rw [h]; simp⟩
    have hp' : p'.length = n := by simpa using hp
    have e1 : nameAt (p' ++ [b] ++ x :: q) (n + 1) = x.1 := by rw [nameAt_eq]; unfold atA; simp [List.getD_eq_getElem?_getD, ← hp']
    have e2 : nameAt (p' ++ [b] ++ x :: q) n = b.1 := by rw [nameAt_eq]; unfold atA; simp [List.getD_eq_getElem?_getD, ← hp']
    have e3 : (atA (p' ++ [b]) n).1 = b.1 := by unfold atA; simp [List.getD_eq_getElem?_getD, ← hp']
    simp only [insJ, scanK]
    rw [if_pos (Nat.zero_le _), e1, e2, e3]
    by_cases hc : leB b.1 x.1 = true
    · rw [if_pos hc, if_neg (fun e => (cmp_less _ _).1 e hc), List.take_of_length_le (by simp [hp']), List.drop_of_length_le (by simp [hp'])]
      simp
    · rw [if_neg hc, if_pos ((cmp_less _ _).2 hc), scanK_app p' [b] x n (by omega)]
      have hsw : swA n (p' ++ [b] ++ x :: q) = p' ++ x :: (b :: q) := by
        have := swA_mid p' q b x
        rw [hp'] at this
        simpa using this
      rw [hsw, ih p' (b :: q) hp']
      have hk := scanK_le p' x n
      rw [List.take_append_of_le_length (by omega), List.drop_append_of_le_length (by omega)]
      simp
/-- One more cell is put in its place. -/
noncomputable def insP (p : List Attr) (x : Attr) : List Attr := p.take (scanK p x p.length) ++ x :: p.drop (scanK p x p.length)
theorem insP_len (p : List Attr) (x : Attr) : (insP p x).length = p.length + 1 := by
  unfold insP
  have := scanK_le p x p.length
  simp only [List.length_append, List.length_take, List.length_cons, List.length_drop]
  omega
theorem insP_mem (p : List Attr) (x a : Attr) (h : a ∈ insP p x) : a = x ∨ a ∈ p := by
  unfold insP at h
  rcases List.mem_append.1 h with h | h
  · exact .inr (List.mem_of_mem_take h)
  · rcases List.mem_cons.1 h with h | h
    · exact .inl h
    · exact .inr (List.mem_of_mem_drop h)
noncomputable def foldA : List Attr → List Attr → List Attr
  | out, [] => out
  | out, x :: r => foldA (insP out x) r
theorem foldA_len : ∀ r out : List Attr, (foldA out r).length = out.length + r.length
  | [], out => rfl
  | x :: r, out => by simp only [foldA]; rw [foldA_len r, insP_len]; simp only [List.length_cons]; omega
theorem foldA_mem : ∀ (r out : List Attr) (a : Attr), a ∈ foldA out r → a ∈ out ∨ a ∈ r
  | [], out, a, h => .inl h
  | x :: r, out, a, h => by
    rcases foldA_mem r (insP out x) a h with h | h
    · rcases insP_mem out x a h with h | h
      · exact .inr (by rw [h]; exact List.mem_cons_self)
      · exact .inl h
    · exact .inr (List.mem_cons_of_mem _ h)
theorem insI_fold : ∀ r out : List Attr, insI 0 r.length out.length (out ++ r) = foldA out r
  | [], out => by simp [insI, foldA]
  | x :: r, out => by
    simp only [List.length_cons, insI, foldA]
    have h1 : insJ 0 out.length (out ++ x :: r) = insP out x ++ r := by rw [insJ_eq x out.length out r rfl]; unfold insP; simp
    rw [h1, ← insP_len out x]
    exact insI_fold r (insP out x)
theorem insR_fold (l : List Attr) : insR 0 (l.length : Int) l = foldA [] l := by
  unfold insR
  cases l with
  | nil => rfl
  | cons x r =>
    have := insI_fold r [x]
    have h1 : foldA [] (x :: r) = foldA [x] r := rfl
    rw [h1, ← this]
    simp
theorem sortA_len (l : List Attr) (h : (l.length : Int) ≤ 1099511627776) : (sortA l).length = l.length := (stR_some _ l ⟨rfl, h⟩).2.1
theorem sortA_small (l : List Attr) (h : l.length ≤ 8) : sortA l = foldA [] l := by
  unfold sortA
  rw [(stR_some _ l ⟨rfl, by omega⟩).2.2 (by omega), insR_fold]
theorem sortA_ok (l : List Attr) (h : (l.length : Int) ≤ 1099511627776) (hs : ∀ a ∈ l, a.1.size ≤ 1099511627776) : okA (sortA l) = true := by
  refine decide_eq_true ⟨by rw [sortA_len l h]; exact h, ?_⟩
  by_cases h8 : 8 < l.length
  · left; rw [sortA_len l h]; exact h8
  · right
    intro a ha
    rw [sortA_small l (by omega)] at ha
    rcases foldA_mem l [] a ha with h | h
    · cases h
    · exact hs a h
theorem vattrs_val (l : List Attr) (h : (l.length : Int) ≤ 1099511627776) (hs : ∀ a ∈ l, a.1.size ≤ 1099511627776) : F7 0 l = some (attrs l) := by
  show M7 l = _
  unfold M7
  have h1 : okA (stR (l.length : Int) l) = true := sortA_ok l h hs
  rw [decide_eq_true h, cond_true, cond_true, h1, cond_true, bne_int, cond_dec]
  unfold attrs sortA
  split <;> rfl
theorem ra_put (x : List Attr) (i : Nat) (k : Nat) (out : List Attr) (hi : i < x.length) (hk : k ≤ out.length) (hL : (x.length : Int) ≤ 1099511627776) (ho : (out.length : Int) ≤ 1099511627776) (hw : IntKind.i64.wrap ((i : Int) + 1) = ((i + 1 : Nat) : Int)) (r5 : List Attr → Int → List Attr → Option (List Attr × Int)) :
    (cond (decide ((0 : Int) ≤ (0 : Int)) && decide ((0 : Int) ≤ (k : Int)) && decide ((k : Int) ≤ (out.length : Int)))
      (cond (decide ((List.drop (Int.toNat (0 : Int)) (List.take (k : Int).toNat out)).length * (48 : Nat) ≤ (140737488355328 : Nat)))
       (cond (decide ((0 : Int) ≤ (i : Int)) && decide ((i : Int) < (x.length : Int)))
        (cond (decide (((List.drop (Int.toNat (0 : Int)) (List.take (k : Int).toNat out)).length + [((x.getD (i : Int).toNat (dfl (Kn.str.prod ((Kn.int IntKind.i64).prod ((Kn.int IntKind.i64).prod Kn.str))))).fst, (x.getD (i : Int).toNat (dfl (Kn.str.prod ((Kn.int IntKind.i64).prod ((Kn.int IntKind.i64).prod Kn.str))))).snd.fst, (x.getD (i : Int).toNat (dfl (Kn.str.prod ((Kn.int IntKind.i64).prod ((Kn.int IntKind.i64).prod Kn.str))))).snd.snd.fst, (x.getD (i : Int).toNat (dfl (Kn.str.prod ((Kn.int IntKind.i64).prod ((Kn.int IntKind.i64).prod Kn.str))))).snd.snd.snd)].length) * (48 : Nat) ≤ (140737488355328 : Nat)))
         (cond (decide ((0 : Int) ≤ (k : Int)) && decide ((k : Int) ≤ (out.length : Int)) && decide ((out.length : Int) ≤ (out.length : Int)))
          (cond (decide (((List.drop (Int.toNat (0 : Int)) (List.take (k : Int).toNat out) ++ [((x.getD (i : Int).toNat (dfl (Kn.str.prod ((Kn.int IntKind.i64).prod ((Kn.int IntKind.i64).prod Kn.str))))).fst, (x.getD (i : Int).toNat (dfl (Kn.str.prod ((Kn.int IntKind.i64).prod ((Kn.int IntKind.i64).prod Kn.str))))).snd.fst, (x.getD (i : Int).toNat (dfl (Kn.str.prod ((Kn.int IntKind.i64).prod ((Kn.int IntKind.i64).prod Kn.str))))).snd.snd.fst, (x.getD (i : Int).toNat (dfl (Kn.str.prod ((Kn.int IntKind.i64).prod ((Kn.int IntKind.i64).prod Kn.str))))).snd.snd.snd)]).length + (List.drop (k : Int).toNat (List.take (out.length : Int).toNat out)).length) * (48 : Nat) ≤ (140737488355328 : Nat)))
           (r5 x (IntKind.i64.wrap ((i : Int) + (1 : Int))) (List.drop (Int.toNat (0 : Int)) (List.take (k : Int).toNat out) ++ [((x.getD (i : Int).toNat (dfl (Kn.str.prod ((Kn.int IntKind.i64).prod ((Kn.int IntKind.i64).prod Kn.str))))).fst, (x.getD (i : Int).toNat (dfl (Kn.str.prod ((Kn.int IntKind.i64).prod ((Kn.int IntKind.i64).prod Kn.str))))).snd.fst, (x.getD (i : Int).toNat (dfl (Kn.str.prod ((Kn.int IntKind.i64).prod ((Kn.int IntKind.i64).prod Kn.str))))).snd.snd.fst, (x.getD (i : Int).toNat (dfl (Kn.str.prod ((Kn.int IntKind.i64).prod ((Kn.int IntKind.i64).prod Kn.str))))).snd.snd.snd)] ++ List.drop (k : Int).toNat (List.take (out.length : Int).toNat out)))
           none)
          none)
         none)
        none)
       none)
      none) = r5 x ((i + 1 : Nat) : Int) (out.take k ++ atA x i :: out.drop k) := by
  have e1 : (k : Int).toNat = k := rfl
  have e2 : (out.length : Int).toNat = out.length := rfl
  have e3 : (i : Int).toNat = i := rfl
  have e4 : Int.toNat (0 : Int) = 0 := rfl
  rw [e1, e2, e3, e4, hw]
  simp only [List.drop_zero, List.take_length, and_dec, List.length_take, List.length_cons, List.length_nil, List.length_append, List.length_drop]
  rw [decide_eq_true (by omega), cond_true, decide_eq_true (by omega), cond_true, decide_eq_true (by omega), cond_true, decide_eq_true (by omega), cond_true, decide_eq_true (by omega), cond_true, decide_eq_true (by omega), cond_true]
  rw [List.append_assoc]
  rfl
theorem ra_scan (x : List Attr) (i : Nat) (hi : i < x.length) (hL : (x.length : Int) ≤ 1099511627776) (R : List Attr × Int) : ∀ (k : Nat) (out : List Attr), k ≤ out.length → (out.length : Int) ≤ 1099511627776 →
    (∃ m, (l8 m).1 x ((i + 1 : Nat) : Int) (out.take (scanK out (atA x i) k) ++ atA x i :: out.drop (scanK out (atA x i) k)) = some R) → ∃ m, (l8 m).2 x (i : Int) (k : Int) out = some R := by
  have hw : IntKind.i64.wrap ((i : Int) + 1) = ((i + 1 : Nat) : Int) := by rw [w64 (by omega)]; rfl
  intro k
  induction k with
  | zero =>
    intro out hk ho hm
    obtain ⟨m, hm⟩ := hm
    refine ⟨m + 1, ?_⟩
    show B8_8 (l8 m).1 (l8 m).2 x (i : Int) ((0 : Nat) : Int) out = _
    unfold B8_8
    rw [show decide (((0 : Nat) : Int) > (0 : Int)) = false from rfl, cond_false]
    exact (ra_put x i 0 out hi (by omega) hL ho hw _).trans hm
  | succ k ih =>
    intro out hk ho hm
    have w2 : IntKind.i64.wrap (((k + 1 : Nat) : Int) - 1) = (k : Int) := by rw [w64 (by omega)]; omega
    cases hle : leB (atA out k).1 (atA x i).1 with
    | true =>
      simp only [scanK] at hm
      rw [if_pos hle] at hm
      obtain ⟨m, hm⟩ := hm
      refine ⟨m + 1, ?_⟩
      show B8_8 (l8 m).1 (l8 m).2 x (i : Int) ((k + 1 : Nat) : Int) out = _
      unfold B8_8
      rw [decide_eq_true (show ((k + 1 : Nat) : Int) > 0 by omega), cond_true, w2, show (decide ((0 : Int) ≤ (k : Int)) && decide ((k : Int) < (out.length : Int))) = true from by rw [and_dec]; exact decide_eq_true (by omega), cond_true, show (decide ((0 : Int) ≤ (i : Int)) && decide ((i : Int) < (x.length : Int))) = true from by rw [and_dec]; exact decide_eq_true (by omega), cond_true]
      show cond (!leB (atA out k).1 (atA x i).1) _ _ = _
      rw [hle, Bool.not_true, cond_false]
      have := (ra_put x i (k + 1) out hi hk hL ho hw (l8 m).1).trans hm
      rw [show (decide ((0 : Int) ≤ (i : Int)) && decide ((i : Int) < (x.length : Int))) = true from by rw [and_dec]; exact decide_eq_true (by omega), cond_true] at this
      exact this
    | false =>
      simp only [scanK] at hm
      rw [if_neg (by rw [hle]; simp)] at hm
      obtain ⟨m, hm⟩ := ih out (by omega) ho hm
      refine ⟨m + 1, ?_⟩
      show B8_8 (l8 m).1 (l8 m).2 x (i : Int) ((k + 1 : Nat) : Int) out = _
      unfold B8_8
      rw [decide_eq_true (show ((k + 1 : Nat) : Int) > 0 by omega), cond_true, w2, show (decide ((0 : Int) ≤ (k : Int)) && decide ((k : Int) < (out.length : Int))) = true from by rw [and_dec]; exact decide_eq_true (by omega), cond_true, show (decide ((0 : Int) ≤ (i : Int)) && decide ((i : Int) < (x.length : Int))) = true from by rw [and_dec]; exact decide_eq_true (by omega), cond_true]
      show cond (!leB (atA out k).1 (atA x i).1) _ _ = _
      rw [hle, Bool.not_false, cond_true]
      exact hm
theorem ra_run (x : List Attr) (hL : (x.length : Int) ≤ 1099511627776) (hs : ∀ a ∈ x, a.1.size ≤ 1099511627776) (h8 : x.length ≤ 8) : ∀ (r out pre : List Attr), x = pre ++ r → pre.length = out.length → (∀ a ∈ out, a ∈ x) →
    ∃ m, (l8 m).1 x (out.length : Int) out = some (if chkA (foldA out r) ≠ 0 then ([], chkA (foldA out r)) else (foldA out r, 0)) := by
  intro r
  induction r with
  | nil =>
    intro out pre hx hp hm
    have hlen : x.length = out.length := by rw [hx, List.append_nil]; exact hp
    refine ⟨1, ?_⟩
    show B8_5 (l8 0).1 (l8 0).2 x (out.length : Int) out = _
    unfold B8_5
    have hok : okA out = true := decide_eq_true ⟨by omega, .inr fun a ha => hs a (hm a ha)⟩
    rw [decide_eq_false (by omega), cond_false, hok, cond_true, bne_int, cond_dec]
    show _ = some (if chkA out ≠ 0 then ([], chkA out) else (out, 0))
    split <;> rfl
  | cons c r ih =>
    intro out pre hx hp hm
    have hi : out.length < x.length := by rw [hx, List.length_append, List.length_cons]; omega
    have hc : atA x out.length = c := by
      unfold atA
      rw [hx, ← hp]
      simp [List.getD_eq_getElem?_getD]
    have hcm : c ∈ x := by rw [hx]; simp
    obtain ⟨m, hm2⟩ := ih (insP out c) (pre ++ [c]) (by rw [hx]; simp) (by simp [insP_len, hp]) (fun a ha => by
      rcases insP_mem out c a ha with h | h
      · rw [h]; exact hcm
      · exact hm a h)
    obtain ⟨m, hm3⟩ := ra_scan x out.length hi hL _ out.length out (Nat.le_refl _) (by omega) ⟨m, by
      rw [hc]
      rw [insP_len] at hm2
      exact hm2⟩
    refine ⟨m + 1, ?_⟩
    show B8_5 (l8 m).1 (l8 m).2 x (out.length : Int) out = _
    unfold B8_5
    rw [decide_eq_true (by omega), cond_true]
    exact hm3
theorem rattrs_val (l : List Attr) (h : (l.length : Int) ≤ 1099511627776) (hs : ∀ a ∈ l, a.1.size ≤ 1099511627776) : ∃ m, F8 m l = some (attrs l) := by
  by_cases h8 : 8 < l.length
  · refine ⟨0, ?_⟩
    show M8 _ _ l = _
    unfold M8
    rw [decide_eq_true (by omega), cond_true]
    have h3 : chkA (sortA l) = 3 := by unfold chkA; rw [if_pos (by rw [sortA_len l h]; exact h8)]
    unfold attrs
    rw [h3]
    rfl
  · obtain ⟨m, hm⟩ := ra_run l h hs (by omega) l [] [] rfl rfl (fun a ha => by cases ha)
    refine ⟨m, ?_⟩
    show M8 (l8 m).1 (l8 m).2 l = _
    unfold M8
    rw [decide_eq_false (by omega), cond_false]
    unfold attrs
    rw [sortA_small l (by omega)]
    exact hm
end Go.Proofs.YtopplbiadpcalaaDoor.U

/- strings.Compare (function 25): its row: what must hold, what it answers. -/
namespace Go.Proofs.YtopplbiadpcalaaDoor.U
open Go
noncomputable def sp25 : Sp := Sp.of [⟨false, .str⟩, ⟨false, .str⟩] [⟨false, (.int .i64), false⟩] (fun x1 x2 => (true, K.cmpS x1 x2))
end Go.Proofs.YtopplbiadpcalaaDoor.U

/- eyrie/value.Attrs$1 (function 24): what it computes, as a plain function: printed by a program of ours off the small machine, checked by the kernel. -/
namespace Go.Proofs.YtopplbiadpcalaaDoor.U
open Go
def cs24 : List Ac := [⟨true, (.prod .str (.prod (.int .i64) (.prod (.int .i64) .str)))⟩, ⟨true, (.prod .str (.prod (.int .i64) (.prod (.int .i64) .str)))⟩]
def rs24 : List Rc := [⟨false, (.int .i64), false⟩]
def lv24 : Live := fun i => (fun _ => none : Nat → Option Keep) i
def kx24 : Keep := ⟨[(0, [])], []⟩
noncomputable def C24 : Nat → Option Sp := tabC [(25, sp25)]
set_option maxRecDepth 100000
noncomputable def M24 (x1 : (ByteArray × (Int × (Int × ByteArray)))) (x2 : (ByteArray × (Int × (Int × ByteArray)))) : Option Int :=
 (some (K.cmpS x1.fst x2.fst))
theorem M24_ok (Lo : Nat → St → Option Int) (x1 : (ByteArray × (Int × (Int × ByteArray)))) (x2 : (ByteArray × (Int × (Int × ByteArray)))) : callG tab C24 lv24 (dec rs24) Lo Tryd.f24 kx24 [canon true (.prod .str (.prod (.int .i64) (.prod (.int .i64) .str))) x1, canon true (.prod .str (.prod (.int .i64) (.prod (.int .i64) .str))) x2] [] = M24 x1 x2 := by kernel_rfl
noncomputable def F24 (_ : Nat) (x1 : (ByteArray × (Int × (Int × ByteArray)))) (x2 : (ByteArray × (Int × (Int × ByteArray)))) : Option Int := M24 x1 x2
theorem F24_ok (m : Nat) (x1 : (ByteArray × (Int × (Int × ByteArray)))) (x2 : (ByteArray × (Int × (Int × ByteArray)))) : callF tab C24 lv24 (dec rs24) m Tryd.f24 kx24 [canon true (.prod .str (.prod (.int .i64) (.prod (.int .i64) .str))) x1, canon true (.prod .str (.prod (.int .i64) (.prod (.int .i64) .str))) x2] [] = F24 m x1 x2 := M24_ok _ x1 x2
theorem fn24 {G : GB} (hC : COk Tryd.prog G C24) (m : Nat) (x1 : (ByteArray × (Int × (Int × ByteArray)))) (x2 : (ByteArray × (Int × (Int × ByteArray)))) (y : Int) (h : F24 m x1 x2 = some y) : FnR Tryd.prog G 24 [canon true (.prod .str (.prod (.int .i64) (.prod (.int .i64) .str))) x1, canon true (.prod .str (.prod (.int .i64) (.prod (.int .i64) .str))) x2] [] (fun v hout => dec rs24 v hout = some y) :=
  callF_sound (Lv := lv24) (n := m) (kx := kx24) follows tab_ok hC Tryd.func24 ((F24_ok m x1 x2).trans h)
theorem F24_mono {m m' : Nat} (hm : m ≤ m') (x1 : (ByteArray × (Int × (Int × ByteArray)))) (x2 : (ByteArray × (Int × (Int × ByteArray)))) {y : Int} (h : F24 m x1 x2 = some y) : F24 m' x1 x2 = some y := (F24_ok m' x1 x2).symm.trans (callF_mono hm ((F24_ok m x1 x2).trans h))
theorem ent24 : Ent Tryd.prog 24 := ⟨_, Tryd.func24, by kernel_rfl, by kernel_rfl⟩
theorem C24_ok {G : GB} (h25 : RowOk Tryd.prog G 25 sp25) : COk Tryd.prog G C24 := tabC_ok (by
  intro p hp
  simp only [List.mem_cons, List.not_mem_nil, or_false] at hp
  rcases hp with rfl
  · exact h25
)
end Go.Proofs.YtopplbiadpcalaaDoor.U

/- slices.stableCmpFunc[eyrie/api.Attr] (function 35): its row: what must hold, what it answers. -/
namespace Go.Proofs.YtopplbiadpcalaaDoor.U
open Go
noncomputable def sp35 : Sp := Sp.ofG [.row, .val ⟨false, (.int .i64)⟩, .fn 24] [.row 37 (.prod .str (.prod (.int .i64) (.prod (.int .i64) .str)))] [] (fun x2 y1 => (K.stOk x2 y1, (true, (K.stR x2 y1, true))))
end Go.Proofs.YtopplbiadpcalaaDoor.U

/- slices.SortStableFunc[[]eyrie/api.Attr,eyrie/api.Attr] (function 23): what it computes, as a plain function: printed by a program of ours off the small machine, checked by the kernel. -/
namespace Go.Proofs.YtopplbiadpcalaaDoor.U
open Go
def hd23 : List Hd := [.row, .fn 24]
def os23 : List Os := [.row 37 (.prod .str (.prod (.int .i64) (.prod (.int .i64) .str)))]
def rs23 : List Rc := []
def lv23 : Live := fun i => (fun _ => none : Nat → Option Keep) i
def kx23 : Keep := ⟨[(1000, [.row 1000 (.prod .str (.prod (.int .i64) (.prod (.int .i64) .str))) 37])], []⟩
noncomputable def C23 : Nat → Option Sp := tabC [(35, sp35)]
set_option maxRecDepth 100000
noncomputable def M23 (y1 : (List (ByteArray × (Int × (Int × ByteArray))))) : Option (Bool × ((List (ByteArray × (Int × (Int × ByteArray)))) × Bool)) :=
 (cond (K.stOk (↑y1.length : Int) y1)
  (some ((true, K.stR (↑y1.length : Int) y1, true)))
  none)
theorem M23_ok (Lo : Nat → St → Option (Bool × ((List (ByteArray × (Int × (Int × ByteArray)))) × Bool))) (y1 : (List (ByteArray × (Int × (Int × ByteArray))))) : callG tab C23 lv23 (decG rs23 os23) Lo Tryd.f23 kx23 [.l (.rs 1000), .fn 24 []] [(1000, Os.ob (.row 37 (.prod .str (.prod (.int .i64) (.prod (.int .i64) .str)))) y1)] = M23 y1 := by kernel_rfl
noncomputable def F23 (_ : Nat) (y1 : (List (ByteArray × (Int × (Int × ByteArray))))) : Option (Bool × ((List (ByteArray × (Int × (Int × ByteArray)))) × Bool)) := M23 y1
theorem F23_ok (m : Nat) (y1 : (List (ByteArray × (Int × (Int × ByteArray))))) : callF tab C23 lv23 (decG rs23 os23) m Tryd.f23 kx23 [.l (.rs 1000), .fn 24 []] [(1000, Os.ob (.row 37 (.prod .str (.prod (.int .i64) (.prod (.int .i64) .str)))) y1)] = F23 m y1 := M23_ok _ y1
theorem fn23 {G : GB} (hC : COk Tryd.prog G C23) (m : Nat) (y1 : (List (ByteArray × (Int × (Int × ByteArray))))) (y : (Bool × ((List (ByteArray × (Int × (Int × ByteArray)))) × Bool))) (h : F23 m y1 = some y) : FnR Tryd.prog G 23 [.l (.rs 1000), .fn 24 []] [(1000, Os.ob (.row 37 (.prod .str (.prod (.int .i64) (.prod (.int .i64) .str)))) y1)] (fun v hout => decG rs23 os23 v hout = some y) :=
  callF_sound (Lv := lv23) (n := m) (kx := kx23) follows tab_ok hC Tryd.func23 ((F23_ok m y1).trans h)
theorem F23_mono {m m' : Nat} (hm : m ≤ m') (y1 : (List (ByteArray × (Int × (Int × ByteArray))))) {y : (Bool × ((List (ByteArray × (Int × (Int × ByteArray)))) × Bool))} (h : F23 m y1 = some y) : F23 m' y1 = some y := (F23_ok m' y1).symm.trans (callF_mono hm ((F23_ok m y1).trans h))
theorem ent23 : Ent Tryd.prog 23 := ⟨_, Tryd.func23, by kernel_rfl, by kernel_rfl⟩
theorem C23_ok {G : GB} (h35 : RowOk Tryd.prog G 35 sp35) : COk Tryd.prog G C23 := tabC_ok (by
  intro p hp
  simp only [List.mem_cons, List.not_mem_nil, or_false] at hp
  rcases hp with rfl
  · exact h35
)
end Go.Proofs.YtopplbiadpcalaaDoor.U

/- slices.Clone[[]eyrie/api.Attr,eyrie/api.Attr] (function 17): what it computes, as a plain function: printed by a program of ours off the small machine, checked by the kernel. -/
namespace Go.Proofs.YtopplbiadpcalaaDoor.U
open Go
def cs17 : List Ac := [⟨false, (.sl 37 (.prod .str (.prod (.int .i64) (.prod (.int .i64) .str))))⟩]
def rs17 : List Rc := [⟨false, (.sl 37 (.prod .str (.prod (.int .i64) (.prod (.int .i64) .str)))), true⟩]
def lv17 : Live := fun i => (fun _ => none : Nat → Option Keep) i
def kx17 : Keep := ⟨[(0, [.own 0 (.prod .str (.prod (.int .i64) (.prod (.int .i64) .str))) 37])], []⟩
noncomputable def C17 : Nat → Option Sp := tabC []
set_option maxRecDepth 100000
noncomputable def M17 (x1 : (List (ByteArray × (Int × (Int × ByteArray))))) (b1 : Bool) : Option (List (ByteArray × (Int × (Int × ByteArray)))) :=
 (cond (b1)
  (some ([]))
  (cond (decide (((0 : Nat) + x1.length) * (48 : Nat) ≤ (140737488355328 : Nat)))
   (some ([] ++ x1))
   none))
theorem M17_ok (Lo : Nat → St → Option (List (ByteArray × (Int × (Int × ByteArray))))) (x1 : (List (ByteArray × (Int × (Int × ByteArray))))) (b1 : Bool) : callG tab C17 lv17 (dec rs17) Lo Tryd.f17 kx17 [.l (.sl (.prod .str (.prod (.int .i64) (.prod (.int .i64) .str))) 37 x1 (some b1))] [] = M17 x1 b1 := by kernel_rfl
noncomputable def F17 (_ : Nat) (x1 : (List (ByteArray × (Int × (Int × ByteArray))))) (b1 : Bool) : Option (List (ByteArray × (Int × (Int × ByteArray)))) := M17 x1 b1
theorem F17_ok (m : Nat) (x1 : (List (ByteArray × (Int × (Int × ByteArray))))) (b1 : Bool) : callF tab C17 lv17 (dec rs17) m Tryd.f17 kx17 [.l (.sl (.prod .str (.prod (.int .i64) (.prod (.int .i64) .str))) 37 x1 (some b1))] [] = F17 m x1 b1 := M17_ok _ x1 b1
theorem fn17 {G : GB} (hC : COk Tryd.prog G C17) (m : Nat) (x1 : (List (ByteArray × (Int × (Int × ByteArray))))) (b1 : Bool) (y : (List (ByteArray × (Int × (Int × ByteArray))))) (h : F17 m x1 b1 = some y) : FnR Tryd.prog G 17 [.l (.sl (.prod .str (.prod (.int .i64) (.prod (.int .i64) .str))) 37 x1 (some b1))] [] (fun v hout => dec rs17 v hout = some y) :=
  callF_sound (Lv := lv17) (n := m) (kx := kx17) follows tab_ok hC Tryd.func17 ((F17_ok m x1 b1).trans h)
theorem F17_mono {m m' : Nat} (hm : m ≤ m') (x1 : (List (ByteArray × (Int × (Int × ByteArray))))) (b1 : Bool) {y : (List (ByteArray × (Int × (Int × ByteArray))))} (h : F17 m x1 b1 = some y) : F17 m' x1 b1 = some y := (F17_ok m' x1 b1).symm.trans (callF_mono hm ((F17_ok m x1 b1).trans h))
theorem ent17 : Ent Tryd.prog 17 := ⟨_, Tryd.func17, by kernel_rfl, by kernel_rfl⟩
theorem C17_ok {G : GB} : COk Tryd.prog G C17 := fun _ _ h => by cases h
end Go.Proofs.YtopplbiadpcalaaDoor.U

/- eyrie/eyrieref03.SameAttrs (function 16): its row: what must hold, what it answers. -/
namespace Go.Proofs.YtopplbiadpcalaaDoor.U
open Go
noncomputable def sp16 : Sp := Sp.of [⟨false, (.sl 37 (.prod .str (.prod (.int .i64) (.prod (.int .i64) .str))))⟩, ⟨false, (.sl 37 (.prod .str (.prod (.int .i64) (.prod (.int .i64) .str))))⟩] [⟨false, .bool, false⟩] (fun x1 x2 => (K.same x1 x2, true))
end Go.Proofs.YtopplbiadpcalaaDoor.U

/- slices.Equal[[]eyrie/api.Attr,eyrie/api.Attr] (function 18): its row: what must hold, what it answers. -/
namespace Go.Proofs.YtopplbiadpcalaaDoor.U
open Go
noncomputable def sp18 : Sp := Sp.of [⟨false, (.sl 37 (.prod .str (.prod (.int .i64) (.prod (.int .i64) .str))))⟩, ⟨false, (.sl 37 (.prod .str (.prod (.int .i64) (.prod (.int .i64) .str))))⟩] [⟨false, .bool, false⟩] (fun x1 x2 => (K.same x1 x2, true))
end Go.Proofs.YtopplbiadpcalaaDoor.U

/- eyrie/value.Attrs (function 7): its row: what must hold, what it answers. -/
namespace Go.Proofs.YtopplbiadpcalaaDoor.U
open Go
noncomputable def sp7 : Sp := Sp.of [⟨false, (.sl 37 (.prod .str (.prod (.int .i64) (.prod (.int .i64) .str))))⟩] [⟨false, (.sl 37 (.prod .str (.prod (.int .i64) (.prod (.int .i64) .str)))), true⟩, ⟨false, (.int .i64), false⟩] (fun x1 => (K.okI x1, K.attrs x1))
end Go.Proofs.YtopplbiadpcalaaDoor.U

/- eyrie/eyrieref03.Attrs (function 8): its row: what must hold, what it answers. -/
namespace Go.Proofs.YtopplbiadpcalaaDoor.U
open Go
noncomputable def sp8 : Sp := Sp.of [⟨false, (.sl 37 (.prod .str (.prod (.int .i64) (.prod (.int .i64) .str))))⟩] [⟨false, (.sl 37 (.prod .str (.prod (.int .i64) (.prod (.int .i64) .str)))), true⟩, ⟨false, (.int .i64), false⟩] (fun x1 => (K.okI x1, K.attrs x1))
end Go.Proofs.YtopplbiadpcalaaDoor.U

/- eyrie/eyrielaw03.ValueChecks (function 3): what it computes, as a plain function: printed by a program of ours off the small machine, checked by the kernel. -/
namespace Go.Proofs.YtopplbiadpcalaaDoor.U
open Go
def cs3 : List Ac := [⟨true, (.prod (.int .i64) (.prod (.int .i64) .str))⟩, ⟨false, .str⟩, ⟨false, (.sl 37 (.prod .str (.prod (.int .i64) (.prod (.int .i64) .str))))⟩]
def rs3 : List Rc := [⟨false, .bool, false⟩]
def lv3 : Live := fun i => (fun _ => none : Nat → Option Keep) i
def kx3 : Keep := ⟨[(0, [])], []⟩
noncomputable def C3 : Nat → Option Sp := tabC [(7, sp7), (8, sp8), (9, sp9), (10, sp10), (11, sp11), (12, sp12), (13, sp13), (14, sp14), (15, sp15), (16, sp16)]
set_option maxRecDepth 100000
noncomputable def M3 (x1 : (Int × (Int × ByteArray))) (x2 : ByteArray) (x3 : (List (ByteArray × (Int × (Int × ByteArray))))) : Option Bool :=
 (cond (K.okI x3)
  (cond (K.okI x3)
   (cond (K.check (x1.fst, x1.snd.fst, x1.snd.snd) == K.check (x1.fst, x1.snd.fst, x1.snd.snd))
    (cond (decide (x2.size ≤ (1099511627776 : Nat)))
     (cond (decide (x2.size ≤ (1099511627776 : Nat)))
      (cond (K.name x2 == K.name x2)
       (cond (K.okA x3)
        (cond (K.okA x3)
         (cond (K.chkA x3 == K.chkA x3)
          (cond ((K.attrs x3).snd == (K.attrs x3).snd)
           (cond (K.same (K.attrs x3).fst (K.attrs x3).fst)
            (some (true))
            none)
           (some (false)))
          (some (false)))
         none)
        none)
       (some (false)))
      none)
     none)
    (some (false)))
   none)
  none)
theorem M3_ok (Lo : Nat → St → Option Bool) (x1 : (Int × (Int × ByteArray))) (x2 : ByteArray) (x3 : (List (ByteArray × (Int × (Int × ByteArray))))) : callG tab C3 lv3 (dec rs3) Lo Tryd.f3 kx3 [canon true (.prod (.int .i64) (.prod (.int .i64) .str)) x1, canon false .str x2, canon false (.sl 37 (.prod .str (.prod (.int .i64) (.prod (.int .i64) .str)))) x3] [] = M3 x1 x2 x3 := by kernel_rfl
noncomputable def F3 (_ : Nat) (x1 : (Int × (Int × ByteArray))) (x2 : ByteArray) (x3 : (List (ByteArray × (Int × (Int × ByteArray))))) : Option Bool := M3 x1 x2 x3
theorem F3_ok (m : Nat) (x1 : (Int × (Int × ByteArray))) (x2 : ByteArray) (x3 : (List (ByteArray × (Int × (Int × ByteArray))))) : callF tab C3 lv3 (dec rs3) m Tryd.f3 kx3 [canon true (.prod (.int .i64) (.prod (.int .i64) .str)) x1, canon false .str x2, canon false (.sl 37 (.prod .str (.prod (.int .i64) (.prod (.int .i64) .str)))) x3] [] = F3 m x1 x2 x3 := M3_ok _ x1 x2 x3
theorem fn3 {G : GB} (hC : COk Tryd.prog G C3) (m : Nat) (x1 : (Int × (Int × ByteArray))) (x2 : ByteArray) (x3 : (List (ByteArray × (Int × (Int × ByteArray))))) (y : Bool) (h : F3 m x1 x2 x3 = some y) : FnR Tryd.prog G 3 [canon true (.prod (.int .i64) (.prod (.int .i64) .str)) x1, canon false .str x2, canon false (.sl 37 (.prod .str (.prod (.int .i64) (.prod (.int .i64) .str)))) x3] [] (fun v hout => dec rs3 v hout = some y) :=
  callF_sound (Lv := lv3) (n := m) (kx := kx3) follows tab_ok hC Tryd.func3 ((F3_ok m x1 x2 x3).trans h)
theorem F3_mono {m m' : Nat} (hm : m ≤ m') (x1 : (Int × (Int × ByteArray))) (x2 : ByteArray) (x3 : (List (ByteArray × (Int × (Int × ByteArray))))) {y : Bool} (h : F3 m x1 x2 x3 = some y) : F3 m' x1 x2 x3 = some y := (F3_ok m' x1 x2 x3).symm.trans (callF_mono hm ((F3_ok m x1 x2 x3).trans h))
theorem ent3 : Ent Tryd.prog 3 := ⟨_, Tryd.func3, by kernel_rfl, by kernel_rfl⟩
theorem C3_ok {G : GB} (h7 : RowOk Tryd.prog G 7 sp7) (h8 : RowOk Tryd.prog G 8 sp8) (h9 : RowOk Tryd.prog G 9 sp9) (h10 : RowOk Tryd.prog G 10 sp10) (h11 : RowOk Tryd.prog G 11 sp11) (h12 : RowOk Tryd.prog G 12 sp12) (h13 : RowOk Tryd.prog G 13 sp13) (h14 : RowOk Tryd.prog G 14 sp14) (h15 : RowOk Tryd.prog G 15 sp15) (h16 : RowOk Tryd.prog G 16 sp16) : COk Tryd.prog G C3 := tabC_ok (by
  intro p hp
  simp only [List.mem_cons, List.not_mem_nil, or_false] at hp
  rcases hp with rfl | rfl | rfl | rfl | rfl | rfl | rfl | rfl | rfl | rfl
  · exact h7
  · exact h8
  · exact h9
  · exact h10
  · exact h11
  · exact h12
  · exact h13
  · exact h14
  · exact h15
  · exact h16
)
end Go.Proofs.YtopplbiadpcalaaDoor.U

/- eyrie/eyrielaw03.ValueOwn (function 4): what it computes, as a plain function: printed by a program of ours off the small machine, checked by the kernel. -/
namespace Go.Proofs.YtopplbiadpcalaaDoor.U
open Go
def cs4 : List Ac := [⟨false, (.sl 37 (.prod .str (.prod (.int .i64) (.prod (.int .i64) .str))))⟩]
def rs4 : List Rc := [⟨false, .bool, false⟩]
def lv4 : Live := fun i => cond (Nat.beq i 4) (some ⟨[(0, [.sl (.prod .str (.prod (.int .i64) (.prod (.int .i64) .str))) 37]), (3, [.sl (.prod .str (.prod (.int .i64) (.prod (.int .i64) .str))) 37]), (4, [.own 4 (.prod .str (.prod (.int .i64) (.prod (.int .i64) .str))) 37]), (5, []), (19, []), (20, [])], []⟩) (none)
def kx4 : Keep := ⟨[(0, [])], []⟩
noncomputable def C4 : Nat → Option Sp := tabC [(17, sp17), (7, sp7), (8, sp8), (9, sp9), (18, sp18), (16, sp16)]
set_option maxRecDepth 100000
def st4_4 (v0 : List (ByteArray × (Int × (Int × ByteArray)))) (v1 : List (ByteArray × (Int × (Int × ByteArray)))) (v2 : Int) (v3 : Int) (v4 : Int) (v5 : List (ByteArray × (Int × (Int × ByteArray)))) : St := ⟨(54 : Nat), [((0 : Nat), .l (.sl (Kn.str.prod ((Kn.int IntKind.i64).prod ((Kn.int IntKind.i64).prod Kn.str))) (37 : Nat) v0 (none))), ((3 : Nat), .l (.sl (Kn.str.prod ((Kn.int IntKind.i64).prod ((Kn.int IntKind.i64).prod Kn.str))) (37 : Nat) v1 (none))), ((4 : Nat), .l (.rs (4 : Nat))), ((5 : Nat), .l (.int IntKind.i64 v2)), ((19 : Nat), .l (.int IntKind.i64 v3)), ((20 : Nat), .l (.int IntKind.i64 v4))], [((4 : Nat), .row (Kn.str.prod ((Kn.int IntKind.i64).prod ((Kn.int IntKind.i64).prod Kn.str))) (37 : Nat) v5 (none) false)], []⟩
noncomputable def B4_4 (r4 : List (ByteArray × (Int × (Int × ByteArray))) → List (ByteArray × (Int × (Int × ByteArray))) → Int → Int → Int → List (ByteArray × (Int × (Int × ByteArray))) → Option Bool) (v0 : List (ByteArray × (Int × (Int × ByteArray)))) (v1 : List (ByteArray × (Int × (Int × ByteArray)))) (v2 : Int) (v3 : Int) (v4 : Int) (v5 : List (ByteArray × (Int × (Int × ByteArray)))) : Option Bool :=
 (cond (decide (v4 < v3))
  (cond (decide ((0 : Int) ≤ v4) && decide (v4 < (↑v5.length : Int)))
   (r4 (v0) (v1) (v2) (v3) (IntKind.i64.wrap (v4 + (1 : Int))) (v5.set v4.toNat (ByteArray.mk #[(122 : UInt8), (122 : UInt8)], (v5.getD v4.toNat (dfl (Kn.str.prod ((Kn.int IntKind.i64).prod ((Kn.int IntKind.i64).prod Kn.str))))).snd.fst, (v5.getD v4.toNat (dfl (Kn.str.prod ((Kn.int IntKind.i64).prod ((Kn.int IntKind.i64).prod Kn.str))))).snd.snd.fst, (v5.getD v4.toNat (dfl (Kn.str.prod ((Kn.int IntKind.i64).prod ((Kn.int IntKind.i64).prod Kn.str))))).snd.snd.snd)))
   none)
  (cond (K.okI v1)
   (cond (K.okI v0)
    (cond (v2 == (K.attrs v1).snd)
     (cond (K.same v0 v1)
      (cond (K.same (K.attrs v0).fst (K.attrs v1).fst)
       (some (true))
       none)
      none)
     (some (false)))
    none)
   none))
noncomputable def M4 (r4 : List (ByteArray × (Int × (Int × ByteArray))) → List (ByteArray × (Int × (Int × ByteArray))) → Int → Int → Int → List (ByteArray × (Int × (Int × ByteArray))) → Option Bool) (x1 : (List (ByteArray × (Int × (Int × ByteArray))))) : Option Bool :=
 (cond (decide ((↑x1.length : Int) ≤ (1099511627776 : Int)))
  (cond (K.okI x1)
   (r4 (x1) (x1) ((K.attrs x1).snd) ((↑(List.length (K.attrs x1).fst) : Int)) ((0 : Int)) ((K.attrs x1).fst))
   none)
  none)
theorem B4_4_ok (Lo : Nat → St → Option Bool) (v0 : List (ByteArray × (Int × (Int × ByteArray)))) (v1 : List (ByteArray × (Int × (Int × ByteArray)))) (v2 : Int) (v3 : Int) (v4 : Int) (v5 : List (ByteArray × (Int × (Int × ByteArray)))) : roundG tab C4 lv4 (dec rs4) Lo Tryd.f4 kx4 4 (st4_4 v0 v1 v2 v3 v4 v5) = B4_4 (fun v0 v1 v2 v3 v4 v5 => Lo 4 (st4_4 v0 v1 v2 v3 v4 v5)) v0 v1 v2 v3 v4 v5 := by kernel_rfl
theorem M4_ok (Lo : Nat → St → Option Bool) (x1 : (List (ByteArray × (Int × (Int × ByteArray))))) : callG tab C4 lv4 (dec rs4) Lo Tryd.f4 kx4 [canon false (.sl 37 (.prod .str (.prod (.int .i64) (.prod (.int .i64) .str)))) x1] [] = M4 (fun v0 v1 v2 v3 v4 v5 => Lo 4 (st4_4 v0 v1 v2 v3 v4 v5)) x1 := by kernel_rfl
noncomputable def l4 : Nat → (List (ByteArray × (Int × (Int × ByteArray))) → List (ByteArray × (Int × (Int × ByteArray))) → Int → Int → Int → List (ByteArray × (Int × (Int × ByteArray))) → Option Bool)
  | 0 => (fun _ _ _ _ _ _ => none)
  | m + 1 => (B4_4 (l4 m))
noncomputable def F4 (m : Nat) (x1 : (List (ByteArray × (Int × (Int × ByteArray))))) : Option Bool := M4 (l4 m) x1
theorem l4_ok : ∀ m : Nat, (∀ (v0 : List (ByteArray × (Int × (Int × ByteArray)))) (v1 : List (ByteArray × (Int × (Int × ByteArray)))) (v2 : Int) (v3 : Int) (v4 : Int) (v5 : List (ByteArray × (Int × (Int × ByteArray)))), loF tab C4 lv4 (dec rs4) Tryd.f4 kx4 m 4 (st4_4 v0 v1 v2 v3 v4 v5) = (l4 m) v0 v1 v2 v3 v4 v5)
  | 0 => by
    exact fun _ _ _ _ _ _ => rfl
  | m + 1 => by
    have ih := l4_ok m
    have h4 : (fun (v0 : List (ByteArray × (Int × (Int × ByteArray)))) (v1 : List (ByteArray × (Int × (Int × ByteArray)))) (v2 : Int) (v3 : Int) (v4 : Int) (v5 : List (ByteArray × (Int × (Int × ByteArray)))) => loF tab C4 lv4 (dec rs4) Tryd.f4 kx4 m 4 (st4_4 v0 v1 v2 v3 v4 v5)) = (l4 m) := by funext v0 v1 v2 v3 v4 v5; exact ih v0 v1 v2 v3 v4 v5
    exact fun v0 v1 v2 v3 v4 v5 => (B4_4_ok (loF tab C4 lv4 (dec rs4) Tryd.f4 kx4 m) v0 v1 v2 v3 v4 v5).trans (congrFun (congrFun (congrFun (congrFun (congrFun (congrFun (congrArg B4_4 h4) v0) v1) v2) v3) v4) v5)
theorem F4_ok (m : Nat) (x1 : (List (ByteArray × (Int × (Int × ByteArray))))) : callF tab C4 lv4 (dec rs4) m Tryd.f4 kx4 [canon false (.sl 37 (.prod .str (.prod (.int .i64) (.prod (.int .i64) .str)))) x1] [] = F4 m x1 := by
    have ih := l4_ok m
    have h4 : (fun (v0 : List (ByteArray × (Int × (Int × ByteArray)))) (v1 : List (ByteArray × (Int × (Int × ByteArray)))) (v2 : Int) (v3 : Int) (v4 : Int) (v5 : List (ByteArray × (Int × (Int × ByteArray)))) => loF tab C4 lv4 (dec rs4) Tryd.f4 kx4 m 4 (st4_4 v0 v1 v2 v3 v4 v5)) = (l4 m) := by funext v0 v1 v2 v3 v4 v5; exact ih v0 v1 v2 v3 v4 v5
    exact (M4_ok (loF tab C4 lv4 (dec rs4) Tryd.f4 kx4 m) x1).trans (congrFun (congrArg M4 h4) x1)
theorem fn4 {G : GB} (hC : COk Tryd.prog G C4) (m : Nat) (x1 : (List (ByteArray × (Int × (Int × ByteArray))))) (y : Bool) (h : F4 m x1 = some y) : FnR Tryd.prog G 4 [canon false (.sl 37 (.prod .str (.prod (.int .i64) (.prod (.int .i64) .str)))) x1] [] (fun v hout => dec rs4 v hout = some y) :=
  callF_sound (Lv := lv4) (n := m) (kx := kx4) follows tab_ok hC Tryd.func4 ((F4_ok m x1).trans h)
theorem F4_mono {m m' : Nat} (hm : m ≤ m') (x1 : (List (ByteArray × (Int × (Int × ByteArray))))) {y : Bool} (h : F4 m x1 = some y) : F4 m' x1 = some y := (F4_ok m' x1).symm.trans (callF_mono hm ((F4_ok m x1).trans h))
theorem ent4 : Ent Tryd.prog 4 := ⟨_, Tryd.func4, by kernel_rfl, by kernel_rfl⟩
theorem C4_ok {G : GB} (h17 : RowOk Tryd.prog G 17 sp17) (h7 : RowOk Tryd.prog G 7 sp7) (h8 : RowOk Tryd.prog G 8 sp8) (h9 : RowOk Tryd.prog G 9 sp9) (h18 : RowOk Tryd.prog G 18 sp18) (h16 : RowOk Tryd.prog G 16 sp16) : COk Tryd.prog G C4 := tabC_ok (by
  intro p hp
  simp only [List.mem_cons, List.not_mem_nil, or_false] at hp
  rcases hp with rfl | rfl | rfl | rfl | rfl | rfl
  · exact h17
  · exact h7
  · exact h8
  · exact h9
  · exact h18
  · exact h16
)
end Go.Proofs.YtopplbiadpcalaaDoor.U

/- Attributes: the rows of all that puts them in order and looks them over. -/
namespace Go.Proofs.YtopplbiadpcalaaDoor.U
open Go Go.RowKit Go.Shelf Go.Proofs.YtopplbiadpcalaaDoor.K
section
variable {G : GB}
theorem row25 : RowOk Tryd.prog G 25 sp25 := Sp.of_ok ⟨_, Tryd.func25, by kernel_rfl, by kernel_rfl⟩ (fun x1 x2 _ => by
  refine FnR.of_below fun ψ ro w vals hv hG => ?_
  match vals, hv with
  | [a, b], ⟨ha, hb, _⟩ =>
    obtain rfl : a = Value.string x1 := ha
    obtain rfl : b = Value.string x2 := hb
    refine (Any.strings_Compare Tryd.lays106 x1 x2 w).mono ?_
    rintro e w' ⟨rfl, rfl⟩
    exact ⟨.l (.int .i64 (cmpS x1 x2)), _, rfl, Below.refl _ _, rfl, fun _ _ _ => rfl⟩)
theorem row24 : RowOk Tryd.prog G 24 sp24 := Sp.of_ok ent24 (fun x1 x2 _ => fn24 (C24_ok row25) 0 x1 x2 _ rfl)
theorem row66 : RowOk Tryd.prog G 66 sp66 := Sp.ofG_ok ent66 (by decide) (fun x2 x3 x4 y1 h => by
  obtain ⟨m, hm⟩ := (swR_some x2 x3 x4 y1 (of_decide_eq_true h)).1
  exact fn66 C66_ok m x2 x3 x4 y1 _ hm)
theorem row55 : RowOk Tryd.prog G 55 sp55 := Sp.ofG_ok ent55 (by decide) (fun x2 x3 x4 y1 h => by
  obtain ⟨m, hm⟩ := (rotR_some x2 x3 x4 y1 (of_decide_eq_true h)).1
  exact fn55 (C55_ok row66) m x2 x3 x4 y1 _ hm)
theorem row43 : RowOk Tryd.prog G 43 sp43 := Sp.ofG_ok ent43 (by decide) (fun x2 x3 y1 h => by
  obtain ⟨m, hm⟩ := (insR_some x2 x3 y1 (of_decide_eq_true h)).1
  exact fn43 (C43_ok row24) m x2 x3 y1 _ hm)
theorem row35 : RowOk Tryd.prog G 35 sp35 := Sp.ofG_ok ent35 (by decide) (fun x2 y1 h => by
  obtain ⟨m, hm⟩ := (stR_some x2 y1 (of_decide_eq_true h)).1
  exact fn35 (C35_ok row43 (row_mergex row24 row55)) m x2 y1 _ hm)
theorem row23 : RowOk Tryd.prog G 23 sp23 := Sp.ofG_ok ent23 (by decide) (fun y1 h => by
  refine fn23 (C23_ok row35) 0 y1 _ ?_
  show M23 y1 = _
  unfold M23
  rw [show stOk (y1.length : Int) y1 = true from decide_eq_true ⟨rfl, of_decide_eq_true h⟩, cond_true]
  rfl)
theorem row17 : RowOk Tryd.prog G 17 sp17 := Sp.of_ok ent17 (fun x1 h => FnR.nil1 fun b hb => by
  have h : (x1.length : Int) ≤ 1099511627776 := of_decide_eq_true h
  refine fn17 C17_ok 0 x1 b x1 ?_
  show M17 x1 b = _
  unfold M17
  cases b with
  | true => rw [hb rfl]; rfl
  | false => rw [cond_false, decide_eq_true (by omega), cond_true, List.nil_append])
theorem row14 : RowOk Tryd.prog G 14 sp14 := Sp.of_ok ent14 (fun x1 h => by
  obtain ⟨m, hm⟩ := cv_val x1 h
  exact fn14 (C14_ok row12 row10) m x1 _ hm)
theorem row15 : RowOk Tryd.prog G 15 sp15 := Sp.of_ok ent15 (fun x1 h => by
  obtain ⟨m, hm⟩ := cr_val x1 h
  exact fn15 (C15_ok row13 row11) m x1 _ hm)
theorem row16 : RowOk Tryd.prog G 16 sp16 := Sp.of_ok ent16 (fun x1 x2 h => by
  obtain ⟨m, hm⟩ := sa_val x1 x2 h
  exact fn16 C16_ok m x1 x2 _ hm)
theorem row18 : RowOk Tryd.prog G 18 sp18 := Sp.of_ok ent18 (fun x1 x2 h => by
  obtain ⟨m, hm⟩ := eq_val x1 x2 h
  exact fn18 C18_ok m x1 x2 _ hm)
theorem row7 : RowOk Tryd.prog G 7 sp7 := Sp.of_ok ent7 (fun x1 h => by
  obtain ⟨h1, h2⟩ := of_decide_eq_true h
  exact fn7 (C7_ok row17 row23 row14) 0 x1 _ (vattrs_val x1 h1 h2))
theorem row8 : RowOk Tryd.prog G 8 sp8 := Sp.of_ok ent8 (fun x1 h => by
  obtain ⟨h1, h2⟩ := of_decide_eq_true h
  obtain ⟨m, hm⟩ := rattrs_val x1 h1 h2
  exact fn8 (C8_ok row15) m x1 _ hm)
theorem row_text (hf : RowOk Tryd.prog G 33 sp33) : RowOk Tryd.prog G 21 sp21 := Sp.of_ok ent21 (fun x1 h => by
  have h := Bool.and_eq_true_iff.1 h
  obtain ⟨m, hm⟩ := vtext_val x1 h.1 (of_decide_eq_true h.2)
  exact fn21 (C21_ok hf) m x1 _ hm)
theorem row_live (hf : RowOk Tryd.prog G 33 sp33) : RowOk Tryd.prog G 9 sp9 := Sp.of_ok ent9 (fun _ => fn9 (C9_ok row26 (row_text hf) row12 row_swap) 0 _ rfl)
end
theorem same_self (l : List Attr) (h : (l.length : Int) ≤ 1099511627776) : same l l = true := by
  unfold same
  exact decide_eq_true ⟨rfl, h⟩
theorem okA_of (l : List Attr) (h : okI l = true) : okA l = true := by
  have h := of_decide_eq_true h
  exact decide_eq_true ⟨h.1, .inr h.2⟩
theorem attrs_len (l : List Attr) (h : (l.length : Int) ≤ 1099511627776) : (((attrs l).1.length : Nat) : Int) ≤ 1099511627776 := by
  unfold attrs
  split
  · simp
  · rw [sortA_len l h]; exact h
theorem checks_true (v : Val) (s : ByteArray) (l : List Attr) (h1 : okI l = true) (h2 : s.size ≤ 1099511627776) : M3 v s l = some true := by
  unfold M3
  rw [h1, okA_of l h1, decide_eq_true h2, same_self _ (attrs_len l (of_decide_eq_true h1).1)]
  simp only [cond_true, beq_self_eq_true]
theorem own_run (v0 v1 : List Attr) (v2 : Int) (n : Nat) (hn : n ≤ 1099511627776) (R : Option Bool) (hR : ∀ (r : List Attr → List Attr → Int → Int → Int → List Attr → Option Bool) (y : List Attr), B4_4 r v0 v1 v2 (n : Int) (n : Int) y = R) : ∀ (k i : Nat) (y : List Attr), i + k = n → y.length = n → l4 (k + 1) v0 v1 v2 (n : Int) (i : Int) y = R := by
  intro k
  induction k with
  | zero => intro i y hi hy; obtain rfl : i = n := by omega
            exact hR _ y
  | succ k ih =>
    intro i y hi hy
    show B4_4 (l4 (k + 1)) v0 v1 v2 (n : Int) (i : Int) y = _
    unfold B4_4
    have w : IntKind.i64.wrap ((i : Int) + 1) = ((i + 1 : Nat) : Int) := by rw [w64 (by omega)]; rfl
    rw [decide_eq_true (show (i : Int) < (n : Int) by omega), cond_true, and_dec, decide_eq_true (show (0 : Int) ≤ (i : Int) ∧ (i : Int) < (y.length : Int) by omega), cond_true, w]
    exact ih (i + 1) _ (by omega) (by rw [List.length_set]; exact hy)
theorem own_true (l : List Attr) (h1 : okI l = true) : ∃ m, F4 m l = some true := by
  have hl := (of_decide_eq_true h1).1
  have ha := attrs_len l hl
  refine ⟨(attrs l).1.length + 1, ?_⟩
  show M4 _ l = _
  unfold M4
  rw [decide_eq_true hl, cond_true, h1, cond_true]
  refine own_run l l (attrs l).2 (attrs l).1.length (by omega) (some true) (fun r y => ?_) (attrs l).1.length 0 _ (by omega) rfl
  unfold B4_4
  rw [decide_eq_false (by omega), cond_false, h1, same_self l hl, same_self _ ha]
  simp only [cond_true, beq_self_eq_true]
end Go.Proofs.YtopplbiadpcalaaDoor.U

namespace Go.Proofs.YtopplbiadpcalaaDoor.valueOwn
open Go.ChangeShapes Go.WideShapes Go.ChangeAt Go.RowKit Go.Proofs.YtopplbiadpcalaaDoor.U Go.Proofs.YtopplbiadpcalaaDoor.K

theorem bulkAll_app {H : Type} : ∀ a b : List (DataW H), Rows.uptoBulkAll (a ++ b) = Rows.uptoBulkAll a + Rows.uptoBulkAll b
  | [], b => by simp [Rows.uptoBulkAll]
  | x :: a, b => by simp only [List.cons_append, Rows.uptoBulkAll, bulkAll_app a b]; omega
theorem contract (H : Type) (enc : TypeId × Value → H) (W : World) (base : Nat) (args : Array Value) (ds gs : List (DataW H)) (before : List MemPlace) (hk : Rows.uptoSmall H (ds ++ gs) = true)
    (hval : ∀ (j : Nat) t v, Tryd.f4.params[j]? = some t → args[j]? = some v → Value.okWide Tryd.prog W .any base t v)
    (hW : DataW.Whole enc Tryd.prog Tryd.f4.params.toList Rows.valueOwnSpec.vars false W args.toList ds gs before) (hL : laidMetH Tryd.prog Rows.valueOwnUptoRow.laid W) :
    Calls Tryd.prog 4 args W fun e W' => ∃ v, e = .returned v ∧ Rows.valueOwnSpec.post enc Tryd.prog Tryd.f4 false true false false W args v W' := by
  have hW' := hW
  obtain ⟨p, q, hA0, hV, rfl, hfz, hnd⟩ := hW
  have hA : DataW.TrodAll enc Tryd.prog W 0 (fun _ => true) true Tryd.f4.params.toList args.toList ds p := hA0
  rw [Tryd.params4] at hA hval
  obtain ⟨v0, vs0, d0, ds0, p0, q0, hargs, rfl, rfl, h0, r0⟩ := trodAll_cons hA
  obtain ⟨rfl, rfl, rfl⟩ := trodAll_nil r0
  obtain rfl : args = #[v0] := by cases args; simp_all
  obtain ⟨rfl, rfl⟩ := trodVars_none hV
  obtain ⟨x0, hx0, hxw0, hxb0⟩ := read_arg false (.sl 37 (.prod .str (.prod (.int .i64) (.prod (.int .i64) .str)))) (by kernel_rfl) (by kernel_rfl) (hval 0 24 v0 rfl rfl) h0
  clear hA0
  have hb := of_decide_eq_true hk
  simp only [bulkAll_app, Rows.uptoBulkAll] at hb
  replace hxb0 : bulkL (bulkK (.prod .str (.prod (.int .i64) (.prod (.int .i64) .str)))) x0 + 1 ≤ Rows.uptoBulk d0 := hxb0
  have hm : laidMet Tryd.prog Rows.valueOwnUptoRow.laid W := hL
  have hT := row_fmt (tab_laid hm.tail.tail)
  have hl : okI x0 = true := decide_eq_true ⟨by have := bulkL_le (bulkK (.prod .str (.prod (.int .i64) (.prod (.int .i64) .str)))) (fun x => bulkK_pos _ x) x0; omega, fun a ha => by have h1 := bulkL_mem (bulkK (.prod .str (.prod (.int .i64) (.prod (.int .i64) .str)))) ha; have h2 : a.1.size + 1 ≤ bulkK (.prod .str (.prod (.int .i64) (.prod (.int .i64) .str))) a := (by simp only [bulkK]; omega); omega⟩
  obtain ⟨n, hn⟩ := own_true x0 hl
  exact law_of laidOut (by decide +kernel) rfl rfl (by kernel_rfl) (fun _ => rfl) hW' (law_calls (fn4 (C4_ok row17 row7 row8 (row_live hT) row18 row16) n x0 true hn)
    (fun ψ => ⟨hx0 ψ, trivial⟩))

theorem laid_met (os : Os) : laidMet Tryd.prog Rows.valueOwnUptoRow.laid ((laidWorld os).forCall (fun _ _ => 0) ⟨#[], #[.slice none 0 0], []⟩).memory :=
  laidMet_of_run' 8 (by kernel_rfl) (by kernel_rfl)
theorem reads (os : Os) {H : Type} (enc : TypeId × Value → H) : ∃ places, DataW.whole enc Tryd.prog ((laidWorld os).forCall (fun _ _ => 0) ⟨#[], #[.slice none 0 0], []⟩).memory Tryd.f4.params.toList Rows.valueOwnSpec.vars false #[Value.slice none 0 0].toList 8 =
    some ([.nil], [], places) :=
  ⟨[], by kernel_rfl⟩
set_option maxRecDepth 100000 in
theorem liftedUpto (os : Os) (started : os.Started) (H : Type) (enc : TypeId × Value → H) (F : Stop.Interp) :
    ReturnsInHanded {} Tryd.checked os 4 .any ((Rows.OpenSpec.upto Rows.valueOwnSpec).preRow enc Tryd.prog Tryd.f4 Rows.valueOwnUptoRow.domain false Rows.valueOwnUptoRow.laid) (((Rows.OpenSpec.upto Rows.valueOwnSpec).at F).post enc Tryd.prog Tryd.f4 false true false false) := by
  obtain ⟨places, hx⟩ := reads os enc
  refine returnsInHanded_of_row (C := Tryd.checked) (s := Rows.OpenSpec.upto Rows.valueOwnSpec) own started (by kernel_rfl) Tryd.func4
    (witness_row_atRef (enc := enc) (C := Tryd.checked) false (laidWorld os) #[.slice none 0 0] rfl (by kernel_rfl) (by kernel_rfl) (by kernel_rfl)
      (OpenSpec.preRow_of_cond 8 hx (by kernel_rfl) (fun k hk => by cases hk; kernel_rfl) (by kernel_rfl) (laid_met os))) ?_
  intro W base args ds gs before hval hW _ hcond _ hL _ _
  exact contract H enc W base args ds gs before (hcond _ rfl) hval hW hL
theorem saidUpto : Rows.ValueOwnUptoSaid :=
  OpenClaim.holds_of_cond 4 Tryd.f4 rfl rfl rfl rfl rfl rfl rfl ⟨rfl, rfl, rfl, rfl, rfl⟩ rfl rfl rfl rfl rfl (by kernel_rfl) Tryd.func4 (by kernel_rfl)
    (of_decide_eq_true (by kernel_rfl)) (by unfold Func.isWrapper; first | (rw [if_pos (by decide +kernel)]; kernel_rfl) | (rw [if_neg (by decide +kernel)]; exact ⟨rfl, rfl⟩))
    (fun os started H enc _ F => by rw [OpenClaim.pre_eq_preRow]; exact liftedUpto os started H enc F)
theorem plain (f : FuncId) (fn : Func) (hf : Tryd.pinned.checked.prog.funcNamed "eyrie/eyrielaw03.ValueOwn" = some f) (hfn : Tryd.pinned.checked.prog.funcs[f]? = some fn) :
    true = Tryd.pinned.checked.prog.looks [] ∧ ∀ (j : Nat) t, fn.params[j]? = some t → Tryd.pinned.checked.prog.wantsStandIn t = false := by
  obtain rfl : f = 4 := Option.some.inj ((show Tryd.prog.funcNamed "eyrie/eyrielaw03.ValueOwn" = some 4 by kernel_rfl).symm.trans hf) |>.symm
  obtain rfl : fn = Tryd.f4 := (Option.some.inj (Tryd.func4.symm.trans hfn)).symm
  refine ⟨by kernel_rfl, fun j t ht => ?_⟩
  rw [Tryd.params4] at ht
  have := Array.mem_of_getElem? ht
  simp only [List.mem_toArray, List.mem_cons, List.not_mem_nil, or_false] at this
  subst this
  exact (show Tryd.prog.wantsStandIn 24 = false by kernel_rfl)
theorem card : Rows.ValueOwnUptoCardSaid :=
  Claim7.holds_tied_plain_at .later [] _ _ _ _ saidUpto (fun _ h => by cases h) (by kernel_rfl) (fun _ h => by cases h) valueOwnUpto_row_tie rfl ⟨rfl, rfl⟩ (by kernel_rfl) rfl plain (by kernel_rfl)
end Go.Proofs.YtopplbiadpcalaaDoor.valueOwn
