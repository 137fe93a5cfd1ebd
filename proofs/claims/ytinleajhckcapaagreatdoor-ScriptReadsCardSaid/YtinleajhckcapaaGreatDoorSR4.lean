/- Part 4 of the proof of: ScriptReads: for every text that the program's script.Parse is given, it answers as the document's parser does; the conditions: the listed package-level variables of Go's library are as its text lays them. -/
import Derived.Test.YtinleajhckcapaaGreatDoorSR3
import Derived.LaidEql
import Derived.Stop.Asserts
import Derived.RowKitTokens
import Derived.Lib.Hide
set_option linter.unusedVariables false
set_option linter.unusedSimpArgs false
namespace Go.Proofs.YtinleajhckcapaaGreatDoor.P
open Go.RowKit Go.Proofs.YtinleajhckcapaaGreatDoorW.PrintWords Go.Proofs.YtinleajhckcapaaGreatDoorW.PrintLast Go.Proofs.YtinleajhckcapaaGreatDoorW.PrintMore
attribute [local go_sem] max2_int min2_int max_two min_two max_three min_three max_four min_four
set_option linter.unusedVariables false
set_option linter.unusedSimpArgs false
mutual
def halterref36_Parse.l0 : Nat → ByteArray → List (S35) → Int → Int → Int → Option ((List (S35)) × Int × Int)
  | 0, _, _, _, _, _ => none
  | k + 1, x0, x5, x6, x7, x8 => if x8 ≤ (x0.size : Int) then (if x8 < (x0.size : Int) then (if 0 ≤ x8 then (halterref36_Parse.j1 k x0 x5 x6 x7 x8 ((bt x0 x8) != 10)) else (none)) else (halterref36_Parse.j1 k x0 x5 x6 x7 x8 false)) else (some (x5, 0, 0))
def halterref36_Parse.j1 : Nat → ByteArray → List (S35) → Int → Int → Int → Bool → Option ((List (S35)) × Int × Int)
  | 0, _, _, _, _, _, _ => none
  | k + 1, x0, x5, x6, x7, x8, x31 => if x31 = true then (halterref36_Parse.l0 k x0 x5 x6 x7 (wrap64 (x8 + 1))) else (halterref36_Parse.l1 k x0 x5 (wrap64 (x6 + 1)) x8 ([] : List ByteArray) (⟨#[]⟩ : ByteArray) x7)
def halterref36_Parse.j4 : Nat → ByteArray → List (S35) → Int → Int → List ByteArray → Option ((List (S35)) × Int × Int)
  | 0, _, _, _, _, _ => none
  | k + 1, x0, x5, x6, x8, x9 => if (x9.length : Int) = 0 then (halterref36_Parse.l0 k x0 x5 x6 (wrap64 (x8 + 1)) (wrap64 (x8 + 1))) else (if 0 < (x9.length : Int) then (if 1 ≤ (x9.length : Int) then ((some (x9.drop 1 : List ByteArray)).bind fun y212 => ((halterref36_May.f k (rdOf ByteArray.empty x9 0) y212).bind fun t218 => (if t218 = true then (if (x5.length : Int) = 4000 then (some (([] : List (S35)), x6, 90)) else (if x5.length < 3518437208883 then (halterref36_Parse.l0 k x0 (x5 ++ [(⟨rdOf ByteArray.empty x9 0, y212⟩ : S35)]) x6 (wrap64 (x8 + 1)) (wrap64 (x8 + 1))) else (none))) else (some (([] : List (S35)), x6, 337))))) else (none)) else (none))
def halterref36_Parse.l1 : Nat → ByteArray → List (S35) → Int → Int → List ByteArray → ByteArray → Int → Option ((List (S35)) × Int × Int)
  | 0, _, _, _, _, _, _, _ => none
  | k + 1, x0, x5, x6, x8, x9, x10, x11 => if x11 ≤ x8 then (if x11 < x8 then (if 0 ≤ x11 then (if x11 < (x0.size : Int) then (if (bt x0 x11) = 32 then (halterref36_Parse.j3 k x0 x5 x6 x8 x9 x10 x11 false) else (if (bt x0 x11) = 9 then (halterref36_Parse.j3 k x0 x5 x6 x8 x9 x10 x11 false) else (halterref36_Parse.j3 k x0 x5 x6 x8 x9 x10 x11 ((bt x0 x11) != 37)))) else (none)) else (none)) else (halterref36_Parse.j3 k x0 x5 x6 x8 x9 x10 x11 false)) else (halterref36_Parse.j4 k x0 x5 x6 x8 x9)
def halterref36_Parse.j3 : Nat → ByteArray → List (S35) → Int → Int → List ByteArray → ByteArray → Int → Bool → Option ((List (S35)) × Int × Int)
  | 0, _, _, _, _, _, _, _, _ => none
  | k + 1, x0, x5, x6, x8, x9, x10, x11, x60 => if x60 = true then (if 0 ≤ x11 then (if x11 ≤ (wrap64 (x11 + 1)) then (if (wrap64 (x11 + 1)) ≤ (x0.size : Int) then (if x10.size + (x0.extract (x11 : Int).toNat ((wrap64 (x11 + 1)) : Int).toNat).size ≤ 9223372036854775807 then (halterref36_Parse.l1 k x0 x5 x6 x8 x9 (x10 ++ (x0.extract (x11 : Int).toNat ((wrap64 (x11 + 1)) : Int).toNat)) (wrap64 (x11 + 1))) else (none)) else (none)) else (none)) else (none)) else (if x10.toList = ([] : List UInt8) then (if x11 < x8 then (if 0 ≤ x11 then (if x11 < (x0.size : Int) then (if (bt x0 x11) = 37 then (halterref36_Parse.j4 k x0 x5 x6 x8 x9) else (halterref36_Parse.l1 k x0 x5 x6 x8 x9 (⟨#[]⟩ : ByteArray) (wrap64 (x11 + 1)))) else (none)) else (none)) else (halterref36_Parse.l1 k x0 x5 x6 x8 x9 (⟨#[]⟩ : ByteArray) (wrap64 (x11 + 1)))) else (if x9.length < 8796093022208 then ((some (x9 ++ [x10] : List ByteArray)).bind fun y208 => (if x11 < x8 then (if 0 ≤ x11 then (if x11 < (x0.size : Int) then (if (bt x0 x11) = 37 then (halterref36_Parse.j4 k x0 x5 x6 x8 y208) else (halterref36_Parse.l1 k x0 x5 x6 x8 y208 (⟨#[]⟩ : ByteArray) (wrap64 (x11 + 1)))) else (none)) else (none)) else (halterref36_Parse.l1 k x0 x5 x6 x8 y208 (⟨#[]⟩ : ByteArray) (wrap64 (x11 + 1))))) else (none)))
end
def halterref36_Parse.f (k : Nat) (a0 : ByteArray) : Option ((List (S35)) × Int × Int) := if (a0.size : Int) > 65536 then (some (([] : List (S35)), 0, 90)) else (halterref36_Parse.l0 k a0 ([] : List (S35)) 0 0 0)
def halterref36_Parse.T23 : Bool × List (List Nat × List Nat) := (true, [([], []), ([0], [0]), ([1], [1]), ([], []), ([3], [3]), ([2, 4], [2, 4]), ([], []), ([6, 5, 0, 1, 2, 3, 4, 5, 6], [5, 6])])
def halterref36_Parse.B23 : List Nat := [0, 1, 3, 0, 8, 31, 0, 127]
theorem halterref36_Parse.tab23 : rtab .any (opsOf Tryz.f10 23) = halterref36_Parse.T23 := by kernel_rfl
theorem halterref36_Parse.bits23 : waitsOk halterref36_Parse.T23.2 halterref36_Parse.B23 = true := by kernel_rfl
set_option maxHeartbeats 8000000 in
set_option maxRecDepth 100000 in
theorem halterref36_Parse.calls (k : Nat) (a0 : ByteArray) (r1 : List (S35)) (r2 : Int) (r3 : Int) (w : World) (h : halterref36_Parse.f k a0 = some (r1, r2, r3)) :
    Calls Tryz.prog 10 #[.string a0] w fun e w' => ∃ v0_ : Value, e = .returned (.tuple #[v0_, .int .i64 r2, .int .i64 r3]) ∧ Kd.N k35 35 w' w.heap.size (fun k_ => (w.heap.size ≤ k_)) v0_ r1 ∧ Below w.heap.size w w' := by
  have hu35 := Tryz.underlying35
  have HB := Aside0.mk (Below.refl w.heap.size w)
  have H : (if (a0.size : Int) > 65536 then (some (([] : List (S35)), 0, 90)) else (halterref36_Parse.l0 k a0 ([] : List (S35)) 0 0 0)) = some (r1, r2, r3) := h
  clear h
  by_cases c2 : (a0.size : Int) > 65536
  · rw [if_pos c2] at H
    have c2b0 : decide (65536 < (a0.size : Int)) = true := decide_eq_true c2
    have c2b1 : decide (65536 < a0.size) = true := decide_eq_true (by omega)
    clear c2
    simp only [Option.some.injEq, Prod.mk.injEq] at H
    obtain ⟨rfl, rfl, rfl⟩ := H
    go_enter Tryz.func10, Tryz.ntmps10
    go_wp2
    go_ret3
    exact ⟨_, by first | rfl | (simp [errW_none, errW_some] <;> rfl) | (simp [*, errW_none, errW_some] <;> rfl), by first | exact Kd.S_nil _ _ _ _ _ | exact Kd.N_nil _ _ _ _ _ | exact Kd.V_nil _ _ _ _ _ | exact Kd.Q_nil _ _ _ _ _ | exact Kd.R_nil _ _ _ _ _, by repeat (first | (with_reducible first | exact HB.out | apply below_alloc | apply pw_below_drewN | apply below_drew1) | exact HB.out)⟩
  · rw [if_neg c2] at H
    have c2b0 : decide (65536 < (a0.size : Int)) = false := decide_eq_false c2
    have c2b1 : decide (65536 < a0.size) = false := decide_eq_false (by omega)
    clear c2
    have H' := Aside0.mk H
    clear H
    go_enter Tryz.func10, Tryz.ntmps10
    go_wp2
    go_loopg [5, 6, 7, 8] k (fun kq v5 v6 v7 v8 w' => ∃ (x5_1 : List (S35)) (x6_1 : Int) (x7_1 : Int) (x8_1 : Int), v6 = .int .i64 x6_1 ∧ v7 = .int .i64 x7_1 ∧ v8 = .int .i64 x8_1 ∧ Aside0 (halterref36_Parse.l0 kq a0 x5_1 x6_1 x7_1 x8_1 = some (r1, r2, r3)) ∧ Aside0 (kq ≤ k) ∧ Aside0 (Kd.N k35 35 w' w.heap.size (fun k_ => (w.heap.size ≤ k_)) v5 x5_1) ∧ Aside0 (Below w.heap.size w w'))
    case atStart => exact ⟨(([] : List (S35))), (0), (0), (0), (by first | rfl | (simp; done) | (simp [*]; done)), (by first | rfl | (simp; done) | (simp [*]; done)), (by first | rfl | (simp; done) | (simp [*]; done)), H', ⟨Nat.le_refl _⟩, ⟨by first | exact Kd.S_nil _ _ _ _ _ | exact Kd.N_nil _ _ _ _ _ | exact Kd.V_nil _ _ _ _ _ | exact Kd.Q_nil _ _ _ _ _ | exact Kd.R_nil _ _ _ _ _⟩, ⟨by repeat (first | (with_reducible first | exact HB.out | apply below_alloc | apply pw_below_drewN | apply below_drew1) | exact HB.out)⟩⟩
    case round =>
      clear H'
      try clear c1
      try clear c2
      try clear c2b0
      try clear c2b1
      try clear p2
      obtain ⟨x5_1, x6_1, x7_1, x8_1, rfl, rfl, rfl, HA, HK1, HO_5, HB⟩ := hrel
      cases gk with
      | zero => exact absurd HA.out (by simp [halterref36_Parse.l0])
      | succ k1 =>
        have H := HA.out
        clear HA
        simp only [halterref36_Parse.l0] at H
        by_cases c3 : x8_1 ≤ (a0.size : Int)
        · rw [if_pos c3] at H
          have c3b0 : decide (x8_1 ≤ (a0.size : Int)) = true := decide_eq_true c3
          clear c3
          have HC4 := Aside0.mk H
          clear H
          go_upto_region 8 with (fail)
          go_cut [31] (fun v31 wc => ∃ (kq : Nat) (x31_3 : Bool), v31 = .bool x31_3 ∧ Aside0 (halterref36_Parse.j1 kq a0 x5_1 x6_1 x7_1 x8_1 x31_3 = some (r1, r2, r3)) ∧ Aside0 (kq ≤ k1) ∧ Aside0 (Kd.N k35 35 wc w.heap.size (fun k_ => (w.heap.size ≤ k_)) u5 x5_1) ∧ Aside0 (Below w.heap.size w wc))
          case first =>
            have H := HC4.out
            clear HC4
            by_cases c5 : x8_1 < (a0.size : Int)
            · rw [if_pos c5] at H
              have c5b0 : decide (x8_1 < (a0.size : Int)) = true := decide_eq_true c5
              clear c5
              (first | rw [c5b0] | (simp only [i64_w, i32_w]; rw [c5b0]) | skip)
              by_cases c6 : 0 ≤ x8_1
              · rw [if_pos c6] at H
                have c6b0 : decide (0 ≤ x8_1) = true := decide_eq_true c6
                clear c6
                have H' := Aside0.mk H
                clear H
                have p7 : 0 ≤ (x8_1 : Int) := of_decide_eq_true (by first | (with_reducible assumption) | assumption)
                have q7 : x8_1 < (a0.size : Int) := of_decide_eq_true (by first | (with_reducible assumption) | assumption)
                have hx7 := bt_at a0 x8_1
                replace p7 := eq_true p7
                replace q7 := eq_true q7
                go_wp2
                go_meet
                case rel => exact ⟨_, (((bt a0 x8_1) != 10)), (by first | rfl | (simp; done) | (simp [*]; done)), H', ⟨by have := HK1.out; first | omega | exact Nat.le_refl _⟩, ⟨by (with_reducible repeat (first | apply Kd.N_alloc | apply Kd.N_drewN | apply Kd.N_drew)); exact HO_5.out⟩, ⟨by repeat (first | (with_reducible first | exact HB.out | apply below_alloc | apply pw_below_drewN | apply below_drew1) | exact HB.out)⟩⟩
              · rw [if_neg c6] at H
                exact absurd H (by simp)
            · rw [if_neg c5] at H
              have c5b0 : decide (x8_1 < (a0.size : Int)) = false := decide_eq_false c5
              clear c5
              (first | rw [c5b0] | (simp only [i64_w, i32_w]; rw [c5b0]) | skip)
              have H' := Aside0.mk H
              clear H
              go_wp2
              go_meet
              case rel => exact ⟨_, (false), (by first | rfl | (simp; done) | (simp [*]; done)), H', ⟨by have := HK1.out; first | omega | exact Nat.le_refl _⟩, ⟨by (with_reducible repeat (first | apply Kd.N_alloc | apply Kd.N_drewN | apply Kd.N_drew)); exact HO_5.out⟩, ⟨by repeat (first | (with_reducible first | exact HB.out | apply below_alloc | apply pw_below_drewN | apply below_drew1) | exact HB.out)⟩⟩
          case rest =>
            clear HC4
            try clear c1
            try clear c2
            try clear c2b0
            try clear c2b1
            try clear p2
            try clear c3
            try clear c3b0
            try clear c5
            try clear c5b0
            try clear c6
            try clear c6b0
            try clear p7
            try clear q7
            try clear hx7
            try clear p2
            try clear p7
            try clear q7
            obtain ⟨kq, x31_3, rfl, HA, HJ3, HO_5, HB⟩ := hcut
            cases kq with
            | zero => exact absurd HA.out (by simp [halterref36_Parse.j1])
            | succ kj3 =>
              have H := HA.out
              clear HA
              simp only [halterref36_Parse.j1] at H
              by_cases c8 : x31_3 = true
              · subst c8
                have H1 : (halterref36_Parse.l0 kj3 a0 x5_1 x6_1 x7_1 (wrap64 (x8_1 + 1))) = some (r1, r2, r3) := by rw [if_pos rfl] at H; exact H
                clear H
                have H := H1
                clear H1
                have H' := Aside0.mk H
                clear H
                go_wp2
                go_roundg kj3
                case measure => have := HK1.out; have := HJ3.out; omega
                case rel => exact ⟨(x5_1), (x6_1), (x7_1), (wrap64 (x8_1 + 1)), (by first | rfl | (simp; done) | (simp [*]; done)), (by first | rfl | (simp; done) | (simp [*]; done)), (by first | rfl | (simp; done) | (simp [*]; done)), H', ⟨by have := HK1.out; have := HJ3.out; omega⟩, ⟨by (with_reducible repeat (first | apply Kd.N_alloc | apply Kd.N_drewN | apply Kd.N_drew)); exact HO_5.out⟩, ⟨by repeat (first | (with_reducible first | exact HB.out | apply below_alloc | apply pw_below_drewN | apply below_drew1) | exact HB.out)⟩⟩
              · replace c8 := Bool.eq_false_iff.mpr c8
                subst c8
                have H1 : (halterref36_Parse.l1 kj3 a0 x5_1 (wrap64 (x6_1 + 1)) x8_1 ([] : List ByteArray) (⟨#[]⟩ : ByteArray) x7_1) = some (r1, r2, r3) := by rw [if_neg (show ¬ (false = true) by decide)] at H; exact H
                clear H
                have H := H1
                clear H1
                have HC9 := Aside0.mk H
                clear H
                go_upto_block 2 with (fail)
                go_cut [9] (fun v9 wc => ∃ (kq : Nat) (x9_8 : List ByteArray), Aside0 (halterref36_Parse.j4 kq a0 x5_1 (wrap64 (x6_1 + 1)) x8_1 x9_8 = some (r1, r2, r3)) ∧ Aside0 (kq ≤ kj3) ∧ Aside0 (Kd.N k35 35 wc w.heap.size (fun k_ => (w.heap.size ≤ k_) ∧ some k_ ≠ (v9 : Value).ownBlock) u5 x5_1) ∧ Aside0 (Kd.R Kd.string 9 wc w.heap.size (fun k_ => (w.heap.size ≤ k_)) v9 x9_8) ∧ Aside0 (Below w.heap.size w wc))
                case first =>
                  have H := HC9.out
                  clear HC9
                  have H' := Aside0.mk H
                  clear H
                  go_wp2
                  go_loopg [9, 10, 11] kj3 (fun kq v9 v10 v11 w' => ∃ (x9_3 : List ByteArray) (x10_3 : ByteArray) (x11_3 : Int), v10 = .string x10_3 ∧ v11 = .int .i64 x11_3 ∧ Aside0 (halterref36_Parse.l1 kq a0 x5_1 (wrap64 (x6_1 + 1)) x8_1 x9_3 x10_3 x11_3 = some (r1, r2, r3)) ∧ Aside0 (kq ≤ kj3) ∧ Aside0 (Kd.N k35 35 w' w.heap.size (fun k_ => (w.heap.size ≤ k_) ∧ some k_ ≠ (v9 : Value).ownBlock) u5 x5_1) ∧ Aside0 (Kd.R Kd.string 9 w' w.heap.size (fun k_ => (w.heap.size ≤ k_)) v9 x9_3) ∧ Aside0 (Below w.heap.size w w'))
                  case atStart => exact ⟨(([] : List ByteArray)), ((⟨#[]⟩ : ByteArray)), (x7_1), (by first | rfl | (simp; done) | (simp [*]; done)), (by first | rfl | (simp; done) | (simp [*]; done)), H', ⟨Nat.le_refl _⟩, ⟨by (with_reducible repeat (first | apply Kd.N_alloc | apply Kd.N_drewN | apply Kd.N_drew)); exact Kd.N_mono HO_5.out (fun _ hk => ⟨hk, (by simp [Value.ownBlock])⟩)⟩, ⟨by first | exact Kd.R_nil _ _ _ _ _ | exact Kd.N_nil _ _ _ _ _ | exact Kd.V_nil _ _ _ _ _ | exact Kd.Q_nil _ _ _ _ _ | exact Kd.S_nil _ _ _ _ _⟩, ⟨by repeat (first | (with_reducible first | exact HB.out | apply below_alloc | apply pw_below_drewN | apply below_drew1) | exact HB.out)⟩⟩
                  case round =>
                    clear H'
                    try clear c1
                    try clear c2
                    try clear c2b0
                    try clear c2b1
                    try clear p2
                    try clear c3
                    try clear c3b0
                    try clear c5
                    try clear c5b0
                    try clear c6
                    try clear c6b0
                    try clear p6
                    try clear p7
                    try clear q7
                    try clear hx7
                    try clear c8
                    try clear p2
                    try clear p7
                    try clear q7
                    obtain ⟨x9_3, x10_3, x11_3, rfl, rfl, HA, HK3, HO_5, HO_9, HB⟩ := hrel
                    cases gk with
                    | zero => exact absurd HA.out (by simp [halterref36_Parse.l1])
                    | succ k3 =>
                      have H := HA.out
                      clear HA
                      simp only [halterref36_Parse.l1] at H
                      by_cases c10 : x11_3 ≤ x8_1
                      · rw [if_pos c10] at H
                        have c10b0 : decide (x11_3 ≤ x8_1) = true := decide_eq_true c10
                        clear c10
                        (first | rw [c10b0] | (simp only [i64_w, i32_w]; rw [c10b0]) | skip)
                        have HC11 := Aside0.mk H
                        clear H
                        go_upto_region 15 with (fail)
                        go_cut [60] (fun v60 wc => ∃ (kq : Nat) (x60_10 : Bool), v60 = .bool x60_10 ∧ Aside0 (halterref36_Parse.j3 kq a0 x5_1 (wrap64 (x6_1 + 1)) x8_1 x9_3 x10_3 x11_3 x60_10 = some (r1, r2, r3)) ∧ Aside0 (kq ≤ k3) ∧ Aside0 (Kd.N k35 35 wc w.heap.size (fun k_ => (w.heap.size ≤ k_) ∧ some k_ ≠ (u9 : Value).ownBlock) u5 x5_1) ∧ Aside0 (Kd.R Kd.string 9 wc w.heap.size (fun k_ => (w.heap.size ≤ k_)) u9 x9_3) ∧ Aside0 (Below w.heap.size w wc))
                        case first =>
                          have H := HC11.out
                          clear HC11
                          by_cases c12 : x11_3 < x8_1
                          · rw [if_pos c12] at H
                            have c12b0 : decide (x11_3 < x8_1) = true := decide_eq_true c12
                            clear c12
                            (first | rw [c12b0] | (simp only [i64_w, i32_w]; rw [c12b0]) | skip)
                            by_cases c13 : 0 ≤ x11_3
                            · rw [if_pos c13] at H
                              have c13b0 : decide (0 ≤ x11_3) = true := decide_eq_true c13
                              clear c13
                              by_cases c14 : x11_3 < (a0.size : Int)
                              · rw [if_pos c14] at H
                                have c14b0 : decide (x11_3 < (a0.size : Int)) = true := decide_eq_true c14
                                clear c14
                                by_cases c16 : (bt a0 x11_3) = 32
                                · rw [if_pos c16] at H
                                  have c16b0 : ((bt a0 x11_3) == 32) = true := beq_iff_eq.mpr c16
                                  have c16b1 : ((bt a0 x11_3) != 32) = false := bne_eq_false_iff_eq.mpr c16
                                  clear c16
                                  have H' := Aside0.mk H
                                  clear H
                                  have p15 : 0 ≤ (x11_3 : Int) := of_decide_eq_true (by first | (with_reducible assumption) | assumption)
                                  have q15 : x11_3 < (a0.size : Int) := of_decide_eq_true (by first | (with_reducible assumption) | assumption)
                                  have hx15 := bt_at a0 x11_3
                                  replace p15 := eq_true p15
                                  replace q15 := eq_true q15
                                  go_wp2
                                  go_meet
                                  case rel => exact ⟨_, (false), (by first | rfl | (simp; done) | (simp [*]; done)), H', ⟨by have := HK1.out; have := HJ3.out; have := HK3.out; first | omega | exact Nat.le_refl _⟩, ⟨by (with_reducible repeat (first | apply Kd.N_alloc | apply Kd.N_drewN | apply Kd.N_drew)); exact HO_5.out⟩, ⟨by (with_reducible repeat (first | apply Kd.R_alloc | apply Kd.R_drewN | apply Kd.R_drew)); exact HO_9.out⟩, ⟨by repeat (first | (with_reducible first | exact HB.out | apply below_alloc | apply pw_below_drewN | apply below_drew1) | exact HB.out)⟩⟩
                                · rw [if_neg c16] at H
                                  have c16b0 : ((bt a0 x11_3) == 32) = false := beq_eq_false_iff_ne.mpr c16
                                  have c16b1 : ((bt a0 x11_3) != 32) = true := bne_iff_ne.mpr c16
                                  by_cases c18 : (bt a0 x11_3) = 9
                                  · rw [if_pos c18] at H
                                    have c18b0 : ((bt a0 x11_3) == 9) = true := beq_iff_eq.mpr c18
                                    have c18b1 : ((bt a0 x11_3) != 9) = false := bne_eq_false_iff_eq.mpr c18
                                    clear c18
                                    have H' := Aside0.mk H
                                    clear H
                                    have p15 : 0 ≤ (x11_3 : Int) := of_decide_eq_true (by first | (with_reducible assumption) | assumption)
                                    have q15 : x11_3 < (a0.size : Int) := of_decide_eq_true (by first | (with_reducible assumption) | assumption)
                                    have hx15 := bt_at a0 x11_3
                                    replace p15 := eq_true p15
                                    replace q15 := eq_true q15
                                    have p17 : 0 ≤ (x11_3 : Int) := of_decide_eq_true (by first | (with_reducible assumption) | assumption)
                                    have q17 : x11_3 < (a0.size : Int) := of_decide_eq_true (by first | (with_reducible assumption) | assumption)
                                    have hx17 := bt_at a0 x11_3
                                    replace p17 := eq_true p17
                                    replace q17 := eq_true q17
                                    go_wp2
                                    go_meet
                                    case rel => exact ⟨_, (false), (by first | rfl | (simp; done) | (simp [*]; done)), H', ⟨by have := HK1.out; have := HJ3.out; have := HK3.out; first | omega | exact Nat.le_refl _⟩, ⟨by (with_reducible repeat (first | apply Kd.N_alloc | apply Kd.N_drewN | apply Kd.N_drew)); exact HO_5.out⟩, ⟨by (with_reducible repeat (first | apply Kd.R_alloc | apply Kd.R_drewN | apply Kd.R_drew)); exact HO_9.out⟩, ⟨by repeat (first | (with_reducible first | exact HB.out | apply below_alloc | apply pw_below_drewN | apply below_drew1) | exact HB.out)⟩⟩
                                  · rw [if_neg c18] at H
                                    have c18b0 : ((bt a0 x11_3) == 9) = false := beq_eq_false_iff_ne.mpr c18
                                    have c18b1 : ((bt a0 x11_3) != 9) = true := bne_iff_ne.mpr c18
                                    have H' := Aside0.mk H
                                    clear H
                                    have p15 : 0 ≤ (x11_3 : Int) := of_decide_eq_true (by first | (with_reducible assumption) | assumption)
                                    have q15 : x11_3 < (a0.size : Int) := of_decide_eq_true (by first | (with_reducible assumption) | assumption)
                                    have hx15 := bt_at a0 x11_3
                                    replace p15 := eq_true p15
                                    replace q15 := eq_true q15
                                    have p17 : 0 ≤ (x11_3 : Int) := of_decide_eq_true (by first | (with_reducible assumption) | assumption)
                                    have q17 : x11_3 < (a0.size : Int) := of_decide_eq_true (by first | (with_reducible assumption) | assumption)
                                    have hx17 := bt_at a0 x11_3
                                    replace p17 := eq_true p17
                                    replace q17 := eq_true q17
                                    have p19 : 0 ≤ (x11_3 : Int) := of_decide_eq_true (by first | (with_reducible assumption) | assumption)
                                    have q19 : x11_3 < (a0.size : Int) := of_decide_eq_true (by first | (with_reducible assumption) | assumption)
                                    have hx19 := bt_at a0 x11_3
                                    replace p19 := eq_true p19
                                    replace q19 := eq_true q19
                                    go_wp2
                                    go_meet
                                    case rel => exact ⟨_, (((bt a0 x11_3) != 37)), (by first | rfl | (simp; done) | (simp [*]; done)), H', ⟨by have := HK1.out; have := HJ3.out; have := HK3.out; first | omega | exact Nat.le_refl _⟩, ⟨by (with_reducible repeat (first | apply Kd.N_alloc | apply Kd.N_drewN | apply Kd.N_drew)); exact HO_5.out⟩, ⟨by (with_reducible repeat (first | apply Kd.R_alloc | apply Kd.R_drewN | apply Kd.R_drew)); exact HO_9.out⟩, ⟨by repeat (first | (with_reducible first | exact HB.out | apply below_alloc | apply pw_below_drewN | apply below_drew1) | exact HB.out)⟩⟩
                              · rw [if_neg c14] at H
                                exact absurd H (by simp)
                            · rw [if_neg c13] at H
                              exact absurd H (by simp)
                          · rw [if_neg c12] at H
                            have c12b0 : decide (x11_3 < x8_1) = false := decide_eq_false c12
                            clear c12
                            (first | rw [c12b0] | (simp only [i64_w, i32_w]; rw [c12b0]) | skip)
                            have H' := Aside0.mk H
                            clear H
                            go_wp2
                            go_meet
                            case rel => exact ⟨_, (false), (by first | rfl | (simp; done) | (simp [*]; done)), H', ⟨by have := HK1.out; have := HJ3.out; have := HK3.out; first | omega | exact Nat.le_refl _⟩, ⟨by (with_reducible repeat (first | apply Kd.N_alloc | apply Kd.N_drewN | apply Kd.N_drew)); exact HO_5.out⟩, ⟨by (with_reducible repeat (first | apply Kd.R_alloc | apply Kd.R_drewN | apply Kd.R_drew)); exact HO_9.out⟩, ⟨by repeat (first | (with_reducible first | exact HB.out | apply below_alloc | apply pw_below_drewN | apply below_drew1) | exact HB.out)⟩⟩
                        case rest =>
                          clear HC11
                          try clear c1
                          try clear p1
                          try clear q1
                          try clear hx1
                          try clear c2
                          try clear c2b0
                          try clear c2b1
                          try clear p2
                          try clear c3
                          try clear c3b0
                          try clear c5
                          try clear c5b0
                          try clear c6
                          try clear c6b0
                          try clear p6
                          try clear p7
                          try clear q7
                          try clear hx7
                          try clear c8
                          try clear c10
                          try clear c10b0
                          try clear c12
                          try clear c12b0
                          try clear c13
                          try clear c13b0
                          try clear c14
                          try clear c14b0
                          try clear p15
                          try clear q15
                          try clear hx15
                          try clear c16
                          try clear c16b0
                          try clear c16b1
                          try clear p17
                          try clear q17
                          try clear hx17
                          try clear c18
                          try clear c18b0
                          try clear c18b1
                          try clear p19
                          try clear q19
                          try clear hx19
                          try clear p15
                          try clear p17
                          try clear p19
                          try clear p2
                          try clear p6
                          try clear p7
                          try clear q15
                          try clear q17
                          try clear q19
                          try clear q7
                          obtain ⟨kq, x60_10, rfl, HA, HJ10, HO_5, HO_9, HB⟩ := hcut
                          cases kq with
                          | zero => exact absurd HA.out (by simp [halterref36_Parse.j3])
                          | succ kj10 =>
                            have H := HA.out
                            clear HA
                            simp only [halterref36_Parse.j3] at H
                            by_cases c20 : x60_10 = true
                            · subst c20
                              have H1 : (if 0 ≤ x11_3 then (if x11_3 ≤ (wrap64 (x11_3 + 1)) then (if (wrap64 (x11_3 + 1)) ≤ (a0.size : Int) then (if x10_3.size + (a0.extract (x11_3 : Int).toNat ((wrap64 (x11_3 + 1)) : Int).toNat).size ≤ 9223372036854775807 then (halterref36_Parse.l1 kj10 a0 x5_1 (wrap64 (x6_1 + 1)) x8_1 x9_3 (x10_3 ++ (a0.extract (x11_3 : Int).toNat ((wrap64 (x11_3 + 1)) : Int).toNat)) (wrap64 (x11_3 + 1))) else (none)) else (none)) else (none)) else (none)) = some (r1, r2, r3) := by rw [if_pos rfl] at H; exact H
                              clear H
                              have H := H1
                              clear H1
                              by_cases c21 : 0 ≤ x11_3
                              · rw [if_pos c21] at H
                                have c21b0 := eq_true c21
                                have c21b1 : decide (0 ≤ x11_3) = true := decide_eq_true c21
                                clear c21
                                by_cases c22 : x11_3 ≤ (wrap64 (x11_3 + 1))
                                · rw [if_pos c22] at H
                                  have c22b0 := eq_true c22
                                  have c22b1 : decide (x11_3 ≤ (wrap64 (x11_3 + 1))) = true := decide_eq_true c22
                                  by_cases c23 : (wrap64 (x11_3 + 1)) ≤ (a0.size : Int)
                                  · rw [if_pos c23] at H
                                    have c23b0 := eq_true c23
                                    have c23b1 : decide ((wrap64 (x11_3 + 1)) ≤ (a0.size : Int)) = true := decide_eq_true c23
                                    by_cases c24 : x10_3.size + (a0.extract (x11_3 : Int).toNat ((wrap64 (x11_3 + 1)) : Int).toNat).size ≤ 9223372036854775807
                                    · rw [if_pos c24] at H
                                      have c24b0 := eq_true c24
                                      have c24b1 : decide (x10_3.size + (a0.extract (x11_3 : Int).toNat ((wrap64 (x11_3 + 1)) : Int).toNat).size ≤ 9223372036854775807) = true := decide_eq_true c24
                                      try have c24b2 : (9223372036854775807 < x10_3.size + (a0.extract (x11_3 : Int).toNat ((wrap64 (x11_3 + 1)) : Int).toNat).size) = False := eq_false (Nat.not_lt.2 c24)
                                      have H' := Aside0.mk H
                                      clear H
                                      go_wp2
                                      go_roundg kj10
                                      case measure => have := HK1.out; have := HJ3.out; have := HK3.out; have := HJ10.out; omega
                                      case rel => exact ⟨(x9_3), (x10_3 ++ (a0.extract (x11_3 : Int).toNat ((wrap64 (x11_3 + 1)) : Int).toNat)), (wrap64 (x11_3 + 1)), (by first | rfl | (simp; done) | (simp [*]; done)), (by first | rfl | (simp; done) | (simp [*]; done)), H', ⟨by have := HK1.out; have := HJ3.out; have := HK3.out; have := HJ10.out; omega⟩, ⟨by (with_reducible repeat (first | apply Kd.N_alloc | apply Kd.N_drewN | apply Kd.N_drew)); exact HO_5.out⟩, ⟨by (with_reducible repeat (first | apply Kd.R_alloc | apply Kd.R_drewN | apply Kd.R_drew)); exact HO_9.out⟩, ⟨by repeat (first | (with_reducible first | exact HB.out | apply below_alloc | apply pw_below_drewN | apply below_drew1) | exact HB.out)⟩⟩
                                    · rw [if_neg c24] at H
                                      exact absurd H (by simp)
                                  · rw [if_neg c23] at H
                                    exact absurd H (by simp)
                                · rw [if_neg c22] at H
                                  exact absurd H (by simp)
                              · rw [if_neg c21] at H
                                exact absurd H (by simp)
                            · replace c20 := Bool.eq_false_iff.mpr c20
                              subst c20
                              have H1 : (if x10_3.toList = ([] : List UInt8) then (if x11_3 < x8_1 then (if 0 ≤ x11_3 then (if x11_3 < (a0.size : Int) then (if (bt a0 x11_3) = 37 then (halterref36_Parse.j4 kj10 a0 x5_1 (wrap64 (x6_1 + 1)) x8_1 x9_3) else (halterref36_Parse.l1 kj10 a0 x5_1 (wrap64 (x6_1 + 1)) x8_1 x9_3 (⟨#[]⟩ : ByteArray) (wrap64 (x11_3 + 1)))) else (none)) else (none)) else (halterref36_Parse.l1 kj10 a0 x5_1 (wrap64 (x6_1 + 1)) x8_1 x9_3 (⟨#[]⟩ : ByteArray) (wrap64 (x11_3 + 1)))) else (if x9_3.length < 8796093022208 then ((some (x9_3 ++ [x10_3] : List ByteArray)).bind fun y208 => (if x11_3 < x8_1 then (if 0 ≤ x11_3 then (if x11_3 < (a0.size : Int) then (if (bt a0 x11_3) = 37 then (halterref36_Parse.j4 kj10 a0 x5_1 (wrap64 (x6_1 + 1)) x8_1 y208) else (halterref36_Parse.l1 kj10 a0 x5_1 (wrap64 (x6_1 + 1)) x8_1 y208 (⟨#[]⟩ : ByteArray) (wrap64 (x11_3 + 1)))) else (none)) else (none)) else (halterref36_Parse.l1 kj10 a0 x5_1 (wrap64 (x6_1 + 1)) x8_1 y208 (⟨#[]⟩ : ByteArray) (wrap64 (x11_3 + 1))))) else (none))) = some (r1, r2, r3) := by rw [if_neg (show ¬ (false = true) by decide)] at H; exact H
                              clear H
                              have H := H1
                              clear H1
                              by_cases c25 : x10_3.toList = ([] : List UInt8)
                              · rw [if_pos c25] at H
                                have c25b0 : (x10_3.toList == ([] : List UInt8)) = true := beq_iff_eq.mpr c25
                                have c25b1 : (x10_3.toList != ([] : List UInt8)) = false := bne_eq_false_iff_eq.mpr c25
                                clear c25
                                by_cases c26 : x11_3 < x8_1
                                · rw [if_pos c26] at H
                                  have c26b0 : decide (x11_3 < x8_1) = true := decide_eq_true c26
                                  clear c26
                                  by_cases c27 : 0 ≤ x11_3
                                  · rw [if_pos c27] at H
                                    have c27b0 : decide (0 ≤ x11_3) = true := decide_eq_true c27
                                    clear c27
                                    by_cases c28 : x11_3 < (a0.size : Int)
                                    · rw [if_pos c28] at H
                                      have c28b0 : decide (x11_3 < (a0.size : Int)) = true := decide_eq_true c28
                                      clear c28
                                      by_cases c30 : (bt a0 x11_3) = 37
                                      · rw [if_pos c30] at H
                                        have c30b0 : ((bt a0 x11_3) == 37) = true := beq_iff_eq.mpr c30
                                        have c30b1 : ((bt a0 x11_3) != 37) = false := bne_eq_false_iff_eq.mpr c30
                                        clear c30
                                        have H' := Aside0.mk H
                                        clear H
                                        have p29 : 0 ≤ (x11_3 : Int) := of_decide_eq_true (by first | (with_reducible assumption) | assumption)
                                        have q29 : x11_3 < (a0.size : Int) := of_decide_eq_true (by first | (with_reducible assumption) | assumption)
                                        have hx29 := bt_at a0 x11_3
                                        replace p29 := eq_true p29
                                        replace q29 := eq_true q29
                                        go_wp2
                                        go_meet
                                        case rel => exact ⟨_, (x9_3), H', ⟨by have := HK1.out; have := HJ3.out; have := HK3.out; have := HJ10.out; first | omega | exact Nat.le_refl _⟩, ⟨by (with_reducible repeat (first | apply Kd.N_alloc | apply Kd.N_drewN | apply Kd.N_drew)); exact HO_5.out⟩, ⟨by (with_reducible repeat (first | apply Kd.R_alloc | apply Kd.R_drewN | apply Kd.R_drew)); exact HO_9.out⟩, ⟨by repeat (first | (with_reducible first | exact HB.out | apply below_alloc | apply pw_below_drewN | apply below_drew1) | exact HB.out)⟩⟩
                                      · rw [if_neg c30] at H
                                        have c30b0 : ((bt a0 x11_3) == 37) = false := beq_eq_false_iff_ne.mpr c30
                                        have c30b1 : ((bt a0 x11_3) != 37) = true := bne_iff_ne.mpr c30
                                        have H' := Aside0.mk H
                                        clear H
                                        have p29 : 0 ≤ (x11_3 : Int) := of_decide_eq_true (by first | (with_reducible assumption) | assumption)
                                        have q29 : x11_3 < (a0.size : Int) := of_decide_eq_true (by first | (with_reducible assumption) | assumption)
                                        have hx29 := bt_at a0 x11_3
                                        replace p29 := eq_true p29
                                        replace q29 := eq_true q29
                                        go_wp2
                                        go_roundg kj10
                                        case measure => have := HK1.out; have := HJ3.out; have := HK3.out; have := HJ10.out; omega
                                        case rel => exact ⟨(x9_3), ((⟨#[]⟩ : ByteArray)), (wrap64 (x11_3 + 1)), (by first | rfl | (simp; done) | (simp [*]; done)), (by first | rfl | (simp; done) | (simp [*]; done)), H', ⟨by have := HK1.out; have := HJ3.out; have := HK3.out; have := HJ10.out; omega⟩, ⟨by (with_reducible repeat (first | apply Kd.N_alloc | apply Kd.N_drewN | apply Kd.N_drew)); exact HO_5.out⟩, ⟨by (with_reducible repeat (first | apply Kd.R_alloc | apply Kd.R_drewN | apply Kd.R_drew)); exact HO_9.out⟩, ⟨by repeat (first | (with_reducible first | exact HB.out | apply below_alloc | apply pw_below_drewN | apply below_drew1) | exact HB.out)⟩⟩
                                    · rw [if_neg c28] at H
                                      exact absurd H (by simp)
                                  · rw [if_neg c27] at H
                                    exact absurd H (by simp)
                                · rw [if_neg c26] at H
                                  have c26b0 : decide (x11_3 < x8_1) = false := decide_eq_false c26
                                  clear c26
                                  have H' := Aside0.mk H
                                  clear H
                                  go_wp2
                                  go_roundg kj10
                                  case measure => have := HK1.out; have := HJ3.out; have := HK3.out; have := HJ10.out; omega
                                  case rel => exact ⟨(x9_3), ((⟨#[]⟩ : ByteArray)), (wrap64 (x11_3 + 1)), (by first | rfl | (simp; done) | (simp [*]; done)), (by first | rfl | (simp; done) | (simp [*]; done)), H', ⟨by have := HK1.out; have := HJ3.out; have := HK3.out; have := HJ10.out; omega⟩, ⟨by (with_reducible repeat (first | apply Kd.N_alloc | apply Kd.N_drewN | apply Kd.N_drew)); exact HO_5.out⟩, ⟨by (with_reducible repeat (first | apply Kd.R_alloc | apply Kd.R_drewN | apply Kd.R_drew)); exact HO_9.out⟩, ⟨by repeat (first | (with_reducible first | exact HB.out | apply below_alloc | apply pw_below_drewN | apply below_drew1) | exact HB.out)⟩⟩
                              · rw [if_neg c25] at H
                                have c25b0 : (x10_3.toList == ([] : List UInt8)) = false := beq_eq_false_iff_ne.mpr c25
                                have c25b1 : (x10_3.toList != ([] : List UInt8)) = true := bne_iff_ne.mpr c25
                                by_cases c31 : x9_3.length < 8796093022208
                                · rw [if_pos c31] at H
                                  have LMc31 := Aside0.mk c31
                                  clear c31
                                  obtain ⟨y208, hy208⟩ : ∃ y_ : List ByteArray, y_ = (x9_3 ++ [x10_3]) := ⟨_, rfl⟩
                                  replace H : (if x11_3 < x8_1 then (if 0 ≤ x11_3 then (if x11_3 < (a0.size : Int) then (if (bt a0 x11_3) = 37 then (halterref36_Parse.j4 kj10 a0 x5_1 (wrap64 (x6_1 + 1)) x8_1 y208) else (halterref36_Parse.l1 kj10 a0 x5_1 (wrap64 (x6_1 + 1)) x8_1 y208 (⟨#[]⟩ : ByteArray) (wrap64 (x11_3 + 1)))) else (none)) else (none)) else (halterref36_Parse.l1 kj10 a0 x5_1 (wrap64 (x6_1 + 1)) x8_1 y208 (⟨#[]⟩ : ByteArray) (wrap64 (x11_3 + 1)))) = some (r1, r2, r3) := by first | (rw [hy208]; with_reducible exact H) | (have H2_ := (Option.bind_some _ _).symm.trans H; rw [hy208]; with_reducible exact H2_) | (have H2_ := (Option.bind_some _ _).symm.trans H; with_reducible exact H2_) | with_reducible exact H | (rw [hy208]; exact H) | exact H
                                  have Ny208 := Aside0.mk hy208
                                  clear hy208
                                  by_cases c32 : x11_3 < x8_1
                                  · rw [if_pos c32] at H
                                    have c32b0 : decide (x11_3 < x8_1) = true := decide_eq_true c32
                                    clear c32
                                    by_cases c33 : 0 ≤ x11_3
                                    · rw [if_pos c33] at H
                                      have c33b0 : decide (0 ≤ x11_3) = true := decide_eq_true c33
                                      clear c33
                                      by_cases c34 : x11_3 < (a0.size : Int)
                                      · rw [if_pos c34] at H
                                        have c34b0 : decide (x11_3 < (a0.size : Int)) = true := decide_eq_true c34
                                        clear c34
                                        by_cases c36 : (bt a0 x11_3) = 37
                                        · rw [if_pos c36] at H
                                          have c36b0 : ((bt a0 x11_3) == 37) = true := beq_iff_eq.mpr c36
                                          have c36b1 : ((bt a0 x11_3) != 37) = false := bne_eq_false_iff_eq.mpr c36
                                          clear c36
                                          have H' := Aside0.mk H
                                          clear H
                                          go_wp2_with (first | ((with_reducible refine gate_builtin (b := .append) (xs := #[.tmp 70, .tmp 72]) rfl ?_); at_builtin; refine Kd.R_append Kd.string (w0 := w) w.heap.size rfl (.tmp 70) (.tmp 72) 32 9 (.string ⟨#[]⟩) 16 rfl Tryz.underlying32 info9 rfl (by decide) (by omega) u9 x9_3 x10_3 [.string x10_3] (fun k_ => (w.heap.size ≤ k_)) (fun _ => False) rfl rfl ?aP (fun _ hk => hk.elim) ?aF ?aO ?aB ?aS ?aL ?_; (case aP => exact rfl); (case aB => exact (by repeat (first | (with_reducible first | exact HB.out | apply below_alloc | apply pw_below_drewN | apply below_drew1) | exact HB.out))); (case aF => exact (fun k_ hk => (Nat.le_trans (below_size (by repeat (first | (with_reducible first | exact HB.out | apply below_alloc | apply pw_below_drewN | apply below_drew1) | exact HB.out))) hk))); (case aO => exact (by (with_reducible repeat (first | apply Kd.R_alloc | apply Kd.R_drewN | apply Kd.R_drew)); exact HO_9.out)); (case aS => exact (below_size (by repeat (first | (with_reducible first | exact HB.out | apply below_alloc | apply pw_below_drewN | apply below_drew1) | exact HB.out)))); (case aL => have := LMc31.out; omega); intro v209 w37 ho hb hg hat; rw [← Ny208.out] at ho; have n0_ := Aside0.mk (Kd.N_afterv (ok := (fun k_ => (w.heap.size ≤ k_))) (by (with_reducible repeat (first | apply Kd.N_alloc | apply Kd.N_drewN | apply Kd.N_drew)); exact HO_5.out) hg hat); have n1_ := Aside0.mk (hb); have n2_ := Aside0.mk (ho); clear HO_5; clear HB; clear HO_9; have HO_5 := n0_; have HB := n1_; have HO210 := n2_; clear n0_ n1_ n2_; clear ho hb hg hat; have p35 : 0 ≤ (x11_3 : Int) := of_decide_eq_true (by first | (with_reducible assumption) | assumption); have q35 : x11_3 < (a0.size : Int) := of_decide_eq_true (by first | (with_reducible assumption) | assumption); have hx35 := bt_at a0 x11_3; replace p35 := eq_true p35; replace q35 := eq_true q35))
                                          go_meet
                                          case rel => exact ⟨_, (y208), H', ⟨by have := HK1.out; have := HJ3.out; have := HK3.out; have := HJ10.out; first | omega | exact Nat.le_refl _⟩, ⟨by (with_reducible repeat (first | apply Kd.N_alloc | apply Kd.N_drewN | apply Kd.N_drew)); exact HO_5.out⟩, ⟨by (with_reducible repeat (first | apply Kd.R_alloc | apply Kd.R_drewN | apply Kd.R_drew)); exact HO210.out⟩, ⟨by repeat (first | (with_reducible first | exact HB.out | apply below_alloc | apply pw_below_drewN | apply below_drew1) | exact HB.out)⟩⟩
                                        · rw [if_neg c36] at H
                                          have c36b0 : ((bt a0 x11_3) == 37) = false := beq_eq_false_iff_ne.mpr c36
                                          have c36b1 : ((bt a0 x11_3) != 37) = true := bne_iff_ne.mpr c36
                                          have H' := Aside0.mk H
                                          clear H
                                          go_wp2_with (first | ((with_reducible refine gate_builtin (b := .append) (xs := #[.tmp 70, .tmp 72]) rfl ?_); at_builtin; refine Kd.R_append Kd.string (w0 := w) w.heap.size rfl (.tmp 70) (.tmp 72) 32 9 (.string ⟨#[]⟩) 16 rfl Tryz.underlying32 info9 rfl (by decide) (by omega) u9 x9_3 x10_3 [.string x10_3] (fun k_ => (w.heap.size ≤ k_)) (fun _ => False) rfl rfl ?aP (fun _ hk => hk.elim) ?aF ?aO ?aB ?aS ?aL ?_; (case aP => exact rfl); (case aB => exact (by repeat (first | (with_reducible first | exact HB.out | apply below_alloc | apply pw_below_drewN | apply below_drew1) | exact HB.out))); (case aF => exact (fun k_ hk => (Nat.le_trans (below_size (by repeat (first | (with_reducible first | exact HB.out | apply below_alloc | apply pw_below_drewN | apply below_drew1) | exact HB.out))) hk))); (case aO => exact (by (with_reducible repeat (first | apply Kd.R_alloc | apply Kd.R_drewN | apply Kd.R_drew)); exact HO_9.out)); (case aS => exact (below_size (by repeat (first | (with_reducible first | exact HB.out | apply below_alloc | apply pw_below_drewN | apply below_drew1) | exact HB.out)))); (case aL => have := LMc31.out; omega); intro v209 w38 ho hb hg hat; rw [← Ny208.out] at ho; have n0_ := Aside0.mk (Kd.N_afterv (ok := (fun k_ => (w.heap.size ≤ k_))) (by (with_reducible repeat (first | apply Kd.N_alloc | apply Kd.N_drewN | apply Kd.N_drew)); exact HO_5.out) hg hat); have n1_ := Aside0.mk (hb); have n2_ := Aside0.mk (ho); clear HO_5; clear HB; clear HO_9; have HO_5 := n0_; have HB := n1_; have HO210 := n2_; clear n0_ n1_ n2_; clear ho hb hg hat; have p35 : 0 ≤ (x11_3 : Int) := of_decide_eq_true (by first | (with_reducible assumption) | assumption); have q35 : x11_3 < (a0.size : Int) := of_decide_eq_true (by first | (with_reducible assumption) | assumption); have hx35 := bt_at a0 x11_3; replace p35 := eq_true p35; replace q35 := eq_true q35))
                                          go_roundg kj10
                                          case measure => have := HK1.out; have := HJ3.out; have := HK3.out; have := HJ10.out; omega
                                          case rel => exact ⟨(y208), ((⟨#[]⟩ : ByteArray)), (wrap64 (x11_3 + 1)), (by first | rfl | (simp; done) | (simp [*]; done)), (by first | rfl | (simp; done) | (simp [*]; done)), H', ⟨by have := HK1.out; have := HJ3.out; have := HK3.out; have := HJ10.out; omega⟩, ⟨by (with_reducible repeat (first | apply Kd.N_alloc | apply Kd.N_drewN | apply Kd.N_drew)); exact HO_5.out⟩, ⟨by (with_reducible repeat (first | apply Kd.R_alloc | apply Kd.R_drewN | apply Kd.R_drew)); exact HO210.out⟩, ⟨by repeat (first | (with_reducible first | exact HB.out | apply below_alloc | apply pw_below_drewN | apply below_drew1) | exact HB.out)⟩⟩
                                      · rw [if_neg c34] at H
                                        exact absurd H (by simp)
                                    · rw [if_neg c33] at H
                                      exact absurd H (by simp)
                                  · rw [if_neg c32] at H
                                    have c32b0 : decide (x11_3 < x8_1) = false := decide_eq_false c32
                                    clear c32
                                    have H' := Aside0.mk H
                                    clear H
                                    go_wp2_with (first | ((with_reducible refine gate_builtin (b := .append) (xs := #[.tmp 70, .tmp 72]) rfl ?_); at_builtin; refine Kd.R_append Kd.string (w0 := w) w.heap.size rfl (.tmp 70) (.tmp 72) 32 9 (.string ⟨#[]⟩) 16 rfl Tryz.underlying32 info9 rfl (by decide) (by omega) u9 x9_3 x10_3 [.string x10_3] (fun k_ => (w.heap.size ≤ k_)) (fun _ => False) rfl rfl ?aP (fun _ hk => hk.elim) ?aF ?aO ?aB ?aS ?aL ?_; (case aP => exact rfl); (case aB => exact (by repeat (first | (with_reducible first | exact HB.out | apply below_alloc | apply pw_below_drewN | apply below_drew1) | exact HB.out))); (case aF => exact (fun k_ hk => (Nat.le_trans (below_size (by repeat (first | (with_reducible first | exact HB.out | apply below_alloc | apply pw_below_drewN | apply below_drew1) | exact HB.out))) hk))); (case aO => exact (by (with_reducible repeat (first | apply Kd.R_alloc | apply Kd.R_drewN | apply Kd.R_drew)); exact HO_9.out)); (case aS => exact (below_size (by repeat (first | (with_reducible first | exact HB.out | apply below_alloc | apply pw_below_drewN | apply below_drew1) | exact HB.out)))); (case aL => have := LMc31.out; omega); intro v209 w39 ho hb hg hat; rw [← Ny208.out] at ho; have n0_ := Aside0.mk (Kd.N_afterv (ok := (fun k_ => (w.heap.size ≤ k_))) (by (with_reducible repeat (first | apply Kd.N_alloc | apply Kd.N_drewN | apply Kd.N_drew)); exact HO_5.out) hg hat); have n1_ := Aside0.mk (hb); have n2_ := Aside0.mk (ho); clear HO_5; clear HB; clear HO_9; have HO_5 := n0_; have HB := n1_; have HO210 := n2_; clear n0_ n1_ n2_; clear ho hb hg hat))
                                    go_roundg kj10
                                    case measure => have := HK1.out; have := HJ3.out; have := HK3.out; have := HJ10.out; omega
                                    case rel => exact ⟨(y208), ((⟨#[]⟩ : ByteArray)), (wrap64 (x11_3 + 1)), (by first | rfl | (simp; done) | (simp [*]; done)), (by first | rfl | (simp; done) | (simp [*]; done)), H', ⟨by have := HK1.out; have := HJ3.out; have := HK3.out; have := HJ10.out; omega⟩, ⟨by (with_reducible repeat (first | apply Kd.N_alloc | apply Kd.N_drewN | apply Kd.N_drew)); exact HO_5.out⟩, ⟨by (with_reducible repeat (first | apply Kd.R_alloc | apply Kd.R_drewN | apply Kd.R_drew)); exact HO210.out⟩, ⟨by repeat (first | (with_reducible first | exact HB.out | apply below_alloc | apply pw_below_drewN | apply below_drew1) | exact HB.out)⟩⟩
                                · rw [if_neg c31] at H
                                  exact absurd H (by simp)
                      · rw [if_neg c10] at H
                        have c10b0 : decide (x11_3 ≤ x8_1) = false := decide_eq_false c10
                        clear c10
                        (first | rw [c10b0] | (simp only [i64_w, i32_w]; rw [c10b0]) | skip)
                        have H' := Aside0.mk H
                        clear H
                        go_wp2
                        go_meet
                        case rel => exact ⟨_, (x9_3), H', ⟨by have := HK1.out; have := HJ3.out; have := HK3.out; first | omega | exact Nat.le_refl _⟩, ⟨by (with_reducible repeat (first | apply Kd.N_alloc | apply Kd.N_drewN | apply Kd.N_drew)); exact HO_5.out⟩, ⟨by (with_reducible repeat (first | apply Kd.R_alloc | apply Kd.R_drewN | apply Kd.R_drew)); exact HO_9.out⟩, ⟨by repeat (first | (with_reducible first | exact HB.out | apply below_alloc | apply pw_below_drewN | apply below_drew1) | exact HB.out)⟩⟩
                case rest =>
                  clear HC9
                  try clear c1
                  try clear p1
                  try clear q1
                  try clear hx1
                  try clear c2
                  try clear c2b0
                  try clear c2b1
                  try clear p2
                  try clear q2
                  try clear hx2
                  try clear c3
                  try clear c3b0
                  try clear p3
                  try clear q3
                  try clear hx3
                  try clear c5
                  try clear c5b0
                  try clear c6
                  try clear c6b0
                  try clear p6
                  try clear p7
                  try clear q7
                  try clear hx7
                  try clear c8
                  try clear c10
                  try clear c10b0
                  try clear c12
                  try clear c12b0
                  try clear c13
                  try clear c13b0
                  try clear c14
                  try clear c14b0
                  try clear p15
                  try clear q15
                  try clear hx15
                  try clear c16
                  try clear c16b0
                  try clear c16b1
                  try clear p17
                  try clear q17
                  try clear hx17
                  try clear c18
                  try clear c18b0
                  try clear c18b1
                  try clear p19
                  try clear q19
                  try clear hx19
                  try clear c20
                  try clear c21
                  try clear c21b0
                  try clear c21b1
                  try clear c22
                  try clear c22b0
                  try clear c22b1
                  try clear c23
                  try clear c23b0
                  try clear c23b1
                  try clear c24
                  try clear c24b0
                  try clear c24b1
                  try clear c24b2
                  try clear c25
                  try clear c25b0
                  try clear c25b1
                  try clear c26
                  try clear c26b0
                  try clear c27
                  try clear c27b0
                  try clear c28
                  try clear c28b0
                  try clear p29
                  try clear q29
                  try clear hx29
                  try clear c30
                  try clear c30b0
                  try clear c30b1
                  try clear c31
                  try clear c32
                  try clear c32b0
                  try clear c33
                  try clear c33b0
                  try clear c34
                  try clear c34b0
                  try clear p35
                  try clear q35
                  try clear hx35
                  try clear c36
                  try clear c36b0
                  try clear c36b1
                  try clear p1
                  try clear p15
                  try clear p17
                  try clear p19
                  try clear p2
                  try clear p29
                  try clear p35
                  try clear p6
                  try clear p7
                  try clear q1
                  try clear q15
                  try clear q17
                  try clear q19
                  try clear q29
                  try clear q35
                  try clear q7
                  obtain ⟨kq, x9_8, HA, HJ8, HO_5, HO_9, HB⟩ := hcut
                  cases kq with
                  | zero => exact absurd HA.out (by simp [halterref36_Parse.j4])
                  | succ kj8 =>
                    have H := HA.out
                    clear HA
                    simp only [halterref36_Parse.j4] at H
                    by_cases c40 : (x9_8.length : Int) = 0
                    · rw [if_pos c40] at H
                      have c40b0 : ((x9_8.length : Int) == 0) = true := beq_iff_eq.mpr c40
                      have c40b1 : ((x9_8.length : Int) != 0) = false := bne_eq_false_iff_eq.mpr c40
                      clear c40
                      have H' := Aside0.mk H
                      clear H
                      obtain ⟨Ao41, co41, eo41⟩ := Kd.R_slice HO_9.out
                      subst eo41
                      go_wp2
                      go_roundg kj8
                      case measure => have := HK1.out; have := HJ3.out; have := HJ8.out; omega
                      case rel => exact ⟨(x5_1), ((wrap64 (x6_1 + 1))), (wrap64 (x8_1 + 1)), (wrap64 (x8_1 + 1)), (by first | rfl | (simp; done) | (simp [*]; done)), (by first | rfl | (simp; done) | (simp [*]; done)), (by first | rfl | (simp; done) | (simp [*]; done)), H', ⟨by have := HK1.out; have := HJ3.out; have := HJ8.out; omega⟩, ⟨by (with_reducible repeat (first | apply Kd.N_alloc | apply Kd.N_drewN | apply Kd.N_drew)); exact Kd.N_mono HO_5.out (fun _ hk => hk.1)⟩, ⟨by repeat (first | (with_reducible first | exact HB.out | apply below_alloc | apply pw_below_drewN | apply below_drew1) | exact HB.out)⟩⟩
                    · rw [if_neg c40] at H
                      have c40b0 : ((x9_8.length : Int) == 0) = false := beq_eq_false_iff_ne.mpr c40
                      have c40b1 : ((x9_8.length : Int) != 0) = true := bne_iff_ne.mpr c40
                      have c40b2 : ¬ (x9_8 = []) := fun h_ => c40 (by rw [h_]; rfl)
                      by_cases c42 : 0 < (x9_8.length : Int)
                      · rw [if_pos c42] at H
                        have c42b0 : decide (0 < (x9_8.length : Int)) = true := decide_eq_true c42
                        have c42b1 : decide (0 < x9_8.length) = true := decide_eq_true (by omega)
                        clear c42
                        by_cases c43 : 1 ≤ (x9_8.length : Int)
                        · rw [if_pos c43] at H
                          have c43b0 := eq_true c43
                          have c43b1 : decide (1 ≤ (x9_8.length : Int)) = true := decide_eq_true c43
                          clear c43
                          obtain ⟨y212, hy212⟩ : ∃ y_ : List ByteArray, y_ = (x9_8.drop 1) := ⟨_, rfl⟩
                          replace H : ((halterref36_May.f kj8 (rdOf ByteArray.empty x9_8 0) y212).bind fun t218 => (if t218 = true then (if (x5_1.length : Int) = 4000 then (some (([] : List (S35)), (wrap64 (x6_1 + 1)), 90)) else (if x5_1.length < 3518437208883 then (halterref36_Parse.l0 kj8 a0 (x5_1 ++ [(⟨rdOf ByteArray.empty x9_8 0, y212⟩ : S35)]) (wrap64 (x6_1 + 1)) (wrap64 (x8_1 + 1)) (wrap64 (x8_1 + 1))) else (none))) else (some (([] : List (S35)), (wrap64 (x6_1 + 1)), 337)))) = some (r1, r2, r3) := by first | (rw [hy212]; with_reducible exact H) | (have H2_ := (Option.bind_some _ _).symm.trans H; rw [hy212]; with_reducible exact H2_) | (have H2_ := (Option.bind_some _ _).symm.trans H; with_reducible exact H2_) | with_reducible exact H | (rw [hy212]; exact H) | exact H
                          have Ny212 := Aside0.mk hy212
                          clear hy212
                          replace H := Option.bind_eq_some_iff.mp H
                          obtain ⟨t218, A440, H⟩ := H
                          replace H : (if t218 = true then (if (x5_1.length : Int) = 4000 then (some (([] : List (S35)), (wrap64 (x6_1 + 1)), 90)) else (if x5_1.length < 3518437208883 then (halterref36_Parse.l0 kj8 a0 (x5_1 ++ [(⟨rdOf ByteArray.empty x9_8 0, y212⟩ : S35)]) (wrap64 (x6_1 + 1)) (wrap64 (x8_1 + 1)) (wrap64 (x8_1 + 1))) else (none))) else (some (([] : List (S35)), (wrap64 (x6_1 + 1)), 337))) = some (r1, r2, r3) := H
                          have A44 := Aside0.mk A440
                          clear A440
                          by_cases c45 : t218 = true
                          · subst c45
                            have H1 : (if (x5_1.length : Int) = 4000 then (some (([] : List (S35)), (wrap64 (x6_1 + 1)), 90)) else (if x5_1.length < 3518437208883 then (halterref36_Parse.l0 kj8 a0 (x5_1 ++ [(⟨rdOf ByteArray.empty x9_8 0, y212⟩ : S35)]) (wrap64 (x6_1 + 1)) (wrap64 (x8_1 + 1)) (wrap64 (x8_1 + 1))) else (none))) = some (r1, r2, r3) := by rw [if_pos rfl] at H; exact H
                            clear H
                            have H := H1
                            clear H1
                            by_cases c46 : (x5_1.length : Int) = 4000
                            · rw [if_pos c46] at H
                              have c46b0 : ((x5_1.length : Int) == 4000) = true := beq_iff_eq.mpr c46
                              have c46b1 : ((x5_1.length : Int) != 4000) = false := bne_eq_false_iff_eq.mpr c46
                              clear c46
                              simp only [Option.some.injEq, Prod.mk.injEq] at H
                              obtain ⟨rfl, rfl, rfl⟩ := H
                              obtain ⟨Ao47, co47, eo47⟩ := Kd.R_slice HO_9.out
                              subst eo47
                              try go_wp2
                              have n0_ := Aside0.mk (Kd.N_drew HO_5.out)
                              have n1_ := Aside0.mk (Kd.R_drew HO_9.out)
                              have n2_ := Aside0.mk (below_drew1 HB.out)
                              clear HO_5
                              clear HO_9
                              clear HB
                              have HO_5 := n0_
                              have HO_9 := n1_
                              have HB := n2_
                              clear n0_ n1_ n2_
                              have p211 : 0 ≤ (0 : Int) := (by omega)
                              have q211 : 0 < (x9_8.length : Int) := of_decide_eq_true (by first | (with_reducible assumption) | assumption)
                              obtain ⟨ad211, e211, hx211_0⟩ := Kd.at_string (Kd.R_reads' HO_9.out).2.2 0 p211 q211
                              cases e211
                              have qi211 : (0 < x9_8.length) = True := eq_true (by omega)
                              (try rw [show ((0 : Int)).toNat = 0 from rfl] at hx211_0)
                              (try rw [Addr.add_zero'] at hx211_0)
                              replace p211 := eq_true p211
                              replace q211 := eq_true q211
                              have q49 : (1 : Int) ≤ ((x9_8.length : Int) : Int) := of_decide_eq_true (by first | (with_reducible assumption) | assumption)
                              obtain ⟨i049, hi049, _, hsz49, _⟩ := info_parts info9
                              have hroom49 : x9_8.length ≤ co47 := (Kd.R_reads' HO_9.out).2.1
                              have hC49 : Kd.F Kd.string _ _ (some ad211) x9_8.length x9_8 := (Kd.V_at (base := w.heap.size) (Kd.R_V (Kd.R_apart' (HO_9.out) (Kd.N_typed HO_5.out) (by decide)))).2.2
                              have hcut49 := cut_from (P := Tryz.prog) 32 9 .i64 Tryz.underlying32 hi049 1 hsz49 (some ad211) x9_8.length co47 1 (by omega) q49
                              have hr49 := Kd.F_cut (m := (1 : Int).toNat) (c := co47) hC49 (by omega) hroom49
                              obtain ⟨A49, hA49⟩ : ∃ A1, A1 = (if co47 = (1 : Int).toNat then (some ad211) else ((some ad211) : Option Addr).map (·.add ((1 : Int).toNat * 1))) := ⟨_, rfl⟩
                              obtain ⟨c49, hc49⟩ : ∃ c1, c1 = co47 - (1 : Int).toNat := ⟨_, rfl⟩
                              have hy49 : y212.length = x9_8.length - (1 : Int).toNat := (by rw [Ny212.out, List.length_drop] <;> omega)
                              rw [show (x9_8).drop (1 : Int).toNat = y212 from Ny212.out.symm] at hr49
                              replace hr49 : Kd.F Kd.string _ _ A49 y212.length y212 := (by rw [hA49]; exact hr49)
                              rw [← hy49, ← hA49, ← hc49] at hcut49
                              have HO216 := Aside0.mk (show Kd.V Kd.string 9 _ w.heap.size _ (.slice A49 y212.length c49) y212 from Kd.V_mk (by rw [hy49, hc49]; exact Nat.sub_le_sub_right hroom49 _) hr49)
                              have HC216 := Aside0.mk (show y212.length ≤ c49 from by rw [hy49, hc49]; exact Nat.sub_le_sub_right hroom49 _)
                              clear hr49 hC49 hroom49 hi049 hsz49 hc49
                              have KY49 := Aside0.mk hy49
                              have KA49 := Aside0.mk hA49
                              clear hy49 hA49
                              replace q49 := eq_true q49
                              refine start_ (n := 8) (S := fun w' => w'.cell? ad211 = some (.string (rdOf ByteArray.empty x9_8 0))) (ds := []) #[false, false, false, false, false, false, false, false] (by kernel_rfl) rfl rfl (hx211_0) (fun hHeld => ?_); refine with_tabW halterref36_Parse.tab23 halterref36_Parse.bits23 (fun HT_ HW_ => ?_)
                              generalize wc.drew = w48 at HO_5 HO_9 HB HO216 hx211_0 hHeld ⊢
                              refine pure_ (i := 0) (N := some 88) (v := ?_) (a' := ?_) #[true, false, false, false, false, false, false, false] rfl rfl (any_of HT_.out (by kernel_rfl)) (fun _ _ _ h => h) (Or.inl ⟨by rfl, ?_⟩) ?_ ?_
                              rotate_left
                              · intro w'
                                go_simp
                                with_reducible rfl
                              rotate_left
                              · simp only [Act.put, List.setIfInBounds_toArray, List.set_cons_zero, List.set_cons_succ, i64_w, i32_w]
                                rfl
                              refine pure_ (i := 1) (N := some 89) (v := ?_) (a' := ?_) #[true, true, false, false, false, false, false, false] rfl rfl (any_of HT_.out (by kernel_rfl)) (fun _ _ _ h => h) (Or.inl ⟨by rfl, ?_⟩) ?_ ?_
                              rotate_left
                              · intro w'
                                go_simp
                                with_reducible rfl
                              rotate_left
                              · simp only [Act.put, List.setIfInBounds_toArray, List.set_cons_zero, List.set_cons_succ, i64_w, i32_w]
                                rfl
                              refine pure_ (i := 3) (N := some 91) (v := ?_) (a' := ?_) #[true, true, false, true, false, false, false, false] rfl rfl (any_of HT_.out (by kernel_rfl)) (fun _ _ _ h => h) (Or.inl ⟨by rfl, ?_⟩) ?_ ?_
                              rotate_left
                              · intro w'
                                go_simp
                                with_reducible rfl
                              rotate_left
                              · simp only [Act.put, List.setIfInBounds_toArray, List.set_cons_zero, List.set_cons_succ, i64_w, i32_w]
                                rfl
                              refine pure_ (i := 4) (N := some 92) (v := ?_) (a' := ?_) #[true, true, false, true, true, false, false, false] rfl rfl (any_of HT_.out (by kernel_rfl)) (fun _ _ _ h => h) (Or.inl ⟨by rfl, ?_⟩) ?_ ?_
                              rotate_left
                              · intro w'
                                go_simp
                                with_reducible rfl
                              rotate_left
                              · simp only [Act.put, List.setIfInBounds_toArray, List.set_cons_zero, List.set_cons_succ, i64_w, i32_w]
                                rfl
                              refine take_ (i := 2) (N := some 90) (v := ?_) (a' := ?_) #[true, true, true, true, true, false, false, false] rfl rfl (take_ofW HT_.out HW_.out (by kernel_rfl)) (fun _ _ _ h => h) (Or.inl ⟨by rfl, ?_⟩) hHeld ?_ ?_
                              rotate_left
                              · intro w' s0
                                go_simp
                                with_reducible rfl
                              rotate_left
                              · simp only [Act.put, List.setIfInBounds_toArray, List.set_cons_zero, List.set_cons_succ, i64_w, i32_w]
                                rfl
                              refine pure_ (i := 5) (N := some 93) (v := ?_) (a' := ?_) #[true, true, true, true, true, true, false, false] rfl rfl (any_of HT_.out (by kernel_rfl)) (fun _ _ _ h => h) (Or.inl ⟨by rfl, ?_⟩) ?_ ?_
                              rotate_left
                              · intro w'
                                go_simp
                                with_reducible rfl
                              rotate_left
                              · simp only [Act.put, List.setIfInBounds_toArray, List.set_cons_zero, List.set_cons_succ, i64_w, i32_w]
                                rfl
                              refine one_ (i := 6) (N := some 12) #[true, true, true, true, true, true, true, false] rfl rfl (one_of HT_.out (by kernel_rfl)) (by decide) (fun K hK => ?_)
                              refine box_step ?hg (N := 12) ?hd (cs := #[.string (⟨#[]⟩ : ByteArray), .slice none 0 0]) (t := 35) ?hr ?_; (case hd => rfl); (case hg => rfl); (case hr => first | (go_simp; done) | (go_simp; rfl))
                              intro gb217 hg w50 hbox hb
                              have HS0_ := (hb.cell (World.block_lt_of_cell? _ _ (hHeld))).trans (hHeld)
                              have n0_ := Aside0.mk (Kd.N_below (Kd.N_elderB (by (with_reducible repeat (first | apply Kd.N_alloc | apply Kd.N_drewN | apply Kd.N_drew)); exact HO_5.out) gb217 (Nat.le_of_eq hg.symm)) hb)
                              have n1_ := Aside0.mk (Kd.R_below (by (with_reducible repeat (first | apply Kd.R_alloc | apply Kd.R_drewN | apply Kd.R_drew)); exact HO_9.out) hb)
                              have n2_ := Aside0.mk (Kd.V_below (Kd.V_elderB (by (with_reducible repeat (first | apply Kd.V_alloc | apply Kd.V_drewN | apply Kd.V_drew)); exact HO216.out) gb217 (Nat.le_of_eq hg.symm)) hb)
                              have n3_ := Aside0.mk (below_step (by repeat (first | (with_reducible first | exact HB.out | apply below_alloc | apply pw_below_drewN | apply below_drew1) | exact HB.out)) hb)
                              have n4_ := Aside0.mk (hbox)
                              have n5_ := Aside0.mk ((by rw [hg]; exact (below_size (by repeat (first | (with_reducible first | exact HB.out | apply below_alloc | apply pw_below_drewN | apply below_drew1) | exact HB.out))) : w.heap.size ≤ gb217))
                              have n6_ := Aside0.mk ((by rw [hg]; exact (below_size (by repeat (first | (with_reducible first | exact HB.out | apply below_alloc | apply pw_below_drewN | apply below_drew1) | exact HB.out))) : w.heap.size ≤ gb217))
                              clear HO_5
                              clear HO_9
                              clear HO216
                              clear HB
                              have HO_5 := n0_
                              have HO_9 := n1_
                              have HO216 := n2_
                              have HB := n3_
                              have BK217 := n4_
                              have GW217 := n5_
                              have GE217 := n6_
                              clear n0_ n1_ n2_ n3_ n4_ n5_ n6_
                              clear hb hbox hg
                              refine hK.out _ _ (HS0_) (fun hHeld => ?_)
                              clear hK K
                              refine norm_ (a' := ?_) ?_ ?_
                              rotate_left
                              · show Act.put _ (some 12) _ = _
                                simp only [Act.put, List.setIfInBounds_toArray, List.set_cons_zero, List.set_cons_succ, i64_w, i32_w]
                                rfl
                              refine one_ (i := 7) (N := none) #[true, true, true, true, true, true, true, true] rfl rfl (one_of HT_.out (by kernel_rfl)) (by decide) (fun K hK => ?_)
                              have hs51 : w50.cell? ⟨gb217, 0, none⟩ = some (.string (⟨#[]⟩ : ByteArray)) := (blk_cell BK217.out 0).trans rfl
                              have hfs51 := blk_frozen BK217.out 0
                              have hs52 : w50.cell? ⟨gb217, 1, none⟩ = some (.slice none 0 0) := (blk_cell BK217.out 1).trans rfl
                              have hfs52 := blk_frozen BK217.out 1
                              refine skip_ (w1 := ?_) (by rfl) rfl ?_ ?_
                              rotate_left
                              · go_simp
                                rfl
                              refine hK.out _ _ (((cell_far (p := ⟨gb217, _, none⟩) (by first | exact Kd.own_blk (Kd.R_ne HO_9.out BK217.out (by decide)) | (rw [add_block]; exact Kd.own_blk (Kd.R_ne HO_9.out BK217.out (by decide))) | (show (Addr.add _ _).block ≠ _; rw [add_block]; exact Kd.own_blk (Kd.R_ne HO_9.out BK217.out (by decide))) | (dsimp only; exact Kd.own_blk (Kd.R_ne HO_9.out BK217.out (by decide)))) _).trans (((cell_far (p := ⟨gb217, _, none⟩) (by first | exact Kd.own_blk (Kd.R_ne HO_9.out BK217.out (by decide)) | (rw [add_block]; exact Kd.own_blk (Kd.R_ne HO_9.out BK217.out (by decide))) | (show (Addr.add _ _).block ≠ _; rw [add_block]; exact Kd.own_blk (Kd.R_ne HO_9.out BK217.out (by decide))) | (dsimp only; exact Kd.own_blk (Kd.R_ne HO_9.out BK217.out (by decide)))) _).trans (hHeld))))) (fun hHeld => ?_)
                              clear hK K
                              refine done_ (done_of HT_.out (by kernel_rfl)) ?_
                              have hcz53_0 : w50.cell? ⟨gb217, 0, none⟩ = some (.string (⟨#[]⟩ : ByteArray)) := (blk_cell BK217.out 0).trans rfl
                              have hcz53_1 : w50.cell? ⟨gb217, 1, none⟩ = some (.slice none 0 0) := (blk_cell BK217.out 1).trans rfl
                              have hfz53_0 := blk_frozen BK217.out 0
                              have hfz53_1 := blk_frozen BK217.out 1
                              try go_wp2_with (first | ((with_reducible refine gate_callee (f := 46) rfl ?_); refine goesL_ (some 95) rfl rfl Tryz.func46 (by kernel_rfl) rfl #[.agg #[.string (rdOf ByteArray.empty x9_8 0), .slice A49 y212.length c49]] rfl (by (try simp only [List.map_toArray, List.map_cons, List.map_nil]); first | done | rfl | (simp only [List.length_drop, List.length_take]; rfl)) ?_; (with_reducible refine (halterref36_May.calls kj8 (rdOf ByteArray.empty x9_8 0) _ _ y212 true _ ?side1 ?side2 A44.out).mono ?_); (case side1 => refine (Kd.V_reads' (e := 9) (base := w.heap.size) (ok := fun k_ => (((w.heap.size ≤ k_) ∧ some k_ ≠ (u5 : Value).ownBlock) ∧ k_ ≠ gb217)) (n := y212.length) (c := c49) ?_).2.2; exact (by (with_reducible repeat (first | apply Kd.V_alloc | apply Kd.V_drewN | apply Kd.V_drew)); exact (Kd.V_mono (Kd.V_far (p := ⟨gb217, 1, none⟩) (Kd.V_far (p := ⟨gb217, 0, none⟩) (Kd.V_mono HO216.out (fun k_ hk => (⟨hk, hk.2⟩ : _ ∧ k_ ≠ gb217))) (fun _ hk => hk.2) (.string (rdOf ByteArray.empty x9_8 0))) (fun _ hk => hk.2) (.slice A49 y212.length c49)) (fun _ h_ => h_.1)))); (case side2 => exact (Kd.V_reads' HO216.out).2.1); rintro e w54 ⟨rfl, hb⟩; refine ⟨_, rfl, ?_⟩; have n0_ := Aside0.mk (Kd.N_below (by (with_reducible repeat (first | apply Kd.N_alloc | apply Kd.N_drewN | apply Kd.N_drew)); exact (Kd.N_mono (Kd.N_far (p := ⟨gb217, 1, none⟩) (Kd.N_far (p := ⟨gb217, 0, none⟩) (Kd.N_mono HO_5.out (fun k_ hk => (⟨hk, hk.2⟩ : _ ∧ k_ ≠ gb217))) (fun _ hk => hk.2) (.string (rdOf ByteArray.empty x9_8 0))) (fun _ hk => hk.2) (.slice A49 y212.length c49)) (fun _ h_ => h_.1))) hb); have n1_ := Aside0.mk (Kd.R_below (by (with_reducible repeat (first | apply Kd.R_alloc | apply Kd.R_drewN | apply Kd.R_drew)); exact (Kd.R_mono (Kd.R_far (p := ⟨gb217, 1, none⟩) (Kd.R_far (p := ⟨gb217, 0, none⟩) (Kd.R_types HO_9.out BK217.out (by decide)) (fun _ hk => hk.2) (.string (rdOf ByteArray.empty x9_8 0))) (fun _ hk => hk.2) (.slice A49 y212.length c49)) (fun _ h_ => h_.1))) hb); have n2_ := Aside0.mk (Kd.V_below (by (with_reducible repeat (first | apply Kd.V_alloc | apply Kd.V_drewN | apply Kd.V_drew)); exact (Kd.V_mono (Kd.V_far (p := ⟨gb217, 1, none⟩) (Kd.V_far (p := ⟨gb217, 0, none⟩) (Kd.V_mono HO216.out (fun k_ hk => (⟨hk, hk.2⟩ : _ ∧ k_ ≠ gb217))) (fun _ hk => hk.2) (.string (rdOf ByteArray.empty x9_8 0))) (fun _ hk => hk.2) (.slice A49 y212.length c49)) (fun _ h_ => h_.1))) hb); have n3_ := Aside0.mk (blk_below (g := gb217) (o := .cells #[.string (rdOf ByteArray.empty x9_8 0), .slice A49 y212.length c49] 35 (0, 0)) (by (with_reducible repeat (first | refine blk_drewN ?_ _ | refine blk_drew ?_ | refine blk_alloc ?_ _)); refine blk_put (cs := #[.string (rdOf ByteArray.empty x9_8 0), .slice none 0 0]) ?_ 1 _ rfl; (with_reducible repeat (first | refine blk_drewN ?_ _ | refine blk_drew ?_ | refine blk_alloc ?_ _)); refine blk_put (cs := #[.string (⟨#[]⟩ : ByteArray), .slice none 0 0]) ?_ 0 _ rfl; (with_reducible repeat (first | refine blk_drewN ?_ _ | refine blk_drew ?_ | refine blk_alloc ?_ _)); exact BK217.out) hb); have n4_ := Aside0.mk (below_step (by repeat (first | (with_reducible first | exact HB.out | apply below_alloc | apply pw_below_drewN | apply below_drew1 | refine below_set ?_ GE217.out) | exact HB.out)) hb); clear HO_5; clear HO_9; clear HO216; clear BK217; clear HB; have HO_5 := n0_; have HO_9 := n1_; have HO216 := n2_; have BK217 := n3_; have HB := n4_; clear n0_ n1_ n2_ n3_ n4_; (try clear hb); (try clear hb2); (try clear hk); (try clear hi); obtain ⟨Ao55, co55, eo55⟩ := Kd.N_slice HO_5.out; subst eo55))
                              go_ret3
                              exact ⟨_, by first | rfl | (simp [errW_none, errW_some] <;> rfl) | (simp [*, errW_none, errW_some] <;> rfl), by first | exact Kd.S_nil _ _ _ _ _ | exact Kd.N_nil _ _ _ _ _ | exact Kd.V_nil _ _ _ _ _ | exact Kd.Q_nil _ _ _ _ _ | exact Kd.R_nil _ _ _ _ _, by repeat (first | (with_reducible first | exact HB.out | apply below_alloc | apply pw_below_drewN | apply below_drew1 | refine below_set ?_ GE217.out) | exact HB.out)⟩
                            · rw [if_neg c46] at H
                              have c46b0 : ((x5_1.length : Int) == 4000) = false := beq_eq_false_iff_ne.mpr c46
                              have c46b1 : ((x5_1.length : Int) != 4000) = true := bne_iff_ne.mpr c46
                              by_cases c56 : x5_1.length < 3518437208883
                              · rw [if_pos c56] at H
                                have LMc56 := Aside0.mk c56
                                clear c56
                                obtain ⟨y219, hy219⟩ : ∃ y_ : List (S35), y_ = (x5_1 ++ [(⟨rdOf ByteArray.empty x9_8 0, y212⟩ : S35)]) := ⟨_, rfl⟩
                                replace H : (halterref36_Parse.l0 kj8 a0 y219 (wrap64 (x6_1 + 1)) (wrap64 (x8_1 + 1)) (wrap64 (x8_1 + 1))) = some (r1, r2, r3) := by first | (rw [hy219]; with_reducible exact H) | (have H2_ := (Option.bind_some _ _).symm.trans H; rw [hy219]; with_reducible exact H2_) | (have H2_ := (Option.bind_some _ _).symm.trans H; with_reducible exact H2_) | with_reducible exact H | (rw [hy219]; exact H) | exact H
                                have Ny219 := Aside0.mk hy219
                                clear hy219
                                have H' := Aside0.mk H
                                clear H
                                obtain ⟨Ao57, co57, eo57⟩ := Kd.R_slice HO_9.out
                                subst eo57
                                try go_wp2
                                have n0_ := Aside0.mk (Kd.N_drew HO_5.out)
                                have n1_ := Aside0.mk (Kd.R_drew HO_9.out)
                                have n2_ := Aside0.mk (below_drew1 HB.out)
                                clear HO_5
                                clear HO_9
                                clear HB
                                have HO_5 := n0_
                                have HO_9 := n1_
                                have HB := n2_
                                clear n0_ n1_ n2_
                                have p211 : 0 ≤ (0 : Int) := (by omega)
                                have q211 : 0 < (x9_8.length : Int) := of_decide_eq_true (by first | (with_reducible assumption) | assumption)
                                obtain ⟨ad211, e211, hx211_0⟩ := Kd.at_string (Kd.R_reads' HO_9.out).2.2 0 p211 q211
                                cases e211
                                have qi211 : (0 < x9_8.length) = True := eq_true (by omega)
                                (try rw [show ((0 : Int)).toNat = 0 from rfl] at hx211_0)
                                (try rw [Addr.add_zero'] at hx211_0)
                                replace p211 := eq_true p211
                                replace q211 := eq_true q211
                                have q59 : (1 : Int) ≤ ((x9_8.length : Int) : Int) := of_decide_eq_true (by first | (with_reducible assumption) | assumption)
                                obtain ⟨i059, hi059, _, hsz59, _⟩ := info_parts info9
                                have hroom59 : x9_8.length ≤ co57 := (Kd.R_reads' HO_9.out).2.1
                                have hC59 : Kd.F Kd.string _ _ (some ad211) x9_8.length x9_8 := (Kd.V_at (base := w.heap.size) (Kd.R_V (Kd.R_apart' (HO_9.out) (Kd.N_typed HO_5.out) (by decide)))).2.2
                                have hcut59 := cut_from (P := Tryz.prog) 32 9 .i64 Tryz.underlying32 hi059 1 hsz59 (some ad211) x9_8.length co57 1 (by omega) q59
                                have hr59 := Kd.F_cut (m := (1 : Int).toNat) (c := co57) hC59 (by omega) hroom59
                                obtain ⟨A59, hA59⟩ : ∃ A1, A1 = (if co57 = (1 : Int).toNat then (some ad211) else ((some ad211) : Option Addr).map (·.add ((1 : Int).toNat * 1))) := ⟨_, rfl⟩
                                obtain ⟨c59, hc59⟩ : ∃ c1, c1 = co57 - (1 : Int).toNat := ⟨_, rfl⟩
                                have hy59 : y212.length = x9_8.length - (1 : Int).toNat := (by rw [Ny212.out, List.length_drop] <;> omega)
                                rw [show (x9_8).drop (1 : Int).toNat = y212 from Ny212.out.symm] at hr59
                                replace hr59 : Kd.F Kd.string _ _ A59 y212.length y212 := (by rw [hA59]; exact hr59)
                                rw [← hy59, ← hA59, ← hc59] at hcut59
                                have HO216 := Aside0.mk (show Kd.V Kd.string 9 _ w.heap.size _ (.slice A59 y212.length c59) y212 from Kd.V_mk (by rw [hy59, hc59]; exact Nat.sub_le_sub_right hroom59 _) hr59)
                                have HC216 := Aside0.mk (show y212.length ≤ c59 from by rw [hy59, hc59]; exact Nat.sub_le_sub_right hroom59 _)
                                clear hr59 hC59 hroom59 hi059 hsz59 hc59
                                have KY59 := Aside0.mk hy59
                                have KA59 := Aside0.mk hA59
                                clear hy59 hA59
                                replace q59 := eq_true q59
                                refine start_ (n := 8) (S := fun w' => w'.cell? ad211 = some (.string (rdOf ByteArray.empty x9_8 0))) (ds := []) #[false, false, false, false, false, false, false, false] (by kernel_rfl) rfl rfl (hx211_0) (fun hHeld => ?_); refine with_tabW halterref36_Parse.tab23 halterref36_Parse.bits23 (fun HT_ HW_ => ?_)
                                generalize wc.drew = w58 at HO_5 HO_9 HB HO216 hx211_0 hHeld ⊢
                                refine pure_ (i := 0) (N := some 88) (v := ?_) (a' := ?_) #[true, false, false, false, false, false, false, false] rfl rfl (any_of HT_.out (by kernel_rfl)) (fun _ _ _ h => h) (Or.inl ⟨by rfl, ?_⟩) ?_ ?_
                                rotate_left
                                · intro w'
                                  go_simp
                                  with_reducible rfl
                                rotate_left
                                · simp only [Act.put, List.setIfInBounds_toArray, List.set_cons_zero, List.set_cons_succ, i64_w, i32_w]
                                  rfl
                                refine pure_ (i := 1) (N := some 89) (v := ?_) (a' := ?_) #[true, true, false, false, false, false, false, false] rfl rfl (any_of HT_.out (by kernel_rfl)) (fun _ _ _ h => h) (Or.inl ⟨by rfl, ?_⟩) ?_ ?_
                                rotate_left
                                · intro w'
                                  go_simp
                                  with_reducible rfl
                                rotate_left
                                · simp only [Act.put, List.setIfInBounds_toArray, List.set_cons_zero, List.set_cons_succ, i64_w, i32_w]
                                  rfl
                                refine pure_ (i := 3) (N := some 91) (v := ?_) (a' := ?_) #[true, true, false, true, false, false, false, false] rfl rfl (any_of HT_.out (by kernel_rfl)) (fun _ _ _ h => h) (Or.inl ⟨by rfl, ?_⟩) ?_ ?_
                                rotate_left
                                · intro w'
                                  go_simp
                                  with_reducible rfl
                                rotate_left
                                · simp only [Act.put, List.setIfInBounds_toArray, List.set_cons_zero, List.set_cons_succ, i64_w, i32_w]
                                  rfl
                                refine pure_ (i := 4) (N := some 92) (v := ?_) (a' := ?_) #[true, true, false, true, true, false, false, false] rfl rfl (any_of HT_.out (by kernel_rfl)) (fun _ _ _ h => h) (Or.inl ⟨by rfl, ?_⟩) ?_ ?_
                                rotate_left
                                · intro w'
                                  go_simp
                                  with_reducible rfl
                                rotate_left
                                · simp only [Act.put, List.setIfInBounds_toArray, List.set_cons_zero, List.set_cons_succ, i64_w, i32_w]
                                  rfl
                                refine take_ (i := 2) (N := some 90) (v := ?_) (a' := ?_) #[true, true, true, true, true, false, false, false] rfl rfl (take_ofW HT_.out HW_.out (by kernel_rfl)) (fun _ _ _ h => h) (Or.inl ⟨by rfl, ?_⟩) hHeld ?_ ?_
                                rotate_left
                                · intro w' s0
                                  go_simp
                                  with_reducible rfl
                                rotate_left
                                · simp only [Act.put, List.setIfInBounds_toArray, List.set_cons_zero, List.set_cons_succ, i64_w, i32_w]
                                  rfl
                                refine pure_ (i := 5) (N := some 93) (v := ?_) (a' := ?_) #[true, true, true, true, true, true, false, false] rfl rfl (any_of HT_.out (by kernel_rfl)) (fun _ _ _ h => h) (Or.inl ⟨by rfl, ?_⟩) ?_ ?_
                                rotate_left
                                · intro w'
                                  go_simp
                                  with_reducible rfl
                                rotate_left
                                · simp only [Act.put, List.setIfInBounds_toArray, List.set_cons_zero, List.set_cons_succ, i64_w, i32_w]
                                  rfl
                                refine one_ (i := 6) (N := some 12) #[true, true, true, true, true, true, true, false] rfl rfl (one_of HT_.out (by kernel_rfl)) (by decide) (fun K hK => ?_)
                                refine box_step ?hg (N := 12) ?hd (cs := #[.string (⟨#[]⟩ : ByteArray), .slice none 0 0]) (t := 35) ?hr ?_; (case hd => rfl); (case hg => rfl); (case hr => first | (go_simp; done) | (go_simp; rfl))
                                intro gb217 hg w60 hbox hb
                                have HS0_ := (hb.cell (World.block_lt_of_cell? _ _ (hHeld))).trans (hHeld)
                                have n0_ := Aside0.mk (Kd.N_below (Kd.N_elderB (by (with_reducible repeat (first | apply Kd.N_alloc | apply Kd.N_drewN | apply Kd.N_drew)); exact HO_5.out) gb217 (Nat.le_of_eq hg.symm)) hb)
                                have n1_ := Aside0.mk (Kd.R_below (by (with_reducible repeat (first | apply Kd.R_alloc | apply Kd.R_drewN | apply Kd.R_drew)); exact HO_9.out) hb)
                                have n2_ := Aside0.mk (Kd.V_below (Kd.V_elderB (by (with_reducible repeat (first | apply Kd.V_alloc | apply Kd.V_drewN | apply Kd.V_drew)); exact HO216.out) gb217 (Nat.le_of_eq hg.symm)) hb)
                                have n3_ := Aside0.mk (below_step (by repeat (first | (with_reducible first | exact HB.out | apply below_alloc | apply pw_below_drewN | apply below_drew1) | exact HB.out)) hb)
                                have n4_ := Aside0.mk (hbox)
                                have n5_ := Aside0.mk ((by rw [hg]; exact (below_size (by repeat (first | (with_reducible first | exact HB.out | apply below_alloc | apply pw_below_drewN | apply below_drew1) | exact HB.out))) : w.heap.size ≤ gb217))
                                have n6_ := Aside0.mk ((by rw [hg]; exact (below_size (by repeat (first | (with_reducible first | exact HB.out | apply below_alloc | apply pw_below_drewN | apply below_drew1) | exact HB.out))) : w.heap.size ≤ gb217))
                                clear HO_5
                                clear HO_9
                                clear HO216
                                clear HB
                                have HO_5 := n0_
                                have HO_9 := n1_
                                have HO216 := n2_
                                have HB := n3_
                                have BK217 := n4_
                                have GW217 := n5_
                                have GE217 := n6_
                                clear n0_ n1_ n2_ n3_ n4_ n5_ n6_
                                clear hb hbox hg
                                refine hK.out _ _ (HS0_) (fun hHeld => ?_)
                                clear hK K
                                refine norm_ (a' := ?_) ?_ ?_
                                rotate_left
                                · show Act.put _ (some 12) _ = _
                                  simp only [Act.put, List.setIfInBounds_toArray, List.set_cons_zero, List.set_cons_succ, i64_w, i32_w]
                                  rfl
                                refine one_ (i := 7) (N := none) #[true, true, true, true, true, true, true, true] rfl rfl (one_of HT_.out (by kernel_rfl)) (by decide) (fun K hK => ?_)
                                have hs61 : w60.cell? ⟨gb217, 0, none⟩ = some (.string (⟨#[]⟩ : ByteArray)) := (blk_cell BK217.out 0).trans rfl
                                have hfs61 := blk_frozen BK217.out 0
                                have hs62 : w60.cell? ⟨gb217, 1, none⟩ = some (.slice none 0 0) := (blk_cell BK217.out 1).trans rfl
                                have hfs62 := blk_frozen BK217.out 1
                                refine skip_ (w1 := ?_) (by rfl) rfl ?_ ?_
                                rotate_left
                                · go_simp
                                  rfl
                                refine hK.out _ _ (((cell_far (p := ⟨gb217, _, none⟩) (by first | exact Kd.own_blk (Kd.R_ne HO_9.out BK217.out (by decide)) | (rw [add_block]; exact Kd.own_blk (Kd.R_ne HO_9.out BK217.out (by decide))) | (show (Addr.add _ _).block ≠ _; rw [add_block]; exact Kd.own_blk (Kd.R_ne HO_9.out BK217.out (by decide))) | (dsimp only; exact Kd.own_blk (Kd.R_ne HO_9.out BK217.out (by decide)))) _).trans (((cell_far (p := ⟨gb217, _, none⟩) (by first | exact Kd.own_blk (Kd.R_ne HO_9.out BK217.out (by decide)) | (rw [add_block]; exact Kd.own_blk (Kd.R_ne HO_9.out BK217.out (by decide))) | (show (Addr.add _ _).block ≠ _; rw [add_block]; exact Kd.own_blk (Kd.R_ne HO_9.out BK217.out (by decide))) | (dsimp only; exact Kd.own_blk (Kd.R_ne HO_9.out BK217.out (by decide)))) _).trans (hHeld))))) (fun hHeld => ?_)
                                clear hK K
                                refine done_ (done_of HT_.out (by kernel_rfl)) ?_
                                have hcz63_0 : w60.cell? ⟨gb217, 0, none⟩ = some (.string (⟨#[]⟩ : ByteArray)) := (blk_cell BK217.out 0).trans rfl
                                have hcz63_1 : w60.cell? ⟨gb217, 1, none⟩ = some (.slice none 0 0) := (blk_cell BK217.out 1).trans rfl
                                have hfz63_0 := blk_frozen BK217.out 0
                                have hfz63_1 := blk_frozen BK217.out 1
                                try go_wp2_with (first | ((with_reducible refine gate_callee (f := 46) rfl ?_); refine goesL_ (some 95) rfl rfl Tryz.func46 (by kernel_rfl) rfl #[.agg #[.string (rdOf ByteArray.empty x9_8 0), .slice A59 y212.length c59]] rfl (by (try simp only [List.map_toArray, List.map_cons, List.map_nil]); first | done | rfl | (simp only [List.length_drop, List.length_take]; rfl)) ?_; (with_reducible refine (halterref36_May.calls kj8 (rdOf ByteArray.empty x9_8 0) _ _ y212 true _ ?side1 ?side2 A44.out).mono ?_); (case side1 => refine (Kd.V_reads' (e := 9) (base := w.heap.size) (ok := fun k_ => (((w.heap.size ≤ k_) ∧ some k_ ≠ (u5 : Value).ownBlock) ∧ k_ ≠ gb217)) (n := y212.length) (c := c59) ?_).2.2; exact (by (with_reducible repeat (first | apply Kd.V_alloc | apply Kd.V_drewN | apply Kd.V_drew)); exact (Kd.V_mono (Kd.V_far (p := ⟨gb217, 1, none⟩) (Kd.V_far (p := ⟨gb217, 0, none⟩) (Kd.V_mono HO216.out (fun k_ hk => (⟨hk, hk.2⟩ : _ ∧ k_ ≠ gb217))) (fun _ hk => hk.2) (.string (rdOf ByteArray.empty x9_8 0))) (fun _ hk => hk.2) (.slice A59 y212.length c59)) (fun _ h_ => h_.1)))); (case side2 => exact (Kd.V_reads' HO216.out).2.1); rintro e w64 ⟨rfl, hb⟩; refine ⟨_, rfl, ?_⟩; have n0_ := Aside0.mk (Kd.N_below (by (with_reducible repeat (first | apply Kd.N_alloc | apply Kd.N_drewN | apply Kd.N_drew)); exact (Kd.N_mono (Kd.N_far (p := ⟨gb217, 1, none⟩) (Kd.N_far (p := ⟨gb217, 0, none⟩) (Kd.N_mono HO_5.out (fun k_ hk => (⟨hk, hk.2⟩ : _ ∧ k_ ≠ gb217))) (fun _ hk => hk.2) (.string (rdOf ByteArray.empty x9_8 0))) (fun _ hk => hk.2) (.slice A59 y212.length c59)) (fun _ h_ => h_.1))) hb); have n1_ := Aside0.mk (Kd.R_below (by (with_reducible repeat (first | apply Kd.R_alloc | apply Kd.R_drewN | apply Kd.R_drew)); exact (Kd.R_mono (Kd.R_far (p := ⟨gb217, 1, none⟩) (Kd.R_far (p := ⟨gb217, 0, none⟩) (Kd.R_types HO_9.out BK217.out (by decide)) (fun _ hk => hk.2) (.string (rdOf ByteArray.empty x9_8 0))) (fun _ hk => hk.2) (.slice A59 y212.length c59)) (fun _ h_ => h_.1))) hb); have n2_ := Aside0.mk (Kd.V_below (by (with_reducible repeat (first | apply Kd.V_alloc | apply Kd.V_drewN | apply Kd.V_drew)); exact (Kd.V_mono (Kd.V_far (p := ⟨gb217, 1, none⟩) (Kd.V_far (p := ⟨gb217, 0, none⟩) (Kd.V_mono HO216.out (fun k_ hk => (⟨hk, hk.2⟩ : _ ∧ k_ ≠ gb217))) (fun _ hk => hk.2) (.string (rdOf ByteArray.empty x9_8 0))) (fun _ hk => hk.2) (.slice A59 y212.length c59)) (fun _ h_ => h_.1))) hb); have n3_ := Aside0.mk (blk_below (g := gb217) (o := .cells #[.string (rdOf ByteArray.empty x9_8 0), .slice A59 y212.length c59] 35 (0, 0)) (by (with_reducible repeat (first | refine blk_drewN ?_ _ | refine blk_drew ?_ | refine blk_alloc ?_ _)); refine blk_put (cs := #[.string (rdOf ByteArray.empty x9_8 0), .slice none 0 0]) ?_ 1 _ rfl; (with_reducible repeat (first | refine blk_drewN ?_ _ | refine blk_drew ?_ | refine blk_alloc ?_ _)); refine blk_put (cs := #[.string (⟨#[]⟩ : ByteArray), .slice none 0 0]) ?_ 0 _ rfl; (with_reducible repeat (first | refine blk_drewN ?_ _ | refine blk_drew ?_ | refine blk_alloc ?_ _)); exact BK217.out) hb); have n4_ := Aside0.mk (below_step (by repeat (first | (with_reducible first | exact HB.out | apply below_alloc | apply pw_below_drewN | apply below_drew1 | refine below_set ?_ GE217.out) | exact HB.out)) hb); clear HO_5; clear HO_9; clear HO216; clear BK217; clear HB; have HO_5 := n0_; have HO_9 := n1_; have HO216 := n2_; have BK217 := n3_; have HB := n4_; clear n0_ n1_ n2_ n3_ n4_; (try clear hb); (try clear hb2); (try clear hk); (try clear hi); obtain ⟨Ao65, co65, eo65⟩ := Kd.N_slice HO_5.out; subst eo65; have hcz66_0 : w64.cell? ⟨gb217, 0, none⟩ = some (.string (rdOf ByteArray.empty x9_8 0)) := (blk_cell BK217.out 0).trans rfl; have hcz66_1 : w64.cell? ⟨gb217, 1, none⟩ = some (.slice A59 y212.length c59) := (blk_cell BK217.out 1).trans rfl; have hfz66_0 := blk_frozen BK217.out 0; have hfz66_1 := blk_frozen BK217.out 1) | ((with_reducible refine gate_builtin (b := .append) (xs := #[.tmp 102, .tmp 104]) rfl ?_); at_builtin; refine Kd.N_append k35 (w0 := w) w.heap.size rfl (.tmp 102) (.tmp 104) 28 35 (.agg #[(.string ⟨#[]⟩), (.slice none 0 0)]) 40 rfl Tryz.underlying28 info35 rfl (by decide) (by omega) (.slice Ao65 x5_1.length co65) x5_1 (⟨rdOf ByteArray.empty x9_8 0, y212⟩ : S35) [.string (rdOf ByteArray.empty x9_8 0), .slice A59 y212.length c59] (fun k_ => (w.heap.size ≤ k_) ∧ k_ ≠ gb217) (fun k_ => ((fun k_ => (w.heap.size ≤ k_) ∧ k_ ≠ gb217)) k_ ∧ some k_ ≠ (.slice Ao65 x5_1.length co65 : Value).ownBlock) rfl rfl ?aP (fun _ hk => hk) ?aF ?aO ?aB ?aS ?aL ?_; (case aP => exact (k35_mkF _ _ (⟨rdOf ByteArray.empty x9_8 0, y212⟩ : S35) (Kd.V_reads' (Kd.V_mono (ok' := (fun k_ => ((fun k_ => (w.heap.size ≤ k_) ∧ k_ ≠ gb217)) k_ ∧ some k_ ≠ (.slice Ao65 x5_1.length co65 : Value).ownBlock)) (HO216.out) (fun k_ hk => ⟨⟨hk.1.1, hk.2⟩, hk.1.2⟩))).2.1 (Kd.V_F (Kd.V_mono (ok' := (fun k_ => ((fun k_ => (w.heap.size ≤ k_) ∧ k_ ≠ gb217)) k_ ∧ some k_ ≠ (.slice Ao65 x5_1.length co65 : Value).ownBlock)) (HO216.out) (fun k_ hk => ⟨⟨hk.1.1, hk.2⟩, hk.1.2⟩))))); (case aB => exact (by repeat (first | (with_reducible first | exact HB.out | apply below_alloc | apply pw_below_drewN | apply below_drew1 | refine below_set ?_ GE217.out) | exact HB.out))); (case aF => exact (fun k_ hk => ⟨(Nat.le_trans (below_size (by repeat (first | (with_reducible first | exact HB.out | apply below_alloc | apply pw_below_drewN | apply below_drew1 | refine below_set ?_ GE217.out) | exact HB.out))) hk), Kd.freshB (g := gb217) (o := .cells #[.string (rdOf ByteArray.empty x9_8 0), .slice A59 y212.length c59] 35 (0, 0)) (by (with_reducible repeat (first | refine blk_drewN ?_ _ | refine blk_drew ?_ | refine blk_alloc ?_ _)); exact BK217.out) k_ hk⟩)); (case aO => exact (by (with_reducible repeat (first | apply Kd.N_alloc | apply Kd.N_drewN | apply Kd.N_drew)); exact Kd.N_mono HO_5.out (fun _ hk => ⟨hk.1.1, hk.2⟩))); (case aS => exact (below_size (by repeat (first | (with_reducible first | exact HB.out | apply below_alloc | apply pw_below_drewN | apply below_drew1 | refine below_set ?_ GE217.out) | exact HB.out)))); (case aL => have := LMc56.out; omega); intro v220 w67 ho hb hg hat; rw [← Ny219.out] at ho; have n0_ := Aside0.mk (Kd.R_over' (by (with_reducible repeat (first | apply Kd.R_alloc | apply Kd.R_drewN | apply Kd.R_drew)); exact HO_9.out) (Kd.N_typed (by (with_reducible repeat (first | apply Kd.N_alloc | apply Kd.N_drewN | apply Kd.N_drew)); exact HO_5.out)) (by decide) hg); have n1_ := Aside0.mk (Kd.V_afterv (ok := (fun k_ => (w.heap.size ≤ k_) ∧ k_ ≠ gb217)) (by (with_reducible repeat (first | apply Kd.V_alloc | apply Kd.V_drewN | apply Kd.V_drew)); exact Kd.V_mono HO216.out (fun _ hk => ⟨⟨hk.1.1, hk.2⟩, hk.1.2⟩)) hg hat); have n2_ := Aside0.mk (blk_grown (g := gb217) (o := .cells #[.string (rdOf ByteArray.empty x9_8 0), .slice A59 y212.length c59] 35 (0, 0)) (by (with_reducible repeat (first | refine blk_drewN ?_ _ | refine blk_drew ?_ | refine blk_alloc ?_ _)); exact BK217.out) hg (Kd.N_away HO_5.out (fun _ hk => hk.2))); have n3_ := Aside0.mk (hb); have n4_ := Aside0.mk (ho); clear HO_9; clear HO216; clear BK217; clear HB; clear HO_5; have HO_9 := n0_; have HO216 := n1_; have BK217 := n2_; have HB := n3_; have HO221 := n4_; clear n0_ n1_ n2_ n3_ n4_; clear ho hb hg hat))
                                go_roundg kj8
                                case measure => have := HK1.out; have := HJ3.out; have := HJ8.out; omega
                                case rel => exact ⟨(y219), ((wrap64 (x6_1 + 1))), (wrap64 (x8_1 + 1)), (wrap64 (x8_1 + 1)), (by first | rfl | (simp; done) | (simp [*]; done)), (by first | rfl | (simp; done) | (simp [*]; done)), (by first | rfl | (simp; done) | (simp [*]; done)), H', ⟨by have := HK1.out; have := HJ3.out; have := HJ8.out; omega⟩, ⟨by (with_reducible repeat (first | apply Kd.N_alloc | apply Kd.N_drewN | apply Kd.N_drew)); exact Kd.N_mono HO221.out (fun _ hk => hk.1)⟩, ⟨by repeat (first | (with_reducible first | exact HB.out | apply below_alloc | apply pw_below_drewN | apply below_drew1 | refine below_set ?_ GE217.out) | exact HB.out)⟩⟩
                              · rw [if_neg c56] at H
                                exact absurd H (by simp)
                          · replace c45 := Bool.eq_false_iff.mpr c45
                            subst c45
                            have H1 : (some (([] : List (S35)), (wrap64 (x6_1 + 1)), 337)) = some (r1, r2, r3) := by rw [if_neg (show ¬ (false = true) by decide)] at H; exact H
                            clear H
                            have H := H1
                            clear H1
                            simp only [Option.some.injEq, Prod.mk.injEq] at H
                            obtain ⟨rfl, rfl, rfl⟩ := H
                            obtain ⟨Ao68, co68, eo68⟩ := Kd.R_slice HO_9.out
                            subst eo68
                            try go_wp2
                            have n0_ := Aside0.mk (Kd.N_drew HO_5.out)
                            have n1_ := Aside0.mk (Kd.R_drew HO_9.out)
                            have n2_ := Aside0.mk (below_drew1 HB.out)
                            clear HO_5
                            clear HO_9
                            clear HB
                            have HO_5 := n0_
                            have HO_9 := n1_
                            have HB := n2_
                            clear n0_ n1_ n2_
                            have p211 : 0 ≤ (0 : Int) := (by omega)
                            have q211 : 0 < (x9_8.length : Int) := of_decide_eq_true (by first | (with_reducible assumption) | assumption)
                            obtain ⟨ad211, e211, hx211_0⟩ := Kd.at_string (Kd.R_reads' HO_9.out).2.2 0 p211 q211
                            cases e211
                            have qi211 : (0 < x9_8.length) = True := eq_true (by omega)
                            (try rw [show ((0 : Int)).toNat = 0 from rfl] at hx211_0)
                            (try rw [Addr.add_zero'] at hx211_0)
                            replace p211 := eq_true p211
                            replace q211 := eq_true q211
                            have q70 : (1 : Int) ≤ ((x9_8.length : Int) : Int) := of_decide_eq_true (by first | (with_reducible assumption) | assumption)
                            obtain ⟨i070, hi070, _, hsz70, _⟩ := info_parts info9
                            have hroom70 : x9_8.length ≤ co68 := (Kd.R_reads' HO_9.out).2.1
                            have hC70 : Kd.F Kd.string _ _ (some ad211) x9_8.length x9_8 := (Kd.V_at (base := w.heap.size) (Kd.R_V (Kd.R_apart' (HO_9.out) (Kd.N_typed HO_5.out) (by decide)))).2.2
                            have hcut70 := cut_from (P := Tryz.prog) 32 9 .i64 Tryz.underlying32 hi070 1 hsz70 (some ad211) x9_8.length co68 1 (by omega) q70
                            have hr70 := Kd.F_cut (m := (1 : Int).toNat) (c := co68) hC70 (by omega) hroom70
                            obtain ⟨A70, hA70⟩ : ∃ A1, A1 = (if co68 = (1 : Int).toNat then (some ad211) else ((some ad211) : Option Addr).map (·.add ((1 : Int).toNat * 1))) := ⟨_, rfl⟩
                            obtain ⟨c70, hc70⟩ : ∃ c1, c1 = co68 - (1 : Int).toNat := ⟨_, rfl⟩
                            have hy70 : y212.length = x9_8.length - (1 : Int).toNat := (by rw [Ny212.out, List.length_drop] <;> omega)
                            rw [show (x9_8).drop (1 : Int).toNat = y212 from Ny212.out.symm] at hr70
                            replace hr70 : Kd.F Kd.string _ _ A70 y212.length y212 := (by rw [hA70]; exact hr70)
                            rw [← hy70, ← hA70, ← hc70] at hcut70
                            have HO216 := Aside0.mk (show Kd.V Kd.string 9 _ w.heap.size _ (.slice A70 y212.length c70) y212 from Kd.V_mk (by rw [hy70, hc70]; exact Nat.sub_le_sub_right hroom70 _) hr70)
                            have HC216 := Aside0.mk (show y212.length ≤ c70 from by rw [hy70, hc70]; exact Nat.sub_le_sub_right hroom70 _)
                            clear hr70 hC70 hroom70 hi070 hsz70 hc70
                            have KY70 := Aside0.mk hy70
                            have KA70 := Aside0.mk hA70
                            clear hy70 hA70
                            replace q70 := eq_true q70
                            refine start_ (n := 8) (S := fun w' => w'.cell? ad211 = some (.string (rdOf ByteArray.empty x9_8 0))) (ds := []) #[false, false, false, false, false, false, false, false] (by kernel_rfl) rfl rfl (hx211_0) (fun hHeld => ?_); refine with_tabW halterref36_Parse.tab23 halterref36_Parse.bits23 (fun HT_ HW_ => ?_)
                            generalize wc.drew = w69 at HO_5 HO_9 HB HO216 hx211_0 hHeld ⊢
                            refine pure_ (i := 0) (N := some 88) (v := ?_) (a' := ?_) #[true, false, false, false, false, false, false, false] rfl rfl (any_of HT_.out (by kernel_rfl)) (fun _ _ _ h => h) (Or.inl ⟨by rfl, ?_⟩) ?_ ?_
                            rotate_left
                            · intro w'
                              go_simp
                              with_reducible rfl
                            rotate_left
                            · simp only [Act.put, List.setIfInBounds_toArray, List.set_cons_zero, List.set_cons_succ, i64_w, i32_w]
                              rfl
                            refine pure_ (i := 1) (N := some 89) (v := ?_) (a' := ?_) #[true, true, false, false, false, false, false, false] rfl rfl (any_of HT_.out (by kernel_rfl)) (fun _ _ _ h => h) (Or.inl ⟨by rfl, ?_⟩) ?_ ?_
                            rotate_left
                            · intro w'
                              go_simp
                              with_reducible rfl
                            rotate_left
                            · simp only [Act.put, List.setIfInBounds_toArray, List.set_cons_zero, List.set_cons_succ, i64_w, i32_w]
                              rfl
                            refine pure_ (i := 3) (N := some 91) (v := ?_) (a' := ?_) #[true, true, false, true, false, false, false, false] rfl rfl (any_of HT_.out (by kernel_rfl)) (fun _ _ _ h => h) (Or.inl ⟨by rfl, ?_⟩) ?_ ?_
                            rotate_left
                            · intro w'
                              go_simp
                              with_reducible rfl
                            rotate_left
                            · simp only [Act.put, List.setIfInBounds_toArray, List.set_cons_zero, List.set_cons_succ, i64_w, i32_w]
                              rfl
                            refine pure_ (i := 4) (N := some 92) (v := ?_) (a' := ?_) #[true, true, false, true, true, false, false, false] rfl rfl (any_of HT_.out (by kernel_rfl)) (fun _ _ _ h => h) (Or.inl ⟨by rfl, ?_⟩) ?_ ?_
                            rotate_left
                            · intro w'
                              go_simp
                              with_reducible rfl
                            rotate_left
                            · simp only [Act.put, List.setIfInBounds_toArray, List.set_cons_zero, List.set_cons_succ, i64_w, i32_w]
                              rfl
                            refine take_ (i := 2) (N := some 90) (v := ?_) (a' := ?_) #[true, true, true, true, true, false, false, false] rfl rfl (take_ofW HT_.out HW_.out (by kernel_rfl)) (fun _ _ _ h => h) (Or.inl ⟨by rfl, ?_⟩) hHeld ?_ ?_
                            rotate_left
                            · intro w' s0
                              go_simp
                              with_reducible rfl
                            rotate_left
                            · simp only [Act.put, List.setIfInBounds_toArray, List.set_cons_zero, List.set_cons_succ, i64_w, i32_w]
                              rfl
                            refine pure_ (i := 5) (N := some 93) (v := ?_) (a' := ?_) #[true, true, true, true, true, true, false, false] rfl rfl (any_of HT_.out (by kernel_rfl)) (fun _ _ _ h => h) (Or.inl ⟨by rfl, ?_⟩) ?_ ?_
                            rotate_left
                            · intro w'
                              go_simp
                              with_reducible rfl
                            rotate_left
                            · simp only [Act.put, List.setIfInBounds_toArray, List.set_cons_zero, List.set_cons_succ, i64_w, i32_w]
                              rfl
                            refine one_ (i := 6) (N := some 12) #[true, true, true, true, true, true, true, false] rfl rfl (one_of HT_.out (by kernel_rfl)) (by decide) (fun K hK => ?_)
                            refine box_step ?hg (N := 12) ?hd (cs := #[.string (⟨#[]⟩ : ByteArray), .slice none 0 0]) (t := 35) ?hr ?_; (case hd => rfl); (case hg => rfl); (case hr => first | (go_simp; done) | (go_simp; rfl))
                            intro gb217 hg w71 hbox hb
                            have HS0_ := (hb.cell (World.block_lt_of_cell? _ _ (hHeld))).trans (hHeld)
                            have n0_ := Aside0.mk (Kd.N_below (Kd.N_elderB (by (with_reducible repeat (first | apply Kd.N_alloc | apply Kd.N_drewN | apply Kd.N_drew)); exact HO_5.out) gb217 (Nat.le_of_eq hg.symm)) hb)
                            have n1_ := Aside0.mk (Kd.R_below (by (with_reducible repeat (first | apply Kd.R_alloc | apply Kd.R_drewN | apply Kd.R_drew)); exact HO_9.out) hb)
                            have n2_ := Aside0.mk (Kd.V_below (Kd.V_elderB (by (with_reducible repeat (first | apply Kd.V_alloc | apply Kd.V_drewN | apply Kd.V_drew)); exact HO216.out) gb217 (Nat.le_of_eq hg.symm)) hb)
                            have n3_ := Aside0.mk (below_step (by repeat (first | (with_reducible first | exact HB.out | apply below_alloc | apply pw_below_drewN | apply below_drew1) | exact HB.out)) hb)
                            have n4_ := Aside0.mk (hbox)
                            have n5_ := Aside0.mk ((by rw [hg]; exact (below_size (by repeat (first | (with_reducible first | exact HB.out | apply below_alloc | apply pw_below_drewN | apply below_drew1) | exact HB.out))) : w.heap.size ≤ gb217))
                            have n6_ := Aside0.mk ((by rw [hg]; exact (below_size (by repeat (first | (with_reducible first | exact HB.out | apply below_alloc | apply pw_below_drewN | apply below_drew1) | exact HB.out))) : w.heap.size ≤ gb217))
                            clear HO_5
                            clear HO_9
                            clear HO216
                            clear HB
                            have HO_5 := n0_
                            have HO_9 := n1_
                            have HO216 := n2_
                            have HB := n3_
                            have BK217 := n4_
                            have GW217 := n5_
                            have GE217 := n6_
                            clear n0_ n1_ n2_ n3_ n4_ n5_ n6_
                            clear hb hbox hg
                            refine hK.out _ _ (HS0_) (fun hHeld => ?_)
                            clear hK K
                            refine norm_ (a' := ?_) ?_ ?_
                            rotate_left
                            · show Act.put _ (some 12) _ = _
                              simp only [Act.put, List.setIfInBounds_toArray, List.set_cons_zero, List.set_cons_succ, i64_w, i32_w]
                              rfl
                            refine one_ (i := 7) (N := none) #[true, true, true, true, true, true, true, true] rfl rfl (one_of HT_.out (by kernel_rfl)) (by decide) (fun K hK => ?_)
                            have hs72 : w71.cell? ⟨gb217, 0, none⟩ = some (.string (⟨#[]⟩ : ByteArray)) := (blk_cell BK217.out 0).trans rfl
                            have hfs72 := blk_frozen BK217.out 0
                            have hs73 : w71.cell? ⟨gb217, 1, none⟩ = some (.slice none 0 0) := (blk_cell BK217.out 1).trans rfl
                            have hfs73 := blk_frozen BK217.out 1
                            refine skip_ (w1 := ?_) (by rfl) rfl ?_ ?_
                            rotate_left
                            · go_simp
                              rfl
                            refine hK.out _ _ (((cell_far (p := ⟨gb217, _, none⟩) (by first | exact Kd.own_blk (Kd.R_ne HO_9.out BK217.out (by decide)) | (rw [add_block]; exact Kd.own_blk (Kd.R_ne HO_9.out BK217.out (by decide))) | (show (Addr.add _ _).block ≠ _; rw [add_block]; exact Kd.own_blk (Kd.R_ne HO_9.out BK217.out (by decide))) | (dsimp only; exact Kd.own_blk (Kd.R_ne HO_9.out BK217.out (by decide)))) _).trans (((cell_far (p := ⟨gb217, _, none⟩) (by first | exact Kd.own_blk (Kd.R_ne HO_9.out BK217.out (by decide)) | (rw [add_block]; exact Kd.own_blk (Kd.R_ne HO_9.out BK217.out (by decide))) | (show (Addr.add _ _).block ≠ _; rw [add_block]; exact Kd.own_blk (Kd.R_ne HO_9.out BK217.out (by decide))) | (dsimp only; exact Kd.own_blk (Kd.R_ne HO_9.out BK217.out (by decide)))) _).trans (hHeld))))) (fun hHeld => ?_)
                            clear hK K
                            refine done_ (done_of HT_.out (by kernel_rfl)) ?_
                            have hcz74_0 : w71.cell? ⟨gb217, 0, none⟩ = some (.string (⟨#[]⟩ : ByteArray)) := (blk_cell BK217.out 0).trans rfl
                            have hcz74_1 : w71.cell? ⟨gb217, 1, none⟩ = some (.slice none 0 0) := (blk_cell BK217.out 1).trans rfl
                            have hfz74_0 := blk_frozen BK217.out 0
                            have hfz74_1 := blk_frozen BK217.out 1
                            try go_wp2_with (first | ((with_reducible refine gate_callee (f := 46) rfl ?_); refine goesL_ (some 95) rfl rfl Tryz.func46 (by kernel_rfl) rfl #[.agg #[.string (rdOf ByteArray.empty x9_8 0), .slice A70 y212.length c70]] rfl (by (try simp only [List.map_toArray, List.map_cons, List.map_nil]); first | done | rfl | (simp only [List.length_drop, List.length_take]; rfl)) ?_; (with_reducible refine (halterref36_May.calls kj8 (rdOf ByteArray.empty x9_8 0) _ _ y212 false _ ?side1 ?side2 A44.out).mono ?_); (case side1 => refine (Kd.V_reads' (e := 9) (base := w.heap.size) (ok := fun k_ => (((w.heap.size ≤ k_) ∧ some k_ ≠ (u5 : Value).ownBlock) ∧ k_ ≠ gb217)) (n := y212.length) (c := c70) ?_).2.2; exact (by (with_reducible repeat (first | apply Kd.V_alloc | apply Kd.V_drewN | apply Kd.V_drew)); exact (Kd.V_mono (Kd.V_far (p := ⟨gb217, 1, none⟩) (Kd.V_far (p := ⟨gb217, 0, none⟩) (Kd.V_mono HO216.out (fun k_ hk => (⟨hk, hk.2⟩ : _ ∧ k_ ≠ gb217))) (fun _ hk => hk.2) (.string (rdOf ByteArray.empty x9_8 0))) (fun _ hk => hk.2) (.slice A70 y212.length c70)) (fun _ h_ => h_.1)))); (case side2 => exact (Kd.V_reads' HO216.out).2.1); rintro e w75 ⟨rfl, hb⟩; refine ⟨_, rfl, ?_⟩; have n0_ := Aside0.mk (Kd.N_below (by (with_reducible repeat (first | apply Kd.N_alloc | apply Kd.N_drewN | apply Kd.N_drew)); exact (Kd.N_mono (Kd.N_far (p := ⟨gb217, 1, none⟩) (Kd.N_far (p := ⟨gb217, 0, none⟩) (Kd.N_mono HO_5.out (fun k_ hk => (⟨hk, hk.2⟩ : _ ∧ k_ ≠ gb217))) (fun _ hk => hk.2) (.string (rdOf ByteArray.empty x9_8 0))) (fun _ hk => hk.2) (.slice A70 y212.length c70)) (fun _ h_ => h_.1))) hb); have n1_ := Aside0.mk (Kd.R_below (by (with_reducible repeat (first | apply Kd.R_alloc | apply Kd.R_drewN | apply Kd.R_drew)); exact (Kd.R_mono (Kd.R_far (p := ⟨gb217, 1, none⟩) (Kd.R_far (p := ⟨gb217, 0, none⟩) (Kd.R_types HO_9.out BK217.out (by decide)) (fun _ hk => hk.2) (.string (rdOf ByteArray.empty x9_8 0))) (fun _ hk => hk.2) (.slice A70 y212.length c70)) (fun _ h_ => h_.1))) hb); have n2_ := Aside0.mk (Kd.V_below (by (with_reducible repeat (first | apply Kd.V_alloc | apply Kd.V_drewN | apply Kd.V_drew)); exact (Kd.V_mono (Kd.V_far (p := ⟨gb217, 1, none⟩) (Kd.V_far (p := ⟨gb217, 0, none⟩) (Kd.V_mono HO216.out (fun k_ hk => (⟨hk, hk.2⟩ : _ ∧ k_ ≠ gb217))) (fun _ hk => hk.2) (.string (rdOf ByteArray.empty x9_8 0))) (fun _ hk => hk.2) (.slice A70 y212.length c70)) (fun _ h_ => h_.1))) hb); have n3_ := Aside0.mk (blk_below (g := gb217) (o := .cells #[.string (rdOf ByteArray.empty x9_8 0), .slice A70 y212.length c70] 35 (0, 0)) (by (with_reducible repeat (first | refine blk_drewN ?_ _ | refine blk_drew ?_ | refine blk_alloc ?_ _)); refine blk_put (cs := #[.string (rdOf ByteArray.empty x9_8 0), .slice none 0 0]) ?_ 1 _ rfl; (with_reducible repeat (first | refine blk_drewN ?_ _ | refine blk_drew ?_ | refine blk_alloc ?_ _)); refine blk_put (cs := #[.string (⟨#[]⟩ : ByteArray), .slice none 0 0]) ?_ 0 _ rfl; (with_reducible repeat (first | refine blk_drewN ?_ _ | refine blk_drew ?_ | refine blk_alloc ?_ _)); exact BK217.out) hb); have n4_ := Aside0.mk (below_step (by repeat (first | (with_reducible first | exact HB.out | apply below_alloc | apply pw_below_drewN | apply below_drew1 | refine below_set ?_ GE217.out) | exact HB.out)) hb); clear HO_5; clear HO_9; clear HO216; clear BK217; clear HB; have HO_5 := n0_; have HO_9 := n1_; have HO216 := n2_; have BK217 := n3_; have HB := n4_; clear n0_ n1_ n2_ n3_ n4_; (try clear hb); (try clear hb2); (try clear hk); (try clear hi)))
                            go_ret3
                            exact ⟨_, by first | rfl | (simp [errW_none, errW_some] <;> rfl) | (simp [*, errW_none, errW_some] <;> rfl), by first | exact Kd.S_nil _ _ _ _ _ | exact Kd.N_nil _ _ _ _ _ | exact Kd.V_nil _ _ _ _ _ | exact Kd.Q_nil _ _ _ _ _ | exact Kd.R_nil _ _ _ _ _, by repeat (first | (with_reducible first | exact HB.out | apply below_alloc | apply pw_below_drewN | apply below_drew1 | refine below_set ?_ GE217.out) | exact HB.out)⟩
                        · rw [if_neg c43] at H
                          exact absurd H (by simp)
                      · rw [if_neg c42] at H
                        exact absurd H (by simp)
        · rw [if_neg c3] at H
          have c3b0 : decide (x8_1 ≤ (a0.size : Int)) = false := decide_eq_false c3
          clear c3
          simp only [Option.some.injEq, Prod.mk.injEq] at H
          obtain ⟨rfl, rfl, rfl⟩ := H
          go_wp2
          go_ret3
          exact ⟨_, by first | rfl | (simp [errW_none, errW_some] <;> rfl) | (simp [*, errW_none, errW_some] <;> rfl), by (with_reducible repeat (first | apply Kd.N_alloc | apply Kd.N_drewN | apply Kd.N_drew)); exact HO_5.out, by repeat (first | (with_reducible first | exact HB.out | apply below_alloc | apply pw_below_drewN | apply below_drew1) | exact HB.out)⟩
end Go.Proofs.YtinleajhckcapaaGreatDoor.P
namespace Go.Proofs.YtinleajhckcapaaGreatDoor.Hand
open Go Go.RowKit Go.Proofs.YtinleajhckcapaaGreatDoorW.PrintWords Go.Proofs.YtinleajhckcapaaGreatDoorW.PrintLast
def c35 (x : P.S34) : P.S35 := ⟨x.f0, x.f1⟩
def conv (r : List P.S34 × Int × Option Int) : List P.S35 × Int × Int := (r.1.map c35, r.2.1, r.2.2.getD 0)
def lw (cur seg : Bs) : List ByteArray := (wordsGo blankB cur (seg.takeWhile (· ≠ 37))).map mkB
theorem lw_nil (cur : Bs) : lw cur [] = if cur = [] then [] else [mkB cur] := by
  unfold lw
  rw [List.takeWhile_nil, wordsGo]
  split <;> rfl
theorem lw_hash (cur seg : Bs) : lw cur (37 :: seg) = if cur = [] then [] else [mkB cur] := by
  unfold lw
  rw [List.takeWhile_cons, if_neg (by decide), wordsGo]
  split <;> rfl
theorem lw_blank (cur seg : Bs) (c : UInt8) (hb : blankB c = true) : lw cur (c :: seg) = if cur = [] then lw [] seg else mkB cur :: lw [] seg := by
  have h37 : c ≠ 37 := fun e => by rw [e] at hb; revert hb; decide
  unfold lw
  rw [List.takeWhile_cons, if_pos (by simpa using h37), wordsGo, if_pos hb]
  split <;> rfl
theorem lw_byte (cur seg : Bs) (c : UInt8) (hb : blankB c = false) (h37 : c ≠ 37) : lw cur (c :: seg) = lw (cur ++ [c]) seg := by
  unfold lw
  rw [List.takeWhile_cons, if_pos (by simpa using h37), wordsGo, if_neg (by rw [hb]; decide)]
theorem byte_is (c q : UInt8) : ((c.toNat : Int) = (q.toNat : Int)) ↔ c = q := ⟨fun e => UInt8.toNat_inj.1 (by omega), fun e => by rw [e]⟩
theorem one_byte (s : ByteArray) (i : Nat) (h : i < s.size) : s.extract i (i + 1) = mkB [s.data.toList.getD i 0] := by
  rw [ext_mk, drop_getD s.data.toList i (by rw [data_length]; exact h), show i + 1 - i = 1 by omega]
  rfl
theorem mkB_nil (l : Bs) : (mkB l).toList = ([] : List UInt8) ↔ l = [] := by rw [Lib.toList_data]; exact Iff.rfl
theorem line_words (s : ByteArray) (hs : s.size ≤ 65536) (out : List P.S35) (n : Int) (e : Nat) (he : e ≤ s.size) : ∀ (d i k : Nat) (acc : List ByteArray) (cur : Bs), e - i = d → i ≤ e → acc.length ≤ i → cur.length ≤ i → 2 * d + 5 ≤ k →
    ∃ k', k ≤ k' + 2 * d + 4 ∧ P.halterref36_Parse.l1 k s out n (e : Int) acc (mkB cur) (i : Int) = P.halterref36_Parse.j4 k' s out n (e : Int) (acc ++ lw cur ((s.data.toList.drop i).take (e - i))) := by
  have hdl := data_length s
  intro d
  induction d with
  | zero =>
    intro i k acc cur hd hi h1 h2 hk
    obtain rfl : i = e := by omega
    obtain ⟨k, rfl⟩ : ∃ m, k = m + 1 + 1 + 1 := ⟨k - 3, by omega⟩
    have hw : wrap64 ((i : Int) + 1) = ((i + 1 : Nat) : Int) := wrap_add (n := s.size) he (by omega) 1 (by omega)
    rw [Nat.sub_self, List.take_zero, lw_nil]
    simp only [P.halterref36_Parse.l1, P.halterref36_Parse.j3]
    rw [if_pos (Int.le_refl _), if_neg (by omega), if_neg (by decide)]
    by_cases hc : cur = []
    · rw [if_pos ((mkB_nil cur).2 hc), if_pos hc, List.append_nil, if_neg (by omega), hw, if_neg (by omega)]
      exact ⟨k, by omega, rfl⟩
    · rw [if_neg (fun z => hc ((mkB_nil cur).1 z)), if_neg hc, if_pos (by omega), Option.bind_some, if_neg (by omega), hw, if_neg (by omega)]
      exact ⟨k, by omega, rfl⟩
  | succ d ih =>
    intro i k acc cur hd hi h1 h2 hk
    obtain ⟨k, rfl⟩ : ∃ m, k = m + 1 + 1 := ⟨k - 2, by omega⟩
    have hlt : i < s.size := by omega
    have hw : wrap64 ((i : Int) + 1) = ((i + 1 : Nat) : Int) := wrap_add (n := s.size) (by omega) (by omega) 1 (by omega)
    have hseg : (s.data.toList.drop i).take (e - i) = s.data.toList.getD i 0 :: (s.data.toList.drop (i + 1)).take (e - (i + 1)) := by
      rw [drop_getD s.data.toList i (by omega), show e - i = (e - (i + 1)) + 1 by omega, List.take_succ_cons]
    have e32 := byte_is (s.data.toList.getD i 0) 32
    have e9 := byte_is (s.data.toList.getD i 0) 9
    have e37 := byte_is (s.data.toList.getD i 0) 37
    have t32 : ((32 : UInt8).toNat : Int) = 32 := rfl
    have t9 : ((9 : UInt8).toNat : Int) = 9 := rfl
    have t37 : ((37 : UInt8).toNat : Int) = 37 := rfl
    rw [t32] at e32
    rw [t9] at e9
    rw [t37] at e37
    rw [hseg]
    simp only [P.halterref36_Parse.l1]
    rw [if_pos (by omega), if_pos (by omega), if_pos (by omega), if_pos (by omega), bt_of s i hlt]
    have hob := one_byte s i hlt
    have hblank : blankB (s.data.toList.getD i 0) = true → ∃ k', k + 1 + 1 ≤ k' + 2 * (d + 1) + 4 ∧ P.halterref36_Parse.j3 (k + 1) s out n (e : Int) acc (mkB cur) (i : Int) false = P.halterref36_Parse.j4 k' s out n (e : Int) (acc ++ lw cur (s.data.toList.getD i 0 :: (s.data.toList.drop (i + 1)).take (e - (i + 1)))) := by
      intro hb
      have h37 : ¬ s.data.toList.getD i 0 = 37 := fun z => by rw [z] at hb; revert hb; decide
      rw [lw_blank _ _ _ hb]
      simp only [P.halterref36_Parse.j3]
      rw [if_neg (by decide)]
      by_cases hc : cur = []
      · rw [if_pos ((mkB_nil cur).2 hc), if_pos hc, if_pos (by omega), if_pos (by omega), if_pos (by omega), bt_of s i hlt, if_neg (fun z => h37 (e37.1 z)), hw]
        obtain ⟨k', g1, g2⟩ := ih (i + 1) k acc [] (by omega) (by omega) (by omega) (by simp) (by omega)
        exact ⟨k', by omega, g2⟩
      · rw [if_neg (fun z => hc ((mkB_nil cur).1 z)), if_neg hc, if_pos (by omega), Option.bind_some, if_pos (by omega), if_pos (by omega), if_pos (by omega), bt_of s i hlt, if_neg (fun z => h37 (e37.1 z)), hw]
        obtain ⟨k', g1, g2⟩ := ih (i + 1) k (acc ++ [mkB cur]) [] (by omega) (by omega) (by simp; omega) (by simp) (by omega)
        refine ⟨k', by omega, ?_⟩
        have g2' : P.halterref36_Parse.l1 k s out n (e : Int) (acc ++ [mkB cur]) (⟨#[]⟩ : ByteArray) ((i + 1 : Nat) : Int) = _ := g2
        rw [g2', List.append_assoc]
        rfl
    by_cases hc32 : s.data.toList.getD i 0 = 32
    · rw [if_pos (e32.2 hc32)]
      exact hblank (by rw [hc32]; rfl)
    · rw [if_neg (fun z => hc32 (e32.1 z))]
      by_cases hc9 : s.data.toList.getD i 0 = 9
      · rw [if_pos (e9.2 hc9)]
        exact hblank (by rw [hc9]; rfl)
      · rw [if_neg (fun z => hc9 (e9.1 z))]
        by_cases hc37 : s.data.toList.getD i 0 = 37
        · have hbn : (((s.data.toList.getD i 0).toNat : Int) != 37) = false := by rw [hc37]; rfl
          rw [hbn, hc37, lw_hash]
          simp only [P.halterref36_Parse.j3]
          rw [if_neg (by decide)]
          by_cases hc : cur = []
          · rw [if_pos ((mkB_nil cur).2 hc), if_pos hc, List.append_nil, if_pos (by omega), if_pos (by omega), if_pos (by omega), bt_of s i hlt, if_pos (e37.2 hc37)]
            exact ⟨k, by omega, rfl⟩
          · rw [if_neg (fun z => hc ((mkB_nil cur).1 z)), if_neg hc, if_pos (by omega), Option.bind_some, if_pos (by omega), if_pos (by omega), if_pos (by omega), bt_of s i hlt, if_pos (e37.2 hc37)]
            exact ⟨k, by omega, rfl⟩
        · have hbn : (((s.data.toList.getD i 0).toNat : Int) != 37) = true := by
            rw [bne_iff_ne]
            exact fun z => hc37 (e37.1 z)
          have hbl : blankB (s.data.toList.getD i 0) = false := by
            unfold blankB
            rw [Bool.or_eq_false_iff]
            exact ⟨beq_eq_false_iff_ne.2 hc32, beq_eq_false_iff_ne.2 hc9⟩
          rw [hbn, lw_byte _ _ _ hbl hc37]
          simp only [P.halterref36_Parse.j3]
          have hex : mkB cur ++ s.extract (i : Int).toNat ((i + 1 : Nat) : Int).toNat = mkB (cur ++ [s.data.toList.getD i 0]) := by
            rw [Int.toNat_natCast, Int.toNat_natCast, hob, mkB_app]
          have hexs : (mkB cur).size + (s.extract (i : Int).toNat ((i + 1 : Nat) : Int).toNat).size ≤ 9223372036854775807 := by
            rw [Int.toNat_natCast, Int.toNat_natCast, hob, mkB_size, mkB_size]
            simp; omega
          rw [if_pos trivial, if_pos (by omega), hw, if_pos (by omega), if_pos (by omega), if_pos hexs, hex]
          obtain ⟨k', g1, g2⟩ := ih (i + 1) k acc (cur ++ [s.data.toList.getD i 0]) (by omega) (by omega) (by omega) (by simp; omega) (by omega)
          exact ⟨k', by omega, g2⟩
end Go.Proofs.YtinleajhckcapaaGreatDoor.Hand
namespace Go.Proofs.YtinleajhckcapaaGreatDoor.Hand
open Go Go.RowKit Go.Proofs.YtinleajhckcapaaGreatDoorW.PrintWords Go.Proofs.YtinleajhckcapaaGreatDoorW.PrintLast
theorem pieces_some (c : UInt8) (l : Bs) : ∃ p r, pieces c l = p :: r := by
  cases h : pieces c l with
  | nil => exact absurd h (pieces_ne c l)
  | cons p r => exact ⟨p, r, rfl⟩
theorem lw_words (line : Bs) : lw [] line = (words (line.takeWhile (· ≠ 37))).map mkB := rfl
theorem words_le (line : Bs) : ∀ x ∈ words (line.takeWhile (· ≠ 37)), x.length ≤ line.length := fun x hx => by
  have h1 := (wordsGo_le blankB (line.takeWhile (· ≠ 37)) []).2 x hx
  have h2 : (line.takeWhile (· ≠ 37)).length ≤ line.length := (List.takeWhile_sublist _).length_le
  simp only [List.length_nil, Nat.zero_add] at h1
  omega
theorem words_count (line : Bs) : (words (line.takeWhile (· ≠ 37))).length ≤ line.length := by
  have h1 := (wordsGo_le blankB (line.takeWhile (· ≠ 37)) []).1
  have h2 : (line.takeWhile (· ≠ 37)).length ≤ line.length := (List.takeWhile_sublist _).length_le
  simp only [List.length_nil, Nat.zero_add] at h1
  exact Nat.le_trans h1 h2
theorem scan_loop (s : ByteArray) (hs : s.size ≤ 65536) : ∀ (d pos st k : Nat) (n : Nat) (out : List P.S34) (p : Bs) (r : List Bs), s.size - pos = d → pos ≤ s.size → st ≤ pos → n ≤ pos → out.length ≤ 4000 → pieces 10 (s.data.toList.drop pos) = p :: r →
    5000100 + 20 * (s.size + 1 - pos) + 8 * (pos - st) ≤ k →
    P.halterref36_Parse.l0 k s (out.map c35) (n : Int) (st : Int) (pos : Int) = some (conv (parseGo (((s.data.toList.drop st).take (pos - st) ++ p) :: r) n out)) := by
  have hdl := data_length s
  have hline : ∀ (pos st k n : Nat) (out : List P.S34) (rest : List Bs), pos ≤ s.size → st ≤ pos → n ≤ pos → out.length ≤ 4000 → 5000050 + 8 * (pos - st) ≤ k →
      (∀ (k' : Nat) (out' : List P.S34), k ≤ k' + 4 * (pos - st) + 10 → out'.length ≤ 4000 → P.halterref36_Parse.l0 k' s (out'.map c35) ((n + 1 : Nat) : Int) ((pos + 1 : Nat) : Int) ((pos + 1 : Nat) : Int) = some (conv (parseGo rest ((n + 1 : Nat) : Int) out'))) →
      P.halterref36_Parse.l1 k s (out.map c35) (wrap64 ((n : Int) + 1)) (pos : Int) ([] : List ByteArray) (⟨#[]⟩ : ByteArray) (st : Int) = some (conv (parseGo (((s.data.toList.drop st).take (pos - st)) :: rest) n out)) := by
    intro pos st k n out rest hp hst hn ho hk H
    have hwn : wrap64 ((n : Int) + 1) = ((n + 1 : Nat) : Int) := wrap_add (n := s.size) (by omega) (by omega) 1 (by omega)
    have hwp : wrap64 ((pos : Int) + 1) = ((pos + 1 : Nat) : Int) := wrap_add (n := s.size) (by omega) (by omega) 1 (by omega)
    obtain ⟨k', g1, g2⟩ := line_words s hs (out.map c35) (wrap64 ((n : Int) + 1)) pos hp (pos - st) st k [] [] rfl hst (by simp) (by simp) (by omega)
    have g2' : P.halterref36_Parse.l1 k s (out.map c35) (wrap64 ((n : Int) + 1)) (pos : Int) ([] : List ByteArray) (⟨#[]⟩ : ByteArray) (st : Int) = _ := g2
    rw [g2', List.nil_append, lw_words]
    have hlen : ((s.data.toList.drop st).take (pos - st)).length ≤ 65536 := by rw [List.length_take, List.length_drop]; omega
    have hwle := words_le ((s.data.toList.drop st).take (pos - st))
    have hwc := words_count ((s.data.toList.drop st).take (pos - st))
    obtain ⟨k', rfl⟩ : ∃ m, k' = m + 1 := ⟨k' - 1, by omega⟩
    simp only [P.halterref36_Parse.j4, parseGo]
    rw [hwn, hwp]
    cases hw : words (((s.data.toList.drop st).take (pos - st)).takeWhile (· ≠ 37)) with
    | nil =>
      rw [if_pos (by rfl)]
      exact H k' out (by omega) ho
    | cons v a =>
      rw [hw] at hwle hwc
      have hal : a.length ≤ 65536 := by rw [List.length_cons] at hwc; omega
      have hmay := may_eq (mkB v) (a.map mkB) (fun x hx => by
        obtain ⟨q, hq, rfl⟩ := List.mem_map.1 hx
        rw [mkB_size]
        have := hwle q (List.mem_cons_of_mem _ hq)
        omega) (by rw [List.length_map]; omega) k' (by omega)
      rw [bsOf_map] at hmay
      have hm' : P.halterref36_May.f k' (rdOf ByteArray.empty ((v :: a).map mkB) 0) (((v :: a).map mkB).drop 1) = some (chk v a) := hmay
      have hl0 : (((v :: a).map mkB).length : Int) = (a.length : Int) + 1 := by simp
      rw [hl0, if_neg (by omega), if_pos (by omega), if_pos (by omega), Option.bind_some, hm', Option.bind_some]
      simp only
      cases hc : chk v a with
      | false =>
        rw [if_neg Bool.false_ne_true, if_pos rfl]
        rfl
      | true =>
        rw [if_pos rfl, if_neg (show ¬ true = false from fun z => by cases z), List.length_map]
        by_cases h4 : out.length = 4000
        · rw [if_pos (by omega), if_pos h4]
          rfl
        · rw [if_neg (by omega), if_neg h4, if_pos (by omega)]
          have := H k' (out ++ [⟨mkB v, a.map mkB⟩]) (by omega) (by simp; omega)
          rw [List.map_append] at this
          exact this
  intro d
  induction d with
  | zero =>
    intro pos st k n out p r hd hp hst hn ho hpc hk
    obtain rfl : pos = s.size := by omega
    obtain ⟨k, rfl⟩ : ∃ m, k = m + 1 + 1 := ⟨k - 2, by omega⟩
    rw [List.drop_of_length_le (by omega)] at hpc
    simp only [pieces, List.cons.injEq] at hpc
    obtain ⟨rfl, rfl⟩ := hpc
    simp only [P.halterref36_Parse.l0, P.halterref36_Parse.j1]
    rw [if_pos (Int.le_refl _), if_neg (by omega), if_neg (by decide), List.append_nil]
    refine hline s.size st k n out [] (Nat.le_refl _) hst hn ho (by omega) (fun k' out' hk' ho' => ?_)
    obtain ⟨k', rfl⟩ : ∃ m, k' = m + 1 := ⟨k' - 1, by omega⟩
    simp only [P.halterref36_Parse.l0]
    rw [if_neg (by omega)]
    rfl
  | succ d ih =>
    intro pos st k n out p r hd hp hst hn ho hpc hk
    obtain ⟨k, rfl⟩ : ∃ m, k = m + 1 + 1 := ⟨k - 2, by omega⟩
    have hlt : pos < s.size := by omega
    have hk1 : Hid (5000050 + 8 * (pos - st) ≤ k) := Lib.hid (by omega)
    have hk2 : Hid (5000100 + 20 * (s.size + 1 - (pos + 1)) + 8 * (pos + 1 - st) ≤ k) := Lib.hid (by omega)
    have hk3 : Hid (∀ k', k ≤ k' + 4 * (pos - st) + 10 → 5000100 + 20 * (s.size + 1 - (pos + 1)) + 8 * (pos + 1 - (pos + 1)) ≤ k') := Lib.hid (fun k' h => by omega)
    have hd1 : Hid (s.size - (pos + 1) = d) := Lib.hid (by omega)
    clear hk hd
    have hwp : wrap64 ((pos : Int) + 1) = ((pos + 1 : Nat) : Int) := wrap_add (n := s.size) (by omega) (by omega) 1 (by omega)
    have hll : pos < s.data.toList.length := by rw [hdl]; exact hlt
    have hcons := drop_getD s.data.toList pos hll
    rw [hcons] at hpc
    obtain ⟨p', r', hpr⟩ := pieces_some 10 (s.data.toList.drop (pos + 1))
    simp only [P.halterref36_Parse.l0, P.halterref36_Parse.j1]
    have g1 : (pos : Int) ≤ (s.size : Int) := by omega
    have g2 : (pos : Int) < (s.size : Int) := by omega
    have g3 : (0 : Int) ≤ (pos : Int) := by omega
    rw [if_pos g1, if_pos g2, if_pos g3, bt_of s pos hlt]
    by_cases hc : s.data.toList.getD pos 0 = 10
    · have hb : (((s.data.toList.getD pos 0).toNat : Int) != 10) = false := by rw [hc]; rfl
      rw [hc, pieces_eq 10 10 (s.data.toList.drop (pos + 1)) rfl] at hpc
      injection hpc with e1 e2
      subst e1 e2
      rw [hb, if_neg (by decide), List.append_nil]
      refine hline pos st k n out _ hp hst hn ho hk1.out (fun k' out' hk' ho' => ?_)
      have := ih (pos + 1) (pos + 1) k' (n + 1) out' p' r' hd1.out hlt (Nat.le_refl _) (by omega) ho' hpr (hk3.out k' hk')
      rw [Nat.sub_self, List.take_zero, List.nil_append] at this
      rw [hpr]
      exact this
    · have hb : (((s.data.toList.getD pos 0).toNat : Int) != 10) = true := by
        rw [bne_iff_ne]
        intro z
        exact hc (UInt8.toNat_inj.1 (by have : (10 : UInt8).toNat = 10 := rfl; omega))
      rw [pieces_other 10 _ _ p' r' hc hpr] at hpc
      injection hpc with e1 e2
      subst e1 e2
      rw [hb, if_pos rfl, hwp, ih (pos + 1) st k n out p' r' hd1.out hlt (by omega) (by omega) ho hpr hk2.out, cut_more _ st pos hst hll, List.append_assoc]
      rfl
theorem ref_parse (s : ByteArray) (k : Nat) (hk : 8000000 ≤ k) : P.halterref36_Parse.f k s = some (conv (if s.size > 65536 then ([], 0, some 90) else parseGo (pieces 10 s.data.toList) 0 [])) := by
  unfold P.halterref36_Parse.f
  by_cases h : s.size > 65536
  · rw [if_pos (by omega), if_pos h]
    rfl
  · rw [if_neg (by omega), if_neg h]
    obtain ⟨p, r, hpr⟩ := pieces_some 10 s.data.toList
    have := scan_loop s (by omega) s.size 0 0 k 0 [] p r (by omega) (by omega) (Nat.le_refl _) (Nat.le_refl _) (by simp) (by rw [List.drop_zero]; exact hpr) (by omega)
    rw [Nat.sub_self, List.take_zero, List.nil_append] at this
    rw [hpr]
    exact this
end Go.Proofs.YtinleajhckcapaaGreatDoor.Hand
namespace Go.Proofs.YtinleajhckcapaaGreatDoor.Hand
open Go Go.RowKit Go.Proofs.YtinleajhckcapaaGreatDoorW.PrintWords
def hexInts (l : List Int) : List Int := l.flatMap fun c => [((hexaL.getD (c.toNat / 16) 0).toNat : Int), ((hexaL.getD (c.toNat % 16) 0).toNat : Int)]
theorem hexInts_length (l : List Int) : (hexInts l).length = 2 * l.length := by
  unfold hexInts
  induction l with
  | nil => rfl
  | cons c l ih => rw [List.flatMap_cons, List.length_append, ih]; simp; omega
theorem hexInts_str (l : List Int) : strOfNums (hexInts l) = mkB (l.flatMap fun c => [hexaL.getD (c.toNat / 16) 0, hexaL.getD (c.toNat % 16) 0]) := by
  unfold strOfNums mkB hexInts
  congr 1
  rw [List.map_flatMap]
  congr 1
  congr 1
  funext c
  simp
theorem nib_and (d : Nat) (h : d < 256) : bits .and .u8 (d : Int) 15 = (d : Int) % 16 := by
  have : ∀ p : Fin 256, bits .and .u8 (p.val : Int) 15 = (p.val : Int) % 16 := by decide +kernel
  exact this ⟨d, h⟩
theorem nib_get (x : Int) (q : Nat) (hx : x = (q : Int)) (hq : q < 16) (hb : x.toNat < (⟨#[48, 49, 50, 51, 52, 53, 54, 55, 56, 57, 97, 98, 99, 100, 101, 102]⟩ : ByteArray).size) : (⟨#[48, 49, 50, 51, 52, 53, 54, 55, 56, 57, 97, 98, 99, 100, 101, 102]⟩ : ByteArray)[x.toNat]'hb = hexaL[q]?.getD 0 := by
  subst hx
  have h : ∀ p : Fin 16, (⟨#[48, 49, 50, 51, 52, 53, 54, 55, 56, 57, 97, 98, 99, 100, 101, 102]⟩ : ByteArray)[p.val]'p.isLt = hexaL[p.val]?.getD 0 := by decide +kernel
  exact h ⟨q, hq⟩
set_option maxRecDepth 100000 in
set_option maxHeartbeats 2000000 in
theorem hex_walk (A0 : Option Addr) (c0 : Nat) (l : List Int) (w : World) (hr : Kd.C (Kd.int .u8) w A0 l.length l) (hc0 : l.length ≤ c0) (hl : 1 ≤ l.length) (hm : l.length ≤ 1000000) (hb : ∀ c ∈ l, 0 ≤ c ∧ c < 256) : Calls Tryz.prog 15 #[.slice A0 l.length c0] w fun e w' => e = .returned (.string (strOfNums (hexInts l))) ∧ Below w.heap.size w w' := by
  obtain ⟨i0, hi, hz0, hz1, hz2⟩ := info_parts P.info5
  have HR := Lib.hid hr
  have HBb := Lib.hid hb
  obtain ⟨n, hn⟩ : ∃ n, n = l.length := ⟨_, rfl⟩
  have HN := Lib.hid hn
  rw [← hn] at hc0 hl hm ⊢
  clear hr hb hn
  have hmul : ((n : Int) * 2) = ((2 * n : Nat) : Int) := by omega
  go_enter Tryz.func15, Tryz.ntmps15
  go_wp2_with (at_make; refine wpList_make_own _ rfl _ _ 38 rfl w.heap.size 5 i0 _ 1 Tryz.underlying38 hi hz0 hz1 .i64 .i64 _ (2 * n) rfl rfl (by omega) (by rw [hz2]; omega) (by unfold maxLen; omega) (Nat.le_refl _) ?_; intro w2 hown hgrow)
  have hB2 : Below w.heap.size w w2 := ⟨hgrow.os, hgrow.tape, hgrow.output, hgrow.size, fun k hk => hgrow.block k hk (by simp)⟩
  clear hgrow hmul
  go_loopw [3, 15] (fun v i wr => ∃ k : Nat, k ≤ n ∧ i = .int .i64 k ∧ v = .slice (some ⟨w.heap.size, 0, none⟩) (2 * k) (2 * n) ∧ wr.ownsRow w.heap.size 5 1 (.slice (some ⟨w.heap.size, 0, none⟩) (2 * k) (2 * n)) (2 * k) ((hexInts (l.take k)).map (Value.int .u8)) ∧ Below w.heap.size w wr)
    (fun v i wr => n - (intOf i).toNat)
  case atStart => exact ⟨0, Nat.zero_le _, rfl, rfl, hown, hB2⟩
  case round =>
    clear hown hB2
    obtain ⟨k, hk, rfl, rfl, hown, hB⟩ := hrel
    have HB := Lib.hid hB
    have HO := Lib.hid hown
    by_cases hlt : k < n
    · have hln : k < l.length := by rw [← HN.out]; exact hlt
      obtain ⟨ad, hA, hcell⟩ := Kd.at_int (Kd.C_below HR.out hB) (k : Int) (by omega) (by omega)
      rw [Int.toNat_natCast] at hcell
      have hrd : rd l (k : Int) = l[k] := by simp [rd, hln]
      rw [hrd] at hcell
      have hb := HBb.out l[k] (List.getElem_mem hln)
      have HT : Hid (hexInts (l.take (k + 1)) = hexInts (l.take k) ++ [((hexaL.getD (l[k].toNat / 16) 0).toNat : Int), ((hexaL.getD (l[k].toNat % 16) 0).toNat : Int)]) := Lib.hid (by
        rw [List.take_succ_eq_append_getElem hln]
        unfold hexInts
        rw [List.flatMap_append]
        rfl)
      generalize l[k] = d at *
      obtain ⟨d, rfl⟩ : ∃ q : Nat, d = (q : Int) := ⟨d.toNat, by omega⟩
      simp only [Int.toNat_natCast] at HT
      subst hA
      clear hown hB hrd hln
      go_wp2
      refine wp_region_any (by kernel_rfl) (wpAny_of_M (S := fun _ => True) (m := 8) _ _ _ _ ?_)
      refine wpAnyM_take 0 (some 19) (.slice (some ⟨w.heap.size, 0, none⟩) (2 * k) (2 * n)) rfl rfl (by kernel_rfl) (fun _ _ _ h => h) (Or.inl ⟨by rfl, ?_⟩) trivial ?_
      · intro w' hS'
        go_simp
        try with_reducible rfl
      simp only [Act.put, List.setIfInBounds_toArray, List.set_cons_zero, List.set_cons_succ]
      refine wpAnyM_take 1 (some 20) (.int .u8 (d : Int)) rfl rfl (by kernel_rfl) (fun _ _ _ h => h) (Or.inl ⟨by rfl, ?_⟩) trivial ?_
      · intro w' hS'
        go_simp
        try with_reducible rfl
      simp only [Act.put, List.setIfInBounds_toArray, List.set_cons_zero, List.set_cons_succ]
      refine wpAnyM_take 2 (some 21) (.int .u8 ((d / 16 : Nat) : Int)) rfl rfl (by kernel_rfl) (fun _ _ _ h => h) (Or.inl ⟨by rfl, ?_⟩) trivial ?_
      · intro w' hS'
        go_simp
        try with_reducible rfl
      simp only [Act.put, List.setIfInBounds_toArray, List.set_cons_zero, List.set_cons_succ]
      refine wpAnyM_take 3 (some 22) (.int .u8 ((hexaL.getD (d / 16) 0).toNat : Int)) rfl rfl (by kernel_rfl) (fun _ _ _ h => h) (Or.inl ⟨by rfl, ?_⟩) trivial ?_
      · intro w' hS'
        go_simp
        rw [dif_pos (by omega)]
        exact congrArg (fun z : UInt8 => Result.ok (Next.value (Value.int .u8 (z.toNat : Int))) w') (nib_get _ (d / 16) (by omega) (by omega) _)
      simp only [Act.put, List.setIfInBounds_toArray, List.set_cons_zero, List.set_cons_succ]
      refine wpAnyM_take 4 (some 23) (.int .u8 (d : Int)) rfl rfl (by kernel_rfl) (fun _ _ _ h => h) (Or.inl ⟨by rfl, ?_⟩) trivial ?_
      · intro w' hS'
        go_simp
        try with_reducible rfl
      simp only [Act.put, List.setIfInBounds_toArray, List.set_cons_zero, List.set_cons_succ]
      refine wpAnyM_take 5 (some 24) (.int .u8 ((d % 16 : Nat) : Int)) rfl rfl (by kernel_rfl) (fun _ _ _ h => h) (Or.inl ⟨by rfl, ?_⟩) trivial ?_
      · intro w' hS'
        go_simp
        rw [nib_and d (by omega)]
        try rfl
      simp only [Act.put, List.setIfInBounds_toArray, List.set_cons_zero, List.set_cons_succ]
      refine wpAnyM_take 6 (some 25) (.int .u8 ((hexaL.getD (d % 16) 0).toNat : Int)) rfl rfl (by kernel_rfl) (fun _ _ _ h => h) (Or.inl ⟨by rfl, ?_⟩) trivial ?_
      · intro w' hS'
        go_simp
        rw [dif_pos (by omega)]
        exact congrArg (fun z : UInt8 => Result.ok (Next.value (Value.int .u8 (z.toNat : Int))) w') (nib_get _ (d % 16) (by omega) (by omega) _)
      simp only [Act.put, List.setIfInBounds_toArray, List.set_cons_zero, List.set_cons_succ]
      generalize (hexaL.getD (d / 16) 0).toNat = q1 at *
      generalize (hexaL.getD (d % 16) 0).toNat = q2 at *
      refine wpAnyM_one 7 _ rfl (by kernel_rfl) (by decide) (fun K hK => ?_)
      rw [if_pos (by rfl)]
      go_simp
      refine hK _ _ trivial ?_
      clear hK K
      refine wpAnyM_drop (by kernel_rfl) ?_
      simp only [List.drop_succ_cons, List.drop_zero]
      refine wpList_append_fits _ rfl _ _ 38 rfl w.heap.size 5 i0 1 Tryz.underlying38 hi hz1 w.heap.size (2 * k) (2 * n) _ rfl (own_drew (HO.out.alloc (.cells #[.int .u8 (q1 : Int), .int .u8 (q2 : Int)] 5))) ⟨wr.heap.size, 0, none⟩ 2 2 [.int .u8 (q1 : Int), .int .u8 (q2 : Int)] rfl rfl ?_ (by simp [Value.oneCell']) (by omega) ?_
      · intro j u hj
        have hrow : (wr.alloc (.cells #[.int .u8 (q1 : Int), .int .u8 (q2 : Int)] 5)).drew.heap[wr.heap.size]? = some (.cells #[.int .u8 (q1 : Int), .int .u8 (q2 : Int)] 5 (0, 0)) := World.alloc_heap_new wr _
        rw [add_plain, cell_of_row _ _ j _ _ _ hrow]
        simpa using hj
      intro w4 hown' hgrow
      have HO4 := Lib.hid hown'
      have HB4 : Hid (Below w.heap.size w w4) := Lib.hid (HB.out.trans ⟨hgrow.os, hgrow.tape, hgrow.output, Nat.le_trans (by simp) hgrow.size, fun j hj => (hgrow.block j (by have := HB.out.size; show j < (wr.alloc _).heap.size; simp; omega) (by simp; omega)).trans (Below.heap_alloc wr _ j (Nat.lt_of_lt_of_le hj HB.out.size))⟩)
      clear hown' hgrow
      simp only [Act.put, List.setIfInBounds_toArray, List.set_cons_zero, List.set_cons_succ]
      go_wp2
      go_roundw
      case rel => 
        refine ⟨k + 1, by omega, by rw [Int.natCast_add]; rfl, by simp [Nat.mul_add], ?_, HB4.out⟩
        rw [HT.out, List.map_append, show 2 * (k + 1) = 2 * k + 2 by omega]
        exact HO4.out
      case measure => simp [intOf]; omega
    · have hkn : k = n := by omega
      subst hkn
      have hrr := Kd.R_reads' (Kd.R_of_own (enc := Value.int .u8) (h1 := fun _ => rfl) (ok := fun _ => True) (xs := hexInts (l.take k)) (by rw [hexInts_length, List.length_take, ← HN.out, Nat.min_self]; exact hown) (fun _ _ => trivial))
      have kc := Kd.C_string (P := Tryz.prog) (src := 38) (dst := 9) (c := 2 * k) Tryz.underlying38 Tryz.underlying5 Tryz.underlying9 hrr.2.2
      rw [← hrr.1] at kc
      have hl : l.take k = l := List.take_of_length_le (by rw [← HN.out]; exact Nat.le_refl _)
      rw [hl] at kc
      clear hrr hl hown hB hlt
      go_wp2
      go_ret
      exact ⟨rfl, HB.out⟩
theorem script_Hex.calls (A0 : Option Addr) (c0 : Nat) (l0 : List Int) (r : ByteArray) (w : World) (hr0 : Kd.C (Kd.int .u8) w A0 l0.length l0) (hc0 : l0.length ≤ c0) (h : script_Hex.f l0 = some r) : Calls Tryz.prog 15 #[.slice A0 l0.length c0] w fun e w' => e = .returned (.string r) ∧ Below w.heap.size w w' := by
  unfold script_Hex.f at h
  split at h
  · rename_i hs
    replace h := Option.some.inj h
    by_cases h0 : l0 = []
    · rw [if_pos h0] at h
      subst h0 h
      clear hs hr0 hc0
      go_enter Tryz.func15, Tryz.ntmps15
      go_wp2
      go_ret
      exact ⟨rfl, Below.refl _ _⟩
    · rw [if_neg h0] at h
      subst h
      rw [← hexInts_str]
      refine hex_walk A0 c0 l0 w hr0 hc0 (List.length_pos_iff.2 h0) hs.1 (fun c hc => ?_)
      have := List.all_eq_true.1 hs.2 c hc
      exact of_decide_eq_true this
  · cases h
end Go.Proofs.YtinleajhckcapaaGreatDoor.Hand
namespace Go.Proofs.YtinleajhckcapaaGreatDoor.Hand
open Go.RowKit Go.Extern.Stop Go.Stop Go.Extern
theorem rl_valueOf (t : Addr) (w : World) : (ReflectliteValue.unpack (.iface 103 (.pointer (some t)))).run Tryz.prog w
    = .ok (.agg #[.pointer (some ⟨9, 103, none⟩), .pointer (some ⟨w.heap.size, 0, none⟩), .int .u64 150]) (w.alloc (.cells #[.pointer (some t)] 103)) := by kernel_rfl
theorem rl_type (a : Addr) (w : World) : (ReflectliteValue.methodAny (ReflectliteValue.valueError "reflectlite.Value.Type" 0) (fun t _ _ _ => ReflectliteType.toType t) #[.agg #[.pointer (some ⟨9, 103, none⟩), .pointer (some a), .int .u64 150]]).run Tryz.prog w
    = .ok (.iface 216 (.agg #[.pointer (some ⟨9, 103, none⟩)])) w := by kernel_rfl
theorem rl_methodKind (h : Value) (w : World) : (Go.method 411 216 (.agg #[h]) "Kind").run Tryz.prog w = .ok (222, h) w := by kernel_rfl
theorem rl_kindP (w : World) : ((ReflectliteType.abiMethod fun t => (fun a : Nat => Value.int IntKind.u8 (a : Int)) <$> Rtype.kind t) #[.pointer (some ⟨9, 103, none⟩)]).run Tryz.prog w = .ok (.int .u8 22) w := by kernel_rfl
theorem rl_kindI (w : World) : ((ReflectliteType.abiMethod fun t => (fun a : Nat => Value.int IntKind.u8 (a : Int)) <$> Rtype.kind t) #[.pointer (some ⟨9, 93, none⟩)]).run Tryz.prog w = .ok (.int .u8 2) w := by kernel_rfl
theorem rlm (z : Sem Value) (f : TypeId → Addr → Nat → Nat → Sem Value) (v : Value) :
    ReflectliteValue.method z f #[v] = (do match ← ReflectliteValue.parts v with | none => z | some (t, a, fl) => f t a fl (fl % 32)) := rfl
theorem rl_parts (a : Addr) (w : World) : (ReflectliteValue.parts (.agg #[.pointer (some ⟨9, 103, none⟩), .pointer (some a), .int .u64 150])).run Tryz.prog w = .ok (some (103, a, 150)) w := by kernel_rfl
theorem rl_isNil (a p : Addr) (W : World) (ha : W.cell? a = some (.pointer (some p))) :
    (ReflectliteValue.method (ReflectliteValue.valueError "reflectlite.Value.IsNil" 0) ReflectliteValue.isNil #[.agg #[.pointer (some ⟨9, 103, none⟩), .pointer (some a), .int .u64 150]]).run Tryz.prog W = .ok (.bool false) W := by
  rw [rlm]
  simp only [Sem.run_bind, rl_parts, Result.andThen]
  simp [ReflectliteValue.isNil, loadVar, isAgg, underlying, Tryz.underlying103, ha, Result.andThen]
theorem rl_methodElem (h : Value) (w : World) : (Go.method 411 216 (.agg #[h]) "Elem").run Tryz.prog w = .ok (233, .agg #[h]) w := by kernel_rfl
theorem rl_methodImplements (h : Value) (w : World) : (Go.method 411 216 (.agg #[h]) "Implements").run Tryz.prog w = .ok (234, .agg #[h]) w := by kernel_rfl
theorem rl_methodAssignableTo (h : Value) (w : World) : (Go.method 411 216 (.agg #[h]) "AssignableTo").run Tryz.prog w = .ok (231, .agg #[h]) w := by kernel_rfl
theorem rl_elem (w : World) : (ReflectliteType.method ReflectliteType.elem #[.agg #[.pointer (some ⟨9, 103, none⟩)]]).run Tryz.prog w = .ok (.iface 216 (.agg #[.pointer (some ⟨9, 93, none⟩)])) w := by kernel_rfl
theorem rl_implements (w : World) : (ReflectliteType.relation "Implements" ReflectliteType.implements_ #[.agg #[.pointer (some ⟨9, 93, none⟩)], .iface 216 (.agg #[.pointer (some ⟨9, 25, none⟩)])]).run Tryz.prog w = .ok (.bool true) w := by kernel_rfl
theorem rl_typeOf (v : Value) (w : World) : (ReflectliteType.typeOf #[.iface 93 v]).run Tryz.prog w = .ok (.iface 216 (.agg #[.pointer (some ⟨9, 93, none⟩)])) w := by kernel_rfl
theorem rl_assignable (w : World) : (ReflectliteType.relation "AssignableTo" ReflectliteType.assignableTo #[.agg #[.pointer (some ⟨9, 93, none⟩)], .iface 216 (.agg #[.pointer (some ⟨9, 93, none⟩)])]).run Tryz.prog w = .ok (.bool true) w := by kernel_rfl
theorem rl_valueOfI (e : Int) (w : World) : (ReflectliteValue.unpack (.iface 93 (.int .i64 e))).run Tryz.prog w
    = .ok (.agg #[.pointer (some ⟨9, 93, none⟩), .pointer (some ⟨w.heap.size, 0, none⟩), .int .u64 130]) (w.alloc (.cells #[.int .i64 e] 93)) := by kernel_rfl
theorem rl_elemOf (w : World) : (Rtype.elem? 103).run Tryz.prog w = .ok (some 93) w := by kernel_rfl
theorem rl_mk (p : Addr) (w : World) : (ReflectliteValue.mk 93 p ReflectliteValue.flagAddr).run Tryz.prog w = .ok (.agg #[.pointer (some ⟨9, 93, none⟩), .pointer (some p), .int .u64 386]) w := by kernel_rfl
theorem rl_elemV (a p : Addr) (W : World) (ha : W.cell? a = some (.pointer (some p))) :
    (ReflectliteValue.method (ReflectliteValue.valueError "reflectlite.Value.Elem" 0) ReflectliteValue.elem #[.agg #[.pointer (some ⟨9, 103, none⟩), .pointer (some a), .int .u64 150]]).run Tryz.prog W
      = .ok (.agg #[.pointer (some ⟨9, 93, none⟩), .pointer (some p), .int .u64 386]) W := by
  rw [rlm]
  simp only [Sem.run_bind, rl_parts, Result.andThen]
  simp [ReflectliteValue.elem, loadVar, isAgg, underlying, Tryz.underlying103, ha, Result.andThen, rl_elemOf, rl_mk]
theorem rls (v x : Value) : ReflectliteValue.set #[v, x] = (do
    let (some (dst, a, fl), some (src, b, _)) := (← ReflectliteValue.parts v, ← ReflectliteValue.parts x)
      | unsupported (.noEntry "extern/(internal/reflectlite.Value).Set.zeroValue")
    if fl / ReflectliteValue.flagAddr % 2 == 0 then unsupported (.noEntry "extern/(internal/reflectlite.Value).Set.unaddressable")
    let val ← loadVar src b
    if ← Rtype.directlyAssignable dst src then storeVar dst a val
    else if ← Rtype.implements dst src then
      if (← Rtype.kind src) == 20 then
        match val with
        | .nilIface => unsupported (.noEntry "extern/reflectlite: a nil value of one interface type handed on as a value of another")
        | _ => storeVar dst a val
      else storeVar dst a (.iface src val)
    else panicString ("reflectlite.Set: value of type " ++ (← Rtype.spelt src) ++ " is not assignable to type " ++ (← Rtype.spelt dst))
    pure (.tuple #[])) := rfl
theorem rl_partsA (a : Addr) (w : World) : (ReflectliteValue.parts (.agg #[.pointer (some ⟨9, 93, none⟩), .pointer (some a), .int .u64 386])).run Tryz.prog w = .ok (some (93, a, 386)) w := by kernel_rfl
theorem rl_partsI (a : Addr) (w : World) : (ReflectliteValue.parts (.agg #[.pointer (some ⟨9, 93, none⟩), .pointer (some a), .int .u64 130])).run Tryz.prog w = .ok (some (93, a, 130)) w := by kernel_rfl
theorem rl_direct (w : World) : (Rtype.directlyAssignable 93 93).run Tryz.prog w = .ok true w := by kernel_rfl
theorem rl_set (ta b : Addr) (e : Int) (old : Value) (W : World) (hb : W.cell? b = some (.int .i64 e)) (ht : W.cell? ta = some old) (hf : W.frozen? ta = false) :
    (ReflectliteValue.set #[.agg #[.pointer (some ⟨9, 93, none⟩), .pointer (some ta), .int .u64 386], .agg #[.pointer (some ⟨9, 93, none⟩), .pointer (some b), .int .u64 130]]).run Tryz.prog W
      = .ok (.tuple #[]) (W.setCell ta (.int .i64 e)) := by
  rw [rls]
  simp only [Sem.run_bind, rl_partsA, rl_partsI, Result.andThen]
  simp [ReflectliteValue.flagAddr, loadVar, isAgg, underlying, Tryz.underlying93, hb, Result.andThen, rl_direct, storeVar, Value.cells, storeCells, Addr.add]
  rw [run_store Tryz.prog W ta _ _ (by rfl)]
  simp [ht, hf]
end Go.Proofs.YtinleajhckcapaaGreatDoor.Hand
namespace Go.Proofs.YtinleajhckcapaaGreatDoor.Hand
open Go.RowKit Go.Extern.Stop Go.Stop Go.Extern
theorem as_loop (e : Int) (a t : Addr) (old : Value) (w : World) (hav : w.cell? a = some (.pointer (some t))) (ht : w.cell? t = some old) (hf : w.frozen? t = false) :
    Calls Tryz.prog 97 #[.iface 93 (.int .i64 e), .iface 103 (.pointer (some t)), .agg #[.pointer (some ⟨9, 103, none⟩), .pointer (some a), .int .u64 150], .iface 216 (.agg #[.pointer (some ⟨9, 93, none⟩)])] w fun ev w' => ev = .returned (.bool true) ∧
      w' = ((w.alloc (.cells #[.pointer (some ⟨9, 103, none⟩), .pointer (some a), .int .u64 150] 166)).alloc (.cells #[.int .i64 e] 93)).setCell t (.int .i64 e) := by
  have h94 := @run_callFunc_extern Tryz.prog 94 _ (fun args => ReflectliteValue.unpack (args.getD 0 (.tuple #[]))) Tryz.func94 (by kernel_rfl) (by kernel_rfl) (by kernel_rfl) (by kernel_rfl)
  have h144 := @run_callFunc_extern Tryz.prog 144 _ ReflectliteType.typeOf Tryz.func144 (by kernel_rfl) (by kernel_rfl) (by kernel_rfl) (by kernel_rfl)
  have h231 := @run_callFunc_extern Tryz.prog 231 _ (ReflectliteType.relation "AssignableTo" ReflectliteType.assignableTo) Tryz.func231 (by kernel_rfl) (by kernel_rfl) (by kernel_rfl) (by kernel_rfl)
  have h145 := @run_callFunc_extern Tryz.prog 145 _ (ReflectliteValue.method (ReflectliteValue.valueError "reflectlite.Value.Elem" 0) ReflectliteValue.elem) Tryz.func145 (by kernel_rfl) (by kernel_rfl) (by kernel_rfl) (by kernel_rfl)
  have h146 := @run_callFunc_extern Tryz.prog 146 _ ReflectliteValue.set Tryz.func146 (by kernel_rfl) (by kernel_rfl) (by kernel_rfl) (by kernel_rfl)
  have tO := rl_typeOf
  have mA := rl_methodAssignableTo
  have a93 := rl_assignable
  have vI := rl_valueOfI
  have hal : a.block < w.heap.size := World.block_lt_of_cell? w a hav
  have htl : t.block < w.heap.size := World.block_lt_of_cell? w t ht
  have el := rl_elemV a t (w.alloc (.cells #[.pointer (some ⟨9, 103, none⟩), .pointer (some a), .int .u64 150] 166)) (by rw [World.cell?_alloc_lt _ _ a hal]; exact hav)
  have st := rl_set t ⟨w.heap.size + 1, 0, none⟩ e old ((w.alloc (.cells #[.pointer (some ⟨9, 103, none⟩), .pointer (some a), .int .u64 150] 166)).alloc (.cells #[.int .i64 e] 93))
    (by rw [World.cell?_alloc_at _ _ _ _ (by simp)]; rfl)
    (by rw [World.cell?_alloc_lt _ _ t (by simp; omega), World.cell?_alloc_lt _ _ t htl]; exact ht)
    (by rw [World.frozen?_alloc_old _ _ t (by simp; omega), World.frozen?_alloc_old _ _ t (Nat.ne_of_lt htl)]; exact hf)
  go_enter Tryz.func97, Tryz.ntmps97
  go_wp2
  refine wp_loop_rounds 1 ?_
  rw [rounds_succ]
  go_wp2
  go_ret
  exact ⟨rfl, rfl⟩
end Go.Proofs.YtinleajhckcapaaGreatDoor.Hand
namespace Go.Proofs.YtinleajhckcapaaGreatDoor.Hand
open Go.RowKit Go.Extern.Stop Go.Stop Go.Extern
theorem as_hit (e : Int) (t : Addr) (old : Value) (w : World) (hg : w.cell? ⟨0, 0, none⟩ = some (.iface 216 (.agg #[.pointer (some ⟨9, 25, none⟩)]))) (ht : w.cell? t = some old) (hf : w.frozen? t = false) :
    Calls Tryz.prog 47 #[.iface 93 (.int .i64 e), .iface 103 (.pointer (some t))] w fun ev w' => ev = .returned (.bool true) ∧
      w' = ((((w.alloc (.cells #[.pointer (some t)] 103)).alloc (.cells #[.pointer (some ⟨9, 103, none⟩), .pointer (some ⟨w.heap.size, 0, none⟩), .int .u64 150] 166)).alloc (.cells #[.pointer (some ⟨9, 103, none⟩), .pointer (some ⟨w.heap.size, 0, none⟩), .int .u64 150] 166)).alloc (.cells #[.int .i64 e] 93)).setCell t (.int .i64 e) := by
  have h94 := @run_callFunc_extern Tryz.prog 94 _ (fun args => ReflectliteValue.unpack (args.getD 0 (.tuple #[]))) Tryz.func94 (by kernel_rfl) (by kernel_rfl) (by kernel_rfl) (by kernel_rfl)
  have h95 := @run_callFunc_extern Tryz.prog 95 _ (ReflectliteValue.methodAny (ReflectliteValue.valueError "reflectlite.Value.Type" 0) (fun t _ _ _ => ReflectliteType.toType t)) Tryz.func95 (by kernel_rfl) (by kernel_rfl) (by kernel_rfl) (by kernel_rfl)
  have h96 := @run_callFunc_extern Tryz.prog 96 _ (ReflectliteValue.method (ReflectliteValue.valueError "reflectlite.Value.IsNil" 0) ReflectliteValue.isNil) Tryz.func96 (by kernel_rfl) (by kernel_rfl) (by kernel_rfl) (by kernel_rfl)
  have h222 := @run_callFunc_extern Tryz.prog 222 _ (ReflectliteType.abiMethod fun t => do pure (.int .u8 (← Rtype.kind t))) Tryz.func222 (by kernel_rfl) (by kernel_rfl) (by kernel_rfl) (by kernel_rfl)
  have h233 := @run_callFunc_extern Tryz.prog 233 _ (ReflectliteType.method ReflectliteType.elem) Tryz.func233 (by kernel_rfl) (by kernel_rfl) (by kernel_rfl) (by kernel_rfl)
  have h234 := @run_callFunc_extern Tryz.prog 234 _ (ReflectliteType.relation "Implements" ReflectliteType.implements_) Tryz.func234 (by kernel_rfl) (by kernel_rfl) (by kernel_rfl) (by kernel_rfl)
  have f94 := rl_valueOf
  have f95 := rl_type
  have mK := rl_methodKind
  have mE := rl_methodElem
  have mI := rl_methodImplements
  have kP := rl_kindP
  have kI := rl_kindI
  have eP := rl_elem
  have iI := rl_implements
  have hlt : 0 < w.heap.size := World.block_lt_of_cell? w ⟨0, 0, none⟩ hg
  have htl : t.block < w.heap.size := World.block_lt_of_cell? w t ht
  have n8 := rl_isNil ⟨w.heap.size, 0, none⟩ t ((w.alloc (.cells #[.pointer (some t)] 103)).alloc (.cells #[.pointer (some ⟨9, 103, none⟩), .pointer (some ⟨w.heap.size, 0, none⟩), .int .u64 150] 166)) (by simp)
  have hg2 : ((w.alloc (.cells #[.pointer (some t)] 103)).alloc (.cells #[.pointer (some ⟨9, 103, none⟩), .pointer (some ⟨w.heap.size, 0, none⟩), .int .u64 150] 166)).cell? ⟨0, 0, none⟩ = some (.iface 216 (.agg #[.pointer (some ⟨9, 25, none⟩)])) := by
    rw [World.cell?_alloc_lt _ _ ⟨0, 0, none⟩ (by simp), World.cell?_alloc_lt _ _ ⟨0, 0, none⟩ hlt]; exact hg
  have ht2 : ((w.alloc (.cells #[.pointer (some t)] 103)).alloc (.cells #[.pointer (some ⟨9, 103, none⟩), .pointer (some ⟨w.heap.size, 0, none⟩), .int .u64 150] 166)).cell? t = some old := by
    rw [World.cell?_alloc_lt _ _ t (by simp; omega), World.cell?_alloc_lt _ _ t htl]; exact ht
  have hf2 : ((w.alloc (.cells #[.pointer (some t)] 103)).alloc (.cells #[.pointer (some ⟨9, 103, none⟩), .pointer (some ⟨w.heap.size, 0, none⟩), .int .u64 150] 166)).frozen? t = false := by
    rw [World.frozen?_alloc_old _ _ t (by simp; omega), World.frozen?_alloc_old _ _ t (Nat.ne_of_lt htl)]; exact hf
  have ha2 : ((w.alloc (.cells #[.pointer (some t)] 103)).alloc (.cells #[.pointer (some ⟨9, 103, none⟩), .pointer (some ⟨w.heap.size, 0, none⟩), .int .u64 150] 166)).cell? ⟨w.heap.size, 0, none⟩ = some (.pointer (some t)) := by simp
  have HL := as_loop e ⟨w.heap.size, 0, none⟩ t old _ ha2 ht2 hf2
  have HH := Lib.hid HL
  clear HL ha2
  go_enter Tryz.func47, Tryz.ntmps47
  go_wp2_with (go_at_call 97; refine HH.out.mono ?_; rintro ev w' ⟨rfl, rfl⟩)
  go_ret
  exact ⟨rfl, rfl⟩
def num36.f (e : Option Int) : Option Int := some (e.getD 0)
theorem num36_none (w : World) : Calls Tryz.prog 11 #[.nilIface] w fun e w' => e = .returned (.int .i64 0) ∧ Below w.heap.size w w' := by
  go_enter Tryz.func11, Tryz.ntmps11
  go_wp2
  go_ret
  exact ⟨rfl, (Below.refl _ _).alloc (Nat.le_refl _) _⟩
theorem num36_some (n : Int) (w : World) (hg : Glob w) : Calls Tryz.prog 11 #[.iface 93 (.int .i64 n)] w fun e w' => e = .returned (.int .i64 n) ∧ Below w.heap.size w w' := by
  have hgA : (w.alloc (.cells #[.int .i64 0] 93)).cell? ⟨0, 0, none⟩ = some (.iface 216 (.agg #[.pointer (some ⟨9, 25, none⟩)])) := (hg _ ((Below.refl _ _).alloc (Nat.le_refl _) _)).ety
  have htA : (w.alloc (.cells #[.int .i64 0] 93)).cell? ⟨w.heap.size, 0, none⟩ = some (.int .i64 0) := by simp
  have hfA : (w.alloc (.cells #[.int .i64 0] 93)).frozen? ⟨w.heap.size, 0, none⟩ = false := by simp
  go_enter Tryz.func11, Tryz.ntmps11
  go_wp2_with (go_at_call 47; refine (as_hit n _ _ _ hgA htA hfA).mono ?_; rintro ev w' ⟨rfl, rfl⟩)
  go_ret
  refine ⟨rfl, ?_⟩
  repeat (first | exact Below.refl _ _ | apply Go.Proofs.YtinleajhckcapaaGreatDoorW.PrintWords.below_alloc | (refine Below.setCell ?_ (by simp) _))
theorem num36.calls (a0 : Option Int) (r : Int) (w : World) (hg : Glob w) (h : num36.f a0 = some r) : Calls Tryz.prog 11 #[P.errW a0] w fun e w' => e = .returned (.int .i64 r) ∧ Below w.heap.size w w' := by
  cases a0 with
  | none => obtain rfl := Option.some.inj h; exact num36_none w
  | some n => obtain rfl := Option.some.inj h; exact num36_some n w hg
end Go.Proofs.YtinleajhckcapaaGreatDoor.Hand
namespace Go.Proofs.YtinleajhckcapaaGreatDoor.Hand
open Go Go.RowKit Go.Proofs.YtinleajhckcapaaGreatDoorW.PrintWords
set_option maxRecDepth 100000 in
set_option maxHeartbeats 2000000 in
theorem print_walk (v : ByteArray) (A : Option Addr) (c : Nat) (l : List ByteArray) (w : World) (hr : Kd.C Kd.string w A l.length l) (hc : l.length ≤ c) (hg : Glob w) (ha : ∀ x ∈ l, x.size ≤ 1000000) (hl : l.length ≤ 1000000)
    (hj : (Lib.join (v.data.toList :: bsOf l) [32]).length ≤ 100000000) (hk : chk v.data.toList (bsOf l) = true) :
    Calls Tryz.prog 16 #[.agg #[.string v, .slice A l.length c]] w fun e w' => e = .returned (.tuple #[.string (mkB (Lib.join (v.data.toList :: bsOf l) [32] ++ [10])), .nilIface]) ∧ Below w.heap.size w w' := by
  have hb0 := below_alloc (Below.refl w.heap.size w) (.cells #[.string v, .slice A l.length c] 34)
  have HR := Lib.hid (Kd.C_below hr (below_alloc (Below.refl w.heap.size w) (.cells #[.string v, .slice A l.length c] 34)))
  have HC := Lib.hid (P.script_Check.calls _ v A c l _ (w.alloc (.cells #[.string v, .slice A l.length c] 34)) HR.out hc (hg.below hb0) (chk_eq v l ha hl))
  rw [if_pos hk] at HC
  simp only [P.errW_none] at HC
  clear hr hg hk ha
  obtain ⟨js, hjs⟩ : ∃ js, js = mkB (Lib.join (v.data.toList :: bsOf l) [32]) := ⟨_, rfl⟩
  have HJ : Hid (∀ (g c' : Nat) (W : World), (∀ (j : Nat) x, ([v] ++ l)[j]? = some x → W.cell? ⟨g, 0 + j, none⟩ = some (.string x)) → g < W.heap.size → ([v] ++ l).length ≤ c' → Calls Tryz.prog 51 #[.slice (some ⟨g, 0, none⟩) ([v] ++ l).length c', .string ⟨#[32]⟩] W fun e w' => e = .returned (.string js) ∧ Below W.heap.size W w') :=
    Lib.hid fun g c' W h1 h2 h3 => by rw [hjs]; exact Tryz.strings_Join g 0 c' ([v] ++ l) (⟨#[32]⟩ : ByteArray) W h1 h2 (by simp; omega) h3 (Nat.le_trans hj (by omega))
  have hsum : js.size + (⟨#[10]⟩ : ByteArray).size ≤ 9223372036854775807 := by
    rw [hjs, mkB_size]
    show _ + 1 ≤ _
    omega
  have HE : Hid (js ++ (⟨#[10]⟩ : ByteArray) = mkB (Lib.join (v.data.toList :: bsOf l) [32] ++ [10])) := Lib.hid (by
    rw [hjs]
    apply Go.WideShapes.bytes_inj
    simp [mkB, ByteArray.data_append])
  clear hj hb0 hjs
  have hrow0 : (w.alloc (.cells #[.string v, .slice A l.length c] 34)).heap[w.heap.size]? = some (.cells #[.string v, .slice A l.length c] 34 (0, 0)) := World.alloc_heap_new w _
  have hc0 : (w.alloc (.cells #[.string v, .slice A l.length c] 34)).cell? ⟨w.heap.size, 0, none⟩ = some (.string v) := by rw [cell_of_row _ _ 0 _ _ _ hrow0]; rfl
  have hc1 : (w.alloc (.cells #[.string v, .slice A l.length c] 34)).cell? ⟨w.heap.size, 1, none⟩ = some (.slice A l.length c) := by rw [cell_of_row _ _ 1 _ _ _ hrow0]; rfl
  clear hrow0
  go_enter Tryz.func16, Tryz.ntmps16
  go_wp2_with (first
    | (go_at_call 45; refine HC.out.mono ?_; rintro e w1 ⟨rfl, hb1⟩; have HB1 := Lib.hid hb1; have hd0 := (hb1.cell (p := ⟨w.heap.size, 0, none⟩) (by simp)).trans hc0; have hd1 := (hb1.cell (p := ⟨w.heap.size, 1, none⟩) (by simp)).trans hc1; have hd2 := (Below.cell (below_alloc (Below.refl w1.heap.size w1) (.cells #[.string v] 9)) (p := ⟨w.heap.size, 1, none⟩) (by have := HB1.out.size; simp at this; show w.heap.size < _; omega)).trans hd1; have HR1 := Lib.hid (Kd.C_below HR.out hb1); clear hb1)
    | (at_builtin; refine Kd.R_append_row (w0 := w) Value.string ByteArray.empty w.heap.size rfl _ _ 32 9 (.string ⟨#[]⟩) 16 rfl Tryz.underlying32 Tryz.info9 rfl (by decide) _ [v] l A l.length c (fun _ => True) rfl rfl (fun _ _ => trivial) (Kd.R_of_own (own_lit_of (enc := Value.string) w1 w.heap.size 9 [v] (by have := HB1.out.size; simp at this; omega) (by simp)) (fun _ _ => trivial)) (Kd.C_alloc HR1.out _) (below_alloc ((below_alloc (Below.refl w.heap.size w) _).trans (HB1.out.mono (by simp))) _) (by have := HB1.out.size; simp at this ⊢; omega) (by simp; omega) ?_; intro v1 w2 hR2 hb2 _ _; obtain ⟨g, c', rfl, hcc, hgl, hcells⟩ := strs_own hR2 (by simp); have HCC := Lib.hid hcells; have HB2 := Lib.hid hb2; clear hcells hb2 hR2)
    | (go_at_call 51; refine (HJ.out g c' w2 HCC.out hgl hcc).mono ?_; rintro e w3 ⟨rfl, hb3⟩; have HB3 := Lib.hid (below_then HB2.out HB2.out.size hb3); clear hb3))
  go_ret2
  exact ⟨by rw [HE.out]; rfl, HB3.out⟩
set_option maxRecDepth 100000 in
set_option maxHeartbeats 2000000 in
theorem print_no (v : ByteArray) (A : Option Addr) (c : Nat) (l : List ByteArray) (w : World) (hr : Kd.C Kd.string w A l.length l) (hc : l.length ≤ c) (hg : Glob w) (ha : ∀ x ∈ l, x.size ≤ 1000000) (hl : l.length ≤ 1000000) (hk : ¬ chk v.data.toList (bsOf l) = true) :
    Calls Tryz.prog 16 #[.agg #[.string v, .slice A l.length c]] w fun e w' => e = .returned (.tuple #[.string (mkB []), P.errW (some 337)]) ∧ Below w.heap.size w w' := by
  have hb0 := below_alloc (Below.refl w.heap.size w) (.cells #[.string v, .slice A l.length c] 34)
  have HC := Lib.hid (P.script_Check.calls _ v A c l _ (w.alloc (.cells #[.string v, .slice A l.length c] 34)) (Kd.C_below hr hb0) hc (hg.below hb0) (chk_eq v l ha hl))
  rw [if_neg hk] at HC
  simp only [P.errW_some] at HC
  clear hr hg hk ha hb0
  go_enter Tryz.func16, Tryz.ntmps16
  go_wp2_with (go_at_call 45; refine HC.out.mono ?_; rintro e w1 ⟨rfl, hb1⟩; have HB1 := Lib.hid (hb1.mono (B' := w.heap.size) (by simp)); clear hb1)
  go_ret2
  exact ⟨rfl, (below_alloc (Below.refl w.heap.size w) _).trans HB1.out⟩
theorem size_le_sum (l : List ByteArray) : ∀ (n : Nat) (x : ByteArray), x ∈ l → x.size ≤ (l.map ByteArray.size).foldl (· + ·) n := by
  have hge : ∀ (l : List Nat) (n : Nat), n ≤ l.foldl (· + ·) n := by
    intro l
    induction l with
    | nil => intro n; exact Nat.le_refl _
    | cons a l ih => intro n; exact Nat.le_trans (Nat.le_add_right n a) (ih (n + a))
  induction l with
  | nil => intro n x hx; cases hx
  | cons a l ih =>
    intro n x hx
    rw [List.map_cons, List.foldl_cons]
    rcases List.mem_cons.1 hx with rfl | hx
    · exact Nat.le_trans (by omega) (hge _ _)
    · exact ih _ x hx
theorem foldl_sum (l : List Nat) : ∀ n, l.foldl (· + ·) n = n + l.sum := by
  induction l with
  | nil => intro n; simp
  | cons a l ih => intro n; rw [List.foldl_cons, ih, List.sum_cons]; omega
theorem script_Print.calls (a0_0 : ByteArray) (A0_1 : Option Addr) (c0_1 : Nat) (l0_1 : List ByteArray) (r1 : ByteArray) (r2 : Option Int) (w : World) (hr0_1 : Kd.C Kd.string w A0_1 l0_1.length l0_1) (hc0_1 : l0_1.length ≤ c0_1) (hg : Glob w) (h : script_Print.f a0_0 l0_1 = some (r1, r2)) : Calls Tryz.prog 16 #[.agg #[.string a0_0, .slice A0_1 l0_1.length c0_1]] w fun e w' => e = .returned (.tuple #[.string r1, P.errW r2]) ∧ Below w.heap.size w w' := by
  unfold script_Print.f at h
  split at h
  · rename_i hs
    have h := Option.some.inj h
    have ha : ∀ x ∈ l0_1, x.size ≤ 1000000 := fun x hx => Nat.le_trans (size_le_sum l0_1 0 x hx) hs.2
    have hl : l0_1.length ≤ 1000000 := by omega
    by_cases hk : chk a0_0.data.toList (bsOf l0_1) = true
    · rw [if_pos hk] at h
      cases h
      refine print_walk a0_0 A0_1 c0_1 l0_1 w hr0_1 hc0_1 hg ha hl ?_ hk
      have h1 := join_le [32] (a0_0.data.toList :: bsOf l0_1)
      have h2 : ((bsOf l0_1).map List.length) = l0_1.map ByteArray.size := by
        unfold bsOf
        rw [List.map_map]
        exact List.map_congr_left (fun x _ => data_length x)
      have h3 := hs.2
      rw [foldl_sum, Nat.zero_add] at h3
      rw [List.map_cons, List.sum_cons, h2, data_length] at h1
      have h4 : (bsOf l0_1).length = l0_1.length := by simp [bsOf]
      simp only [List.length_cons, List.length_nil] at h1
      omega
    · rw [if_neg hk] at h
      cases h
      exact print_no a0_0 A0_1 c0_1 l0_1 w hr0_1 hc0_1 hg ha hl hk
  · cases h
end Go.Proofs.YtinleajhckcapaaGreatDoor.Hand
