/- Part 2 of the proof of: ScriptBack: for every command and every bytes, what the program's script.Print tells of the command is read by script.Parse as it was, whatever notes and blanks stand beside it, and bytes come back out of their digits; the conditions: the listed package-level variables of Go's library are as its text lays them. -/
import Derived.Test.YtinleajhckcapaaGreatDoorSB1
import Derived.Outline
import Derived.LoopTactic
import Derived.Lib.Strings
import Derived.OwnWalk
import Derived.WideShapes
import Derived.Lib.FieldsP
import Derived.Lib.DecodeN
import Derived.Shelf.GgClosure.Gives
import Derived.Maps.OwnIn
import Derived.LaidEql
import Derived.Stop.Asserts
import Derived.RowKitTokens
import Derived.Lib.Hide
set_option linter.unusedVariables false
set_option linter.unusedSimpArgs false
namespace Go.Proofs.YtinleajhckcapaaGreatDoor.P
open Go.RowKit Go.Proofs.YtinleajhckcapaaGreatDoorW.PrintWords Go.Proofs.YtinleajhckcapaaGreatDoorW.PrintLast Go.Proofs.YtinleajhckcapaaGreatDoorW.PrintMore
attribute [local go_sem] max2_int min2_int max_two min_two max_three min_three max_four min_four
set_option linter.unusedVariables false
set_option linter.unusedSimpArgs false
def path_Check.f (a0 : ByteArray) : Option (Option Int) := if a0.toList = ([] : List UInt8) then (some (some 2)) else (if (a0.size : Int) > 16 then (some (some 36)) else ((Hand.strings_TrimLeft.f a0 (⟨#[97, 98, 99, 100, 101, 102, 103, 104, 105, 106, 107, 108, 109, 110, 111, 112, 113, 114, 115, 116, 117, 118, 119, 120, 121, 122, 48, 49, 50, 51, 52, 53, 54, 55, 56, 57, 46, 95, 45]⟩ : ByteArray)).bind fun t101 => (if t101.toList = ([] : List UInt8) then (some none) else (some (some 22)))))
set_option maxHeartbeats 8000000 in
set_option maxRecDepth 100000 in
theorem path_Check.calls (a0 : ByteArray) (r : Option Int) (w : World) (h : path_Check.f a0 = some r) :
    Calls Tryz.prog 108 #[.string a0] w fun e w' => e = .returned (errW r) ∧ Below w.heap.size w w' := by
  have hu25 := Tryz.underlying25
  have hu93 := Tryz.underlying93
  have HB := Aside0.mk (Below.refl w.heap.size w)
  have H : (if a0.toList = ([] : List UInt8) then (some (some 2)) else (if (a0.size : Int) > 16 then (some (some 36)) else ((Hand.strings_TrimLeft.f a0 (⟨#[97, 98, 99, 100, 101, 102, 103, 104, 105, 106, 107, 108, 109, 110, 111, 112, 113, 114, 115, 116, 117, 118, 119, 120, 121, 122, 48, 49, 50, 51, 52, 53, 54, 55, 56, 57, 46, 95, 45]⟩ : ByteArray)).bind fun t101 => (if t101.toList = ([] : List UInt8) then (some none) else (some (some 22)))))) = some r := h
  clear h
  by_cases c2 : a0.toList = ([] : List UInt8)
  · rw [if_pos c2] at H
    have c2b0 : (a0.toList == ([] : List UInt8)) = true := beq_iff_eq.mpr c2
    have c2b1 : (a0.toList != ([] : List UInt8)) = false := bne_eq_false_iff_eq.mpr c2
    clear c2
    obtain rfl := Option.some.inj H
    go_enter Tryz.func108, Tryz.ntmps108
    go_wp2
    go_ret
    exact ⟨by first | rfl | (simp [errW_none, errW_some] <;> rfl) | (simp [*, errW_none, errW_some] <;> rfl), by repeat (first | (with_reducible first | exact HB.out | apply below_alloc | apply pw_below_drewN | apply below_drew1) | exact HB.out)⟩
  · rw [if_neg c2] at H
    have c2b0 : (a0.toList == ([] : List UInt8)) = false := beq_eq_false_iff_ne.mpr c2
    have c2b1 : (a0.toList != ([] : List UInt8)) = true := bne_iff_ne.mpr c2
    by_cases c3 : (a0.size : Int) > 16
    · rw [if_pos c3] at H
      have c3b0 : decide (16 < (a0.size : Int)) = true := decide_eq_true c3
      have c3b1 : decide (16 < a0.size) = true := decide_eq_true (by omega)
      clear c3
      obtain rfl := Option.some.inj H
      go_enter Tryz.func108, Tryz.ntmps108
      go_wp2
      go_ret
      exact ⟨by first | rfl | (simp [errW_none, errW_some] <;> rfl) | (simp [*, errW_none, errW_some] <;> rfl), by repeat (first | (with_reducible first | exact HB.out | apply below_alloc | apply pw_below_drewN | apply below_drew1) | exact HB.out)⟩
    · rw [if_neg c3] at H
      have c3b0 : decide (16 < (a0.size : Int)) = false := decide_eq_false c3
      have c3b1 : decide (16 < a0.size) = false := decide_eq_false (by omega)
      clear c3
      replace H := Option.bind_eq_some_iff.mp H
      obtain ⟨t101, A40, H⟩ := H
      replace H : (if t101.toList = ([] : List UInt8) then (some none) else (some (some 22))) = some r := H
      have A4 := Aside0.mk A40
      clear A40
      by_cases c5 : t101.toList = ([] : List UInt8)
      · rw [if_pos c5] at H
        have c5b0 : (t101.toList == ([] : List UInt8)) = true := beq_iff_eq.mpr c5
        have c5b1 : (t101.toList != ([] : List UInt8)) = false := bne_eq_false_iff_eq.mpr c5
        clear c5
        obtain rfl := Option.some.inj H
        go_enter Tryz.func108, Tryz.ntmps108
        go_wp2_with (first | ((with_reducible refine gate_callee (f := 48) rfl ?_); refine goesL_ (some 14) rfl rfl Tryz.func48 (by kernel_rfl) rfl #[.string a0, .string (⟨#[97, 98, 99, 100, 101, 102, 103, 104, 105, 106, 107, 108, 109, 110, 111, 112, 113, 114, 115, 116, 117, 118, 119, 120, 121, 122, 48, 49, 50, 51, 52, 53, 54, 55, 56, 57, 46, 95, 45]⟩ : ByteArray)] rfl (by (try simp only [List.map_toArray, List.map_cons, List.map_nil]); first | done | rfl | (simp only [List.length_drop, List.length_take]; rfl)) ?_; (with_reducible refine (Hand.strings_TrimLeft.calls a0 (⟨#[97, 98, 99, 100, 101, 102, 103, 104, 105, 106, 107, 108, 109, 110, 111, 112, 113, 114, 115, 116, 117, 118, 119, 120, 121, 122, 48, 49, 50, 51, 52, 53, 54, 55, 56, 57, 46, 95, 45]⟩ : ByteArray) t101 _ A4.out).mono ?_); rintro e w6 ⟨rfl, hb⟩; refine ⟨_, rfl, ?_⟩; have n0_ := Aside0.mk (below_step (by repeat (first | (with_reducible first | exact HB.out | apply below_alloc | apply pw_below_drewN | apply below_drew1) | exact HB.out)) hb); clear HB; have HB := n0_; clear n0_; (try clear hb); (try clear hb2); (try clear hk); (try clear hi)))
        go_ret
        exact ⟨by first | rfl | (simp [errW_none, errW_some] <;> rfl) | (simp [*, errW_none, errW_some] <;> rfl), by repeat (first | (with_reducible first | exact HB.out | apply below_alloc | apply pw_below_drewN | apply below_drew1) | exact HB.out)⟩
      · rw [if_neg c5] at H
        have c5b0 : (t101.toList == ([] : List UInt8)) = false := beq_eq_false_iff_ne.mpr c5
        have c5b1 : (t101.toList != ([] : List UInt8)) = true := bne_iff_ne.mpr c5
        obtain rfl := Option.some.inj H
        go_enter Tryz.func108, Tryz.ntmps108
        go_wp2_with (first | ((with_reducible refine gate_callee (f := 48) rfl ?_); refine goesL_ (some 14) rfl rfl Tryz.func48 (by kernel_rfl) rfl #[.string a0, .string (⟨#[97, 98, 99, 100, 101, 102, 103, 104, 105, 106, 107, 108, 109, 110, 111, 112, 113, 114, 115, 116, 117, 118, 119, 120, 121, 122, 48, 49, 50, 51, 52, 53, 54, 55, 56, 57, 46, 95, 45]⟩ : ByteArray)] rfl (by (try simp only [List.map_toArray, List.map_cons, List.map_nil]); first | done | rfl | (simp only [List.length_drop, List.length_take]; rfl)) ?_; (with_reducible refine (Hand.strings_TrimLeft.calls a0 (⟨#[97, 98, 99, 100, 101, 102, 103, 104, 105, 106, 107, 108, 109, 110, 111, 112, 113, 114, 115, 116, 117, 118, 119, 120, 121, 122, 48, 49, 50, 51, 52, 53, 54, 55, 56, 57, 46, 95, 45]⟩ : ByteArray) t101 _ A4.out).mono ?_); rintro e w7 ⟨rfl, hb⟩; refine ⟨_, rfl, ?_⟩; have n0_ := Aside0.mk (below_step (by repeat (first | (with_reducible first | exact HB.out | apply below_alloc | apply pw_below_drewN | apply below_drew1) | exact HB.out)) hb); clear HB; have HB := n0_; clear n0_; (try clear hb); (try clear hb2); (try clear hk); (try clear hi)))
        go_ret
        exact ⟨by first | rfl | (simp [errW_none, errW_some] <;> rfl) | (simp [*, errW_none, errW_some] <;> rfl), by repeat (first | (with_reducible first | exact HB.out | apply below_alloc | apply pw_below_drewN | apply below_drew1) | exact HB.out)⟩
def path_check.l0 : Nat → List ByteArray → Int → Int → Option (Option Int)
  | 0, _, _, _ => none
  | k + 1, x10, x11, x12 => if x12 < x11 then (if 0 ≤ x12 then (if x12 < (x10.length : Int) then ((path_Check.f (rdOf ByteArray.empty x10 x12)).bind fun t103 => (if t103.isNone = true then (path_check.l0 k x10 x11 (wrap64 (x12 + 1))) else (some (some (t103.getD 0))))) else (none)) else (none)) else (some none)
def path_check.f (k : Nat) (l0 : List ByteArray) : Option (Option Int) := if (l0.length : Int) > 8 then (some (some 90)) else (path_check.l0 k l0 (l0.length : Int) 0)
set_option maxHeartbeats 8000000 in
set_option maxRecDepth 100000 in
theorem path_check.calls (k : Nat) (A0 : Option Addr) (c0 : Nat) (l0 : List ByteArray) (r : Option Int) (w : World) (hr0 : Kd.C Kd.string w A0 l0.length l0) (hc0 : l0.length ≤ c0) (h : path_check.f k l0 = some r) :
    Calls Tryz.prog 194 #[.slice A0 l0.length c0] w fun e w' => e = .returned (errW r) ∧ Below w.heap.size w w' := by
  have hu25 := Tryz.underlying25
  have hu93 := Tryz.underlying93
  have HR0 := Aside0.mk hr0
  have HC0 := Aside0.mk hc0
  clear hr0 hc0
  have HB := Aside0.mk (Below.refl w.heap.size w)
  have H : (if (l0.length : Int) > 8 then (some (some 90)) else (path_check.l0 k l0 (l0.length : Int) 0)) = some r := h
  clear h
  by_cases c2 : (l0.length : Int) > 8
  · rw [if_pos c2] at H
    have c2b0 : decide (8 < (l0.length : Int)) = true := decide_eq_true c2
    have c2b1 : decide (8 < l0.length) = true := decide_eq_true (by omega)
    clear c2
    obtain rfl := Option.some.inj H
    go_enter Tryz.func194, Tryz.ntmps194
    go_wp2
    go_ret
    exact ⟨by first | rfl | (simp [errW_none, errW_some] <;> rfl) | (simp [*, errW_none, errW_some] <;> rfl), by repeat (first | (with_reducible first | exact HB.out | apply below_alloc | apply pw_below_drewN | apply below_drew1) | exact HB.out)⟩
  · rw [if_neg c2] at H
    have c2b0 : decide (8 < (l0.length : Int)) = false := decide_eq_false c2
    have c2b1 : decide (8 < l0.length) = false := decide_eq_false (by omega)
    clear c2
    have H' := Aside0.mk H
    clear H
    go_enter Tryz.func194, Tryz.ntmps194
    go_wp2
    go_loopg [12] k (fun kq v12 w' => ∃ (x12_1 : Int), v12 = .int .i64 x12_1 ∧ Aside0 (path_check.l0 kq l0 (l0.length : Int) x12_1 = some r) ∧ Aside0 (kq ≤ k) ∧ Aside0 (Below w.heap.size w w'))
    case atStart => exact ⟨(0), (by first | rfl | (simp; done) | (simp [*]; done)), H', ⟨Nat.le_refl _⟩, ⟨by repeat (first | (with_reducible first | exact HB.out | apply below_alloc | apply pw_below_drewN | apply below_drew1) | exact HB.out)⟩⟩
    case round =>
      clear H'
      try clear c1
      try clear c2
      try clear c2b0
      try clear c2b1
      try clear p2
      obtain ⟨x12_1, rfl, HA, HK1, HB⟩ := hrel
      cases gk with
      | zero => exact absurd HA.out (by simp [path_check.l0])
      | succ k1 =>
        have H := HA.out
        clear HA
        simp only [path_check.l0] at H
        by_cases c3 : x12_1 < (l0.length : Int)
        · rw [if_pos c3] at H
          have c3b0 : decide (x12_1 < (l0.length : Int)) = true := decide_eq_true c3
          clear c3
          by_cases c4 : 0 ≤ x12_1
          · rw [if_pos c4] at H
            have c4b0 : decide (0 ≤ x12_1) = true := decide_eq_true c4
            clear c4
            by_cases c5 : x12_1 < (l0.length : Int)
            · rw [if_pos c5] at H
              have c5b0 : decide (x12_1 < (l0.length : Int)) = true := decide_eq_true c5
              clear c5
              replace H := Option.bind_eq_some_iff.mp H
              obtain ⟨t103, A60, H⟩ := H
              replace H : (if t103.isNone = true then (path_check.l0 k1 l0 (l0.length : Int) (wrap64 (x12_1 + 1))) else (some (some (t103.getD 0)))) = some r := H
              have A6 := Aside0.mk A60
              clear A60
              rcases t103 with _ | q104
              · have H1 : (path_check.l0 k1 l0 (l0.length : Int) (wrap64 (x12_1 + 1))) = some r := by rw [if_pos (show (none : Option Int).isNone = true by rfl)] at H; exact H
                clear H
                have H := H1
                clear H1
                try simp only [errW_none, errW_some]
                have H' := Aside0.mk H
                clear H
                have p102 : 0 ≤ (x12_1 : Int) := of_decide_eq_true (by first | (with_reducible assumption) | assumption)
                have q102 : x12_1 < (l0.length : Int) := of_decide_eq_true (by first | (with_reducible assumption) | assumption)
                obtain ⟨ad102, e102, hx102_0⟩ := Kd.at_string HR0.out x12_1 p102 q102
                cases e102
                replace hx102_0 := (HB.out.cell (World.block_lt_of_cell? w _ hx102_0)).trans hx102_0
                replace p102 := eq_true p102
                replace q102 := eq_true q102
                go_wp2_with (first | ((with_reducible refine gate_callee (f := 108) rfl ?_); refine goesL_ (some 17) rfl rfl Tryz.func108 (by kernel_rfl) rfl #[.string (rdOf ByteArray.empty l0 x12_1)] rfl (by (try simp only [List.map_toArray, List.map_cons, List.map_nil]); first | done | rfl | (simp only [List.length_drop, List.length_take]; rfl)) ?_; (with_reducible refine (path_Check.calls (rdOf ByteArray.empty l0 x12_1) none _ A6.out).mono ?_); rintro e w7 ⟨rfl, hb⟩; refine ⟨_, rfl, ?_⟩; have n0_ := Aside0.mk (below_step (by repeat (first | (with_reducible first | exact HB.out | apply below_alloc | apply pw_below_drewN | apply below_drew1) | exact HB.out)) hb); clear HB; have HB := n0_; clear n0_; (try clear hb); (try clear hb2); (try clear hk); (try clear hi); (try simp only [errW_none, errW_some])))
                go_roundg k1
                case measure => have := HK1.out; omega
                case rel => exact ⟨(wrap64 (x12_1 + 1)), (by first | rfl | (simp; done) | (simp [*]; done)), H', ⟨by have := HK1.out; omega⟩, ⟨by repeat (first | (with_reducible first | exact HB.out | apply below_alloc | apply pw_below_drewN | apply below_drew1) | exact HB.out)⟩⟩
              · have H1 : (some (some q104)) = some r := by rw [if_neg (show ¬ (some q104).isNone = true by simp)] at H; exact H
                clear H
                have H := H1
                clear H1
                try simp only [errW_none, errW_some]
                obtain rfl := Option.some.inj H
                have p102 : 0 ≤ (x12_1 : Int) := of_decide_eq_true (by first | (with_reducible assumption) | assumption)
                have q102 : x12_1 < (l0.length : Int) := of_decide_eq_true (by first | (with_reducible assumption) | assumption)
                obtain ⟨ad102, e102, hx102_0⟩ := Kd.at_string HR0.out x12_1 p102 q102
                cases e102
                replace hx102_0 := (HB.out.cell (World.block_lt_of_cell? w _ hx102_0)).trans hx102_0
                replace p102 := eq_true p102
                replace q102 := eq_true q102
                go_wp2_with (first | ((with_reducible refine gate_callee (f := 108) rfl ?_); refine goesL_ (some 17) rfl rfl Tryz.func108 (by kernel_rfl) rfl #[.string (rdOf ByteArray.empty l0 x12_1)] rfl (by (try simp only [List.map_toArray, List.map_cons, List.map_nil]); first | done | rfl | (simp only [List.length_drop, List.length_take]; rfl)) ?_; (with_reducible refine (path_Check.calls (rdOf ByteArray.empty l0 x12_1) (some q104) _ A6.out).mono ?_); rintro e w8 ⟨rfl, hb⟩; refine ⟨_, rfl, ?_⟩; have n0_ := Aside0.mk (below_step (by repeat (first | (with_reducible first | exact HB.out | apply below_alloc | apply pw_below_drewN | apply below_drew1) | exact HB.out)) hb); clear HB; have HB := n0_; clear n0_; (try clear hb); (try clear hb2); (try clear hk); (try clear hi); (try simp only [errW_none, errW_some])))
                go_ret
                exact ⟨by first | rfl | (simp [errW_none, errW_some] <;> rfl) | (simp [*, errW_none, errW_some] <;> rfl), by repeat (first | (with_reducible first | exact HB.out | apply below_alloc | apply pw_below_drewN | apply below_drew1) | exact HB.out)⟩
            · rw [if_neg c5] at H
              exact absurd H (by simp)
          · rw [if_neg c4] at H
            exact absurd H (by simp)
        · rw [if_neg c3] at H
          have c3b0 : decide (x12_1 < (l0.length : Int)) = false := decide_eq_false c3
          clear c3
          obtain rfl := Option.some.inj H
          go_wp2
          go_ret
          exact ⟨by first | rfl | (simp [errW_none, errW_some] <;> rfl) | (simp [*, errW_none, errW_some] <;> rfl), by repeat (first | (with_reducible first | exact HB.out | apply below_alloc | apply pw_below_drewN | apply below_drew1) | exact HB.out)⟩
def stringslite_HasPrefix.f (a0 : ByteArray) (a1 : ByteArray) : Option (Bool) := if (a0.size : Int) ≥ (a1.size : Int) then (if 0 ≤ (a1.size : Int) then (if (a1.size : Int) ≤ (a0.size : Int) then (some ((a0.extract 0 ((a1.size : Int) : Int).toNat).toList == a1.toList)) else (none)) else (none)) else (some false)
set_option maxHeartbeats 8000000 in
set_option maxRecDepth 100000 in
theorem stringslite_HasPrefix.calls (a0 : ByteArray) (a1 : ByteArray) (r : Bool) (w : World) (h : stringslite_HasPrefix.f a0 a1 = some r) :
    Calls Tryz.prog 152 #[.string a0, .string a1] w fun e w' => e = .returned (.bool r) ∧ Drawn0 w w' := by
  have H : (if (a0.size : Int) ≥ (a1.size : Int) then (if 0 ≤ (a1.size : Int) then (if (a1.size : Int) ≤ (a0.size : Int) then (some ((a0.extract 0 ((a1.size : Int) : Int).toNat).toList == a1.toList)) else (none)) else (none)) else (some false)) = some r := h
  clear h
  by_cases c3 : (a0.size : Int) ≥ (a1.size : Int)
  · rw [if_pos c3] at H
    have c3b0 : decide ((a1.size : Int) ≤ (a0.size : Int)) = true := decide_eq_true c3
    have c3b1 : decide (a1.size ≤ a0.size) = true := decide_eq_true (Int.ofNat_le.mp c3)
    clear c3
    by_cases c4 : 0 ≤ (a1.size : Int)
    · rw [if_pos c4] at H
      have c4b0 := eq_true c4
      have c4b1 : decide (0 ≤ (a1.size : Int)) = true := decide_eq_true c4
      clear c4
      by_cases c5 : (a1.size : Int) ≤ (a0.size : Int)
      · rw [if_pos c5] at H
        have c5b0 := eq_true c5
        have c5b1 : decide ((a1.size : Int) ≤ (a0.size : Int)) = true := decide_eq_true c5
        clear c5
        obtain rfl := Option.some.inj H
        go_enter Tryz.func152, Tryz.ntmps152
        go_wp2
        go_ret
        exact ⟨by first | rfl | (simp; done) | (simp [*]; done), by repeat (first | exact Drawn0.refl _ | apply Drawn0.step)⟩
      · rw [if_neg c5] at H
        exact absurd H (by simp)
    · rw [if_neg c4] at H
      exact absurd H (by simp)
  · rw [if_neg c3] at H
    have c3b0 : decide ((a1.size : Int) ≤ (a0.size : Int)) = false := decide_eq_false c3
    have c3b1 : decide (a1.size ≤ a0.size) = false := decide_eq_false (fun h => c3 (Int.ofNat_le.mpr h))
    clear c3
    obtain rfl := Option.some.inj H
    go_enter Tryz.func152, Tryz.ntmps152
    go_wp2
    go_ret
    exact ⟨by first | rfl | (simp; done) | (simp [*]; done), by repeat (first | exact Drawn0.refl _ | apply Drawn0.step)⟩
def strings_HasPrefix.f (a0 : ByteArray) (a1 : ByteArray) : Option (Bool) := (stringslite_HasPrefix.f a0 a1).bind fun t105 => (some t105)
set_option maxHeartbeats 8000000 in
set_option maxRecDepth 100000 in
theorem strings_HasPrefix.calls (a0 : ByteArray) (a1 : ByteArray) (r : Bool) (w : World) (h : strings_HasPrefix.f a0 a1 = some r) :
    Calls Tryz.prog 195 #[.string a0, .string a1] w fun e w' => e = .returned (.bool r) ∧ Drawn0 w w' := by
  have H : ((stringslite_HasPrefix.f a0 a1).bind fun t105 => (some t105)) = some r := h
  clear h
  replace H := Option.bind_eq_some_iff.mp H
  obtain ⟨t105, A30, H⟩ := H
  replace H : (some t105) = some r := H
  have A3 := Aside0.mk A30
  clear A30
  obtain rfl := Option.some.inj H
  go_enter Tryz.func195, Tryz.ntmps195
  go_wp2_with (first | ((with_reducible refine gate_callee (f := 152) rfl ?_); refine goesL_ (some 7) rfl rfl Tryz.func152 (by kernel_rfl) rfl #[.string a0, .string a1] rfl (by (try simp only [List.map_toArray, List.map_cons, List.map_nil]); first | done | rfl | (simp only [List.length_drop, List.length_take]; rfl)) ?_; (with_reducible refine (stringslite_HasPrefix.calls a0 a1 t105 _ A3.out).mono ?_); rintro e w' ⟨rfl, ⟨nd, rfl⟩⟩; refine ⟨_, rfl, ?_⟩))
  go_ret
  exact ⟨by first | rfl | (simp; done) | (simp [*]; done), by repeat (first | exact Drawn0.refl _ | apply Drawn0.step)⟩
def path_Split.f (k : Nat) (a0 : ByteArray) : Option (List ByteArray × Bool × Option Int) := if a0.toList = ([] : List UInt8) then (some (([] : List ByteArray), false, some 2)) else ((Hand.path_parts.f a0).bind fun t106 => ((path_check.f k t106).bind fun t109 => (if t109.isNone = true then ((strings_HasPrefix.f a0 (⟨#[47]⟩ : ByteArray)).bind fun t111 => (some (t106, t111, none))) else (some (([] : List ByteArray), false, some (t109.getD 0))))))
set_option maxHeartbeats 8000000 in
set_option maxRecDepth 100000 in
theorem path_Split.calls (k : Nat) (a0 : ByteArray) (r1 : List ByteArray) (r2 : Bool) (r3 : Option Int) (w : World) (h : path_Split.f k a0 = some (r1, r2, r3)) :
    Calls Tryz.prog 170 #[.string a0] w fun e w' => ∃ v0_ : Value, e = .returned (.tuple #[v0_, .bool r2, errW r3]) ∧ Kd.R Kd.string 9 w' w.heap.size (fun _ => True) v0_ r1 ∧ Below w.heap.size w w' := by
  have hu25 := Tryz.underlying25
  have hu93 := Tryz.underlying93
  have HB := Aside0.mk (Below.refl w.heap.size w)
  have H : (if a0.toList = ([] : List UInt8) then (some (([] : List ByteArray), false, some 2)) else ((Hand.path_parts.f a0).bind fun t106 => ((path_check.f k t106).bind fun t109 => (if t109.isNone = true then ((strings_HasPrefix.f a0 (⟨#[47]⟩ : ByteArray)).bind fun t111 => (some (t106, t111, none))) else (some (([] : List ByteArray), false, some (t109.getD 0))))))) = some (r1, r2, r3) := h
  clear h
  by_cases c2 : a0.toList = ([] : List UInt8)
  · rw [if_pos c2] at H
    have c2b0 : (a0.toList == ([] : List UInt8)) = true := beq_iff_eq.mpr c2
    have c2b1 : (a0.toList != ([] : List UInt8)) = false := bne_eq_false_iff_eq.mpr c2
    clear c2
    simp only [Option.some.injEq, Prod.mk.injEq] at H
    obtain ⟨rfl, rfl, rfl⟩ := H
    go_enter Tryz.func170, Tryz.ntmps170
    go_wp2
    go_ret3
    exact ⟨_, by first | rfl | (simp [errW_none, errW_some] <;> rfl) | (simp [*, errW_none, errW_some] <;> rfl), by first | exact Kd.R_nil _ _ _ _ _ | exact Kd.N_nil _ _ _ _ _ | exact Kd.V_nil _ _ _ _ _ | exact Kd.Q_nil _ _ _ _ _ | exact Kd.S_nil _ _ _ _ _, by repeat (first | (with_reducible first | exact HB.out | apply below_alloc | apply pw_below_drewN | apply below_drew1) | exact HB.out)⟩
  · rw [if_neg c2] at H
    have c2b0 : (a0.toList == ([] : List UInt8)) = false := beq_eq_false_iff_ne.mpr c2
    have c2b1 : (a0.toList != ([] : List UInt8)) = true := bne_iff_ne.mpr c2
    replace H := Option.bind_eq_some_iff.mp H
    obtain ⟨t106, A30, H⟩ := H
    replace H : ((path_check.f k t106).bind fun t109 => (if t109.isNone = true then ((strings_HasPrefix.f a0 (⟨#[47]⟩ : ByteArray)).bind fun t111 => (some (t106, t111, none))) else (some (([] : List ByteArray), false, some (t109.getD 0))))) = some (r1, r2, r3) := H
    have A3 := Aside0.mk A30
    clear A30
    replace H := Option.bind_eq_some_iff.mp H
    obtain ⟨t109, A40, H⟩ := H
    replace H : (if t109.isNone = true then ((strings_HasPrefix.f a0 (⟨#[47]⟩ : ByteArray)).bind fun t111 => (some (t106, t111, none))) else (some (([] : List ByteArray), false, some (t109.getD 0)))) = some (r1, r2, r3) := H
    have A4 := Aside0.mk A40
    clear A40
    rcases t109 with _ | q110
    · have H1 : ((strings_HasPrefix.f a0 (⟨#[47]⟩ : ByteArray)).bind fun t111 => (some (t106, t111, none))) = some (r1, r2, r3) := by rw [if_pos (show (none : Option Int).isNone = true by rfl)] at H; exact H
      clear H
      have H := H1
      clear H1
      try simp only [errW_none, errW_some]
      replace H := Option.bind_eq_some_iff.mp H
      obtain ⟨t111, A50, H⟩ := H
      replace H : (some (t106, t111, none)) = some (r1, r2, r3) := H
      have A5 := Aside0.mk A50
      clear A50
      simp only [Option.some.injEq, Prod.mk.injEq] at H
      obtain ⟨rfl, rfl, rfl⟩ := H
      go_enter Tryz.func170, Tryz.ntmps170
      go_wp2_with (first | ((with_reducible refine gate_callee (f := 193) rfl ?_); refine goesL_ (some 11) rfl rfl Tryz.func193 (by kernel_rfl) rfl #[.string a0] rfl (by (try simp only [List.map_toArray, List.map_cons, List.map_nil]); first | done | rfl | (simp only [List.length_drop, List.length_take]; rfl)) ?_; (with_reducible refine (Hand.path_parts.calls a0 t106 _ A3.out).mono ?_); rintro e w6 ⟨v107, rfl, ho0, hb⟩; refine ⟨_, rfl, ?_⟩; have n0_ := Aside0.mk (Kd.R_lower ho0 (below_size (by repeat (first | (with_reducible first | exact HB.out | apply below_alloc | apply pw_below_drewN | apply below_drew1) | exact HB.out)))); have n1_ := Aside0.mk (below_step (by repeat (first | (with_reducible first | exact HB.out | apply below_alloc | apply pw_below_drewN | apply below_drew1) | exact HB.out)) hb); clear HB; have HO108 := n0_; have HB := n1_; clear n0_ n1_; (try clear hb); (try clear hb2); (try clear hk); (try clear hi); (try clear ho0); obtain ⟨Ao7, co7, eo7⟩ := Kd.R_slice HO108.out; subst eo7) | ((with_reducible refine gate_callee (f := 194) rfl ?_); refine goesL_ (some 13) rfl rfl Tryz.func194 (by kernel_rfl) rfl #[.slice Ao7 t106.length co7] rfl (by (try simp only [List.map_toArray, List.map_cons, List.map_nil]); first | done | rfl | (simp only [List.length_drop, List.length_take]; rfl)) ?_; (with_reducible refine (path_check.calls k _ _ t106 none _ ?side1 ?side2 A4.out).mono ?_); (case side1 => repeat (first | exact (Kd.R_reads' HO108.out).2.2 | (with_reducible refine Kd.C_alloc ?_ _) | (with_reducible refine Kd.C_drewN ?_ _) | (with_reducible refine Kd.C_drew ?_))); (case side2 => exact (Kd.R_reads' HO108.out).2.1); rintro e w8 ⟨rfl, hb⟩; refine ⟨_, rfl, ?_⟩; have n0_ := Aside0.mk (Kd.R_below (by (with_reducible repeat (first | apply Kd.R_alloc | apply Kd.R_drewN | apply Kd.R_drew)); exact HO108.out) hb); have n1_ := Aside0.mk (below_step (by repeat (first | (with_reducible first | exact HB.out | apply below_alloc | apply pw_below_drewN | apply below_drew1) | exact HB.out)) hb); clear HO108; clear HB; have HO108 := n0_; have HB := n1_; clear n0_ n1_; (try clear hb); (try clear hb2); (try clear hk); (try clear hi); (try simp only [errW_none, errW_some])) | ((with_reducible refine gate_callee (f := 195) rfl ?_); refine goesL_ (some 19) rfl rfl Tryz.func195 (by kernel_rfl) rfl #[.string a0, .string (⟨#[47]⟩ : ByteArray)] rfl (by (try simp only [List.map_toArray, List.map_cons, List.map_nil]); first | done | rfl | (simp only [List.length_drop, List.length_take]; rfl)) ?_; (with_reducible refine (strings_HasPrefix.calls a0 (⟨#[47]⟩ : ByteArray) t111 _ A5.out).mono ?_); rintro e w' ⟨rfl, ⟨nd, rfl⟩⟩; refine ⟨_, rfl, ?_⟩))
      go_ret3
      exact ⟨_, by first | rfl | (simp [errW_none, errW_some] <;> rfl) | (simp [*, errW_none, errW_some] <;> rfl), by (with_reducible repeat (first | apply Kd.R_alloc | apply Kd.R_drewN | apply Kd.R_drew)); exact HO108.out, by repeat (first | (with_reducible first | exact HB.out | apply below_alloc | apply pw_below_drewN | apply below_drew1) | exact HB.out)⟩
    · have H1 : (some (([] : List ByteArray), false, some q110)) = some (r1, r2, r3) := by rw [if_neg (show ¬ (some q110).isNone = true by simp)] at H; exact H
      clear H
      have H := H1
      clear H1
      try simp only [errW_none, errW_some]
      simp only [Option.some.injEq, Prod.mk.injEq] at H
      obtain ⟨rfl, rfl, rfl⟩ := H
      go_enter Tryz.func170, Tryz.ntmps170
      go_wp2_with (first | ((with_reducible refine gate_callee (f := 193) rfl ?_); refine goesL_ (some 11) rfl rfl Tryz.func193 (by kernel_rfl) rfl #[.string a0] rfl (by (try simp only [List.map_toArray, List.map_cons, List.map_nil]); first | done | rfl | (simp only [List.length_drop, List.length_take]; rfl)) ?_; (with_reducible refine (Hand.path_parts.calls a0 t106 _ A3.out).mono ?_); rintro e w9 ⟨v107, rfl, ho0, hb⟩; refine ⟨_, rfl, ?_⟩; have n0_ := Aside0.mk (Kd.R_lower ho0 (below_size (by repeat (first | (with_reducible first | exact HB.out | apply below_alloc | apply pw_below_drewN | apply below_drew1) | exact HB.out)))); have n1_ := Aside0.mk (below_step (by repeat (first | (with_reducible first | exact HB.out | apply below_alloc | apply pw_below_drewN | apply below_drew1) | exact HB.out)) hb); clear HB; have HO108 := n0_; have HB := n1_; clear n0_ n1_; (try clear hb); (try clear hb2); (try clear hk); (try clear hi); (try clear ho0); obtain ⟨Ao10, co10, eo10⟩ := Kd.R_slice HO108.out; subst eo10) | ((with_reducible refine gate_callee (f := 194) rfl ?_); refine goesL_ (some 13) rfl rfl Tryz.func194 (by kernel_rfl) rfl #[.slice Ao10 t106.length co10] rfl (by (try simp only [List.map_toArray, List.map_cons, List.map_nil]); first | done | rfl | (simp only [List.length_drop, List.length_take]; rfl)) ?_; (with_reducible refine (path_check.calls k _ _ t106 (some q110) _ ?side1 ?side2 A4.out).mono ?_); (case side1 => repeat (first | exact (Kd.R_reads' HO108.out).2.2 | (with_reducible refine Kd.C_alloc ?_ _) | (with_reducible refine Kd.C_drewN ?_ _) | (with_reducible refine Kd.C_drew ?_))); (case side2 => exact (Kd.R_reads' HO108.out).2.1); rintro e w11 ⟨rfl, hb⟩; refine ⟨_, rfl, ?_⟩; have n0_ := Aside0.mk (Kd.R_below (by (with_reducible repeat (first | apply Kd.R_alloc | apply Kd.R_drewN | apply Kd.R_drew)); exact HO108.out) hb); have n1_ := Aside0.mk (below_step (by repeat (first | (with_reducible first | exact HB.out | apply below_alloc | apply pw_below_drewN | apply below_drew1) | exact HB.out)) hb); clear HO108; clear HB; have HO108 := n0_; have HB := n1_; clear n0_ n1_; (try clear hb); (try clear hb2); (try clear hk); (try clear hi); (try simp only [errW_none, errW_some])))
      go_ret3
      exact ⟨_, by first | rfl | (simp [errW_none, errW_some] <;> rfl) | (simp [*, errW_none, errW_some] <;> rfl), by first | exact Kd.R_nil _ _ _ _ _ | exact Kd.N_nil _ _ _ _ _ | exact Kd.V_nil _ _ _ _ _ | exact Kd.Q_nil _ _ _ _ _ | exact Kd.S_nil _ _ _ _ _, by repeat (first | (with_reducible first | exact HB.out | apply below_alloc | apply pw_below_drewN | apply below_drew1) | exact HB.out)⟩
end Go.Proofs.YtinleajhckcapaaGreatDoor.P
namespace Go.Proofs.YtinleajhckcapaaGreatDoor.Hand
open Go Go.RowKit Go.Proofs.YtinleajhckcapaaGreatDoorW.PrintWords Go.Proofs.YtinleajhckcapaaGreatDoorW.PrintLast
def errOf (l : Bs) : Option Int := if l = [] then some 2 else if 16 < l.length then some 36 else if l.all (fineL.contains ·) then none else some 22
def firstErr (l : List ByteArray) : Option Int := if 8 < l.length then some 90 else l.findSome? fun x => errOf x.data.toList
theorem trim_nil (l cs : Bs) : Lib.trimLeftS l cs = [] ↔ l.all (cs.contains ·) = true := by
  unfold Lib.trimLeftS
  induction l with
  | nil => simp
  | cons x l ih =>
    rw [List.dropWhile_cons, List.all_cons]
    by_cases h : cs.contains x = true
    · rw [if_pos h, ih, h]; simp
    · have h' : cs.contains x = false := by simpa using h
      rw [if_neg h, h']; simp
theorem fine_ascii : (mkB fineL).data.toList.all (fun b => decide (b.toNat < 128)) = true := by decide
theorem path_Check_eq (a0 : ByteArray) : P.path_Check.f a0 = some (errOf a0.data.toList) := by
  unfold P.path_Check.f errOf
  rw [Lib.toList_data]
  by_cases h : a0.data.toList = []
  · rw [if_pos h, if_pos h]
  · rw [if_neg h, if_neg h, data_length]
    by_cases h16 : 16 < a0.size
    · rw [if_pos (by omega), if_pos h16]
    · rw [if_neg (by omega), if_neg h16]
      have e : strings_TrimLeft.f a0 (mkB fineL) = some ⟨(Lib.trimLeftS a0.data.toList fineL).toArray⟩ := by
        unfold strings_TrimLeft.f
        rw [if_pos ⟨by decide, fine_ascii⟩]
        rfl
      have e' : strings_TrimLeft.f a0 (⟨#[97, 98, 99, 100, 101, 102, 103, 104, 105, 106, 107, 108, 109, 110, 111, 112, 113, 114, 115, 116, 117, 118, 119, 120, 121, 122, 48, 49, 50, 51, 52, 53, 54, 55, 56, 57, 46, 95, 45]⟩ : ByteArray) = some ⟨(Lib.trimLeftS a0.data.toList fineL).toArray⟩ := e
      rw [e', Option.bind_some]
      by_cases ha : a0.data.toList.all (fineL.contains ·) = true
      · rw [if_pos ha, if_pos (by rw [Lib.toList_data]; exact (trim_nil _ _).2 ha)]
      · rw [if_neg ha, if_neg (by rw [Lib.toList_data]; exact fun z => ha ((trim_nil _ _).1 z))]
theorem wrap_succ {i : Int} {n : Nat} (h0 : 0 ≤ i) (h : i < (n : Int)) (hn : n ≤ 140737488355328) : wrap64 (i + 1) = i + 1 := by
  unfold wrap64
  omega
theorem rdOf_at (l : List ByteArray) (j : Nat) (h : j < l.length) : rdOf ByteArray.empty l (j : Int) = l[j] := by
  simp [rdOf, List.getD_eq_getElem?_getD, List.getElem?_eq_getElem h]
theorem check_loop (l : List ByteArray) (hl : l.length ≤ 140737488355328) : ∀ (d j k : Nat), l.length - j = d → j ≤ l.length → d < k →
    P.path_check.l0 k l (l.length : Int) (j : Int) = some ((l.drop j).findSome? fun x => errOf x.data.toList) := by
  intro d
  induction d with
  | zero =>
    intro j k hd hj hk
    obtain ⟨k, rfl⟩ : ∃ m, k = m + 1 := ⟨k - 1, by omega⟩
    simp only [P.path_check.l0]
    rw [if_neg (by omega), List.drop_of_length_le (by omega)]
    rfl
  | succ d ih =>
    intro j k hd hj hk
    obtain ⟨k, rfl⟩ : ∃ m, k = m + 1 := ⟨k - 1, by omega⟩
    have hlt : j < l.length := by omega
    simp only [P.path_check.l0]
    rw [if_pos (by omega), if_pos (by omega), if_pos (by omega), path_Check_eq, Option.bind_some, rdOf_at l j hlt, List.drop_eq_getElem_cons hlt, List.findSome?_cons]
    cases he : errOf l[j].data.toList with
    | none =>
      rw [if_pos (show (none : Option Int).isNone = true from rfl), wrap_succ (n := l.length) (by omega) (by omega) hl]
      exact ih (j + 1) k (by omega) (by omega) (by omega)
    | some e => rfl
theorem check_ex (l : List ByteArray) (hl : l.length ≤ 140737488355328) : ∃ k, P.path_check.f k l = some (firstErr l) := by
  refine ⟨l.length + 1, ?_⟩
  unfold P.path_check.f firstErr
  by_cases h : 8 < l.length
  · rw [if_pos (by omega), if_pos h]
  · rw [if_neg (by omega), if_neg h]
    exact check_loop l hl l.length 0 _ (by omega) (by omega) (by omega)
def splitP (l : Bs) : List ByteArray × Bool × Option Int :=
  if l = [] then ([], false, some 2) else match firstErr ((parts l).map mkB) with
    | none => ((parts l).map mkB, decide (l.head? = some 47), none)
    | some e => ([], false, some e)
theorem prefix_eq (s : ByteArray) : P.strings_HasPrefix.f s (⟨#[47]⟩ : ByteArray) = some (decide (s.data.toList.head? = some 47)) := by
  unfold P.strings_HasPrefix.f P.stringslite_HasPrefix.f
  have hz : ((⟨#[47]⟩ : ByteArray).size : Int) = 1 := rfl
  have hd := data_length s
  rw [hz]
  cases hl : s.data.toList with
  | nil =>
    rw [hl] at hd
    simp at hd
    rw [if_neg (by omega)]
    rfl
  | cons x l =>
    rw [hl] at hd
    simp at hd
    rw [if_pos (by omega), if_pos (by omega), if_pos (by omega)]
    simp only [Option.bind_some, List.head?_cons, Option.some.injEq]
    congr 1
    rw [show (1 : Int).toNat = 1 from rfl, Lib.toList_data, extract_take, hl]
    show ((([x] : Bs).toArray.toList) == _) = _
    rw [Lib.toList_data]
    show (([x] : Bs) == [47]) = _
    by_cases h : x = 47 <;> simp [h]
theorem split_ex (s : ByteArray) (hs : s.size ≤ 1000000) : ∃ k, P.path_Split.f k s = some (splitP s.data.toList) := by
  have hpl : ((parts s.data.toList).map mkB).length ≤ 1000001 := by
    rw [List.length_map]
    have h1 : (parts s.data.toList).length ≤ (pieces 47 s.data.toList).length := List.length_filter_le _ _
    have h2 := pieces_length 47 s.data.toList
    rw [data_length] at h2
    omega
  obtain ⟨k, hk⟩ := check_ex ((parts s.data.toList).map mkB) (by omega)
  refine ⟨k, ?_⟩
  unfold P.path_Split.f splitP
  rw [Lib.toList_data]
  by_cases h : s.data.toList = []
  · rw [if_pos h, if_pos h]
  · rw [if_neg h, if_neg h]
    have e : path_parts.f s = some ((parts s.data.toList).map mkB) := by unfold path_parts.f; rw [if_pos hs]
    rw [e, Option.bind_some, hk, Option.bind_some]
    cases he : firstErr ((parts s.data.toList).map mkB) with
    | none => rw [if_pos (show (none : Option Int).isNone = true from rfl), prefix_eq]; rfl
    | some e => rfl
end Go.Proofs.YtinleajhckcapaaGreatDoor.Hand
namespace Go.Proofs.YtinleajhckcapaaGreatDoor.Hand
open Go.RowKit Go.Proofs.YtinleajhckcapaaGreatDoorW.PrintWords
def visB (c : UInt8) : Bool := decide (32 < c.toNat ∧ c.toNat < 127 ∧ c.toNat ≠ 37)
theorem nameB_eq (l : Bs) : nameB l = (l.all visB && decide (l ≠ [] ∧ l.length ≤ 32)) := rfl
theorem byte_at (s : ByteArray) (k : Nat) (hk : k < s.size) : rd (bytesOf s) (k : Int) = ((s.data.toList.getD k 0).toNat : Int) := by
  have h' : k < s.data.toList.length := by rw [data_length]; exact hk
  simp [rd, bytesOf, List.getD_eq_getElem?_getD, List.getElem?_eq_getElem h']
theorem all_take_succ (p : UInt8 → Bool) (l : Bs) (k : Nat) (hk : k < l.length) : (l.take (k + 1)).all p = ((l.take k).all p && p (l.getD k 0)) := by
  rw [List.take_succ_eq_append_getElem hk, List.all_append]
  simp [List.getD_eq_getElem?_getD, List.getElem?_eq_getElem hk]
theorem all_false_of (p : UInt8 → Bool) (l : Bs) (k : Nat) (hk : k < l.length) (h : p (l.getD k 0) = false) : l.all p = false := by
  cases hc : l.all p with
  | false => rfl
  | true =>
    have := List.all_eq_true.1 hc (l[k]) (List.getElem_mem hk)
    simp [List.getD_eq_getElem?_getD, List.getElem?_eq_getElem hk] at h
    rw [h] at this
    cases this
theorem ret_bool {a b : Bool} (h : a = b) : Ending.returned (.bool a) = .returned (.bool b) := by rw [h]
set_option maxHeartbeats 800000 in
set_option maxRecDepth 100000 in
theorem name_walk (s : ByteArray) (w : World) (hs : s.size ≤ 1000000) : Calls Tryz.prog 138 #[.string s] w fun e w' => e = .returned (.bool (nameB s.data.toList)) ∧ Below w.heap.size w w' := by
  have kb := fun W => print_bytes (P := Tryz.prog) 9 38 5 Tryz.underlying9 Tryz.underlying38 Tryz.underlying5 s W
  go_enter Tryz.func138, Tryz.ntmps138
  go_wp2
  have hrd := bytes_reads w 5 s (by omega)
  have HB := Aside0.mk (bytes_below (Below.refl w.heap.size w) (Nat.le_refl _) 5 s)
  have HR := Aside0.mk hrd
  clear hrd kb
  go_loop [8, 4] (fun i c => ∃ k : Nat, k ≤ s.size ∧ i = .int .i64 k ∧ Aside0 ((s.data.toList.take k).all visB = true)) (fun i c => s.size - (intOf i).toNat)
  case atStart => exact ⟨0, Nat.zero_le _, rfl, ⟨by simp⟩⟩
  case round =>
    obtain ⟨k, hk, rfl, HA⟩ := hrel
    by_cases hlt : k < s.size
    · obtain ⟨ad, e0, hcell⟩ := HR.out.at_ (k : Int) (by omega) (by omega)
      cases e0
      rw [byte_at s k hlt, add_plain, Int.toNat_natCast] at hcell
      have hkl : k < s.data.toList.length := by rw [data_length]; exact hlt
      have HS := Aside0.mk (all_take_succ visB s.data.toList k hkl)
      have HF := Aside0.mk (all_false_of visB s.data.toList k hkl)
      generalize s.data.toList.getD k 0 = c at hcell HS HF
      have hc0 : (0 : Int) ≤ (c.toNat : Int) := by omega
      have hc1 : (c.toNat : Int) ≤ 255 := by have := c.toNat_lt; omega
      go_wp2
      · go_ret
        have h37 : (c.toNat : Int) = 37 := by
          have h := ‹(((c.toNat : Int) ≤ 32 ∨ 127 ≤ (c.toNat : Int)) ∨ ((c.toNat : Int) == _) = true)›
          rcases h with (h | h) | h
          · omega
          · omega
          · exact eq_of_beq h
        exact ⟨ret_bool (by rw [nameB_eq, HF.out (by unfold visB; exact decide_eq_false (by omega)), Bool.false_and]), HB.out⟩
      · have h37 : ¬ (c.toNat : Int) = 37 := fun z => by
          have : ((c.toNat : Int) == 37) = false := And.right (by assumption)
          rw [z] at this
          cases this
        go_round
        case rel => exact ⟨k + 1, by omega, by go_num, ⟨by rw [HS.out, HA.out]; exact decide_eq_true (by omega)⟩⟩
        case measure => simp [intOf]; omega
      · go_ret
        exact ⟨ret_bool (by rw [nameB_eq, HF.out (by unfold visB; exact decide_eq_false (by omega)), Bool.false_and]), HB.out⟩
      · go_ret
        exact ⟨ret_bool (by rw [nameB_eq, HF.out (by unfold visB; exact decide_eq_false (by omega)), Bool.false_and]), HB.out⟩
    · have hk' : k = s.size := by omega
      have hall : s.data.toList.all visB = true := by have := HA.out; rwa [List.take_of_length_le (by rw [data_length]; omega)] at this
      have HN := Aside0.mk (show nameB s.data.toList = decide (s.data.toList ≠ [] ∧ s.data.toList.length ≤ 32) by rw [nameB_eq, hall, Bool.true_and])
      clear hall hk'
      go_wp2
      · have h0 : s.toList = [] := by assumption
        rw [Lib.toList_data] at h0
        go_ret
        exact ⟨ret_bool (by rw [HN.out]; simp [h0]), HB.out⟩
      · have h1 : ¬ s.toList = [] := by assumption
        have h0 := h1
        rw [Lib.toList_data] at h0
        go_ret
        exact ⟨ret_bool (by rw [HN.out, data_length, Bool.eq_iff_iff]; simp [h0, h1]; try omega), HB.out⟩
theorem script_name.calls (a0 : ByteArray) (r : Bool) (w : World) (h : script_name.f a0 = some r) : Calls Tryz.prog 138 #[.string a0] w fun e w' => e = .returned (.bool r) ∧ Below w.heap.size w w' := by
  unfold script_name.f at h
  split at h
  · rename_i hs
    obtain rfl := Option.some.inj h
    exact name_walk a0 w hs
  · cases h
end Go.Proofs.YtinleajhckcapaaGreatDoor.Hand
namespace Go.Proofs.YtinleajhckcapaaGreatDoor.Hand
open Go Go.RowKit Go.Shelf Go.Proofs.YtinleajhckcapaaGreatDoorW.PrintWords
attribute [local go_sem] Oper.semAt_some
def pairAt (l : Bs) (j : Nat) : Int := ((16 * hexv (l.getD (2 * j) 0) + hexv (l.getD (2 * j + 1) 0) : Nat) : Int)
theorem pairsOf_eq : ∀ l : Bs, pairsOf l = (List.range (l.length / 2)).map (pairAt l)
  | [] => rfl
  | [_] => by simp [pairsOf]
  | a :: b :: r => by
    have ih := pairsOf_eq r
    have e : (a :: b :: r).length / 2 = r.length / 2 + 1 := by simp only [List.length_cons]; omega
    rw [e, List.range_succ_eq_map, List.map_cons, List.map_map]
    unfold pairsOf
    rw [ih]
    congr 1
theorem hexa_facts (c : UInt8) (h : hexaL.contains c = true) : Lib.indexByte hexaL c = (hexv c : Int) ∧ hexv c < 16 := by
  have h1 : hexaL.all (fun c => decide (Lib.indexByte hexaL c = (hexv c : Int) ∧ hexv c < 16)) = true := by decide
  exact of_decide_eq_true (List.all_eq_true.1 h1 c (by simpa using h))
theorem all_getD {p : UInt8 → Bool} {l : Bs} {k : Nat} (h : l.all p = true) (hk : k < l.length) : p (l.getD k 0) = true := by
  rw [List.getD_eq_getElem?_getD, List.getElem?_eq_getElem hk]
  exact List.all_eq_true.1 h _ (List.getElem_mem hk)
theorem range_prefix {pre : List Nat} {x m : Nat} (h : pre ++ [x] <+: List.range m) : x < m ∧ pre = List.range x ∧ pre.length = x := by
  have hl := h.length_le
  simp only [List.length_append, List.length_cons, List.length_nil, List.length_range] at hl
  have h1 : pre ++ [x] = List.range (pre.length + 1) := by
    have := List.prefix_iff_eq_take.1 h
    rw [List.length_append, List.length_cons, List.length_nil, List.take_range] at this
    rw [this]
    congr 1
    omega
  rw [List.range_succ] at h1
  have h2 := List.append_inj' h1 rfl
  have h3 : x = pre.length := by simpa using h2.2
  exact ⟨by omega, by rw [h3]; exact h2.1, h3.symm⟩
set_option maxHeartbeats 1000000 in
theorem chunk_calls (g n c : Nat) (w : World) : Calls Tryz.prog 49 #[.slice (some ⟨g, 0, none⟩) n c, .int .i64 2] w fun e w' =>
    e = .returned (.func (.func 102) #[] #[.pointer (some ⟨w.heap.size, 0, none⟩), .pointer (some ⟨w.heap.size + 1, 0, none⟩)]) ∧
    w' = (w.alloc (.cells #[.slice (some ⟨g, 0, none⟩) n c] 38)).alloc (.cells #[.int .i64 2] 3) := by
  go_enter Tryz.func49, Tryz.ntmps49
  go_wp2
  go_ret
  exact ⟨rfl, rfl⟩
set_option maxHeartbeats 1000000 in
set_option maxRecDepth 100000 in
theorem bytes_bad (s : ByteArray) (w : World) (hs : s.size ≤ 1000000) (hd : s.data.toList ≠ [45]) (hb : bytesB s.data.toList = false) : Calls Tryz.prog 14 #[.string s] w fun e w' => e = .returned (.tuple #[.slice none 0 0, P.errW (some 337)]) ∧ Below w.heap.size w w' := by
  have e : strings_TrimLeft.f s (⟨#[48, 49, 50, 51, 52, 53, 54, 55, 56, 57, 97, 98, 99, 100, 101, 102]⟩ : ByteArray) = some ⟨(Lib.trimLeftS s.data.toList hexaL).toArray⟩ := rfl
  have HC := Lib.hid (fun W => strings_TrimLeft.calls s _ _ W e)
  have h0 : (s.toList == [45]) = false := by rw [Lib.toList_data]; simpa using hd
  by_cases ha : s.toList = []
  · clear hd hb e HC
    go_enter Tryz.func14, Tryz.ntmps14
    go_wp2
    go_ret2
    exact ⟨rfl, Below.refl _ _⟩
  · have he : s.toList.isEmpty = false := by simpa using ha
    by_cases hm : s.size % 2 = 0
    · by_cases hl : s.size ≤ 1024
      · have hk : (Lib.trimLeftS s.data.toList hexaL).isEmpty = false := by
          cases hk : (Lib.trimLeftS s.data.toList hexaL).isEmpty with
          | false => rfl
          | true =>
            have h1 := (trim_nil s.data.toList hexaL).1 (List.isEmpty_iff.1 hk)
            unfold bytesB at hb
            rw [Lib.toList_data] at ha
            rw [h1, data_length] at hb
            simp [ha, hm, hl] at hb
        clear hd hb e
        go_enter Tryz.func14, Tryz.ntmps14
        go_wp2_with (go_at_call 48; refine (HC.out _).mono ?_; rintro e w1 ⟨rfl, hb1⟩)
        go_ret2
        exact ⟨rfl, hb1⟩
      · clear hd hb e HC
        go_enter Tryz.func14, Tryz.ntmps14
        go_wp2
        go_ret2
        exact ⟨rfl, Below.refl _ _⟩
    · clear hd hb e HC
      go_enter Tryz.func14, Tryz.ntmps14
      go_wp2
      go_ret2
      exact ⟨rfl, Below.refl _ _⟩
set_option maxHeartbeats 1000000 in
set_option maxRecDepth 100000 in
theorem bytes_dash (s : ByteArray) (w : World) (hd : s.data.toList = [45]) : Calls Tryz.prog 14 #[.string s] w fun e w' => e = .returned (.tuple #[.slice none 0 0, .nilIface]) ∧ Below w.heap.size w w' := by
  have h0 : (s.toList == [45]) = true := by rw [Lib.toList_data, hd]; rfl
  clear hd
  go_enter Tryz.func14, Tryz.ntmps14
  go_wp2
  go_ret2
  exact ⟨rfl, Below.refl _ _⟩
structure BytesInv (w : World) (N B G g m : Nat) (X : Obj) (l : Bs) (pre : List Nat) (W : World) : Prop where
  box : Boxed W B 38 (.slice (some ⟨G, 0, none⟩) pre.length m)
  row : W.ownsRow w.heap.size 5 1 (.slice (some ⟨G, 0, none⟩) pre.length m) pre.length (pre.map fun j => .int .u8 (pairAt l j))
  bytes : W.heap[g]? = some X
  below : Below w.heap.size w W
  size : N ≤ W.heap.size
theorem BytesInv.turn {w : World} {N B G g m b : Nat} {X : Obj} {l : Bs} {pre : List Nat} {Y Z : World} (h : BytesInv w N B G g m X l pre Y) (hX : X.isCells = true) (hT : Turn N b Y Z) (hbB : b ≠ B) (hbG : b ≠ G) (hbg : b ≠ g) (hwb : w.heap.size ≤ b) (hwN : w.heap.size ≤ N) : BytesInv w N B G g m X l pre Z := by
  obtain ⟨hv, hr, hg, hB, hs⟩ := h
  refine ⟨?_, ?_, ?_, ?_, Nat.le_trans hs hT.size⟩
  · exact (hT.same B hv.lt (Ne.symm hbB) (.inr ⟨_, hv, rfl⟩)).trans hv
  · obtain ⟨h1, h2⟩ := hr
    refine ⟨h1, ?_⟩
    rcases h2 with h2 | ⟨g', cap, cur, e, hg', hh, r⟩
    · exact .inl h2
    · have : G = g' := by injection e with e1; injection e1 with e2; injection e2
      subst this
      exact .inr ⟨_, cap, cur, e, hg', (hT.same _ (Array.getElem?_eq_some_iff.1 hh).1 (Ne.symm hbG) (.inr ⟨_, hh, rfl⟩)).trans hh, r⟩
  · exact (hT.same g (Array.getElem?_eq_some_iff.1 hg).1 (Ne.symm hbg) (.inr ⟨_, hg, hX⟩)).trans hg
  · exact ⟨hT.os.trans hB.os, hT.tape.trans hB.tape, hT.output.trans hB.output, Nat.le_trans hB.size hT.size, fun k hk => (hT.same k (Nat.lt_of_lt_of_le hk hB.size) (by omega) (.inl (by omega))).trans (hB.block k hk)⟩
theorem cell_same {W V : World} {g : Nat} (h : W.heap[g]? = V.heap[g]?) (j : Nat) : W.cell? ⟨g, j, none⟩ = V.cell? ⟨g, j, none⟩ := by
  simp only [World.cell?, h]
theorem own_drew {w : World} {base : Nat} {e : TypeId} {size n : Nat} {v : Value} {xs : List Value} (h : w.ownsRow base e size v n xs) : w.drew.ownsRow base e size v n xs := h
theorem cell_one_new' (W : World) (v : Value) (t : TypeId) : (W.alloc (.cells #[v] t)).drew.cell? ⟨W.heap.size, 0, none⟩ = some v := by
  have h : (W.alloc (.cells #[v] t)).drew.heap[W.heap.size]? = some (.cells #[v] t (0, 0)) := World.alloc_heap_new W _
  rw [cell_of_row _ _ 0 #[v] t (0, 0) h]; rfl
theorem nib_shl (p : Nat) (h : p < 16) : IntKind.i64.wrap ((p : Int) * 16) = 16 * (p : Int) := by
  have : ∀ p : Fin 16, IntKind.i64.wrap ((p.val : Int) * 16) = 16 * (p.val : Int) := by decide +kernel
  exact this ⟨p, h⟩
theorem nib_or (p q : Nat) (h : p < 16) (k : q < 16) : bits .or .i64 (16 * (p : Int)) (q : Int) = 16 * (p : Int) + (q : Int) := by
  have : ∀ p q : Fin 16, bits .or .i64 (16 * (p.val : Int)) (q.val : Int) = 16 * (p.val : Int) + (q.val : Int) := by decide +kernel
  exact this ⟨p, h⟩ ⟨q, k⟩
theorem nib_wrap (p q : Nat) (h : p < 16) (k : q < 16) : IntKind.u8.wrap (16 * (p : Int) + (q : Int)) = 16 * (p : Int) + (q : Int) := by
  have : ∀ p q : Fin 16, IntKind.u8.wrap (16 * (p.val : Int) + (q.val : Int)) = 16 * (p.val : Int) + (q.val : Int) := by decide +kernel
  exact this ⟨p, h⟩ ⟨q, k⟩
theorem index_hexa (c : UInt8) (h : hexaL.contains c = true) (W : World) : Calls Tryz.prog 50 #[.string (⟨#[48, 49, 50, 51, 52, 53, 54, 55, 56, 57, 97, 98, 99, 100, 101, 102]⟩ : ByteArray), .int .u8 (c.toNat : Int)] W fun e w' => e = .returned (.int .i64 (hexv c : Int)) ∧ w' = W := by
  refine (Tryz.strings_IndexByte _ _ W).mono ?_
  rintro e w' ⟨rfl, rfl⟩
  refine ⟨?_, rfl⟩
  have h1 : ((c.toNat : Int).toNat).toUInt8 = c := by simp
  rw [h1]
  exact congrArg _ (congrArg _ (hexa_facts c h).1)
set_option maxRecDepth 100000 in
set_option maxHeartbeats 2000000 in
theorem bytes_in (s : ByteArray) (m : Nat) (hs : s.size = 2 * m) (hm : m ≤ 512) (h1m : 1 ≤ m) (hx : s.data.toList.all (hexaL.contains ·) = true) (w : World) : CallsIn Fence.wide 1 Tryz.prog 14 #[.string s] w fun e w' => ∃ v, e = .returned (.tuple #[v, .nilIface]) ∧ w'.ownsRow w.heap.size 5 1 v m ((pairsOf s.data.toList).map (Value.int .u8 ·)) ∧ Below w.heap.size w w' := by
  obtain ⟨i0, hi, hz0, hz1, hz2⟩ := info_parts P.info5
  have e : strings_TrimLeft.f s (⟨#[48, 49, 50, 51, 52, 53, 54, 55, 56, 57, 97, 98, 99, 100, 101, 102]⟩ : ByteArray) = some ⟨(Lib.trimLeftS s.data.toList hexaL).toArray⟩ := rfl
  have HC := Lib.hid (fun W => strings_TrimLeft.calls s _ _ W e)
  have hk : (Lib.trimLeftS s.data.toList hexaL).isEmpty = true := List.isEmpty_iff.2 ((trim_nil s.data.toList hexaL).2 hx)
  have h0 : (s.toList == [45]) = false := by
    cases h : (s.toList == [45]) with
    | false => rfl
    | true =>
      have h2 := eq_of_beq h
      rw [Lib.toList_data] at h2
      have h3 := data_length s
      rw [h2] at h3
      simp at h3
      omega
  have he : s.toList.isEmpty = false := by
    cases h : s.toList.isEmpty with
    | false => rfl
    | true =>
      have h2 := List.isEmpty_iff.1 h
      rw [Lib.toList_data] at h2
      have h3 := data_length s
      rw [h2] at h3
      simp at h3
      omega
  have hmod : s.size % 2 = 0 := by omega
  have hl : s.size ≤ 1024 := by omega
  have hdiv : (s.size : Int) / 2 = (m : Int) := by omega
  have kb := fun W => print_bytes (P := Tryz.prog) 9 38 5 Tryz.underlying9 Tryz.underlying38 Tryz.underlying5 s W
  refine callsIn_of_wp_marks Tryz.func14 rfl trivial ?_ rfl
  simp only [Tryz.ntmps14, List.size_toArray, List.length_cons, List.length_nil, Nat.reduceAdd, Nat.reduceSub, Array.replicate_succ, Array.replicate_zero, List.push_toArray, List.append_toArray, List.nil_append, List.cons_append]
  gi_wp2_with (first
    | (refine ⟨trivial, ?_⟩; refine (callsIn_wide.2 (HC.out _)).mono ?_; rintro e w1 ⟨rfl, hb1⟩)
    | (gi_at_make; refine wpListIn_make_own _ rfl _ _ 38 rfl w.heap.size 5 i0 _ 1 Tryz.underlying38 hi hz0 hz1 .i64 .i64 _ m rfl rfl rfl (by rw [hz2]; omega) (by unfold maxLen; omega) hb1.size ?_; intro w2 hown hgrow)
    | (refine ⟨trivial, ?_⟩; refine (callsIn_wide.2 (chunk_calls _ _ _ _)).mono ?_; rintro e w3 ⟨rfl, rfl⟩))
  clear kb hk h0 he hmod hdiv
  have hG : w1.heap.size < w2.heap.size := own_lt hown w1.heap.size (by simp [Value.ownBlock])
  have bB := Boxed.new w2 38 (.slice (some ⟨w1.heap.size, 0, none⟩) 0 m)
  have hr0 := hown.alloc (.cells #[.slice (some ⟨w1.heap.size, 0, none⟩) 0 m] 38)
  have hB0 : Below w.heap.size w (w2.alloc (.cells #[.slice (some ⟨w1.heap.size, 0, none⟩) 0 m] 38)) :=
    below_alloc (hb1.trans ⟨hgrow.os, hgrow.tape, hgrow.output, hgrow.size, fun k hk => hgrow.block k (Nat.lt_of_lt_of_le hk hb1.size) (by simp)⟩) _
  have hs0 : (w2.alloc (.cells #[.slice (some ⟨w1.heap.size, 0, none⟩) 0 m] 38)).heap.size = w2.heap.size + 1 := by simp
  have hw1 := hb1.size
  generalize w2.alloc (.cells #[.slice (some ⟨w1.heap.size, 0, none⟩) 0 m] 38) = w3 at *
  clear hgrow hown
  have hcap : 2 * m ≤ grownCap w3 (2 * m) 0 5 := grownCap_ge _ _ _ _
  have hcap2 : grownCap w3 (2 * m) 0 5 ≤ 9223372036854775807 := grownCap_le_maxLen _ _ _ _ (by unfold maxLen; omega)
  generalize grownCap w3 (2 * m) 0 5 = c at *
  have hsz : (Lib.bytesWorld w3 5 s).heap.size = w2.heap.size + 2 := by rw [Lib.bytesWorld_size, hs0]
  have b1 := Boxed.new (Lib.bytesWorld w3 5 s) 38 (.slice (some ⟨w2.heap.size + 1, 0, none⟩) (2 * m) c)
  have b2 := Boxed.new ((Lib.bytesWorld w3 5 s).alloc (.cells #[.slice (some ⟨w2.heap.size + 1, 0, none⟩) (2 * m) c] 38)) 3 (.int .i64 2)
  have b1' := b1.alloc (.cells #[.int .i64 2] 3)
  clear b1
  have hgw : (World.grownBy w3 (((Lib.bytesWorld w3 5 s).alloc (.cells #[.slice (some ⟨w2.heap.size + 1, 0, none⟩) (2 * m) c] 38)).alloc (.cells #[.int .i64 2] 3)) none) := by
    have hb := below_alloc (below_alloc (bytes_below (Below.refl w3.heap.size w3) (Nat.le_refl _) 5 s) (.cells #[.slice (some ⟨w2.heap.size + 1, 0, none⟩) (2 * m) c] 38)) (.cells #[.int .i64 2] 3)
    exact ⟨hb.os, hb.tape, hb.output, hb.size, fun k hk _ => hb.block k hk⟩
  have hX : (((Lib.bytesWorld w3 5 s).alloc (.cells #[.slice (some ⟨w2.heap.size + 1, 0, none⟩) (2 * m) c] 38)).alloc (.cells #[.int .i64 2] 3)).heap[w2.heap.size + 1]? = some (.cells (Lib.bytesCells w3 5 s) 5 ((Lib.bytesCells w3 5 s).size, (Lib.bytesCells w3 5 s).size + 1)) := by
    rw [Below.heap_alloc _ _ _ (by simp [hsz]), Below.heap_alloc _ _ _ (by rw [hsz]; omega), ← hs0]
    exact Lib.bytesWorld_at_new w3 5 s
  have hXc : ∀ V : World, V.heap[w2.heap.size + 1]? = some (.cells (Lib.bytesCells w3 5 s) 5 ((Lib.bytesCells w3 5 s).size, (Lib.bytesCells w3 5 s).size + 1)) → ∀ j, j < s.size → V.cell? ⟨w2.heap.size + 1, j, none⟩ = some (.int .u8 (s.data.toList.getD j 0).toNat) := by
    intro V hV j hj
    rw [← hs0, cell_same (V := Lib.bytesWorld w3 5 s) (by rw [hs0, hV, ← hs0]; exact (Lib.bytesWorld_at_new w3 5 s).symm)]
    exact Lib.bytesWorld_cell w3 5 s j hj
  have bB' := bB.kept hgw (by simp)
  have hr' := hr0.kept hgw (by simp [Value.ownBlock])
  have hB' : Below w.heap.size w (((Lib.bytesWorld w3 5 s).alloc (.cells #[.slice (some ⟨w2.heap.size + 1, 0, none⟩) (2 * m) c] 38)).alloc (.cells #[.int .i64 2] 3)) :=
    hB0.trans ⟨hgw.os, hgw.tape, hgw.output, hgw.size, fun k hk => hgw.block k (Nat.lt_of_lt_of_le hk hB0.size) (by simp)⟩
  have hN : (((Lib.bytesWorld w3 5 s).alloc (.cells #[.slice (some ⟨w2.heap.size + 1, 0, none⟩) (2 * m) c] 38)).alloc (.cells #[.int .i64 2] 3)).heap.size = w2.heap.size + 4 := by simp [hsz]
  simp only [World.size_alloc, hsz] at b1' b2 ⊢
  clear bB hr0 hB0 hgw
  generalize (((Lib.bytesWorld w3 5 s).alloc (.cells #[.slice (some ⟨w2.heap.size + 1, 0, none⟩) (2 * m) c] 38)).alloc (.cells #[.int .i64 2] 3)) = W0 at *
  have hXi : (Obj.cells (Lib.bytesCells w3 5 s) 5 ((Lib.bytesCells w3 5 s).size, (Lib.bytesCells w3 5 s).size + 1)).isCells = true := rfl
  generalize Obj.cells (Lib.bytesCells w3 5 s) 5 ((Lib.bytesCells w3 5 s).size, (Lib.bytesCells w3 5 s).size + 1) = X at *
  have HX := Aside0.mk hN
  have HXC := Lib.hid hXc
  have HHX := Lib.hid hx
  clear hXc hx
  refine wpIn_rangeOwn (gf := 102) (lb := #[.pointer (some ⟨w2.heap.size + 2, 0, none⟩), .pointer (some ⟨w2.heap.size + 3, 0, none⟩)]) rfl (enters_of Tryz.func102 (by kernel_rfl) rfl)
    (b := w2.heap.size + 2) (by omega) (chunk_iter (w2.heap.size + 1) m (2 * m) c (w2.heap.size + 2) (w2.heap.size + 3) W0 (by omega) rfl hcap hcap2 b1' b2) (fun h k => h.trans k) ?ka ?kb (fun _ => rfl)
    (BytesInv w W0.heap.size w2.heap.size w1.heap.size (w2.heap.size + 1) m X s.data.toList) (fun _ => False) (fun pre A B h hT => h.turn hXi hT (by omega) (by omega) (by omega) (by omega) (by omega)) (fun _ _ h _ => h) ?start
    (fun x => { tmps := #[.string s, undef, .slice none 0 0, .nilIface, .pointer (some ⟨w2.heap.size, 0, none⟩), .slice (some ⟨w2.heap.size + 1, 2 * x, none⟩) 2 2, .string s, .bool false, .string s, .bool false, .bool false, .string s, .int .i64 (2 * (m : Int)), .int .i64 0, .bool false, .bool false, .bool false, .string s, .int .i64 (2 * (m : Int)), .bool (decide (1024 < 2 * (m : Int))), .bool (decide (1024 < 2 * (m : Int))), .bool (decide (1024 < 2 * (m : Int))), .string s, .string ⟨(Lib.trimLeftS s.data.toList hexaL).toArray⟩, .bool false, .bool (decide (1024 < 2 * (m : Int))), undef, .string s, .int .i64 (2 * (m : Int)), .int .i64 m, .slice (some ⟨w1.heap.size, 0, none⟩) 0 m, .string s, .slice (some ⟨w2.heap.size + 1, 0, none⟩) (2 * m) c, .func (.func 102) #[] #[.pointer (some ⟨w2.heap.size + 2, 0, none⟩), .pointer (some ⟨w2.heap.size + 3, 0, none⟩)], .slice (some ⟨w2.heap.size + 1, 2 * x, none⟩) 2 2, undef, undef, undef, undef, undef, undef, undef, undef, undef, undef, undef, undef, undef, undef, undef], defers := [] }) ?assign ?body ?done ?stop
  case ka =>
    intro W o hW
    exact ⟨Below.heap_alloc W o _ (by omega), Below.heap_alloc W o _ (by omega)⟩
  case kb =>
    intro W l o hl
    exact ⟨World.putObj_heap_other (by omega), World.putObj_heap_other (by omega)⟩
  case start => exact ⟨bB', hr', hX, hB', Nat.le_refl _⟩
  case assign =>
    intro l x W K hK
    gi_wp2
    exact hK
  case body =>
    rintro l pre x W ⟨hv, hrow, hbx, hB, hsz⟩ hpre
    obtain ⟨hxm, hpx, hpl⟩ := range_prefix hpre
    rw [hpl] at hv hrow
    have HPL := Lib.hid hpl
    have HPX := Lib.hid hpx
    have hc0 := hv.cell
    have hc1 := HXC.out W hbx (2 * x) (by omega)
    have hc2 := HXC.out W hbx (2 * x + 1) (by omega)
    have hl1 : hexaL.contains (s.data.toList.getD (2 * x) 0) = true := all_getD HHX.out (by rw [data_length]; omega)
    have hl2 : hexaL.contains (s.data.toList.getD (2 * x + 1) 0) = true := all_getD HHX.out (by rw [data_length]; omega)
    have HPA : Hid (pairAt s.data.toList x = ((16 * hexv (s.data.toList.getD (2 * x) 0) + hexv (s.data.toList.getD (2 * x + 1) 0) : Nat) : Int)) := Lib.hid rfl
    generalize s.data.toList.getD (2 * x) 0 = d1 at *
    generalize s.data.toList.getD (2 * x + 1) 0 = d2 at *
    have HI1 := Lib.hid (index_hexa d1 hl1)
    have HI2 := Lib.hid (index_hexa d2 hl2)
    have hp1 := (hexa_facts d1 hl1).2
    have hp2 := (hexa_facts d2 hl2).2
    generalize hexv d1 = p1 at *
    generalize hexv d2 = p2 at *
    clear hpl hpx hl1 hl2 hpre
    gi_wp2
    have hS : W.drew.cell? ⟨w2.heap.size, 0, none⟩ = some (.slice (some ⟨w1.heap.size, 0, none⟩) x m) ∧ W.drew.cell? ⟨w2.heap.size + 1, 2 * x, none⟩ = some (.int .u8 d1.toNat) ∧ W.drew.cell? ⟨w2.heap.size + 1, 2 * x + 1, none⟩ = some (.int .u8 d2.toNat) := ⟨hc0, hc1, hc2⟩
    refine wpIn_region_heldM l (fun V => V.cell? ⟨w2.heap.size, 0, none⟩ = some (.slice (some ⟨w1.heap.size, 0, none⟩) x m) ∧ V.cell? ⟨w2.heap.size + 1, 2 * x, none⟩ = some (.int .u8 d1.toNat) ∧ V.cell? ⟨w2.heap.size + 1, 2 * x + 1, none⟩ = some (.int .u8 d2.toNat)) 13 (by rintro ⟨_, _, h⟩; exact h) (by kernel_rfl) (by kernel_rfl) ?_
    show wpAnyM _ _ _ _ _ _ _ _ _ W.drew
    refine wpAnyM_take 0 (some 35) (.slice (some ⟨w1.heap.size, 0, none⟩) x m) rfl rfl (by kernel_rfl) (fun _ _ _ h => h) (Or.inl ⟨by rfl, ?_⟩) hS ?_
    · intro w' hS'
      obtain ⟨s0, s1, s2⟩ := hS'
      go_simp
      try with_reducible rfl
    simp only [Act.put, List.setIfInBounds_toArray, List.set_cons_zero, List.set_cons_succ]
    refine wpAnyM_take 1 (some 36) (.slice (some ⟨w2.heap.size + 1, 2 * x, none⟩) 2 2) rfl rfl (by kernel_rfl) (fun _ _ _ h => h) (Or.inl ⟨by rfl, ?_⟩) hS ?_
    · intro w' hS'
      obtain ⟨s0, s1, s2⟩ := hS'
      go_simp
      try with_reducible rfl
    simp only [Act.put, List.setIfInBounds_toArray, List.set_cons_zero, List.set_cons_succ]
    refine wpAnyM_take 2 (some 37) (.pointer (some ⟨w2.heap.size + 1, 2 * x, none⟩)) rfl rfl (by kernel_rfl) (fun _ _ _ h => h) (Or.inl ⟨by rfl, ?_⟩) hS ?_
    · intro w' hS'
      obtain ⟨s0, s1, s2⟩ := hS'
      go_simp
      try with_reducible rfl
    simp only [Act.put, List.setIfInBounds_toArray, List.set_cons_zero, List.set_cons_succ]
    refine wpAnyM_take 3 (some 38) (.int .u8 d1.toNat) rfl rfl (by kernel_rfl) (fun _ _ _ h => h) (Or.inl ⟨by rfl, ?_⟩) hS ?_
    · intro w' hS'
      obtain ⟨s0, s1, s2⟩ := hS'
      go_simp
      try with_reducible rfl
    simp only [Act.put, List.setIfInBounds_toArray, List.set_cons_zero, List.set_cons_succ]
    refine wpAnyM_take 6 (some 41) (.slice (some ⟨w2.heap.size + 1, 2 * x, none⟩) 2 2) rfl rfl (by kernel_rfl) (fun _ _ _ h => h) (Or.inl ⟨by rfl, ?_⟩) hS ?_
    · intro w' hS'
      obtain ⟨s0, s1, s2⟩ := hS'
      go_simp
      try with_reducible rfl
    simp only [Act.put, List.setIfInBounds_toArray, List.set_cons_zero, List.set_cons_succ]
    refine wpAnyM_take 7 (some 42) (.pointer (some ⟨w2.heap.size + 1, 2 * x + 1, none⟩)) rfl rfl (by kernel_rfl) (fun _ _ _ h => h) (Or.inl ⟨by rfl, ?_⟩) hS ?_
    · intro w' hS'
      obtain ⟨s0, s1, s2⟩ := hS'
      go_simp
      try with_reducible rfl
    simp only [Act.put, List.setIfInBounds_toArray, List.set_cons_zero, List.set_cons_succ]
    refine wpAnyM_take 8 (some 43) (.int .u8 d2.toNat) rfl rfl (by kernel_rfl) (fun _ _ _ h => h) (Or.inl ⟨by rfl, ?_⟩) hS ?_
    · intro w' hS'
      obtain ⟨s0, s1, s2⟩ := hS'
      go_simp
      try with_reducible rfl
    simp only [Act.put, List.setIfInBounds_toArray, List.set_cons_zero, List.set_cons_succ]
    refine wpAnyM_one 4 _ rfl (by kernel_rfl) (by decide) (fun K hK => ?_)
    rw [if_pos (by rfl)]
    go_simp
    refine (HI1.out _).mono ?_
    rintro e w' ⟨rfl, rfl⟩
    refine hK _ _ hS ?_
    clear hK K
    refine wpAnyM_take 5 (some 40) (.int .i64 (16 * (p1 : Int))) rfl rfl (by kernel_rfl) (fun _ _ _ h => h) (Or.inl ⟨by rfl, ?_⟩) hS ?_
    · intro w' hS'
      go_simp
      exact nib_shl p1 hp1
    simp only [Act.put, List.setIfInBounds_toArray, List.set_cons_zero, List.set_cons_succ]
    refine wpAnyM_one 9 _ rfl (by kernel_rfl) (by decide) (fun K hK => ?_)
    rw [if_pos (by rfl)]
    go_simp
    refine (HI2.out _).mono ?_
    rintro e w' ⟨rfl, rfl⟩
    refine hK _ _ hS ?_
    clear hK K
    refine wpAnyM_take 10 (some 45) (.int .i64 (16 * (p1 : Int) + (p2 : Int))) rfl rfl (by kernel_rfl) (fun _ _ _ h => h) (Or.inl ⟨by rfl, ?_⟩) hS ?_
    · intro w' hS'
      go_simp
      exact nib_or p1 p2 hp1 hp2
    simp only [Act.put, List.setIfInBounds_toArray, List.set_cons_zero, List.set_cons_succ]
    refine wpAnyM_take 11 (some 46) (.int .u8 (16 * (p1 : Int) + (p2 : Int))) rfl rfl (by kernel_rfl) (fun _ _ _ h => h) (Or.inl ⟨by rfl, ?_⟩) hS ?_
    · intro w' hS'
      go_simp
      exact nib_wrap p1 p2 hp1 hp2
    simp only [Act.put, List.setIfInBounds_toArray, List.set_cons_zero, List.set_cons_succ]
    refine wpAnyM_one 12 _ rfl (by kernel_rfl) (by decide) (fun K hK => ?_)
    rw [if_pos (by rfl)]
    go_simp
    refine hK _ _ ?_ ?_
    · exact ⟨(cell_same (V := W) (Below.heap_alloc W _ _ hv.lt) 0).trans hc0, (cell_same (V := W) (Below.heap_alloc W _ _ (Array.getElem?_eq_some_iff.1 hbx).1) _).trans hc1, (cell_same (V := W) (Below.heap_alloc W _ _ (Array.getElem?_eq_some_iff.1 hbx).1) _).trans hc2⟩
    clear hK K
    refine wpAnyM_drop (by kernel_rfl) ?_
    simp only [List.drop_succ_cons, List.drop_zero]
    have hnc : (W.alloc (.cells #[.int .u8 (16 * (p1 : Int) + (p2 : Int))] 5)).drew.cell? ⟨W.heap.size, 0, none⟩ = some (.int .u8 (16 * (p1 : Int) + (p2 : Int))) := cell_one_new' W _ _
    refine wpList_append_fits _ rfl _ _ 38 rfl w.heap.size 5 i0 1 Tryz.underlying38 hi hz1 w1.heap.size x m _ rfl (own_drew (hrow.alloc (.cells #[.int .u8 (16 * (p1 : Int) + (p2 : Int))] 5))) ⟨W.heap.size, 0, none⟩ 1 1 [.int .u8 (16 * (p1 : Int) + (p2 : Int))] rfl rfl ?_ (by simp [Value.oneCell']) (by omega) ?_
    · intro j u hj
      cases j with
      | zero => cases hj; exact hnc
      | succ j => simp at hj
    intro w4 hown' hgrow
    obtain ⟨hv1, hv2, hr2, hk2, q1, q2, q3, q4, q5⟩ := box_appended (tmp := .cells #[.int .u8 (16 * (p1 : Int) + (p2 : Int))] 5) hv (by decide) hrow hB.size hown' ⟨hgrow.os, hgrow.tape, hgrow.output, hgrow.size, hgrow.block⟩
    have hq6 : ∀ k, k < W.heap.size → k ≠ w2.heap.size → k ≠ w1.heap.size → (w4.setCell ⟨w2.heap.size, 0, none⟩ (.slice (some ⟨w1.heap.size, 0, none⟩) (x + 1) m)).heap[k]? = W.heap[k]? := by
      intro k hk hkB hkG
      rw [Below.heap_setCell w4 ⟨w2.heap.size, 0, none⟩ _ k hkB]
      refine (hgrow.block k (by show k < (W.alloc _).heap.size; simp; omega) (fun e_ => hkG (by injection e_))).trans ?_
      exact Below.heap_alloc W _ k hk
    have hc4 := hv1.cell
    have hf4 := hv1.frozen
    simp only [Act.put, List.setIfInBounds_toArray, List.set_cons_zero, List.set_cons_succ]
    go_wp2
    have hN2 := HX.out
    have el : (pre ++ [x]).length = x + 1 := by simp [HPL.out]
    refine ⟨hk2.from _, ⟨hq6 _ (by omega) (by omega) (by omega), hq6 _ (by omega) (by omega) (by omega)⟩, ⟨?_, ?_, ?_, ?_, ?_⟩⟩
    · rw [el]; exact hv2
    · rw [el, List.map_append, List.map_cons, List.map_nil, HPA.out]; exact hr2
    · exact (hq6 _ (by omega) (by omega) (by omega)).trans hbx
    · exact ⟨q1.trans hB.os, q2.trans hB.tape, q3.trans hB.output, Nat.le_trans hB.size q4, fun k hk => (q5 k hk (by omega)).trans (hB.block k hk)⟩
    · exact Nat.le_trans hsz q4
  case done =>
    rintro W ⟨hv, hrow, hbx, hB, hsz⟩ hK
    rw [List.length_range] at hv hrow
    have hN2 := HX.out
    have hc := hv.cell
    gi_wp2
    refine ⟨by simp, .inl ⟨_, _, rfl, run_takeDeferred hK, ?_⟩⟩
    refine ⟨_, results_tmp2 rfl _ _ _, _, rfl, ?_, ?_⟩
    · refine ownsRow_putObj ?_ _ hK rfl
      rw [pairsOf_eq, data_length, hs, Nat.mul_div_cancel_left m (by omega), List.map_map]
      exact hrow
    · exact hB.trans (Turn.below' (by omega))
  case stop =>
    rintro W h _
    exact h.elim
theorem script_Bytes.calls (a0 : ByteArray) (r1 : List Int) (r2 : Option Int) (w : World) (h : script_Bytes.f a0 = some (r1, r2)) : Calls Tryz.prog 14 #[.string a0] w fun e w' => ∃ v0_ : Value, e = .returned (.tuple #[v0_, P.errW r2]) ∧ Kd.R (Kd.int .u8) 5 w' w.heap.size (fun _ => True) v0_ r1 ∧ Below w.heap.size w w' := by
  unfold script_Bytes.f at h
  split at h
  · rename_i hs
    have h := Option.some.inj h
    by_cases hd : a0.data.toList = [45]
    · rw [if_pos (by unfold bytesB; simp [hd]), if_pos hd] at h
      cases h
      refine (bytes_dash a0 w hd).mono ?_
      rintro e w' ⟨rfl, hb⟩
      exact ⟨_, rfl, Kd.R_of_own (World.ownsRow_nil _ _ _ _) (fun _ _ => trivial), hb⟩
    · by_cases hb : bytesB a0.data.toList = true
      · rw [if_pos hb, if_neg hd] at h
        cases h
        unfold bytesB at hb
        rw [decide_eq_false hd, Bool.false_or, Bool.and_eq_true, decide_eq_true_eq, data_length] at hb
        obtain ⟨⟨h1, h2, h3⟩, h4⟩ := hb
        have h5 : 0 < a0.size := by rw [← data_length]; exact List.length_pos_iff.2 h1
        refine (callsIn_wide.1 (bytes_in a0 (a0.size / 2) (by omega) (by omega) (by omega) h4 w)).mono ?_
        rintro e w' ⟨v, rfl, ho, hbl⟩
        have hl : (pairsOf a0.data.toList).length = a0.size / 2 := by rw [pairsOf_eq, List.length_map, List.length_range, data_length]
        refine ⟨v, rfl, Kd.R_of_own ?_ (fun _ _ => trivial), hbl⟩
        rw [hl]
        exact ho
      · have hb' : bytesB a0.data.toList = false := by simpa using hb
        rw [if_neg hb] at h
        cases h
        refine (bytes_bad a0 w hs hd hb').mono ?_
        rintro e w' ⟨rfl, hbl⟩
        exact ⟨_, rfl, Kd.R_of_own (World.ownsRow_nil _ _ _ _) (fun _ _ => trivial), hbl⟩
  · cases h
end Go.Proofs.YtinleajhckcapaaGreatDoor.Hand
namespace Go.Proofs.YtinleajhckcapaaGreatDoor.Hand
open Go.RowKit Go.Proofs.YtinleajhckcapaaGreatDoorW.PrintWords
theorem below_grow {w w' : World} {k : Nat} {os : Array Obj} (h : w' = Go.Sort.grow (w.drewN k) os) : Below w.heap.size w w' := by
  subst h
  exact ⟨rfl, rfl, rfl, by simp [Go.Sort.grow], fun i hi => by simp [Go.Sort.grow, Array.getElem?_append, hi]⟩
theorem errW_some (c : Int) : P.errW (some c) = .iface 93 (.int .i64 c) := rfl
theorem errW_none : P.errW none = .nilIface := rfl
theorem atoi_below {w w1 : World} {e : TypeId} (h : w1 = w ∨ ∃ t, w1 = Lib.bytesWorld w e t) : Aside0 (Below w.heap.size w w1) := by
  rcases h with rfl | ⟨t, rfl⟩
  · exact ⟨Below.refl _ _⟩
  · exact ⟨bytes_below (Below.refl _ _) (Nat.le_refl _) _ _⟩
def synE : Lib.NumEnd Int := Lib.atoiAll []
set_option maxHeartbeats 400000 in
theorem number_in (s : ByteArray) (v : Int) (w : World) (hg : Glob w) (hs : s.size ≤ 1000000) (hv : Lib.atoiAll s.data.toList = .ok v) (h0 : 0 ≤ v) (h1 : v ≤ 1000000) (hi : (!Lib.itoa v == s.toList) = false) :
    Calls Tryz.prog 136 #[.string s] w fun e w' => e = .returned (.tuple #[.int .i64 v, .nilIface]) ∧ Below w.heap.size w w' := by
  have HV := Lib.hid hv
  have HG := Lib.hid hg
  clear hv hg
  go_enter Tryz.func136, Tryz.ntmps136
  go_wp2_with (first
    | (go_at_call 110; refine (Tryz.strconv_Atoi_ok s (by omega) v HV.out _).mono ?_; rintro e w1 ⟨rfl, hw⟩; have HB := atoi_below hw; clear hw)
    | (go_at_call 81; refine (Tryz.strconv_Itoa v (by omega) (by omega) _ ?tab).mono ?_; (case tab => exact (HG.out.below HB.out).now.pow); rintro e w2 ⟨rfl, k, os, hw2⟩; have HB2 := Aside0.mk (below_then HB.out HB.out.size (below_grow hw2)); clear hw2))
  go_ret2
  exact ⟨rfl, HB2.out⟩
set_option maxHeartbeats 400000 in
theorem number_other (s : ByteArray) (v : Int) (w : World) (hg : Glob w) (hs : s.size ≤ 1000000) (hv : Lib.atoiAll s.data.toList = .ok v) (h0 : 0 ≤ v) (h1 : v ≤ 1000000) (hi : (!Lib.itoa v == s.toList) = true) :
    Calls Tryz.prog 136 #[.string s] w fun e w' => e = .returned (.tuple #[.int .i64 0, .iface 93 (.int .i64 337)]) ∧ Below w.heap.size w w' := by
  have HV := Lib.hid hv
  have HG := Lib.hid hg
  clear hv hg
  go_enter Tryz.func136, Tryz.ntmps136
  go_wp2_with (first
    | (go_at_call 110; refine (Tryz.strconv_Atoi_ok s (by omega) v HV.out _).mono ?_; rintro e w1 ⟨rfl, hw⟩; have HB := atoi_below hw; clear hw)
    | (go_at_call 81; refine (Tryz.strconv_Itoa v (by omega) (by omega) _ ?tab).mono ?_; (case tab => exact (HG.out.below HB.out).now.pow); rintro e w2 ⟨rfl, k, os, hw2⟩; have HB2 := Aside0.mk (below_then HB.out HB.out.size (below_grow hw2)); clear hw2))
  go_ret2
  exact ⟨rfl, HB2.out⟩
set_option maxHeartbeats 400000 in
theorem number_less (s : ByteArray) (v : Int) (w : World) (hg : Glob w) (hs : s.size ≤ 1000000) (hv : Lib.atoiAll s.data.toList = .ok v) (h0 : v < 0) :
    Calls Tryz.prog 136 #[.string s] w fun e w' => e = .returned (.tuple #[.int .i64 0, .iface 93 (.int .i64 337)]) ∧ Below w.heap.size w w' := by
  have HV := Lib.hid hv
  have HG := Lib.hid hg
  clear hv hg
  go_enter Tryz.func136, Tryz.ntmps136
  go_wp2_with (first
    | (go_at_call 110; refine (Tryz.strconv_Atoi_ok s (by omega) v HV.out _).mono ?_; rintro e w1 ⟨rfl, hw⟩; have HB := atoi_below hw; clear hw)
    | (go_at_call 81; refine (Tryz.strconv_Itoa v (by omega) (by omega) _ ?tab).mono ?_; (case tab => exact (HG.out.below HB.out).now.pow); rintro e w2 ⟨rfl, k, os, hw2⟩; have HB2 := Aside0.mk (below_then HB.out HB.out.size (below_grow hw2)); clear hw2))
  go_ret2
  exact ⟨rfl, HB.out⟩
set_option maxHeartbeats 400000 in
theorem number_more (s : ByteArray) (v : Int) (w : World) (hg : Glob w) (hs : s.size ≤ 1000000) (hv : Lib.atoiAll s.data.toList = .ok v) (h0 : 0 ≤ v) (h1 : 1000000 < v) :
    Calls Tryz.prog 136 #[.string s] w fun e w' => e = .returned (.tuple #[.int .i64 0, .iface 93 (.int .i64 337)]) ∧ Below w.heap.size w w' := by
  have HV := Lib.hid hv
  have HG := Lib.hid hg
  clear hv hg
  go_enter Tryz.func136, Tryz.ntmps136
  go_wp2_with (first
    | (go_at_call 110; refine (Tryz.strconv_Atoi_ok s (by omega) v HV.out _).mono ?_; rintro e w1 ⟨rfl, hw⟩; have HB := atoi_below hw; clear hw)
    | (go_at_call 81; refine (Tryz.strconv_Itoa v (by omega) (by omega) _ ?tab).mono ?_; (case tab => exact (HG.out.below HB.out).now.pow); rintro e w2 ⟨rfl, k, os, hw2⟩; have HB2 := Aside0.mk (below_then HB.out HB.out.size (below_grow hw2)); clear hw2))
  go_ret2
  exact ⟨rfl, HB.out⟩
set_option maxHeartbeats 400000 in
theorem number_syn (s : ByteArray) (w : World) (hg : Glob w) (hs : s.size ≤ 1000000) (hv : Lib.atoiAll s.data.toList = synE) :
    Calls Tryz.prog 136 #[.string s] w fun e w' => e = .returned (.tuple #[.int .i64 0, .iface 93 (.int .i64 337)]) ∧ Below w.heap.size w w' := by
  obtain ⟨tp, p, ht⟩ := hg.now.syn
  have HC := Lib.hid (Tryz.strconv_Atoi_syntax_var s (by omega) hv tp p w ht)
  clear hv ht
  go_enter Tryz.func136, Tryz.ntmps136
  go_wp2_with (go_at_call 110; refine HC.out.mono ?_; rintro e w1 ⟨N, rfl, _, _, hb⟩; have HB := Aside0.mk hb; clear hb)
  go_ret2
  exact ⟨rfl, HB.out⟩
set_option maxHeartbeats 400000 in
theorem number_rng (s : ByteArray) (w : World) (hg : Glob w) (hs : s.size ≤ 1000000) (hv : Lib.atoiAll s.data.toList = .range) :
    Calls Tryz.prog 136 #[.string s] w fun e w' => e = .returned (.tuple #[.int .i64 0, .iface 93 (.int .i64 337)]) ∧ Below w.heap.size w w' := by
  obtain ⟨tp, p, ht⟩ := hg.now.rng
  have HC := Lib.hid (Tryz.strconv_Atoi_range_var s (by omega) hv tp p w ht)
  clear hv ht
  go_enter Tryz.func136, Tryz.ntmps136
  go_wp2_with (go_at_call 110; refine HC.out.mono ?_; rintro e w1 ⟨N, rfl, _, _, hb⟩; have HB := Aside0.mk hb; clear hb)
  go_ret2
  exact ⟨rfl, HB.out⟩
theorem script_Number.calls (a0 : ByteArray) (r1 : Int) (r2 : Option Int) (w : World) (hg : Glob w) (h : script_Number.f a0 = some (r1, r2)) : Calls Tryz.prog 136 #[.string a0] w fun e w' => e = .returned (.tuple #[.int .i64 r1, P.errW r2]) ∧ Below w.heap.size w w' := by
  unfold script_Number.f at h
  split at h
  · rename_i hs
    have h := Option.some.inj h
    unfold numOf at h
    rcases hv : Lib.atoiAll a0.data.toList with v | _ | _
    · rw [hv] at h
      simp only at h
      by_cases h0 : 0 ≤ v
      · by_cases h1 : v ≤ 1000000
        · by_cases h2 : Lib.itoa v = a0.data.toList
          · rw [if_pos ⟨h0, h1, h2⟩] at h
            obtain ⟨rfl, rfl⟩ := Prod.mk.inj h
            exact number_in a0 _ w hg hs hv h0 h1 (by rw [Lib.toList_data]; simp [h2])
          · rw [if_neg (fun z => h2 z.2.2)] at h
            obtain ⟨rfl, rfl⟩ := Prod.mk.inj h
            exact number_other a0 v w hg hs hv h0 h1 (by rw [Lib.toList_data]; simpa using h2)
        · rw [if_neg (fun z => h1 z.2.1)] at h
          obtain ⟨rfl, rfl⟩ := Prod.mk.inj h
          exact number_more a0 v w hg hs hv h0 (by omega)
      · rw [if_neg (fun z => h0 z.1)] at h
        obtain ⟨rfl, rfl⟩ := Prod.mk.inj h
        exact number_less a0 v w hg hs hv (by omega)
    · rw [hv] at h
      obtain ⟨rfl, rfl⟩ := Prod.mk.inj h
      exact number_syn a0 w hg hs hv
    · rw [hv] at h
      obtain ⟨rfl, rfl⟩ := Prod.mk.inj h
      exact number_rng a0 w hg hs hv
  · cases h
end Go.Proofs.YtinleajhckcapaaGreatDoor.Hand
namespace Go.Proofs.YtinleajhckcapaaGreatDoor.Hand
open Go Go.RowKit Go.Proofs.YtinleajhckcapaaGreatDoorW.PrintWords Go.Proofs.YtinleajhckcapaaGreatDoorW.PrintLast
theorem strs_own {w : World} {base : Nat} {ok : Nat → Prop} {v : Value} {xs : List ByteArray} (h : Kd.R Kd.string 9 w base ok v xs) (hne : xs ≠ []) :
    ∃ g c, v = .slice (some ⟨g, 0, none⟩) xs.length c ∧ xs.length ≤ c ∧ g < w.heap.size ∧ ∀ (j : Nat) x, xs[j]? = some x → w.cell? ⟨g, 0 + j, none⟩ = some (.string x) := by
  have ho : w.ownsRow base 9 1 v xs.length (encs Value.string xs) := Kd.own_of_R h
  obtain ⟨n, hn⟩ : ∃ n, xs.length = n + 1 := ⟨xs.length - 1, by have := List.length_pos_iff.2 hne; omega⟩
  have ho' := ho
  rw [hn] at ho'
  obtain ⟨g, c, rfl⟩ := ownsRow_succ ho'
  rw [← hn] at h ho ⊢
  obtain ⟨A, c', he, hl, hC⟩ := Kd.R_reads h
  injection he with e1 e2 e3
  subst e1 e3
  have hg : g < w.heap.size := own_lt ho g (by simp [Value.ownBlock])
  refine ⟨g, c, rfl, hl, hg, fun j x hj => ?_⟩
  have hjl : j < xs.length := (List.getElem?_eq_some_iff.1 hj).1
  have hc := (Kd.R_cell ByteArray.empty h (j : Int) (by omega) (by omega)).1
  rw [Nat.zero_add]
  rw [Int.toNat_natCast, rdOf_at xs j hjl] at hc
  rw [hc]
  obtain ⟨_, rfl⟩ := List.getElem?_eq_some_iff.1 hj
  rfl
theorem slash_app (l : Bs) : (⟨#[47]⟩ : ByteArray) ++ mkB l = mkB (47 :: l) := by
  apply Go.WideShapes.bytes_inj
  simp [mkB, ByteArray.data_append]
theorem mkB_size (l : Bs) : (mkB l).size = l.length := by simp [mkB, ByteArray.size]
set_option maxHeartbeats 800000 in
set_option maxRecDepth 100000 in
theorem join_walk (g c k : Nat) (xs : List ByteArray) (w : World) (hc : Kd.C Kd.string w (some ⟨g, 0, none⟩) xs.length xs) (hcells : ∀ (j : Nat) x, xs[j]? = some x → w.cell? ⟨g, 0 + j, none⟩ = some (.string x)) (hg : g < w.heap.size) (hcap : xs.length ≤ c)
    (hck : P.path_check.f k xs = some none) (hn : xs.length ≤ 1000000) (hlen : (Lib.join (bsOf xs) [47]).length ≤ 1000000000) :
    Calls Tryz.prog 171 #[.slice (some ⟨g, 0, none⟩) xs.length c] w fun e w' => e = .returned (.tuple #[.string (mkB (joinP (bsOf xs))), .nilIface]) ∧ Below w.heap.size w w' := by
  have HC := Lib.hid (P.path_check.calls k (some ⟨g, 0, none⟩) c xs none w hc hcap hck)
  have HJ : Hid (∀ W : World, Below w.heap.size w W → Calls Tryz.prog 51 #[.slice (some ⟨g, 0, none⟩) xs.length c, .string ⟨#[47]⟩] W fun e w' => e = .returned (.string (mkB (Lib.join (bsOf xs) [47]))) ∧ Below W.heap.size W w') := Lib.hid (fun W hb =>
    Tryz.strings_Join g 0 c xs ⟨#[47]⟩ W (fun j x hj => (hb.cell (p := ⟨g, 0 + j, none⟩) hg).trans (hcells j x hj)) (Nat.lt_of_lt_of_le hg hb.size) (by omega) hcap (show (Lib.join (bsOf xs) [47]).length ≤ _ by omega))
  clear hc hcells hck hcap
  have hsz := mkB_size (Lib.join (bsOf xs) [47])
  have hsum : (⟨#[47]⟩ : ByteArray).size + (mkB (Lib.join (bsOf xs) [47])).size ≤ 9223372036854775807 := by rw [hsz]; show 1 + _ ≤ _; omega
  have HE : Hid ((⟨#[47]⟩ : ByteArray) ++ mkB (Lib.join (bsOf xs) [47]) = mkB (joinP (bsOf xs))) := Lib.hid (slash_app _)
  clear hsz
  generalize mkB (Lib.join (bsOf xs) [47]) = js at HJ HE hsum
  go_enter Tryz.func171, Tryz.ntmps171
  go_wp2_with (first
    | (go_at_call 194; refine HC.out.mono ?_; rintro e w1 ⟨rfl, hb1⟩; simp only [P.errW_none]; have HB := Aside0.mk hb1; clear hb1)
    | (go_at_call 51; refine (HJ.out _ HB.out).mono ?_; rintro e w2 ⟨rfl, hb2⟩; have HB2 := Aside0.mk (below_then HB.out HB.out.size hb2); clear hb2))
  go_ret2
  exact ⟨by rw [HE.out]; rfl, HB2.out⟩
theorem errOf_none (l : Bs) : errOf l = none ↔ pathCheckB l = true := by
  unfold errOf pathCheckB
  by_cases h0 : l = []
  · simp [h0]
  · rw [if_neg h0]
    by_cases h1 : 16 < l.length
    · rw [if_pos h1]
      have : ¬ l.length ≤ 16 := by omega
      simp [this]
    · rw [if_neg h1]
      have : l.length ≤ 16 := by omega
      by_cases h2 : l.all (fineL.contains ·) = true
      · rw [if_pos h2, h2]; simp [h0, this]
      · rw [if_neg h2]
        have h2' : l.all (fineL.contains ·) = false := by simpa using h2
        rw [h2']; simp
theorem firstErr_none (l : List Bs) : firstErr (l.map mkB) = none ↔ l.length ≤ 8 ∧ l.all pathCheckB = true := by
  unfold firstErr
  rw [List.length_map]
  by_cases h : 8 < l.length
  · rw [if_pos h]
    constructor
    · intro z; cases z
    · rintro ⟨z, _⟩; omega
  · rw [if_neg h]
    rw [List.findSome?_eq_none_iff, List.all_eq_true]
    constructor
    · intro z
      exact ⟨by omega, fun x hx => (errOf_none x).1 (z (mkB x) (List.mem_map_of_mem hx))⟩
    · rintro ⟨_, z⟩ x hx
      obtain ⟨y, hy, rfl⟩ := List.mem_map.1 hx
      exact (errOf_none y).2 (z y hy)
theorem bsOf_map (l : List Bs) : bsOf (l.map mkB) = l := by
  unfold bsOf
  rw [List.map_map]
  exact (List.map_congr_left (fun x _ => by simp [mkB])).trans (List.map_id l)
theorem filter_sum (l : List Bs) (p : Bs → Bool) : ((l.filter p).map List.length).sum ≤ (l.map List.length).sum := by
  induction l with
  | nil => simp
  | cons x l ih =>
    by_cases h : p x = true
    · rw [List.filter_cons_of_pos h]; simp; omega
    · rw [List.filter_cons_of_neg h]; simp; omega
theorem pieces_sum (c : UInt8) : ∀ l : Bs, ((pieces c l).map List.length).sum ≤ l.length
  | [] => by simp [pieces]
  | x :: l => by
    have ih := pieces_sum c l
    by_cases h : x = c
    · rw [pieces_eq c x l h]; simp; omega
    · obtain ⟨p, r, hp⟩ : ∃ p r, pieces c l = p :: r := by
        cases hq : pieces c l with
        | nil => exact absurd hq (pieces_ne c l)
        | cons p r => exact ⟨p, r, rfl⟩
      rw [pieces_other c x l p r h hp]
      rw [hp] at ih
      simp at ih ⊢
      omega
theorem join_le (sep : Bs) : ∀ l : List Bs, (Lib.join l sep).length ≤ (l.map List.length).sum + l.length * sep.length
  | [] => by simp [Lib.join]
  | [x] => by simp [Lib.join, List.intercalate]
  | x :: y :: l => by
    have ih := join_le sep (y :: l)
    have e : Lib.join (x :: y :: l) sep = x ++ sep ++ Lib.join (y :: l) sep := by simp [Lib.join, List.intercalate]
    rw [e]
    simp only [List.length_append, List.map_cons, List.sum_cons, List.length_cons, Nat.add_mul, Nat.one_mul] at ih ⊢
    omega
theorem join_parts_le (l : Bs) : (Lib.join (parts l) [47]).length ≤ 2 * l.length + 1 := by
  have h1 := join_le [47] (parts l)
  have h2 := filter_sum (pieces 47 l) (· ≠ [])
  have h3 := pieces_sum 47 l
  have h4 : (parts l).length ≤ (pieces 47 l).length := List.length_filter_le _ _
  have h5 := pieces_length 47 l
  have h6 : ((parts l).map List.length).sum ≤ ((pieces 47 l).map List.length).sum := h2
  simp only [List.length_cons, List.length_nil] at h1
  omega
theorem place_no (s : ByteArray) (k : Nat) (r1 : List ByteArray) (r2 : Bool) (r3 : Option Int) (w : World) (hk : P.path_Split.f k s = some (r1, r2, r3)) (h : (∃ e, r3 = some e) ∨ r2 = false ∨ r1 = []) :
    Calls Tryz.prog 137 #[.string s] w fun e w' => e = .returned (.bool false) ∧ Below w.heap.size w w' := by
  have HC := Lib.hid (P.path_Split.calls k s r1 r2 r3 w hk)
  rcases r3 with _ | e0
  · have hn : r2 = false ∨ r1 = [] := h.elim (fun ⟨e, he⟩ => by cases he) id
    clear h hk
    cases r2 with
    | false =>
      go_enter Tryz.func137, Tryz.ntmps137
      go_wp2_with (go_at_call 170; refine HC.out.mono ?_; rintro e w1 ⟨v, rfl, hr, hb1⟩; simp only [P.errW_none]; have HB := Aside0.mk hb1; obtain ⟨A, c, rfl⟩ := Kd.R_slice hr; clear hr hb1)
      go_ret
      exact ⟨rfl, HB.out⟩
    | true =>
      obtain rfl : r1 = [] := hn.elim (fun z => by cases z) id
      go_enter Tryz.func137, Tryz.ntmps137
      go_wp2_with (go_at_call 170; refine HC.out.mono ?_; rintro e w1 ⟨v, rfl, hr, hb1⟩; simp only [P.errW_none]; have HB := Aside0.mk hb1; obtain ⟨A, c, rfl⟩ := Kd.R_slice hr; clear hr hb1)
      go_ret
      exact ⟨rfl, HB.out⟩
  · clear h hk
    go_enter Tryz.func137, Tryz.ntmps137
    go_wp2_with (go_at_call 170; refine HC.out.mono ?_; rintro e w1 ⟨v, rfl, hr, hb1⟩; simp only [P.errW_some]; have HB := Aside0.mk hb1; obtain ⟨A, c, rfl⟩ := Kd.R_slice hr; clear hr hb1)
    go_ret
    exact ⟨rfl, HB.out⟩
set_option maxHeartbeats 800000 in
set_option maxRecDepth 100000 in
theorem place_yes (s : ByteArray) (k k2 : Nat) (r1 : List ByteArray) (w : World) (hk : P.path_Split.f k s = some (r1, true, none)) (hne : r1 ≠ []) (hck : P.path_check.f k2 r1 = some none) (hn : r1.length ≤ 1000000) (hlen : (Lib.join (bsOf r1) [47]).length ≤ 1000000000) :
    Calls Tryz.prog 137 #[.string s] w fun e w' => e = .returned (.bool ((mkB (joinP (bsOf r1))).toList == s.toList)) ∧ Below w.heap.size w w' := by
  have HC := Lib.hid (P.path_Split.calls k s r1 true none w hk)
  have HN := Lib.hid hne
  have HK := Lib.hid hck
  have hpos : 0 < r1.length := List.length_pos_iff.2 hne
  have hb0 : ((r1.length : Int) == 0) = false := beq_eq_false_iff_ne.2 (by omega)
  have hnil : (r1 = []) = False := eq_false hne
  clear hk hne hck
  go_enter Tryz.func137, Tryz.ntmps137
  go_wp2_with (first
    | (go_at_call 170; refine HC.out.mono ?_; rintro e w1 ⟨v, rfl, hr, hb1⟩; simp only [P.errW_none]; obtain ⟨g, c, rfl, hcap, hg, hcells⟩ := strs_own hr HN.out; obtain ⟨A, c', he, _, hC⟩ := Kd.R_reads hr; have HJ := Lib.hid (join_walk g c k2 r1 w1 (by injection he with e1 e2 e3; rw [e1]; exact hC) hcells hg hcap HK.out hn hlen); have HB := Aside0.mk hb1; clear he hC hr hb1 hcells hg hcap)
    | (go_at_call 171; refine HJ.out.mono ?_; rintro e w2 ⟨rfl, hb2⟩; have HB2 := Aside0.mk (below_then HB.out HB.out.size hb2); clear hb2))
  all_goals go_ret
  all_goals exact ⟨rfl, HB2.out⟩
theorem script_place.calls (a0 : ByteArray) (r : Bool) (w : World) (h : script_place.f a0 = some r) : Calls Tryz.prog 137 #[.string a0] w fun e w' => e = .returned (.bool r) ∧ Below w.heap.size w w' := by
  unfold script_place.f at h
  split at h
  · rename_i hs
    obtain rfl := Option.some.inj h
    obtain ⟨k, hk⟩ := split_ex a0 hs
    have hl0 := data_length a0
    by_cases hl : a0.data.toList = []
    · have e : placeB a0.data.toList = false := by rw [hl]; decide
      rw [e]
      unfold splitP at hk
      rw [if_pos hl] at hk
      exact place_no a0 k _ _ _ w hk (.inl ⟨_, rfl⟩)
    · unfold splitP at hk
      rw [if_neg hl] at hk
      cases hf : firstErr ((parts a0.data.toList).map mkB) with
      | some e0 =>
        rw [hf] at hk
        have e : placeB a0.data.toList = false := by
          have hn : ¬ ((parts a0.data.toList).length ≤ 8 ∧ (parts a0.data.toList).all pathCheckB = true) := fun z => by rw [(firstErr_none _).2 z] at hf; cases hf
          unfold placeB
          by_cases h8 : (parts a0.data.toList).length ≤ 8
          · have : (parts a0.data.toList).all pathCheckB = false := by
              cases hq : (parts a0.data.toList).all pathCheckB with
              | false => rfl
              | true => exact absurd ⟨h8, hq⟩ hn
            rw [this]; simp
          · simp [h8]
        rw [e]
        exact place_no a0 k _ _ _ w hk (.inl ⟨_, rfl⟩)
      | none =>
        rw [hf] at hk
        obtain ⟨h8, hall⟩ := (firstErr_none _).1 hf
        by_cases hh : a0.data.toList.head? = some 47
        · by_cases hp : parts a0.data.toList = []
          · have e : placeB a0.data.toList = false := by unfold placeB; simp [hp]
            rw [e]
            exact place_no a0 k _ _ _ w hk (.inr (.inr (by rw [hp]; rfl)))
          · have e : placeB a0.data.toList = ((mkB (joinP (bsOf ((parts a0.data.toList).map mkB)))).toList == a0.toList) := by
              unfold placeB
              rw [hall, bsOf_map, Lib.toList_data, Lib.toList_data]
              simp only [hh, h8, ne_eq, hp, not_false_eq_true, and_self, decide_true, Bool.true_and]
              show decide (joinP (parts a0.data.toList) = a0.data.toList) = (joinP (parts a0.data.toList) == a0.data.toList)
              by_cases z : joinP (parts a0.data.toList) = a0.data.toList <;> simp [z]
            rw [e]
            have hk' : P.path_Split.f k a0 = some ((parts a0.data.toList).map mkB, true, none) := by rw [hk]; simp [hh]
            obtain ⟨k2, hk2⟩ := check_ex ((parts a0.data.toList).map mkB) (by rw [List.length_map]; omega)
            rw [hf] at hk2
            exact place_yes a0 k k2 _ w hk' (by simpa using hp) hk2 (by rw [List.length_map]; omega) (by rw [bsOf_map]; have := join_parts_le a0.data.toList; omega)
        · have e : placeB a0.data.toList = false := by unfold placeB; simp [hh]
          rw [e]
          exact place_no a0 k _ _ _ w hk (.inr (.inl (by simp [hh])))
  · cases h
end Go.Proofs.YtinleajhckcapaaGreatDoor.Hand
namespace Go.Proofs.YtinleajhckcapaaGreatDoor.P
open Go.RowKit Go.Proofs.YtinleajhckcapaaGreatDoorW.PrintWords Go.Proofs.YtinleajhckcapaaGreatDoorW.PrintLast Go.Proofs.YtinleajhckcapaaGreatDoorW.PrintMore
attribute [local go_sem] max2_int min2_int max_two min_two max_three min_three max_four min_four
set_option linter.unusedVariables false
set_option linter.unusedSimpArgs false
def script_fits.f (a0 : Int) (a1 : ByteArray) : Option (Bool) := if a0 = 110 then ((Hand.script_Number.f a1).bind fun bt115 => (if bt115.2.isNone = true then (some true) else (some false))) else (if a0 = 112 then ((Hand.script_place.f a1).bind fun t118 => (some t118)) else (if a0 = 104 then ((Hand.script_Bytes.f a1).bind fun bt119 => (if bt119.2.isNone = true then (some true) else (some false))) else ((Hand.script_name.f a1).bind fun t124 => (some t124))))
set_option maxHeartbeats 8000000 in
set_option maxRecDepth 100000 in
theorem script_fits.calls (a0 : Int) (a1 : ByteArray) (r : Bool) (w : World) (hg : Hand.Glob w) (h : script_fits.f a0 a1 = some r) :
    Calls Tryz.prog 91 #[.int .u8 a0, .string a1] w fun e w' => e = .returned (.bool r) ∧ Below w.heap.size w w' := by
  have hu25 := Tryz.underlying25
  have hu93 := Tryz.underlying93
  have HG := Aside0.mk hg
  clear hg
  have HB := Aside0.mk (Below.refl w.heap.size w)
  have H : (if a0 = 110 then ((Hand.script_Number.f a1).bind fun bt115 => (if bt115.2.isNone = true then (some true) else (some false))) else (if a0 = 112 then ((Hand.script_place.f a1).bind fun t118 => (some t118)) else (if a0 = 104 then ((Hand.script_Bytes.f a1).bind fun bt119 => (if bt119.2.isNone = true then (some true) else (some false))) else ((Hand.script_name.f a1).bind fun t124 => (some t124))))) = some r := h
  clear h
  by_cases c3 : a0 = 110
  · rw [if_pos c3] at H
    have c3b0 : (a0 == 110) = true := beq_iff_eq.mpr c3
    have c3b1 : (a0 != 110) = false := bne_eq_false_iff_eq.mpr c3
    clear c3
    replace H := Option.bind_eq_some_iff.mp H
    obtain ⟨⟨t115, t116⟩, A40, H⟩ := H
    replace H : (if t116.isNone = true then (some true) else (some false)) = some r := H
    have A4 := Aside0.mk A40
    clear A40
    rcases t116 with _ | q117
    · have H1 : (some true) = some r := by rw [if_pos (show (none : Option Int).isNone = true by rfl)] at H; exact H
      clear H
      have H := H1
      clear H1
      try simp only [errW_none, errW_some]
      obtain rfl := Option.some.inj H
      go_enter Tryz.func91, Tryz.ntmps91
      go_wp2_with (first | ((with_reducible refine gate_callee (f := 136) rfl ?_); refine goesL_ (some 14) rfl rfl Tryz.func136 (by kernel_rfl) rfl #[.string a1] rfl (by (try simp only [List.map_toArray, List.map_cons, List.map_nil]); first | done | rfl | (simp only [List.length_drop, List.length_take]; rfl)) ?_; (with_reducible refine (Hand.script_Number.calls a1 t115 none _ ?side1 A4.out).mono ?_); (case side1 => exact Hand.Glob.below HG.out (by repeat (first | (with_reducible first | exact HB.out | apply below_alloc | apply pw_below_drewN | apply below_drew1) | exact HB.out))); rintro e w5 ⟨rfl, hb⟩; refine ⟨_, rfl, ?_⟩; have n0_ := Aside0.mk (below_step (by repeat (first | (with_reducible first | exact HB.out | apply below_alloc | apply pw_below_drewN | apply below_drew1) | exact HB.out)) hb); clear HB; have HB := n0_; clear n0_; (try clear hb); (try clear hb2); (try clear hk); (try clear hi); (try simp only [errW_none, errW_some])))
      go_ret
      exact ⟨by first | rfl | (simp [errW_none, errW_some] <;> rfl) | (simp [*, errW_none, errW_some] <;> rfl), by repeat (first | (with_reducible first | exact HB.out | apply below_alloc | apply pw_below_drewN | apply below_drew1) | exact HB.out)⟩
    · have H1 : (some false) = some r := by rw [if_neg (show ¬ (some q117).isNone = true by simp)] at H; exact H
      clear H
      have H := H1
      clear H1
      try simp only [errW_none, errW_some]
      obtain rfl := Option.some.inj H
      go_enter Tryz.func91, Tryz.ntmps91
      go_wp2_with (first | ((with_reducible refine gate_callee (f := 136) rfl ?_); refine goesL_ (some 14) rfl rfl Tryz.func136 (by kernel_rfl) rfl #[.string a1] rfl (by (try simp only [List.map_toArray, List.map_cons, List.map_nil]); first | done | rfl | (simp only [List.length_drop, List.length_take]; rfl)) ?_; (with_reducible refine (Hand.script_Number.calls a1 t115 (some q117) _ ?side1 A4.out).mono ?_); (case side1 => exact Hand.Glob.below HG.out (by repeat (first | (with_reducible first | exact HB.out | apply below_alloc | apply pw_below_drewN | apply below_drew1) | exact HB.out))); rintro e w6 ⟨rfl, hb⟩; refine ⟨_, rfl, ?_⟩; have n0_ := Aside0.mk (below_step (by repeat (first | (with_reducible first | exact HB.out | apply below_alloc | apply pw_below_drewN | apply below_drew1) | exact HB.out)) hb); clear HB; have HB := n0_; clear n0_; (try clear hb); (try clear hb2); (try clear hk); (try clear hi); (try simp only [errW_none, errW_some])))
      go_ret
      exact ⟨by first | rfl | (simp [errW_none, errW_some] <;> rfl) | (simp [*, errW_none, errW_some] <;> rfl), by repeat (first | (with_reducible first | exact HB.out | apply below_alloc | apply pw_below_drewN | apply below_drew1) | exact HB.out)⟩
  · rw [if_neg c3] at H
    have c3b0 : (a0 == 110) = false := beq_eq_false_iff_ne.mpr c3
    have c3b1 : (a0 != 110) = true := bne_iff_ne.mpr c3
    by_cases c7 : a0 = 112
    · rw [if_pos c7] at H
      have c7b0 : (a0 == 112) = true := beq_iff_eq.mpr c7
      have c7b1 : (a0 != 112) = false := bne_eq_false_iff_eq.mpr c7
      clear c7
      replace H := Option.bind_eq_some_iff.mp H
      obtain ⟨t118, A80, H⟩ := H
      replace H : (some t118) = some r := H
      have A8 := Aside0.mk A80
      clear A80
      obtain rfl := Option.some.inj H
      go_enter Tryz.func91, Tryz.ntmps91
      go_wp2_with (first | ((with_reducible refine gate_callee (f := 137) rfl ?_); refine goesL_ (some 22) rfl rfl Tryz.func137 (by kernel_rfl) rfl #[.string a1] rfl (by (try simp only [List.map_toArray, List.map_cons, List.map_nil]); first | done | rfl | (simp only [List.length_drop, List.length_take]; rfl)) ?_; (with_reducible refine (Hand.script_place.calls a1 t118 _ A8.out).mono ?_); rintro e w9 ⟨rfl, hb⟩; refine ⟨_, rfl, ?_⟩; have n0_ := Aside0.mk (below_step (by repeat (first | (with_reducible first | exact HB.out | apply below_alloc | apply pw_below_drewN | apply below_drew1) | exact HB.out)) hb); clear HB; have HB := n0_; clear n0_; (try clear hb); (try clear hb2); (try clear hk); (try clear hi)))
      go_ret
      exact ⟨by first | rfl | (simp [errW_none, errW_some] <;> rfl) | (simp [*, errW_none, errW_some] <;> rfl), by repeat (first | (with_reducible first | exact HB.out | apply below_alloc | apply pw_below_drewN | apply below_drew1) | exact HB.out)⟩
    · rw [if_neg c7] at H
      have c7b0 : (a0 == 112) = false := beq_eq_false_iff_ne.mpr c7
      have c7b1 : (a0 != 112) = true := bne_iff_ne.mpr c7
      by_cases c10 : a0 = 104
      · rw [if_pos c10] at H
        have c10b0 : (a0 == 104) = true := beq_iff_eq.mpr c10
        have c10b1 : (a0 != 104) = false := bne_eq_false_iff_eq.mpr c10
        clear c10
        replace H := Option.bind_eq_some_iff.mp H
        obtain ⟨⟨t119, t120⟩, A110, H⟩ := H
        replace H : (if t120.isNone = true then (some true) else (some false)) = some r := H
        have A11 := Aside0.mk A110
        clear A110
        rcases t120 with _ | q123
        · have H1 : (some true) = some r := by rw [if_pos (show (none : Option Int).isNone = true by rfl)] at H; exact H
          clear H
          have H := H1
          clear H1
          try simp only [errW_none, errW_some]
          obtain rfl := Option.some.inj H
          go_enter Tryz.func91, Tryz.ntmps91
          go_wp2_with (first | ((with_reducible refine gate_callee (f := 14) rfl ?_); refine goesL_ (some 27) rfl rfl Tryz.func14 (by kernel_rfl) rfl #[.string a1] rfl (by (try simp only [List.map_toArray, List.map_cons, List.map_nil]); first | done | rfl | (simp only [List.length_drop, List.length_take]; rfl)) ?_; (with_reducible refine (Hand.script_Bytes.calls a1 t119 none _ A11.out).mono ?_); rintro e w12 ⟨v121, rfl, ho0, hb⟩; refine ⟨_, rfl, ?_⟩; have n0_ := Aside0.mk (Kd.R_lower ho0 (below_size (by repeat (first | (with_reducible first | exact HB.out | apply below_alloc | apply pw_below_drewN | apply below_drew1) | exact HB.out)))); have n1_ := Aside0.mk (below_step (by repeat (first | (with_reducible first | exact HB.out | apply below_alloc | apply pw_below_drewN | apply below_drew1) | exact HB.out)) hb); clear HB; have HO122 := n0_; have HB := n1_; clear n0_ n1_; (try clear hb); (try clear hb2); (try clear hk); (try clear hi); (try clear ho0); (try simp only [errW_none, errW_some])))
          go_ret
          exact ⟨by first | rfl | (simp [errW_none, errW_some] <;> rfl) | (simp [*, errW_none, errW_some] <;> rfl), by repeat (first | (with_reducible first | exact HB.out | apply below_alloc | apply pw_below_drewN | apply below_drew1) | exact HB.out)⟩
        · have H1 : (some false) = some r := by rw [if_neg (show ¬ (some q123).isNone = true by simp)] at H; exact H
          clear H
          have H := H1
          clear H1
          try simp only [errW_none, errW_some]
          obtain rfl := Option.some.inj H
          go_enter Tryz.func91, Tryz.ntmps91
          go_wp2_with (first | ((with_reducible refine gate_callee (f := 14) rfl ?_); refine goesL_ (some 27) rfl rfl Tryz.func14 (by kernel_rfl) rfl #[.string a1] rfl (by (try simp only [List.map_toArray, List.map_cons, List.map_nil]); first | done | rfl | (simp only [List.length_drop, List.length_take]; rfl)) ?_; (with_reducible refine (Hand.script_Bytes.calls a1 t119 (some q123) _ A11.out).mono ?_); rintro e w13 ⟨v121, rfl, ho0, hb⟩; refine ⟨_, rfl, ?_⟩; have n0_ := Aside0.mk (Kd.R_lower ho0 (below_size (by repeat (first | (with_reducible first | exact HB.out | apply below_alloc | apply pw_below_drewN | apply below_drew1) | exact HB.out)))); have n1_ := Aside0.mk (below_step (by repeat (first | (with_reducible first | exact HB.out | apply below_alloc | apply pw_below_drewN | apply below_drew1) | exact HB.out)) hb); clear HB; have HO122 := n0_; have HB := n1_; clear n0_ n1_; (try clear hb); (try clear hb2); (try clear hk); (try clear hi); (try clear ho0); (try simp only [errW_none, errW_some])))
          go_ret
          exact ⟨by first | rfl | (simp [errW_none, errW_some] <;> rfl) | (simp [*, errW_none, errW_some] <;> rfl), by repeat (first | (with_reducible first | exact HB.out | apply below_alloc | apply pw_below_drewN | apply below_drew1) | exact HB.out)⟩
      · rw [if_neg c10] at H
        have c10b0 : (a0 == 104) = false := beq_eq_false_iff_ne.mpr c10
        have c10b1 : (a0 != 104) = true := bne_iff_ne.mpr c10
        replace H := Option.bind_eq_some_iff.mp H
        obtain ⟨t124, A140, H⟩ := H
        replace H : (some t124) = some r := H
        have A14 := Aside0.mk A140
        clear A140
        obtain rfl := Option.some.inj H
        go_enter Tryz.func91, Tryz.ntmps91
        go_wp2_with (first | ((with_reducible refine gate_callee (f := 138) rfl ?_); refine goesL_ (some 33) rfl rfl Tryz.func138 (by kernel_rfl) rfl #[.string a1] rfl (by (try simp only [List.map_toArray, List.map_cons, List.map_nil]); first | done | rfl | (simp only [List.length_drop, List.length_take]; rfl)) ?_; (with_reducible refine (Hand.script_name.calls a1 t124 _ A14.out).mono ?_); rintro e w15 ⟨rfl, hb⟩; refine ⟨_, rfl, ?_⟩; have n0_ := Aside0.mk (below_step (by repeat (first | (with_reducible first | exact HB.out | apply below_alloc | apply pw_below_drewN | apply below_drew1) | exact HB.out)) hb); clear HB; have HB := n0_; clear n0_; (try clear hb); (try clear hb2); (try clear hk); (try clear hi)))
        go_ret
        exact ⟨by first | rfl | (simp [errW_none, errW_some] <;> rfl) | (simp [*, errW_none, errW_some] <;> rfl), by repeat (first | (with_reducible first | exact HB.out | apply below_alloc | apply pw_below_drewN | apply below_drew1) | exact HB.out)⟩
mutual
def script_Check.j0 : Nat → ByteArray → Bool → ByteArray → List ByteArray → Option (Option Int)
  | 0, _, _, _, _ => none
  | k + 1, x5, x40, x126000, x126001 => if x40 = true then (some (some 337)) else (script_Check.l0 k x5 x126001 (x126001.length : Int) 0)
def script_Check.l0 : Nat → ByteArray → List ByteArray → Int → Int → Option (Option Int)
  | 0, _, _, _, _ => none
  | k + 1, x5, x43, x44, x45 => if x45 < x44 then (if 0 ≤ x45 then (if x45 < (x43.length : Int) then (if 0 ≤ (mn x45 (wrap64 ((x5.size : Int) - 1))) then (if (mn x45 (wrap64 ((x5.size : Int) - 1))) < (x5.size : Int) then ((script_fits.f (bt x5 (mn x45 (wrap64 ((x5.size : Int) - 1)))) (rdOf ByteArray.empty x43 x45)).bind fun t131 => (if t131 = true then (script_Check.l0 k x5 x43 x44 (wrap64 (x45 + 1))) else (some (some 337)))) else (none)) else (none)) else (none)) else (none)) else (some none)
end
def script_Check.f (k : Nat) (a0_0 : ByteArray) (l0_1 : List ByteArray) : Option (Option Int) := (script_Needs.f k a0_0).bind fun bt126 => (if bt126.2 = true then ((strings_CutSuffix.f bt126.1 (⟨#[43]⟩ : ByteArray)).bind fun bt128 => (if (l0_1.length : Int) < (bt128.1.size : Int) then (script_Check.j0 k bt128.1 true a0_0 l0_1) else (if (l0_1.length : Int) > (bt128.1.size : Int) then (script_Check.j0 k bt128.1 (!bt128.2) a0_0 l0_1) else (script_Check.j0 k bt128.1 false a0_0 l0_1)))) else (some (some 337)))
set_option maxHeartbeats 8000000 in
set_option maxRecDepth 100000 in
theorem script_Check.calls (k : Nat) (a0_0 : ByteArray) (A0_1 : Option Addr) (c0_1 : Nat) (l0_1 : List ByteArray) (r : Option Int) (w : World) (hr0_1 : Kd.C Kd.string w A0_1 l0_1.length l0_1) (hc0_1 : l0_1.length ≤ c0_1) (hg : Hand.Glob w) (h : script_Check.f k a0_0 l0_1 = some r) :
    Calls Tryz.prog 45 #[.agg #[.string a0_0, .slice A0_1 l0_1.length c0_1]] w fun e w' => e = .returned (errW r) ∧ Below w.heap.size w w' := by
  have hu34 := Tryz.underlying34
  have hu25 := Tryz.underlying25
  have hu93 := Tryz.underlying93
  have HR0_1 := Aside0.mk hr0_1
  have HC0_1 := Aside0.mk hc0_1
  clear hr0_1 hc0_1
  have HG := Aside0.mk hg
  clear hg
  have HB := Aside0.mk (Below.refl w.heap.size w)
  have H : ((script_Needs.f k a0_0).bind fun bt126 => (if bt126.2 = true then ((strings_CutSuffix.f bt126.1 (⟨#[43]⟩ : ByteArray)).bind fun bt128 => (if (l0_1.length : Int) < (bt128.1.size : Int) then (script_Check.j0 k bt128.1 true a0_0 l0_1) else (if (l0_1.length : Int) > (bt128.1.size : Int) then (script_Check.j0 k bt128.1 (!bt128.2) a0_0 l0_1) else (script_Check.j0 k bt128.1 false a0_0 l0_1)))) else (some (some 337)))) = some r := h
  clear h
  replace H := Option.bind_eq_some_iff.mp H
  obtain ⟨⟨t126, t127⟩, A20, H⟩ := H
  replace H : (if t127 = true then ((strings_CutSuffix.f t126 (⟨#[43]⟩ : ByteArray)).bind fun bt128 => (if (l0_1.length : Int) < (bt128.1.size : Int) then (script_Check.j0 k bt128.1 true a0_0 l0_1) else (if (l0_1.length : Int) > (bt128.1.size : Int) then (script_Check.j0 k bt128.1 (!bt128.2) a0_0 l0_1) else (script_Check.j0 k bt128.1 false a0_0 l0_1)))) else (some (some 337))) = some r := H
  have A2 := Aside0.mk A20
  clear A20
  by_cases c3 : t127 = true
  · subst c3
    have H1 : ((strings_CutSuffix.f t126 (⟨#[43]⟩ : ByteArray)).bind fun bt128 => (if (l0_1.length : Int) < (bt128.1.size : Int) then (script_Check.j0 k bt128.1 true a0_0 l0_1) else (if (l0_1.length : Int) > (bt128.1.size : Int) then (script_Check.j0 k bt128.1 (!bt128.2) a0_0 l0_1) else (script_Check.j0 k bt128.1 false a0_0 l0_1)))) = some r := by rw [if_pos rfl] at H; exact H
    clear H
    have H := H1
    clear H1
    replace H := Option.bind_eq_some_iff.mp H
    obtain ⟨⟨t128, t129⟩, A40, H⟩ := H
    replace H : (if (l0_1.length : Int) < (t128.size : Int) then (script_Check.j0 k t128 true a0_0 l0_1) else (if (l0_1.length : Int) > (t128.size : Int) then (script_Check.j0 k t128 (!t129) a0_0 l0_1) else (script_Check.j0 k t128 false a0_0 l0_1))) = some r := H
    have A4 := Aside0.mk A40
    clear A40
    have HC5 := Aside0.mk H
    clear H
    go_enter Tryz.func45, Tryz.ntmps45
    go_upto_region 5 with (first | ((with_reducible refine gate_dst (N := 1) rfl ?_); (try (refine gate_guard (by rfl) ?_; dsimp only)); refine box_event ?hg (N := 1) ?hd (cs := #[.string a0_0, .slice A0_1 l0_1.length c0_1]) (t := 34) ?hr ?_; (case hd => rfl); (case hg => rfl); (case hr => first | (go_simp; done) | (go_simp; rfl)); intro gb125 hg w6 hbox hb; have n0_ := Aside0.mk (below_step (by repeat (first | (with_reducible first | exact HB.out | apply below_alloc | apply pw_below_drewN | apply below_drew1) | exact HB.out)) hb); have n1_ := Aside0.mk (hbox); have n2_ := Aside0.mk ((by rw [hg]; exact (below_size (by repeat (first | (with_reducible first | exact HB.out | apply below_alloc | apply pw_below_drewN | apply below_drew1) | exact HB.out))) : w.heap.size ≤ gb125)); have n3_ := Aside0.mk ((by rw [hg]; exact (below_size (by repeat (first | (with_reducible first | exact HB.out | apply below_alloc | apply pw_below_drewN | apply below_drew1) | exact HB.out))) : w.heap.size ≤ gb125)); clear HB; have HB := n0_; have BK125 := n1_; have GW125 := n2_; have GE125 := n3_; clear n0_ n1_ n2_ n3_; clear hb hbox hg; have hcz7_0 : w6.cell? ⟨gb125, 0, none⟩ = some (.string a0_0) := (blk_cell BK125.out 0).trans rfl; have hcz7_1 : w6.cell? ⟨gb125, 1, none⟩ = some (.slice A0_1 l0_1.length c0_1) := (blk_cell BK125.out 1).trans rfl; have hfz7_0 := blk_frozen BK125.out 0; have hfz7_1 := blk_frozen BK125.out 1) | ((with_reducible refine gate_callee (f := 40) rfl ?_); refine goesL_ (some 12) rfl rfl Tryz.func40 (by kernel_rfl) rfl #[.string a0_0] rfl (by (try simp only [List.map_toArray, List.map_cons, List.map_nil]); first | done | rfl | (simp only [List.length_drop, List.length_take]; rfl)) ?_; (with_reducible refine (script_Needs.calls k a0_0 t126 true _ A2.out).mono ?_); rintro e w' ⟨rfl, ⟨nd, rfl⟩⟩; refine ⟨_, rfl, ?_⟩) | ((with_reducible refine gate_callee (f := 69) rfl ?_); refine goesL_ (some 20) rfl rfl Tryz.func69 (by kernel_rfl) rfl #[.string t126, .string (⟨#[43]⟩ : ByteArray)] rfl (by (try simp only [List.map_toArray, List.map_cons, List.map_nil]); first | done | rfl | (simp only [List.length_drop, List.length_take]; rfl)) ?_; (with_reducible refine (strings_CutSuffix.calls t126 (⟨#[43]⟩ : ByteArray) t128 t129 _ A4.out).mono ?_); rintro e w' ⟨rfl, ⟨nd, rfl⟩⟩; refine ⟨_, rfl, ?_⟩))
    (try simp only [Act.put, List.setIfInBounds_toArray, List.set_cons_zero, List.set_cons_succ])
    go_cut [40] (fun v40 wc => ∃ (kq : Nat) (x40_4 : Bool), v40 = .bool x40_4 ∧ Aside0 (script_Check.j0 kq t128 x40_4 a0_0 l0_1 = some r) ∧ Aside0 (kq ≤ k) ∧ Aside0 (wc.heap[gb125]? = some (.cells #[.string a0_0, (.slice A0_1 l0_1.length c0_1)] 34 (0, 0))) ∧ Aside0 (Below w.heap.size w wc))
    case first =>
      have H := HC5.out
      clear HC5
      by_cases c8 : (l0_1.length : Int) < (t128.size : Int)
      · rw [if_pos c8] at H
        have c8b0 : decide ((l0_1.length : Int) < (t128.size : Int)) = true := decide_eq_true c8
        have c8b1 : decide (l0_1.length < t128.size) = true := decide_eq_true (Int.ofNat_lt.mp c8)
        clear c8
        (first | rw [c8b0] | (simp only [i64_w, i32_w]; rw [c8b0]) | skip)
        have H' := Aside0.mk H
        clear H
        have hcz9_0 : w6.cell? ⟨gb125, 0, none⟩ = some (.string a0_0) := (blk_cell BK125.out 0).trans rfl
        have hcz9_1 : w6.cell? ⟨gb125, 1, none⟩ = some (.slice A0_1 l0_1.length c0_1) := (blk_cell BK125.out 1).trans rfl
        have hfz9_0 := blk_frozen BK125.out 0
        have hfz9_1 := blk_frozen BK125.out 1
        go_wp2
        go_meet
        case rel => exact ⟨_, (true), (by first | rfl | (simp; done) | (simp [*]; done)), H', ⟨by first | omega | exact Nat.le_refl _⟩, ⟨by (with_reducible repeat (first | refine blk_drewN ?_ _ | refine blk_drew ?_ | refine blk_alloc ?_ _)); exact BK125.out⟩, ⟨by repeat (first | (with_reducible first | exact HB.out | apply below_alloc | apply pw_below_drewN | apply below_drew1 | refine below_set ?_ GE125.out) | exact HB.out)⟩⟩
      · rw [if_neg c8] at H
        have c8b0 : decide ((l0_1.length : Int) < (t128.size : Int)) = false := decide_eq_false c8
        have c8b1 : decide (l0_1.length < t128.size) = false := decide_eq_false (fun h => c8 (Int.ofNat_lt.mpr h))
        clear c8
        (first | rw [c8b0] | (simp only [i64_w, i32_w]; rw [c8b0]) | skip)
        by_cases c10 : (l0_1.length : Int) > (t128.size : Int)
        · rw [if_pos c10] at H
          have c10b0 : decide ((t128.size : Int) < (l0_1.length : Int)) = true := decide_eq_true c10
          have c10b1 : decide (t128.size < l0_1.length) = true := decide_eq_true (Int.ofNat_lt.mp c10)
          clear c10
          have H' := Aside0.mk H
          clear H
          have hcz11_0 : w6.cell? ⟨gb125, 0, none⟩ = some (.string a0_0) := (blk_cell BK125.out 0).trans rfl
          have hcz11_1 : w6.cell? ⟨gb125, 1, none⟩ = some (.slice A0_1 l0_1.length c0_1) := (blk_cell BK125.out 1).trans rfl
          have hfz11_0 := blk_frozen BK125.out 0
          have hfz11_1 := blk_frozen BK125.out 1
          go_wp2
          go_meet
          case rel => exact ⟨_, (!t129), (by first | rfl | (simp; done) | (simp [*]; done)), H', ⟨by first | omega | exact Nat.le_refl _⟩, ⟨by (with_reducible repeat (first | refine blk_drewN ?_ _ | refine blk_drew ?_ | refine blk_alloc ?_ _)); exact BK125.out⟩, ⟨by repeat (first | (with_reducible first | exact HB.out | apply below_alloc | apply pw_below_drewN | apply below_drew1 | refine below_set ?_ GE125.out) | exact HB.out)⟩⟩
        · rw [if_neg c10] at H
          have c10b0 : decide ((t128.size : Int) < (l0_1.length : Int)) = false := decide_eq_false c10
          have c10b1 : decide (t128.size < l0_1.length) = false := decide_eq_false (fun h => c10 (Int.ofNat_lt.mpr h))
          clear c10
          have H' := Aside0.mk H
          clear H
          have hcz12_0 : w6.cell? ⟨gb125, 0, none⟩ = some (.string a0_0) := (blk_cell BK125.out 0).trans rfl
          have hcz12_1 : w6.cell? ⟨gb125, 1, none⟩ = some (.slice A0_1 l0_1.length c0_1) := (blk_cell BK125.out 1).trans rfl
          have hfz12_0 := blk_frozen BK125.out 0
          have hfz12_1 := blk_frozen BK125.out 1
          go_wp2
          go_meet
          case rel => exact ⟨_, (false), (by first | rfl | (simp; done) | (simp [*]; done)), H', ⟨by first | omega | exact Nat.le_refl _⟩, ⟨by (with_reducible repeat (first | refine blk_drewN ?_ _ | refine blk_drew ?_ | refine blk_alloc ?_ _)); exact BK125.out⟩, ⟨by repeat (first | (with_reducible first | exact HB.out | apply below_alloc | apply pw_below_drewN | apply below_drew1 | refine below_set ?_ GE125.out) | exact HB.out)⟩⟩
    case rest =>
      clear HC5
      try clear c1
      try clear p2
      try clear c3
      try clear c4
      try clear c6
      try clear c8
      try clear c8b0
      try clear c8b1
      try clear c10
      try clear c10b0
      try clear c10b1
      try clear hcz11_0
      try clear hcz11_1
      try clear hcz12_0
      try clear hcz12_1
      try clear hcz7_0
      try clear hcz7_1
      try clear hcz9_0
      try clear hcz9_1
      try clear hfz11_0
      try clear hfz11_1
      try clear hfz12_0
      try clear hfz12_1
      try clear hfz7_0
      try clear hfz7_1
      try clear hfz9_0
      try clear hfz9_1
      obtain ⟨kq, x40_4, rfl, HA, HJ4, BK125, HB⟩ := hcut
      cases kq with
      | zero => exact absurd HA.out (by simp [script_Check.j0])
      | succ kj4 =>
        have H := HA.out
        clear HA
        simp only [script_Check.j0] at H
        by_cases c13 : x40_4 = true
        · subst c13
          have H1 : (some (some 337)) = some r := by rw [if_pos rfl] at H; exact H
          clear H
          have H := H1
          clear H1
          obtain rfl := Option.some.inj H
          go_wp2
          go_ret
          exact ⟨by first | rfl | (simp [errW_none, errW_some] <;> rfl) | (simp [*, errW_none, errW_some] <;> rfl), by repeat (first | (with_reducible first | exact HB.out | apply below_alloc | apply pw_below_drewN | apply below_drew1 | refine below_set ?_ GE125.out) | exact HB.out)⟩
        · replace c13 := Bool.eq_false_iff.mpr c13
          subst c13
          have H1 : (script_Check.l0 kj4 t128 l0_1 (l0_1.length : Int) 0) = some r := by rw [if_neg (show ¬ (false = true) by decide)] at H; exact H
          clear H
          have H := H1
          clear H1
          have H' := Aside0.mk H
          clear H
          have hcz14_0 : wc.cell? ⟨gb125, 0, none⟩ = some (.string a0_0) := (blk_cell BK125.out 0).trans rfl
          have hcz14_1 : wc.cell? ⟨gb125, 1, none⟩ = some (.slice A0_1 l0_1.length c0_1) := (blk_cell BK125.out 1).trans rfl
          have hfz14_0 := blk_frozen BK125.out 0
          have hfz14_1 := blk_frozen BK125.out 1
          go_wp2
          go_loopg [45] kj4 (fun kq v45 w' => ∃ (x45_2 : Int), v45 = .int .i64 x45_2 ∧ Aside0 (script_Check.l0 kq t128 l0_1 (l0_1.length : Int) x45_2 = some r) ∧ Aside0 (kq ≤ kj4) ∧ Aside0 (w'.heap[gb125]? = some (.cells #[.string a0_0, (.slice A0_1 l0_1.length c0_1)] 34 (0, 0))) ∧ Aside0 (Below w.heap.size w w'))
          case atStart => exact ⟨(0), (by first | rfl | (simp; done) | (simp [*]; done)), H', ⟨Nat.le_refl _⟩, ⟨by (with_reducible repeat (first | refine blk_drewN ?_ _ | refine blk_drew ?_ | refine blk_alloc ?_ _)); exact BK125.out⟩, ⟨by repeat (first | (with_reducible first | exact HB.out | apply below_alloc | apply pw_below_drewN | apply below_drew1 | refine below_set ?_ GE125.out) | exact HB.out)⟩⟩
          case round =>
            clear H'
            try clear c1
            try clear p2
            try clear c3
            try clear c4
            try clear c6
            try clear c8
            try clear c8b0
            try clear c8b1
            try clear c10
            try clear c10b0
            try clear c10b1
            try clear c13
            try clear hcz11_0
            try clear hcz11_1
            try clear hcz12_0
            try clear hcz12_1
            try clear hcz14_0
            try clear hcz14_1
            try clear hcz7_0
            try clear hcz7_1
            try clear hcz9_0
            try clear hcz9_1
            try clear hfz11_0
            try clear hfz11_1
            try clear hfz12_0
            try clear hfz12_1
            try clear hfz14_0
            try clear hfz14_1
            try clear hfz7_0
            try clear hfz7_1
            try clear hfz9_0
            try clear hfz9_1
            try clear p2
            obtain ⟨x45_2, rfl, HA, HK2, BK125, HB⟩ := hrel
            cases gk with
            | zero => exact absurd HA.out (by simp [script_Check.l0])
            | succ k2 =>
              have H := HA.out
              clear HA
              simp only [script_Check.l0] at H
              by_cases c15 : x45_2 < (l0_1.length : Int)
              · rw [if_pos c15] at H
                have c15b0 : decide (x45_2 < (l0_1.length : Int)) = true := decide_eq_true c15
                clear c15
                by_cases c16 : 0 ≤ x45_2
                · rw [if_pos c16] at H
                  have c16b0 : decide (0 ≤ x45_2) = true := decide_eq_true c16
                  clear c16
                  by_cases c17 : x45_2 < (l0_1.length : Int)
                  · rw [if_pos c17] at H
                    have c17b0 : decide (x45_2 < (l0_1.length : Int)) = true := decide_eq_true c17
                    clear c17
                    obtain ⟨ji18, hji18⟩ : ∃ j_ : Int, (mn x45_2 (wrap64 ((t128.size : Int) - 1))) = j_ := ⟨_, rfl⟩
                    replace H : (if 0 ≤ (ji18) then (if (ji18) < (t128.size : Int) then ((script_fits.f (bt t128 (ji18)) (rdOf ByteArray.empty l0_1 x45_2)).bind fun t131 => (if t131 = true then (script_Check.l0 k2 t128 l0_1 (l0_1.length : Int) (wrap64 (x45_2 + 1))) else (some (some 337)))) else (none)) else (none)) = some r := by first | (rw [hji18] at H; exact H) | (simp only [hji18] at H ⊢; exact H)
                    have hji18_ : (if (wrap64 ((t128.size : Int) - 1)) < x45_2 then (wrap64 ((t128.size : Int) - 1)) else x45_2) = ji18 := hji18
                    by_cases c19 : 0 ≤ (ji18)
                    · rw [if_pos c19] at H
                      have c19b0 : decide (0 ≤ (ji18)) = true := decide_eq_true c19
                      clear c19
                      by_cases c20 : (ji18) < (t128.size : Int)
                      · rw [if_pos c20] at H
                        have c20b0 : decide ((ji18) < (t128.size : Int)) = true := decide_eq_true c20
                        clear c20
                        replace H := Option.bind_eq_some_iff.mp H
                        obtain ⟨t131, A220, H⟩ := H
                        replace H : (if t131 = true then (script_Check.l0 k2 t128 l0_1 (l0_1.length : Int) (wrap64 (x45_2 + 1))) else (some (some 337))) = some r := H
                        have A22 := Aside0.mk A220
                        clear A220
                        by_cases c23 : t131 = true
                        · subst c23
                          have H1 : (script_Check.l0 k2 t128 l0_1 (l0_1.length : Int) (wrap64 (x45_2 + 1))) = some r := by rw [if_pos rfl] at H; exact H
                          clear H
                          have H := H1
                          clear H1
                          have H' := Aside0.mk H
                          clear H
                          have p130 : 0 ≤ (x45_2 : Int) := of_decide_eq_true (by first | (with_reducible assumption) | assumption)
                          have q130 : x45_2 < (l0_1.length : Int) := of_decide_eq_true (by first | (with_reducible assumption) | assumption)
                          obtain ⟨ad130, e130, hx130_0⟩ := Kd.at_string HR0_1.out x45_2 p130 q130
                          cases e130
                          replace hx130_0 := (HB.out.cell (World.block_lt_of_cell? w _ hx130_0)).trans hx130_0
                          replace p130 := eq_true p130
                          replace q130 := eq_true q130
                          have p21 : 0 ≤ ((ji18) : Int) := of_decide_eq_true (by first | (with_reducible assumption) | assumption)
                          have q21 : (ji18) < (t128.size : Int) := of_decide_eq_true (by first | (with_reducible assumption) | assumption)
                          have hx21 := bt_at t128 (ji18)
                          replace p21 := eq_true p21
                          replace q21 := eq_true q21
                          go_wp2_with (first | ((with_reducible refine gate_callee (f := 91) rfl ?_); refine goesL_ (some 58) rfl rfl Tryz.func91 (by kernel_rfl) rfl #[.int .u8 (bt t128 (ji18)), .string (rdOf ByteArray.empty l0_1 x45_2)] rfl (by (try simp only [List.map_toArray, List.map_cons, List.map_nil]); first | done | (simp only [hji18]; rfl) | rfl | (simp only [List.length_drop, List.length_take]; rfl)) ?_; (with_reducible refine (script_fits.calls (bt t128 (ji18)) (rdOf ByteArray.empty l0_1 x45_2) true _ ?side1 A22.out).mono ?_); (case side1 => exact Hand.Glob.below HG.out (by repeat (first | (with_reducible first | exact HB.out | apply below_alloc | apply pw_below_drewN | apply below_drew1 | refine below_set ?_ GE125.out) | exact HB.out))); rintro e w24 ⟨rfl, hb⟩; refine ⟨_, rfl, ?_⟩; have n0_ := Aside0.mk (blk_below (g := gb125) (o := .cells #[.string a0_0, .slice (some ad130) l0_1.length c0_1] 34 (0, 0)) (by (with_reducible repeat (first | refine blk_drewN ?_ _ | refine blk_drew ?_ | refine blk_alloc ?_ _)); exact BK125.out) hb); have n1_ := Aside0.mk (below_step (by repeat (first | (with_reducible first | exact HB.out | apply below_alloc | apply pw_below_drewN | apply below_drew1 | refine below_set ?_ GE125.out) | exact HB.out)) hb); clear BK125; clear HB; have BK125 := n0_; have HB := n1_; clear n0_ n1_; (try clear hb); (try clear hb2); (try clear hk); (try clear hi)))
                          go_roundg k2
                          case measure => have := HJ4.out; have := HK2.out; omega
                          case rel => exact ⟨(wrap64 (x45_2 + 1)), (by first | rfl | (simp; done) | (simp [*]; done)), H', ⟨by have := HJ4.out; have := HK2.out; omega⟩, ⟨by (with_reducible repeat (first | refine blk_drewN ?_ _ | refine blk_drew ?_ | refine blk_alloc ?_ _)); exact BK125.out⟩, ⟨by repeat (first | (with_reducible first | exact HB.out | apply below_alloc | apply pw_below_drewN | apply below_drew1 | refine below_set ?_ GE125.out) | exact HB.out)⟩⟩
                        · replace c23 := Bool.eq_false_iff.mpr c23
                          subst c23
                          have H1 : (some (some 337)) = some r := by rw [if_neg (show ¬ (false = true) by decide)] at H; exact H
                          clear H
                          have H := H1
                          clear H1
                          obtain rfl := Option.some.inj H
                          have p130 : 0 ≤ (x45_2 : Int) := of_decide_eq_true (by first | (with_reducible assumption) | assumption)
                          have q130 : x45_2 < (l0_1.length : Int) := of_decide_eq_true (by first | (with_reducible assumption) | assumption)
                          obtain ⟨ad130, e130, hx130_0⟩ := Kd.at_string HR0_1.out x45_2 p130 q130
                          cases e130
                          replace hx130_0 := (HB.out.cell (World.block_lt_of_cell? w _ hx130_0)).trans hx130_0
                          replace p130 := eq_true p130
                          replace q130 := eq_true q130
                          have p21 : 0 ≤ ((ji18) : Int) := of_decide_eq_true (by first | (with_reducible assumption) | assumption)
                          have q21 : (ji18) < (t128.size : Int) := of_decide_eq_true (by first | (with_reducible assumption) | assumption)
                          have hx21 := bt_at t128 (ji18)
                          replace p21 := eq_true p21
                          replace q21 := eq_true q21
                          go_wp2_with (first | ((with_reducible refine gate_callee (f := 91) rfl ?_); refine goesL_ (some 58) rfl rfl Tryz.func91 (by kernel_rfl) rfl #[.int .u8 (bt t128 (ji18)), .string (rdOf ByteArray.empty l0_1 x45_2)] rfl (by (try simp only [List.map_toArray, List.map_cons, List.map_nil]); first | done | (simp only [hji18]; rfl) | rfl | (simp only [List.length_drop, List.length_take]; rfl)) ?_; (with_reducible refine (script_fits.calls (bt t128 (ji18)) (rdOf ByteArray.empty l0_1 x45_2) false _ ?side1 A22.out).mono ?_); (case side1 => exact Hand.Glob.below HG.out (by repeat (first | (with_reducible first | exact HB.out | apply below_alloc | apply pw_below_drewN | apply below_drew1 | refine below_set ?_ GE125.out) | exact HB.out))); rintro e w25 ⟨rfl, hb⟩; refine ⟨_, rfl, ?_⟩; have n0_ := Aside0.mk (blk_below (g := gb125) (o := .cells #[.string a0_0, .slice (some ad130) l0_1.length c0_1] 34 (0, 0)) (by (with_reducible repeat (first | refine blk_drewN ?_ _ | refine blk_drew ?_ | refine blk_alloc ?_ _)); exact BK125.out) hb); have n1_ := Aside0.mk (below_step (by repeat (first | (with_reducible first | exact HB.out | apply below_alloc | apply pw_below_drewN | apply below_drew1 | refine below_set ?_ GE125.out) | exact HB.out)) hb); clear BK125; clear HB; have BK125 := n0_; have HB := n1_; clear n0_ n1_; (try clear hb); (try clear hb2); (try clear hk); (try clear hi)))
                          go_ret
                          exact ⟨by first | rfl | (simp [errW_none, errW_some] <;> rfl) | (simp only [← hji18]; first | rfl | (simp [errW_none, errW_some] <;> rfl)) | (simp [*, errW_none, errW_some] <;> rfl), by repeat (first | (with_reducible first | exact HB.out | apply below_alloc | apply pw_below_drewN | apply below_drew1 | refine below_set ?_ GE125.out) | exact HB.out)⟩
                      · rw [if_neg c20] at H
                        exact absurd H (by simp)
                    · rw [if_neg c19] at H
                      exact absurd H (by simp)
                  · rw [if_neg c17] at H
                    exact absurd H (by simp)
                · rw [if_neg c16] at H
                  exact absurd H (by simp)
              · rw [if_neg c15] at H
                have c15b0 : decide (x45_2 < (l0_1.length : Int)) = false := decide_eq_false c15
                clear c15
                obtain rfl := Option.some.inj H
                go_wp2
                go_ret
                exact ⟨by first | rfl | (simp [errW_none, errW_some] <;> rfl) | (simp [*, errW_none, errW_some] <;> rfl), by repeat (first | (with_reducible first | exact HB.out | apply below_alloc | apply pw_below_drewN | apply below_drew1 | refine below_set ?_ GE125.out) | exact HB.out)⟩
  · replace c3 := Bool.eq_false_iff.mpr c3
    subst c3
    have H1 : (some (some 337)) = some r := by rw [if_neg (show ¬ (false = true) by decide)] at H; exact H
    clear H
    have H := H1
    clear H1
    obtain rfl := Option.some.inj H
    go_enter Tryz.func45, Tryz.ntmps45
    go_wp2_with (first | ((with_reducible refine gate_dst (N := 1) rfl ?_); (try (refine gate_guard (by rfl) ?_; dsimp only)); refine box_event ?hg (N := 1) ?hd (cs := #[.string a0_0, .slice A0_1 l0_1.length c0_1]) (t := 34) ?hr ?_; (case hd => rfl); (case hg => rfl); (case hr => first | (go_simp; done) | (go_simp; rfl)); intro gb125 hg w26 hbox hb; have n0_ := Aside0.mk (below_step (by repeat (first | (with_reducible first | exact HB.out | apply below_alloc | apply pw_below_drewN | apply below_drew1) | exact HB.out)) hb); have n1_ := Aside0.mk (hbox); have n2_ := Aside0.mk ((by rw [hg]; exact (below_size (by repeat (first | (with_reducible first | exact HB.out | apply below_alloc | apply pw_below_drewN | apply below_drew1) | exact HB.out))) : w.heap.size ≤ gb125)); have n3_ := Aside0.mk ((by rw [hg]; exact (below_size (by repeat (first | (with_reducible first | exact HB.out | apply below_alloc | apply pw_below_drewN | apply below_drew1) | exact HB.out))) : w.heap.size ≤ gb125)); clear HB; have HB := n0_; have BK125 := n1_; have GW125 := n2_; have GE125 := n3_; clear n0_ n1_ n2_ n3_; clear hb hbox hg; have hcz27_0 : w26.cell? ⟨gb125, 0, none⟩ = some (.string a0_0) := (blk_cell BK125.out 0).trans rfl; have hcz27_1 : w26.cell? ⟨gb125, 1, none⟩ = some (.slice A0_1 l0_1.length c0_1) := (blk_cell BK125.out 1).trans rfl; have hfz27_0 := blk_frozen BK125.out 0; have hfz27_1 := blk_frozen BK125.out 1) | ((with_reducible refine gate_callee (f := 40) rfl ?_); refine goesL_ (some 12) rfl rfl Tryz.func40 (by kernel_rfl) rfl #[.string a0_0] rfl (by (try simp only [List.map_toArray, List.map_cons, List.map_nil]); first | done | rfl | (simp only [List.length_drop, List.length_take]; rfl)) ?_; (with_reducible refine (script_Needs.calls k a0_0 t126 false _ A2.out).mono ?_); rintro e w' ⟨rfl, ⟨nd, rfl⟩⟩; refine ⟨_, rfl, ?_⟩))
    go_ret
    exact ⟨by first | rfl | (simp [errW_none, errW_some] <;> rfl) | (simp [*, errW_none, errW_some] <;> rfl), by repeat (first | (with_reducible first | exact HB.out | apply below_alloc | apply pw_below_drewN | apply below_drew1 | refine below_set ?_ GE125.out) | exact HB.out)⟩
end Go.Proofs.YtinleajhckcapaaGreatDoor.P
namespace Go.Proofs.YtinleajhckcapaaGreatDoor.Hand
open Go Go.RowKit Go.Proofs.YtinleajhckcapaaGreatDoorW.PrintWords Go.Proofs.YtinleajhckcapaaGreatDoorW.PrintLast
theorem pneeds_eq (k : Nat) (v : ByteArray) : P.script_Needs.f (k + 5) v = some (mkB (needT v.data.toList).1, (needT v.data.toList).2) := by
  simp only [P.script_Needs.f, P.script_Needs.j0, P.script_Needs.j1, P.script_Needs.j2, P.script_Needs.j3, Lib.toList_data, beq_iff_eq]
  generalize v.data.toList = l
  by_cases h : ∃ j : Fin 18, l = (verbT.getD j.1 ([], [])).1
  · obtain ⟨⟨j, hj⟩, rfl⟩ := h
    have : j = 0 ∨ j = 1 ∨ j = 2 ∨ j = 3 ∨ j = 4 ∨ j = 5 ∨ j = 6 ∨ j = 7 ∨ j = 8 ∨ j = 9 ∨ j = 10 ∨ j = 11 ∨ j = 12 ∨ j = 13 ∨ j = 14 ∨ j = 15 ∨ j = 16 ∨ j = 17 := by omega
    rcases this with rfl | rfl | rfl | rfl | rfl | rfl | rfl | rfl | rfl | rfl | rfl | rfl | rfl | rfl | rfl | rfl | rfl | rfl <;> rfl
  · have hm : ∀ k, k < 18 → ¬ l = (verbT.getD k ([], [])).1 := fun k hk e => h ⟨⟨k, hk⟩, e⟩
    rw [needT_miss l hm]
    have h0 := hm 0 (by omega); have h1 := hm 1 (by omega); have h2 := hm 2 (by omega); have h3 := hm 3 (by omega); have h4 := hm 4 (by omega); have h5 := hm 5 (by omega)
    have h6 := hm 6 (by omega); have h7 := hm 7 (by omega); have h8 := hm 8 (by omega); have h9 := hm 9 (by omega); have h10 := hm 10 (by omega); have h11 := hm 11 (by omega)
    have h12 := hm 12 (by omega); have h13 := hm 13 (by omega); have h14 := hm 14 (by omega); have h15 := hm 15 (by omega); have h16 := hm 16 (by omega); have h17 := hm 17 (by omega)
    simp only [verbT, List.getD_cons_zero, List.getD_cons_succ] at h0 h1 h2 h3 h4 h5 h6 h7 h8 h9 h10 h11 h12 h13 h14 h15 h16 h17
    simp [*, mkB]
theorem fits_eq (c : UInt8) (a : ByteArray) (ha : a.size ≤ 1000000) : P.script_fits.f (c.toNat : Int) a = some (fitsB c a.data.toList) := by
  have hc : ∀ q : UInt8, ((c.toNat : Int) = (q.toNat : Int)) ↔ c = q := fun q => ⟨fun e => UInt8.toNat_inj.1 (by omega), fun e => by rw [e]⟩
  have e1 : (c.toNat : Int) = 110 ↔ c = 110 := hc 110
  have e2 : (c.toNat : Int) = 112 ↔ c = 112 := hc 112
  have e3 : (c.toNat : Int) = 104 ↔ c = 104 := hc 104
  unfold P.script_fits.f fitsB script_Number.f script_place.f script_Bytes.f script_name.f
  rw [if_pos ha, if_pos ha, if_pos ha, if_pos ha]
  by_cases h1 : c = 110
  · rw [if_pos (e1.2 h1), if_pos h1, Option.bind_some]
    cases numOf a.data.toList <;> rfl
  · rw [if_neg (fun e => h1 (e1.1 e)), if_neg h1]
    by_cases h2 : c = 112
    · rw [if_pos (e2.2 h2), if_pos h2, Option.bind_some]
    · rw [if_neg (fun e => h2 (e2.1 e)), if_neg h2]
      by_cases h3 : c = 104
      · rw [if_pos (e3.2 h3), if_pos h3, Option.bind_some]
        cases bytesB a.data.toList <;> rfl
      · rw [if_neg (fun e => h3 (e3.1 e)), if_neg h3, Option.bind_some]
theorem bt_at (s : Bs) (i : Nat) (h : i < s.length) : bt (mkB s) (i : Int) = ((s.getD i 0).toNat : Int) := by
  rw [← rd_bytesOf, byte_at _ _ (by simpa [mkB, ByteArray.size] using h)]
  rfl
theorem loop_eq (s : Bs) (a : List ByteArray) (ha : ∀ x ∈ a, x.size ≤ 1000000) (hl : a.length ≤ 1000000) (hs : s.length ≤ 16) (hsa : 1 ≤ s.length ∨ a.length = 0) : ∀ (d j k : Nat), a.length - j = d → j ≤ a.length → d < k →
    P.script_Check.l0 k (mkB s) a (a.length : Int) (j : Int) = some (if (List.range' j d).all (fun i => fitsB (s.getD (min i (s.length - 1)) 0) ((bsOf a).getD i [])) then none else some 337) := by
  intro d
  induction d with
  | zero =>
    intro j k hd hj hk
    obtain ⟨k, rfl⟩ : ∃ m, k = m + 1 := ⟨k - 1, by omega⟩
    simp only [P.script_Check.l0]
    rw [if_neg (by omega)]
    rfl
  | succ d ih =>
    intro j k hd hj hk
    obtain ⟨k, rfl⟩ : ∃ m, k = m + 1 := ⟨k - 1, by omega⟩
    have hlt : j < a.length := by omega
    have hz : ((mkB s).size : Int) = (s.length : Int) := by simp [mkB, ByteArray.size]
    have hw : wrap64 ((s.length : Int) - 1) = ((s.length - 1 : Nat) : Int) := by unfold wrap64; omega
    have hmn : mn (j : Int) ((s.length - 1 : Nat) : Int) = ((min j (s.length - 1) : Nat) : Int) := by unfold mn; split <;> omega
    simp only [P.script_Check.l0]
    rw [hz, hw, hmn, if_pos (by omega), if_pos (by omega), if_pos (by omega), if_pos (by omega), if_pos (by omega), bt_at s _ (by omega), rdOf_at a j hlt, fits_eq _ _ (ha _ (List.getElem_mem hlt)), Option.bind_some, List.range'_succ, List.all_cons]
    have hg : (bsOf a).getD j [] = a[j].data.toList := by simp [bsOf, hlt]
    rw [hg]
    cases hf : fitsB (s.getD (min j (s.length - 1)) 0) a[j].data.toList with
    | true =>
      rw [if_pos rfl, wrap_succ (n := a.length) (by omega) (by omega) (by omega), Bool.true_and]
      exact ih (j + 1) k (by omega) (by omega) (by omega)
    | false => rw [if_neg (by decide), Bool.false_and, if_neg (by decide)]
def specL : List (Bs × Bool) := [([], false), ([110], false), ([112], false), ([112, 119], true), ([112, 110], false), ([112, 110, 119], false), ([112, 104], false), ([110, 110], false), ([110, 119], false)]
theorem needs_mem {l : Bs} {p : Bs × Bool} (h : needs l = some p) : p ∈ specL := by
  unfold needs at h
  repeat' split at h
  all_goals (cases h <;> simp [specL])
theorem cut_eq : ∀ p ∈ specL, P.strings_CutSuffix.f (mkB (if p.2 then p.1 ++ [43] else p.1)) (⟨#[43]⟩ : ByteArray) = some (mkB p.1, p.2) := by
  intro p hp
  simp only [specL, List.mem_cons, List.not_mem_nil, or_false] at hp
  rcases hp with rfl | rfl | rfl | rfl | rfl | rfl | rfl | rfl | rfl <;> (simp only [P.strings_CutSuffix.f, P.stringslite_CutSuffix.f, P.stringslite_HasSuffix.f, Lib.toList_data, extract_drop, extract_take]; kernel_rfl)
theorem spec_len : ∀ p ∈ specL, p.1.length ≤ 16 ∧ (p.1.length = 0 → p.2 = false) := by decide
theorem chk_eq (v : ByteArray) (a : List ByteArray) (ha : ∀ x ∈ a, x.size ≤ 1000000) (hl : a.length ≤ 1000000) : P.script_Check.f (a.length + 10) v a = some (if chk v.data.toList (bsOf a) then none else some 337) := by
  unfold P.script_Check.f chk
  rw [show a.length + 10 = (a.length + 5) + 5 by omega, pneeds_eq, Option.bind_some]
  unfold needT
  cases hn : needs v.data.toList with
  | none => rfl
  | some p =>
    obtain ⟨s, more⟩ := p
    have hm := needs_mem hn
    have hz : ((mkB s).size : Int) = (s.length : Int) := by simp [mkB, ByteArray.size]
    have hlen := spec_len _ hm
    have hbl : (bsOf a).length = a.length := by simp [bsOf]
    simp only at hlen ⊢
    have hcut := cut_eq (s, more) hm
    simp only at hcut
    rw [if_pos trivial, hcut, Option.bind_some]
    simp only [hz, hbl]
    by_cases h1 : a.length < s.length
    · rw [if_pos (by omega), show a.length + 5 + 5 = (a.length + 9) + 1 by omega]
      simp only [P.script_Check.j0]
      have : ¬ (s.length ≤ a.length ∧ (more = true ∨ a.length ≤ s.length)) := fun h => by omega
      simp [this]
    · rw [if_neg (by omega)]
      have hlo : s.length ≤ a.length := by omega
      by_cases h2 : more = false ∧ a.length > s.length
      · obtain ⟨rfl, h2⟩ := h2
        rw [if_pos (by omega), show a.length + 5 + 5 = (a.length + 9) + 1 by omega]
        simp only [P.script_Check.j0]
        have : ¬ (s.length ≤ a.length ∧ ((false : Bool) = true ∨ a.length ≤ s.length)) := fun h => by
          rcases h.2 with h3 | h3
          · cases h3
          · omega
        rw [decide_eq_false this]
        rfl
      · have hok : s.length ≤ a.length ∧ (more = true ∨ a.length ≤ s.length) := by
          refine ⟨hlo, ?_⟩
          cases more with
          | true => exact .inl rfl
          | false => exact .inr (by have : ¬ (a.length > s.length) := fun h => h2 ⟨rfl, h⟩; omega)
        have hsa : 1 ≤ s.length ∨ a.length = 0 := by
          rcases hok.2 with h3 | h3
          · left
            rcases Nat.eq_zero_or_pos s.length with h4 | h4
            · rw [hlen.2 h4] at h3; cases h3
            · exact h4
          · omega
        have hL := loop_eq s a ha hl hlen.1 hsa a.length 0 (a.length + 9) (by omega) (by omega) (by omega)
        have hj : P.script_Check.j0 (a.length + 9 + 1) (mkB s) false v a = some (if (List.range a.length).all (fun i => fitsB (s.getD (min i (s.length - 1)) 0) ((bsOf a).getD i [])) then none else some 337) := by
          simp only [P.script_Check.j0]
          rw [if_neg (by decide)]
          rw [List.range_eq_range']
          exact hL
        have hfin : (decide (s.length ≤ a.length ∧ (more = true ∨ a.length ≤ s.length)) && (List.range a.length).all fun i => fitsB (s.getD (min i (s.length - 1)) 0) ((bsOf a).getD i [])) = (List.range a.length).all fun i => fitsB (s.getD (min i (s.length - 1)) 0) ((bsOf a).getD i []) := by rw [decide_eq_true hok, Bool.true_and]
        rw [hfin]
        by_cases h3 : a.length > s.length
        · rw [if_pos (by omega)]
          have hmt : more = true := by
            cases more with
            | true => rfl
            | false => exact absurd ⟨rfl, h3⟩ h2
          rw [hmt]
          exact hj
        · rw [if_neg (by omega)]
          exact hj
end Go.Proofs.YtinleajhckcapaaGreatDoor.Hand
namespace Go.Proofs.YtinleajhckcapaaGreatDoor.Hand
open Go Go.RowKit Go.Proofs.YtinleajhckcapaaGreatDoorW.PrintWords Go.Proofs.YtinleajhckcapaaGreatDoorW.PrintLast
def isDig (c : UInt8) : Bool := decide (48 ≤ c.toNat ∧ c.toNat ≤ 57)
def decVal (acc : Nat) (l : Bs) : Nat := l.foldl (fun a c => a * 10 + (c.toNat - 48)) acc
def canonB (l : Bs) : Bool := l.all isDig && decide (l ≠ [] ∧ (l.head? = some 48 → l.length = 1))
theorem decVal_snoc (acc : Nat) (l : Bs) (c : UInt8) : decVal acc (l ++ [c]) = decVal acc l * 10 + (c.toNat - 48) := by simp [decVal, List.foldl_append]
theorem dig_byte {c : UInt8} (h : isDig c = true) : UInt8.ofNat (48 + (c.toNat - 48)) = c := by
  have h := of_decide_eq_true h
  rw [show 48 + (c.toNat - 48) = c.toNat by omega]
  simp
theorem decVal_pos : ∀ (l : Bs) (acc : Nat), 1 ≤ acc → 1 ≤ decVal acc l
  | [], acc, h => h
  | c :: l, acc, h => decVal_pos l (acc * 10 + (c.toNat - 48)) (by omega)
theorem canon_pos {l : Bs} (h : canonB l = true) (h0 : l.head? ≠ some 48) : 1 ≤ decVal 0 l := by
  unfold canonB at h
  rw [Bool.and_eq_true] at h
  cases l with
  | nil => simp at h
  | cons c l =>
    rw [List.all_cons, Bool.and_eq_true] at h
    have hc := of_decide_eq_true h.1.1
    refine decVal_pos l (0 * 10 + (c.toNat - 48)) ?_
    have : c ≠ 48 := fun e => h0 (by rw [e]; rfl)
    have : c.toNat ≠ 48 := fun e => this (UInt8.toNat_inj.1 e)
    omega
theorem digits_val : ∀ (n : Nat) (l : Bs), l.length = n → canonB l = true → Lib.decDigits (decVal 0 l) = l := by
  intro n
  induction n with
  | zero => intro l hl h; obtain rfl := List.eq_nil_of_length_eq_zero hl; simp [canonB] at h
  | succ n ih =>
    intro l hl h
    have hne : l ≠ [] := fun e => by rw [e] at hl; simp at hl
    obtain ⟨l', c, rfl⟩ : ∃ l' c, l = l' ++ [c] := ⟨l.dropLast, l.getLast hne, (List.dropLast_concat_getLast hne).symm⟩
    have h1 := h
    unfold canonB at h1
    rw [Bool.and_eq_true, decide_eq_true_eq, List.all_append, Bool.and_eq_true] at h1
    obtain ⟨⟨hd, hc⟩, _, hz⟩ := h1
    have hc' : isDig c = true := by simpa using hc
    have hcb := of_decide_eq_true hc'
    rw [decVal_snoc]
    by_cases h0 : l' = []
    · subst h0
      show Lib.decDigits (0 * 10 + (c.toNat - 48)) = [c]
      rw [Nat.zero_mul, Nat.zero_add, Lib.decDigits_one (by omega), dig_byte hc']
    · have hl' : l'.length = n := by simpa using hl
      have hp : 1 ≤ l'.length := List.length_pos_iff.2 h0
      have hhead : l'.head? ≠ some 48 := fun e => by
        have h5 := hz (by rw [List.head?_append, e]; rfl)
        rw [List.length_append, List.length_cons, List.length_nil] at h5
        omega
      have hcan : canonB l' = true := by
        unfold canonB
        rw [hd, Bool.true_and, decide_eq_true_eq]
        exact ⟨h0, fun e => absurd e hhead⟩
      have h2 := canon_pos hcan hhead
      rw [Lib.decDigits, dif_neg (by omega), show (decVal 0 l' * 10 + (c.toNat - 48)) / 10 = decVal 0 l' by omega, show (decVal 0 l' * 10 + (c.toNat - 48)) % 10 = c.toNat - 48 by omega, ih l' hl' hcan, dig_byte hc']
theorem digits_canon : ∀ (u : Nat), canonB (Lib.decDigits u) = true ∧ decVal 0 (Lib.decDigits u) = u := by
  intro u
  induction u using Nat.strongRecOn with
  | ind u ih =>
    by_cases h : u < 10
    · rw [Lib.decDigits_one h]
      have : ∀ q : Fin 10, canonB [UInt8.ofNat (48 + q.val)] = true ∧ decVal 0 [UInt8.ofNat (48 + q.val)] = q.val := by decide
      exact this ⟨u, h⟩
    · obtain ⟨h1, h2⟩ := ih (u / 10) (by omega)
      rw [Lib.decDigits, dif_neg h]
      have hd : ∀ q : Fin 10, isDig (UInt8.ofNat (48 + q.val)) = true ∧ (UInt8.ofNat (48 + q.val)).toNat - 48 = q.val := by decide
      have hq := hd ⟨u % 10, Nat.mod_lt _ (by omega)⟩
      simp only at hq
      constructor
      · have h3 := h1
        unfold canonB at h3 ⊢
        rw [Bool.and_eq_true, decide_eq_true_eq] at h3
        obtain ⟨ha, hb, hc⟩ := h3
        rw [List.all_append, ha, Bool.true_and, Bool.and_eq_true, decide_eq_true_eq]
        refine ⟨by rw [List.all_cons, hq.1]; rfl, by simp, fun e => ?_⟩
        exfalso
        have e' : (Lib.decDigits (u / 10)).head? = some 48 := by
          cases hl : Lib.decDigits (u / 10) with
          | nil => exact absurd hl hb
          | cons a l => rw [hl] at e; simpa using e
        have h4 := hc e'
        have h5 : Lib.decDigits (u / 10) = [48] := by
          cases hl : Lib.decDigits (u / 10) with
          | nil => exact absurd hl hb
          | cons a l => rw [hl] at e' h4; simp at e' h4; rw [e', h4]
        rw [h5] at h2
        have h6 : decVal 0 [48] = 0 := rfl
        omega
      · rw [decVal_snoc, h2, hq.2]
        omega
theorem parse10 : ∀ (l : Bs) (acc k : Nat), acc < 10 ^ k → l.length + k ≤ 18 → l.all isDig = true → Lib.parseUint10 acc l = .ok (decVal acc l)
  | [], acc, k, _, _, _ => rfl
  | c :: l, acc, k, h, hk, hd => by
    rw [List.all_cons, Bool.and_eq_true] at hd
    have hc := of_decide_eq_true hd.1
    rw [List.length_cons] at hk
    have h18 : (10 : Nat) ^ (k + 1) ≤ 10 ^ 18 := Nat.pow_le_pow_right (by omega) (by omega)
    have h3 : acc * 10 + (c.toNat - 48) < 10 ^ (k + 1) := by rw [Nat.pow_succ]; omega
    unfold Lib.parseUint10
    rw [if_pos hc, if_neg (by omega), if_neg (by omega), parse10 l _ (k + 1) h3 (by omega) hd.2]
    rfl
theorem numOf_isSome (l : Bs) : (numOf l).isSome = (canonB l && decide (l.length ≤ 9 ∧ decVal 0 l ≤ 1000000)) := by
  rw [Bool.eq_iff_iff, Bool.and_eq_true, decide_eq_true_eq]
  constructor
  · intro h
    unfold numOf at h
    cases ha : Lib.atoiAll l with
    | ok v =>
      rw [ha] at h
      simp only at h
      by_cases hv : 0 ≤ v ∧ v ≤ 1000000 ∧ Lib.itoa v = l
      · obtain ⟨h0, h1, h2⟩ := hv
        unfold Lib.itoa at h2
        rw [if_neg (by omega)] at h2
        have h3 := digits_canon v.toNat
        rw [h2] at h3
        refine ⟨h3.1, ?_, by omega⟩
        have h4 := Lib.decDigits_length v.toNat
        rw [h2] at h4
        have h5 : Lib.nDigits v.toNat ≤ 7 := by
          by_cases h6 : Lib.nDigits v.toNat ≤ 7
          · exact h6
          · exfalso
            have h7 : canonB l = true := h3.1
            have h8 := digits_val _ l rfl h7
            have h9 : 10 ^ 7 ≤ decVal 0 l := by
              cases l with
              | nil => simp [canonB] at h7
              | cons c r =>
                have h10 : c.toNat ≠ 48 := fun e => by
                  unfold canonB at h7
                  rw [Bool.and_eq_true, decide_eq_true_eq] at h7
                  have := h7.2.2 (by rw [List.head?_cons]; exact congrArg some (UInt8.toNat_inj.1 e))
                  omega
                have h11 : isDig c = true := by
                  unfold canonB at h7
                  rw [Bool.and_eq_true, List.all_cons, Bool.and_eq_true] at h7
                  exact h7.1.1
                have h12 := of_decide_eq_true h11
                have h13 : ∀ (r : Bs) (acc : Nat), acc * 10 ^ r.length ≤ decVal acc r := by
                  intro r
                  induction r with
                  | nil => intro acc; simp [decVal]
                  | cons d r ih =>
                    intro acc
                    have := ih (acc * 10 + (d.toNat - 48))
                    rw [List.length_cons, Nat.pow_succ, Nat.mul_comm (10 ^ r.length) 10, ← Nat.mul_assoc]
                    exact Nat.le_trans (Nat.mul_le_mul_right _ (by omega)) this
                have h14 := h13 r (0 * 10 + (c.toNat - 48))
                have h15 : (10 : Nat) ^ 7 ≤ 10 ^ r.length := Nat.pow_le_pow_right (by omega) (by simp at h4; omega)
                have h16 : 1 * 10 ^ r.length ≤ (0 * 10 + (c.toNat - 48)) * 10 ^ r.length := Nat.mul_le_mul_right _ (by omega)
                have h17 : decVal 0 (c :: r) = decVal (0 * 10 + (c.toNat - 48)) r := rfl
                omega
            omega
        omega
      · rw [if_neg hv] at h; cases h
    | _ => rw [ha] at h; cases h
  · rintro ⟨hc, hl, hv⟩
    have hd := digits_val _ l rfl hc
    unfold canonB at hc
    rw [Bool.and_eq_true, decide_eq_true_eq] at hc
    cases l with
    | nil => exact absurd rfl hc.2.1
    | cons c r =>
      have hcd : isDig c = true := by have := hc.1; rw [List.all_cons, Bool.and_eq_true] at this; exact this.1
      have hcb := of_decide_eq_true hcd
      have hp : Lib.parseMag (c :: r) = .ok (decVal 0 (c :: r)) := by
        unfold Lib.parseMag
        rw [if_neg (by simp)]
        exact parse10 (c :: r) 0 0 (by decide) (by omega) hc.1
      have ha : Lib.atoiAll (c :: r) = .ok (decVal 0 (c :: r) : Int) := by
        unfold Lib.atoiAll
        simp only
        rw [if_neg (by omega), hp]
        simp only
        rw [if_neg (by omega), if_neg (by omega), if_neg (by omega)]
      unfold numOf
      rw [ha]
      simp only
      have hit : Lib.itoa ((decVal 0 (c :: r) : Nat) : Int) = c :: r := by
        unfold Lib.itoa
        rw [if_neg (by omega), Int.toNat_natCast]
        exact hd
      rw [if_pos ⟨by omega, by omega, hit⟩]
      rfl
end Go.Proofs.YtinleajhckcapaaGreatDoor.Hand
namespace Go.Proofs.YtinleajhckcapaaGreatDoor.Hand
open Go Go.RowKit Go.Proofs.YtinleajhckcapaaGreatDoorW.PrintWords Go.Proofs.YtinleajhckcapaaGreatDoorW.PrintLast
def Ev {α : Type} (f : Nat → Option α) (r : α) : Prop := ∃ K, ∀ k, K ≤ k → f k = some r
theorem wrap_id {x : Int} (h1 : -9223372036854775808 ≤ x) (h2 : x ≤ 9223372036854775807) : wrap64 x = x := by
  unfold wrap64
  omega
theorem wrap_add {i : Nat} {n : Nat} (h : i ≤ n) (hn : n ≤ 140737488355328) (j : Nat) (hj : j ≤ 10) : wrap64 ((i : Int) + (j : Int)) = ((i + j : Nat) : Int) := by
  rw [wrap_id (by omega) (by omega)]
  omega
end Go.Proofs.YtinleajhckcapaaGreatDoor.Hand
namespace Go.Proofs.YtinleajhckcapaaGreatDoor.Hand
open Go Go.RowKit Go.Proofs.YtinleajhckcapaaGreatDoorW.PrintWords Go.Proofs.YtinleajhckcapaaGreatDoorW.PrintLast
end Go.Proofs.YtinleajhckcapaaGreatDoor.Hand
namespace Go.Proofs.YtinleajhckcapaaGreatDoor.Hand
open Go Go.RowKit Go.Proofs.YtinleajhckcapaaGreatDoorW.PrintWords Go.Proofs.YtinleajhckcapaaGreatDoorW.PrintLast
theorem ext_mk (s : ByteArray) (a b : Nat) : s.extract a b = mkB ((s.data.toList.drop a).take (b - a)) := by
  rw [← Lib.extract_data]
  rfl
theorem fine_eq (c : UInt8) : fineL.contains c = decide ((97 ≤ c.toNat ∧ c.toNat ≤ 122) ∨ (48 ≤ c.toNat ∧ c.toNat ≤ 57) ∨ c.toNat = 46 ∨ c.toNat = 95 ∨ c.toNat = 45) := by
  have h : ∀ n : Fin 256, fineL.contains (UInt8.ofNat n.val) = decide ((97 ≤ n.val ∧ n.val ≤ 122) ∨ (48 ≤ n.val ∧ n.val ≤ 57) ∨ n.val = 46 ∨ n.val = 95 ∨ n.val = 45) := by decide +kernel
  have := h ⟨c.toNat, c.toNat_lt⟩
  simpa using this
end Go.Proofs.YtinleajhckcapaaGreatDoor.Hand
namespace Go.Proofs.YtinleajhckcapaaGreatDoor.Hand
open Go Go.RowKit Go.Proofs.YtinleajhckcapaaGreatDoorW.PrintWords Go.Proofs.YtinleajhckcapaaGreatDoorW.PrintLast
theorem mkB_app (a b : Bs) : mkB a ++ mkB b = mkB (a ++ b) := by
  apply Go.WideShapes.bytes_inj
  simp [mkB, ByteArray.data_append]
theorem mk_self (s : ByteArray) : mkB s.data.toList = s := rfl
end Go.Proofs.YtinleajhckcapaaGreatDoor.Hand
namespace Go.Proofs.YtinleajhckcapaaGreatDoor.Hand
open Go Go.RowKit Go.Proofs.YtinleajhckcapaaGreatDoorW.PrintWords Go.Proofs.YtinleajhckcapaaGreatDoorW.PrintLast
end Go.Proofs.YtinleajhckcapaaGreatDoor.Hand
namespace Go.Proofs.YtinleajhckcapaaGreatDoor.Hand
open Go.RowKit Go.Proofs.YtinleajhckcapaaGreatDoorW.PrintWords
theorem strings_Cut.calls (a0 a1 : ByteArray) (r1 r2 : ByteArray) (r3 : Bool) (w : World) (hg : Glob w) (h : strings_Cut.f a0 a1 = some (r1, r2, r3)) : Calls Tryz.prog 42 #[.string a0, .string a1] w fun e w' => e = .returned (.tuple #[.string r1, .string r2, .bool r3]) ∧ Below w.heap.size w w' := by
  unfold strings_Cut.f at h
  split at h
  · rename_i hlt
    simp only [Option.some.injEq, Prod.mk.injEq] at h
    obtain ⟨rfl, rfl, rfl⟩ := h
    obtain ⟨m, hm⟩ := hg.now.max
    refine (Tryz.strings_Cut a0 a1 m w hlt hm).mono ?_
    rintro e w' ⟨rfl, n, rfl⟩
    exact ⟨rfl, pw_below_drewN (Below.refl _ _) n⟩
  · cases h
end Go.Proofs.YtinleajhckcapaaGreatDoor.Hand
namespace Go.Proofs.YtinleajhckcapaaGreatDoor.Hand
open Go Go.RowKit Go.Proofs.YtinleajhckcapaaGreatDoorW.PrintWords
def blankR (r : Nat) : Bool := r == 32 || r == 9
theorem get!_eq (s : ByteArray) (i : Nat) : s.get! i = s.data.toList.getD i 0 := by
  show s.data[i]! = _
  rw [List.getD_eq_getElem?_getD, Array.getElem?_toList, getElem!_def]
  cases s.data[i]? <;> rfl
theorem decode_byte (s : ByteArray) (i : Nat) (h : (s.data.toList.getD i 0).toNat < 128) : Utf8.decode s i = ((s.data.toList.getD i 0).toNat, 1) := by
  rw [Lib.decode_at, get!_eq]
  unfold Lib.decodeN
  rw [if_pos h]
theorem decode_wide (s : ByteArray) (i : Nat) (hi : i < s.size) (h : 128 ≤ (s.data.toList.getD i 0).toNat) :
    128 ≤ (Utf8.decode s i).1 ∧ 1 ≤ (Utf8.decode s i).2 ∧ i + (Utf8.decode s i).2 ≤ s.size ∧ ∀ j, j < (Utf8.decode s i).2 → 128 ≤ (s.data.toList.getD (i + j) 0).toNat := by
  rw [Lib.decode_at, get!_eq, get!_eq, get!_eq, get!_eq]
  generalize e0 : (s.data.toList.getD i 0).toNat = b0 at *
  generalize e1 : (s.data.toList.getD (i + 1) 0).toNat = b1 at *
  generalize e2 : (s.data.toList.getD (i + 2) 0).toNat = b2 at *
  generalize e3 : (s.data.toList.getD (i + 3) 0).toNat = b3 at *
  have hj : ∀ n : Nat, n ≤ 4 → (2 ≤ n → 128 ≤ b1) → (3 ≤ n → 128 ≤ b2) → (4 ≤ n → 128 ≤ b3) → ∀ j, j < n → 128 ≤ (s.data.toList.getD (i + j) 0).toNat := by
    intro n hn h1 h2 h3 j hj
    have : j = 0 ∨ j = 1 ∨ j = 2 ∨ j = 3 := by omega
    rcases this with rfl | rfl | rfl | rfl
    · rw [Nat.add_zero, e0]; exact h
    · rw [e1]; exact h1 (by omega)
    · rw [e2]; exact h2 (by omega)
    · rw [e3]; exact h3 (by omega)
  have hone : (128 ≤ 65533 ∧ 1 ≤ 1 ∧ i + 1 ≤ s.size ∧ ∀ j, j < 1 → 128 ≤ (s.data.toList.getD (i + j) 0).toNat) := ⟨by omega, by omega, by omega, hj 1 (by omega) (by omega) (by omega) (by omega)⟩
  unfold Lib.decodeN
  rw [if_neg (by omega)]
  split
  · rename_i c
    split
    · exact ⟨by omega, by omega, by omega, hj 2 (by omega) (by omega) (by omega) (by omega)⟩
    · exact hone
  · split
    · rename_i c
      split
      · exact ⟨by omega, by omega, by omega, hj 3 (by omega) (by omega) (by omega) (by omega)⟩
      · exact hone
    · split
      · rename_i c
        split
        · exact ⟨by omega, by omega, by omega, hj 4 (by omega) (by omega) (by omega) (by omega)⟩
        · exact hone
      · exact hone
theorem wordsGo_run (l : Bs) : ∀ (k : Nat) (cur : Bs), k ≤ l.length → (∀ j, j < k → blankB (l.getD j 0) = false) → wordsGo blankB cur l = wordsGo blankB (cur ++ l.take k) (l.drop k) := by
  induction l with
  | nil =>
    intro k cur hk _
    obtain rfl : k = 0 := by simpa using hk
    simp
  | cons x l ih =>
    intro k cur hk hb
    cases k with
    | zero => simp
    | succ k =>
      have h0 : blankB x = false := by simpa using hb 0 (by omega)
      rw [wordsGo, if_neg (by rw [h0]; decide), ih k _ (by simpa using hk) (fun j hj => by simpa using hb (j + 1) (by omega))]
      simp
theorem extract_mk (s : ByteArray) (a b : Nat) : s.extract a b = mkB ((s.data.toList.drop a).take (b - a)) := by
  rw [← Lib.extract_data]
  rfl
def curOf (l : Bs) (st : Option Nat) (pos : Nat) : Bs := match st with
  | some a => (l.drop a).take (pos - a)
  | none => []
theorem curOf_more (l : Bs) (st : Option Nat) (pos k : Nat) (hst : ∀ a, st = some a → a < pos) : curOf l (some (st.getD pos)) (pos + k) = curOf l st pos ++ (l.drop pos).take k := by
  cases st with
  | none => simp [curOf]
  | some a =>
    have := hst a rfl
    simp only [curOf, Option.getD_some]
    rw [show pos + k - a = (pos - a) + k by omega, List.take_add, List.drop_drop, show a + (pos - a) = pos by omega]
theorem curOf_ne (l : Bs) (a pos : Nat) (h : a < pos) (hp : pos ≤ l.length) : curOf l (some a) pos ≠ [] := by
  intro e
  have := congrArg List.length e
  simp [curOf] at this
  omega
theorem spans_words (s : ByteArray) : ∀ (f pos : Nat) (st : Option Nat) (acc : List (Nat × Nat)), s.size - pos ≤ f → pos ≤ s.size → (∀ a, st = some a → a < pos) →
    (Lib.closeSpans s (Lib.spansFromP blankR s f pos st acc)).map (fun x => s.extract x.1 x.2) = acc.map (fun x => s.extract x.1 x.2) ++ (wordsGo blankB (curOf s.data.toList st pos) (s.data.toList.drop pos)).map mkB := by
  have hend : ∀ (st : Option Nat) (acc : List (Nat × Nat)), (∀ a, st = some a → a < s.size) → (Lib.closeSpans s (acc, st)).map (fun x => s.extract x.1 x.2) = acc.map (fun x => s.extract x.1 x.2) ++ (wordsGo blankB (curOf s.data.toList st s.size) (s.data.toList.drop s.size)).map mkB := by
    intro st acc hst
    rw [List.drop_of_length_le (by rw [data_length]; exact Nat.le_refl _)]
    cases st with
    | none => simp [Lib.closeSpans, curOf, wordsGo]
    | some a =>
      have h1 := curOf_ne s.data.toList a s.size (hst a rfl) (by rw [data_length]; exact Nat.le_refl _)
      rw [wordsGo, if_neg h1]
      simp [Lib.closeSpans, extract_mk, curOf]
  intro f
  induction f with
  | zero =>
    intro pos st acc hf hp hst
    obtain rfl : pos = s.size := by omega
    exact hend st acc hst
  | succ f ih =>
    intro pos st acc hf hp hst
    by_cases hlt : pos < s.size
    · have hll : pos < s.data.toList.length := by rw [data_length]; exact hlt
      have hcons : s.data.toList.drop pos = s.data.toList.getD pos 0 :: s.data.toList.drop (pos + 1) := by
        rw [List.drop_eq_getElem_cons hll]
        simp [List.getD_eq_getElem?_getD, List.getElem?_eq_getElem hll]
      unfold Lib.spansFromP
      rw [if_pos hlt]
      by_cases hb : (s.data.toList.getD pos 0).toNat < 128
      · rw [decode_byte s pos hb]
        simp only
        have hbr : blankR (s.data.toList.getD pos 0).toNat = blankB (s.data.toList.getD pos 0) := by
          generalize s.data.toList.getD pos 0 = b
          unfold blankR blankB
          have e : ∀ q : UInt8, (b.toNat == q.toNat) = (b == q) := fun q => by
            rw [Bool.eq_iff_iff, beq_iff_eq, beq_iff_eq]
            exact UInt8.toNat_inj
          have e1 := e 32
          have e2 := e 9
          rw [← e1, ← e2]
          rfl
        rw [hbr, hcons]
        cases hbb : blankB (s.data.toList.getD pos 0) with
        | true =>
          rw [if_pos rfl, wordsGo, if_pos hbb]
          cases st with
          | none =>
            simp only
            rw [ih (pos + 1) none acc (by omega) (by omega) (fun a ha => by cases ha)]
            rw [if_pos (by rfl)]
            rfl
          | some a =>
            simp only
            rw [ih (pos + 1) none _ (by omega) (by omega) (fun a ha => by cases ha)]
            rw [if_neg (curOf_ne _ a pos (hst a rfl) (by rw [data_length]; exact hp))]
            simp [extract_mk, curOf]
        | false =>
          rw [if_neg (by decide), wordsGo, if_neg (by rw [hbb]; decide)]
          have hm := curOf_more s.data.toList st pos 1 hst
          have h1 : (s.data.toList.drop pos).take 1 = [s.data.toList.getD pos 0] := by rw [hcons]; rfl
          rw [h1] at hm
          have hs' : ∀ a, some (st.getD pos) = some a → a < pos + 1 := by
            intro a ha
            cases ha
            cases st with
            | none => simp
            | some a => have := hst a rfl; simp; omega
          have := ih (pos + 1) (some (st.getD pos)) acc (by omega) (by omega) hs'
          rw [hm] at this
          cases st <;> exact this
      · obtain ⟨d1, d2, d3, d4⟩ := decode_wide s pos hlt (by omega)
        generalize Utf8.decode s pos = d at *
        obtain ⟨r, k⟩ := d
        simp only at d1 d2 d3 d4 ⊢
        have hbr : blankR r = false := by
          unfold blankR
          rw [Bool.or_eq_false_iff]
          exact ⟨beq_eq_false_iff_ne.2 (by omega), beq_eq_false_iff_ne.2 (by omega)⟩
        rw [if_neg (by rw [hbr]; decide)]
        have hm := curOf_more s.data.toList st pos k hst
        have hs' : ∀ a, some (st.getD pos) = some a → a < pos + k := by
          intro a ha
          cases ha
          cases st with
          | none => simp; omega
          | some a => have := hst a rfl; simp; omega
        have := ih (pos + k) (some (st.getD pos)) acc (by omega) (by omega) hs'
        rw [hm] at this
        have hrun := wordsGo_run (s.data.toList.drop pos) k (curOf s.data.toList st pos) (by rw [List.length_drop, data_length]; omega) (fun j hj => by
          have h128 := d4 j hj
          have e : (s.data.toList.drop pos).getD j 0 = s.data.toList.getD (pos + j) 0 := by simp [List.getD_eq_getElem?_getD]
          rw [e]
          unfold blankB
          rw [Bool.or_eq_false_iff]
          refine ⟨beq_eq_false_iff_ne.2 (fun z => ?_), beq_eq_false_iff_ne.2 (fun z => ?_)⟩ <;> (rw [z] at h128; revert h128; decide))
        rw [hrun, List.drop_drop]
        cases st <;> exact this
    · obtain rfl : pos = s.size := by omega
      rw [Lib.spansFromP_end _ _ _ _ _ _ (by omega)]
      exact hend st acc hst
theorem fields_words (s : ByteArray) : Lib.goFieldsP blankR s = (words s.data.toList).map mkB := by
  have := spans_words s s.size 0 none [] (by omega) (by omega) (fun a ha => by cases ha)
  exact this
end Go.Proofs.YtinleajhckcapaaGreatDoor.Hand
namespace Go.Proofs.YtinleajhckcapaaGreatDoor.Hand
open Go Go.RowKit Go.Proofs.YtinleajhckcapaaGreatDoorW.PrintWords Go.Proofs.YtinleajhckcapaaGreatDoorW.PrintMore
theorem index_take : ∀ l : Bs, (0 ≤ Lib.index l [37] → l.take (Lib.index l [37]).toNat = l.takeWhile (· ≠ 37)) ∧ (¬ 0 ≤ Lib.index l [37] → l = l.takeWhile (· ≠ 37))
  | [] => by constructor <;> intro _ <;> simp
  | b :: l => by
    have ih := index_take l
    have hge := Lib.index_ge l [37]
    unfold Lib.index
    by_cases hb : b = 37
    · subst hb
      rw [if_pos (by rfl)]
      refine ⟨fun _ => by simp, fun h => absurd (Int.le_refl 0) h⟩
    · have hp : ¬ (List.isPrefixOf [37] (b :: l)) = true := by simp [List.isPrefixOf, Ne.symm hb]
      rw [if_neg hp]
      have htw : (b :: l).takeWhile (· ≠ 37) = b :: l.takeWhile (· ≠ 37) := by rw [List.takeWhile_cons, if_pos (by simpa using hb)]
      rw [htw]
      by_cases hm : (Lib.index l [37] == -1) = true
      · rw [if_pos hm]
        have hm' := eq_of_beq hm
        exact ⟨fun h => by omega, fun _ => by rw [← ih.2 (by omega)]⟩
      · rw [if_neg hm]
        have hm' : ¬ Lib.index l [37] = -1 := fun e => hm (by rw [e]; rfl)
        obtain ⟨i, hi⟩ : ∃ i : Nat, Lib.index l [37] = (i : Int) := ⟨(Lib.index l [37]).toNat, by omega⟩
        refine ⟨fun _ => ?_, fun h => by omega⟩
        rw [← ih.1 (by omega), hi, show ((i : Int) + 1).toNat = i + 1 by omega, Int.toNat_natCast, List.take_succ_cons]
theorem cut_take (l : Bs) : (Lib.cut l [37]).1 = l.takeWhile (· ≠ 37) := by
  unfold Lib.cut
  by_cases h : 0 ≤ Lib.index l [37]
  · rw [if_pos h]; exact (index_take l).1 h
  · rw [if_neg h]; exact (index_take l).2 h
abbrev Ent := Nat × Bs × List Bs
def cmdE (e : Ent) : P.S34 := ⟨mkB e.2.1, e.2.2.map mkB⟩
def argV (e : Ent) : Value := .slice (some ⟨e.1, if e.2.2.length = 0 then 0 else 1, none⟩) e.2.2.length e.2.2.length
def cmdCells (e : Ent) : List Value := [.string (mkB e.2.1), argV e]
def wordsObj (e : Ent) : Obj := .cells ((e.2.1 :: e.2.2).map fun x => Value.string (mkB x)).toArray 9 (0, 0)
def rowCells (es : List Ent) : List Value := es.flatMap cmdCells
theorem rowCells_at (es : List Ent) (j : Nat) (e : Ent) (h : es[j]? = some e) : (rowCells es)[j * 2]? = some (.string (mkB e.2.1)) ∧ (rowCells es)[j * 2 + 1]? = some (argV e) := by
  induction es generalizing j with
  | nil => simp at h
  | cons a es ih =>
    cases j with
    | zero => simp at h; subst h; simp [rowCells, cmdCells]
    | succ j =>
      have := ih j (by simpa using h)
      have e1 : rowCells (a :: es) = .string (mkB a.2.1) :: argV a :: rowCells es := by simp [rowCells, cmdCells]
      rw [e1, show (j + 1) * 2 + 1 = (j * 2 + 1) + 1 + 1 by omega, show (j + 1) * 2 = j * 2 + 1 + 1 by omega]
      simpa using this
theorem args_read {W : World} {e : Ent} (h : W.heap[e.1]? = some (wordsObj e)) (hl : e.2.2.length ≤ 1000000) : Kd.C Kd.string W (some ⟨e.1, if e.2.2.length = 0 then 0 else 1, none⟩) (e.2.2.map mkB).length (e.2.2.map mkB) := by
  refine ⟨rfl, by rw [List.length_map]; omega, fun hp => ?_⟩
  rw [List.length_map] at hp
  refine ⟨_, rfl, fun j p hj => ?_⟩
  refine ⟨[.string p], rfl, rfl, fun i u hu => ?_⟩
  have hi : i = 0 := by
    cases i with
    | zero => rfl
    | succ i => simp at hu
  subst hi
  cases hu
  rw [if_neg (by omega)]
  have ea : (⟨e.1, 1, none⟩ : Addr).add (j * Kd.string.sz + 0) = ⟨e.1, 1 + (j * 1 + 0), none⟩ := by
    unfold Addr.add
    show (if j * 1 + 0 = 0 then _ else _) = _
    split
    · rename_i h0
      rw [h0]
    · rfl
  rw [ea, cell_of_row W e.1 _ _ 9 (0, 0) h]
  rw [List.getElem?_map] at hj
  obtain ⟨q, hq, rfl⟩ := Option.map_eq_some_iff.1 hj
  rw [show 1 + (j * 1 + 0) = j + 1 by omega]
  simp [hq]
theorem cmds_V {W : World} {N0 N : Nat} {es : List Ent} {v : Value} (hN : N0 ≤ N) (hrow : W.ownsRow N 34 2 v es.length (rowCells es)) (ha : ∀ e ∈ es, N ≤ e.1 ∧ W.heap[e.1]? = some (wordsObj e) ∧ e.2.2.length ≤ 1000000) (hl : es.length ≤ 1000000) :
    Kd.V P.k34 34 W N0 (fun k_ => N0 ≤ k_) v (es.map cmdE) := by
  rcases hrow.2 with ⟨rfl, h0⟩ | ⟨g, cap, cur, rfl, hg, hh, hcap, _, hcs, htk⟩
  · obtain rfl : es = [] := List.eq_nil_of_length_eq_zero h0
    exact Kd.V_nil _ _ _ _ _
  · have hmap : (es.map cmdE).length = es.length := List.length_map _
    have : Kd.V P.k34 34 W N0 (fun k_ => N0 ≤ k_) (.slice (some ⟨g, 0, none⟩) (es.map cmdE).length cap) (es.map cmdE) := by
      refine Kd.V_mk (by rw [hmap]; exact hcap) ?_
      intro W' hW
      refine ⟨rfl, by rw [hmap]; omega, fun _ => ⟨_, rfl, fun j p hj => ?_⟩⟩
      rw [List.getElem?_map] at hj
      obtain ⟨e, he, rfl⟩ := Option.map_eq_some_iff.1 hj
      obtain ⟨h1, h2, h3⟩ := ha e (List.mem_of_getElem? he)
      have hje : j < es.length := (List.getElem?_eq_some_iff.1 he).1
      have hrow' : W'.heap[g]? = some (.cells cur 34 (0, 0)) := (hW g (show N0 ≤ g by omega) (Array.getElem?_eq_some_iff.1 hh).1).trans hh
      have harg : W'.heap[e.1]? = some (wordsObj e) := (hW e.1 (show N0 ≤ e.1 by omega) (Array.getElem?_eq_some_iff.1 h2).1).trans h2
      have hK := P.k34_mk W' (cmdE e) (A1 := some ⟨e.1, if e.2.2.length = 0 then 0 else 1, none⟩) (c1 := (cmdE e).f1.length) (Nat.le_refl _) (args_read harg h3)
      refine ⟨_, rfl, hK, fun i u hu => ?_⟩
      have hcell : ∀ q, q < es.length * 2 → W'.cell? ⟨g, q, none⟩ = (rowCells es)[q]? := fun q hq => by
        rw [cell_of_row W' g q cur 34 (0, 0) hrow', ← htk, List.getElem?_take, if_pos hq, Array.getElem?_toList]
      have hr := rowCells_at es j e he
      rw [add_plain]
      have hi : i = 0 ∨ i = 1 := by
        rcases Nat.lt_or_ge i 2 with h | h
        · omega
        · rw [List.getElem?_eq_none (by simpa using h)] at hu; cases hu
      rcases hi with rfl | rfl
      · cases hu
        rw [show j * P.k34.sz + 0 = j * 2 from rfl, hcell _ (by omega), hr.1]
        rfl
      · cases hu
        rw [show j * P.k34.sz + 1 = j * 2 + 1 from rfl, hcell _ (by omega), hr.2]
        simp [argV, cmdE]
    rw [hmap] at this
    exact this
end Go.Proofs.YtinleajhckcapaaGreatDoor.Hand
namespace Go.Proofs.YtinleajhckcapaaGreatDoor.Hand
open Go Go.RowKit Go.Shelf Go.Proofs.YtinleajhckcapaaGreatDoorW.PrintWords Go.Proofs.YtinleajhckcapaaGreatDoorW.PrintMore
attribute [local go_sem] Oper.semAt_some
set_option maxHeartbeats 1000000 in
theorem blank_pred (w : World) : PredAt Tryz.prog 44 #[] encR blankR w := by
  intro W x _
  show Calls Tryz.prog 44 (#[encR x] ++ #[]) W _
  unfold encR
  have h1 : ∀ q : Nat, ((x : Int) == (q : Int)) = (x == q) := fun q => by
    rw [Bool.eq_iff_iff, beq_iff_eq, beq_iff_eq]
    omega
  have e1 := h1 32
  have e2 := h1 9
  unfold blankR
  go_enter Tryz.func44, Tryz.ntmps44
  go_wp2
  · have hx : x = 32 := by omega
    go_ret
    exact ⟨by rw [hx]; rfl, 0, rfl⟩
  · go_ret
    refine ⟨?_, 0, rfl⟩
    show Ending.returned (.bool ((x : Int) == 32 || (x : Int) == 9)) = _
    rw [show ((x : Int) == 32) = (x == 32) from e1, show ((x : Int) == 9) = (x == 9) from e2]
theorem results_cell3 {fn : Func} {p q r : Tmp} {tp tq tr : TypeId} (h : fn.results = #[.cell p tp, .cell q tq, .cell r tr]) (tmps : Array Value) (P : Program) (w : World) {a b c : Addr} {u v x : Value}
    (ha : tmps.getD p undef = .pointer (some a)) (hb : tmps.getD q undef = .pointer (some b)) (hc : tmps.getD r undef = .pointer (some c))
    (hu : (loadVar tp a).run P w = .ok u w) (hv : (loadVar tq b).run P w = .ok v w) (hx : (loadVar tr c).run P w = .ok x w) :
    (results fn tmps).run P w = .ok (.tuple #[u, v, x]) w := by
  rw [Array.getD_eq_getD_getElem?] at ha hb hc
  simp only [results, h]
  simp [Sem.run_bind, Result.andThen, ha, hb, hc, hu, hv, hx, asAddr]
theorem load23 {W : World} {b : Nat} {v : Value} (h : W.cell? ⟨b, 0, none⟩ = some v) : (loadVar 23 ⟨b, 0, none⟩).run Tryz.prog W = .ok v W := by
  have hu := Tryz.underlying23
  go_simp
theorem load3 {W : World} {b : Nat} {v : Value} (h : W.cell? ⟨b, 0, none⟩ = some v) : (loadVar 3 ⟨b, 0, none⟩).run Tryz.prog W = .ok v W := by
  have hu := Tryz.underlying3
  go_simp
theorem load25 {W : World} {b : Nat} {v : Value} (h : W.cell? ⟨b, 0, none⟩ = some v) : (loadVar 25 ⟨b, 0, none⟩).run Tryz.prog W = .ok v W := by
  have hu := Tryz.underlying25
  go_simp
set_option maxRecDepth 100000 in
set_option maxHeartbeats 2000000 in
theorem parse_long (s : ByteArray) (hs : ¬ s.size ≤ 65536) (w : World) : Calls Tryz.prog 9 #[.string s] w fun e w' => e = .returned (.tuple #[.slice none 0 0, .int .i64 0, P.errW (some 90)]) ∧ Below w.heap.size w w' := by
  go_enter Tryz.func9, Tryz.ntmps9
  go_wp2
  refine bodyPost_ret (results_cell3 rfl _ _ _ rfl rfl rfl (load23 (v := .slice none 0 0) ?_) (load3 (v := .int .i64 0) ?_) (load25 (v := .iface 93 (.int .i64 90)) ?_)) rfl ?_
  · exact (((Boxed.new w 23 (.slice none 0 0)).alloc _).alloc _).cell
  · have := ((Boxed.new (w.alloc (.cells #[.slice none 0 0] 23)) 3 (.int .i64 0)).alloc (.cells #[.iface 93 (.int .i64 90)] 25)).cell
    simpa using this
  · have := (Boxed.new ((w.alloc (.cells #[.slice none 0 0] 23)).alloc (.cells #[.int .i64 0] 3)) 25 (.iface 93 (.int .i64 90))).cell
    simpa using this
  · exact ⟨rfl, below_alloc (below_alloc (below_alloc (Below.refl w.heap.size w) _) _) _⟩
theorem new2 (W : World) (u v : Value) {t : TypeId} : ∀ (j : Nat) (x : Value), [u, v][j]? = some x → (W.alloc (.cells #[u, v] t)).cell? ((⟨W.heap.size, 0, none⟩ : Addr).add j) = some x := by
  intro j x hj
  have hrow : (W.alloc (.cells #[u, v] t)).heap[W.heap.size]? = some (.cells #[u, v] t (0, 0)) := World.alloc_heap_new W _
  rw [add_plain, cell_of_row _ _ j _ _ _ hrow]
  simpa using hj
def Boxed2 (W : World) (b : Nat) (t : TypeId) (u v : Value) : Prop := W.heap[b]? = some (.cells #[u, v] t (0, 0))
theorem Tryz.info34 : (Tryz.prog.info? 34).map (fun i => (i.zero, i.size, i.bytes)) = some (some (.agg #[.string ⟨#[]⟩, .slice none 0 0]), 2, 40) := by kernel_rfl
theorem mkB_len (l : Bs) : (mkB l).size = l.length := by simp [mkB, ByteArray.size]
structure St (X : Nat → Prop) (W W' : World) : Prop where
  os : W'.os = W.os
  tape : W'.tape = W.tape
  output : W'.output = W.output
  same : ∀ k, k < W.heap.size → ¬ X k → W'.heap[k]? = W.heap[k]?
  others : KeepsOthers W W'
theorem St.trans {X : Nat → Prop} {A B C : World} (h : St X A B) (k : St X B C) : St X A C :=
  ⟨k.os.trans h.os, k.tape.trans h.tape, k.output.trans h.output, fun i hi hx => (k.same i (Nat.lt_of_lt_of_le hi h.others.size) hx).trans (h.same i hi hx), h.others.trans k.others⟩
theorem St.refl (X : Nat → Prop) (W : World) : St X W W := ⟨rfl, rfl, rfl, fun _ _ _ => rfl, KeepsOthers.refl W⟩
theorem St.alloc (X : Nat → Prop) (W : World) (o : Obj) : St X W (W.alloc o) := ⟨rfl, rfl, rfl, fun k hk _ => Below.heap_alloc W o k hk, KeepsOthers.alloc W o⟩
theorem St.drew (X : Nat → Prop) (W : World) : St X W W.drew := ⟨rfl, rfl, rfl, fun _ _ _ => rfl, KeepsOthers.drew W⟩
theorem St.setCell {X : Nat → Prop} {W : World} {b : Nat} (hb : X b) (v : Value) : St X W (W.setCell ⟨b, 0, none⟩ v) :=
  ⟨rfl, rfl, rfl, fun k _ hx => Below.heap_setCell W ⟨b, 0, none⟩ v k (fun e => hx (by rw [e]; exact hb)), KeepsOthers.setCell _ _ _⟩
theorem St.below {X : Nat → Prop} {W W' : World} (h : Below W.heap.size W W') : St X W W' :=
  ⟨h.os, h.tape, h.output, fun k hk _ => h.block k hk, ⟨h.size, fun k _ hk _ => (h.block k (Array.getElem?_eq_some_iff.1 hk).1).trans hk⟩⟩
theorem St.boxed {X : Nat → Prop} {W W' : World} (h : St X W W') {b : Nat} {t : TypeId} {v : Value} (hb : Boxed W b t v) (hx : ¬ X b) : Boxed W' b t v := (h.same b hb.lt hx).trans hb
theorem St.mono {X Y : Nat → Prop} {W W' : World} (h : St X W W') (hXY : ∀ k, X k → Y k) : St Y W W' := ⟨h.os, h.tape, h.output, fun k hk hy => h.same k hk (fun e => hy (hXY k e)), h.others⟩
theorem ownsRow_same {W W' : World} {base e size n : Nat} {v : Value} {xs : List Value} (h : W.ownsRow base e size v n xs) (hs : ∀ g, v.ownBlock = some g → g < W.heap.size → W'.heap[g]? = W.heap[g]?) : W'.ownsRow base e size v n xs := by
  obtain ⟨h1, h2⟩ := h
  refine ⟨h1, ?_⟩
  rcases h2 with h2 | ⟨g, cap, cur, rfl, hg, hh, r⟩
  · exact .inl h2
  · exact .inr ⟨g, cap, cur, rfl, hg, (hs g rfl (Array.getElem?_eq_some_iff.1 hh).1).trans hh, r⟩
structure ParseInv (w : World) (pre : List ByteArray) (es : List Ent) (v : Value) (W : World) : Prop where
  scan : ∀ rest, parseGo (bsOf pre ++ rest) 0 [] = parseGo rest pre.length (es.map cmdE)
  few : es.length ≤ 4000
  args : ∀ e ∈ es, w.heap.size + 8 ≤ e.1 ∧ some e.1 ≠ v.ownBlock ∧ W.heap[e.1]? = some (wordsObj e) ∧ e.2.2.length ≤ 1000000
  out : Boxed W (w.heap.size + 3) 23 v
  row : W.ownsRow (w.heap.size + 8) 34 2 v es.length (rowCells es)
  cnt : Boxed W (w.heap.size + 4) 3 (.int .i64 pre.length)
  r2 : Boxed W w.heap.size 23 (.slice none 0 0)
  r3 : Boxed W (w.heap.size + 1) 3 (.int .i64 0)
  r4 : Boxed W (w.heap.size + 2) 25 .nilIface
  below : Below w.heap.size w W
  size : w.heap.size + 8 ≤ W.heap.size
structure ParseOut (w : World) (all : List Bs) (W : World) : Prop where
  ex : ∃ (n : Int) (e : Int), parseGo all 0 [] = ([], n, some e) ∧ Boxed W (w.heap.size + 1) 3 (.int .i64 n) ∧ Boxed W (w.heap.size + 2) 25 (.iface 93 (.int .i64 e))
  r2 : Boxed W w.heap.size 23 (.slice none 0 0)
  below : Below w.heap.size w W
theorem Turn.box {N b : Nat} {A B : World} (hT : Turn N b A B) {k : Nat} {t : TypeId} {v : Value} (h : Boxed A k t v) (hk : k ≠ b) : Boxed B k t v := (hT.same k h.lt hk (.inr ⟨_, h, rfl⟩)).trans h
theorem Turn.under {w A B : World} {N b : Nat} (hT : Turn N b A B) (h : Below w.heap.size w A) (hb : w.heap.size ≤ b) (hN : w.heap.size ≤ N) : Below w.heap.size w B :=
  ⟨hT.os.trans h.os, hT.tape.trans h.tape, hT.output.trans h.output, Nat.le_trans h.size hT.size, fun k hk => (hT.same k (Nat.lt_of_lt_of_le hk h.size) (by omega) (.inl (by omega))).trans (h.block k hk)⟩
theorem ParseInv.turn {w : World} {pre : List ByteArray} {es : List Ent} {v : Value} {A B : World} (h : ParseInv w pre es v A) (hT : Turn (w.heap.size + 8) (w.heap.size + 5) A B) : ParseInv w pre es v B := by
  refine ⟨h.scan, h.few, fun e he => ?_, hT.box h.out (by omega), ownsRow_same h.row (fun g hg hlt => ?_), hT.box h.cnt (by omega), hT.box h.r2 (by omega), hT.box h.r3 (by omega), hT.box h.r4 (by omega), hT.under h.below (by omega) (by omega), Nat.le_trans h.size hT.size⟩
  · obtain ⟨h1, h2, h3, h4⟩ := h.args e he
    exact ⟨h1, h2, (hT.same _ (Array.getElem?_eq_some_iff.1 h3).1 (by omega) (.inr ⟨_, h3, rfl⟩)).trans h3, h4⟩
  · rcases h.row.2 with ⟨rfl, _⟩ | ⟨g', cap, cur, rfl, hgb, hh, _⟩
    · simp [Value.ownBlock] at hg
    · obtain rfl : g' = g := by simpa [Value.ownBlock] using hg
      exact hT.same _ hlt (by omega) (.inr ⟨_, hh, rfl⟩)
theorem ParseOut.turn {w : World} {all : List Bs} {A B : World} (h : ParseOut w all A) (hT : Turn (w.heap.size + 8) (w.heap.size + 5) A B) : ParseOut w all B := by
  obtain ⟨⟨n, e, h1, h2, h3⟩, h4, h5⟩ := h
  exact ⟨⟨n, e, h1, hT.box h2 (by omega), hT.box h3 (by omega)⟩, hT.box h4 (by omega), hT.under h5 (by omega) (by omega)⟩
theorem St.under {X : Nat → Prop} {w W W' : World} {B : Nat} (h : St X W W') (hb : Below B w W) (hx : ∀ k, X k → B ≤ k) (hB : B ≤ W.heap.size) : Below B w W' :=
  ⟨h.os.trans hb.os, h.tape.trans hb.tape, h.output.trans hb.output, Nat.le_trans hb.size h.others.size, fun k hk => (h.same k (Nat.lt_of_lt_of_le hk hB) (fun e => by have := hx k e; omega)).trans (hb.block k hk)⟩
def wl (x : ByteArray) : List Bs := words (x.data.toList.takeWhile (· ≠ 37))
theorem parse_blank {x : ByteArray} {rest : List Bs} {n : Int} {out : List P.S34} (h : wl x = []) : parseGo (x.data.toList :: rest) n out = parseGo rest (n + 1) out := by
  unfold wl at h
  simp only [parseGo, h]
theorem parse_bad {x : ByteArray} {rest : List Bs} {n : Int} {out : List P.S34} {v : Bs} {a : List Bs} (h : wl x = v :: a) (hk : chk v a = false) : parseGo (x.data.toList :: rest) n out = ([], n + 1, some 337) := by
  unfold wl at h
  simp only [parseGo, h, hk, if_true]
theorem parse_full {x : ByteArray} {rest : List Bs} {n : Int} {out : List P.S34} {v : Bs} {a : List Bs} (h : wl x = v :: a) (hk : chk v a = true) (hl : out.length = 4000) : parseGo (x.data.toList :: rest) n out = ([], n + 1, some 90) := by
  unfold wl at h
  simp only [parseGo, h]
  rw [if_neg (by rw [hk]; decide), if_pos hl]
theorem parse_push {x : ByteArray} {rest : List Bs} {n : Int} {out : List P.S34} {v : Bs} {a : List Bs} (h : wl x = v :: a) (hk : chk v a = true) (hl : ¬ out.length = 4000) : parseGo (x.data.toList :: rest) n out = parseGo rest (n + 1) (out ++ [⟨mkB v, a.map mkB⟩]) := by
  unfold wl at h
  simp only [parseGo, h]
  rw [if_neg (by rw [hk]; decide), if_neg hl]
theorem bsOf_snoc (pre : List ByteArray) (x : ByteArray) (rest : List Bs) : bsOf (pre ++ [x]) ++ rest = bsOf pre ++ (x.data.toList :: rest) := by simp [bsOf]
theorem ParseInv.blank {w : World} {pre : List ByteArray} {x : ByteArray} {es : List Ent} {v : Value} {W W' : World} (h : ParseInv w pre es v W) (hS : St (fun k => k = w.heap.size + 4) W W') (hc : Boxed W' (w.heap.size + 4) 3 (.int .i64 ((pre.length : Int) + 1))) (hw : wl x = []) : ParseInv w (pre ++ [x]) es v W' := by
  have hlen : ((pre ++ [x]).length : Int) = (pre.length : Int) + 1 := by simp
  refine ⟨fun rest => ?_, h.few, fun e he => ?_, hS.boxed h.out (by omega), ownsRow_same h.row (fun g hg hlt => hS.same g hlt (fun z => ?_)), by rw [hlen]; exact hc, hS.boxed h.r2 (by omega), hS.boxed h.r3 (by omega), hS.boxed h.r4 (by omega), hS.under h.below (fun k z => by have : k = w.heap.size + 4 := z; omega) h.below.size, Nat.le_trans h.size hS.others.size⟩
  · rw [bsOf_snoc, h.scan, parse_blank hw, hlen]
  · obtain ⟨h1, h2, h3, h4⟩ := h.args e he
    exact ⟨h1, h2, (hS.same _ (Array.getElem?_eq_some_iff.1 h3).1 (fun z => by have : e.1 = w.heap.size + 4 := z; omega)).trans h3, h4⟩
  · rcases h.row.2 with ⟨rfl, _⟩ | ⟨g', cap, cur, rfl, hgb, hh, _⟩
    · simp [Value.ownBlock] at hg
    · obtain rfl : g' = g := by simpa [Value.ownBlock] using hg
      have : g' = w.heap.size + 4 := z
      omega
theorem own_ge {W : World} {base e size n : Nat} {v : Value} {xs : List Value} (h : W.ownsRow base e size v n xs) {g : Nat} (hg : some g = v.ownBlock) : base ≤ g ∧ g < W.heap.size := by
  rcases h.2 with ⟨rfl, _⟩ | ⟨g', cap, cur, rfl, hgb, hh, _⟩
  · simp [Value.ownBlock] at hg
  · obtain rfl : g = g' := by simpa [Value.ownBlock] using hg
    exact ⟨hgb, (Array.getElem?_eq_some_iff.1 hh).1⟩
theorem ParseInv.push {w : World} {pre : List ByteArray} {x : ByteArray} {es : List Ent} {v v' : Value} {W W' : World} {A : Nat} {vb : Bs} {ab : List Bs} (h : ParseInv w pre es v W) (hS : St (fun k => k = w.heap.size + 4 ∨ k = w.heap.size + 3 ∨ some k = v.ownBlock) W W') (hc : Boxed W' (w.heap.size + 4) 3 (.int .i64 ((pre.length : Int) + 1))) (hw : wl x = vb :: ab) (hk : chk vb ab = true) (hl : ¬ es.length = 4000)
    (hab : ab.length ≤ 1000000) (hout : Boxed W' (w.heap.size + 3) 23 v') (hrow : W'.ownsRow (w.heap.size + 8) 34 2 v' (es.length + 1) (rowCells (es ++ [(A, vb, ab)]))) (hA : W.heap.size ≤ A) (hAo : W'.heap[A]? = some (wordsObj (A, vb, ab))) (hat : v'.ownBlock = v.ownBlock ∨ ∃ b, v'.ownBlock = some b ∧ A < b) :
    ParseInv w (pre ++ [x]) (es ++ [(A, vb, ab)]) v' W' := by
  have hlen : ((pre ++ [x]).length : Int) = (pre.length : Int) + 1 := by simp
  have hel : (es ++ [(A, vb, ab)]).length = es.length + 1 := by simp
  refine ⟨fun rest => ?_, by have := h.few; omega, fun e he => ?_, hout, by rw [hel]; exact hrow, by rw [hlen]; exact hc, hS.boxed h.r2 (fun z => ?_), hS.boxed h.r3 (fun z => ?_), hS.boxed h.r4 (fun z => ?_), hS.under h.below (fun k z => ?_) h.below.size, Nat.le_trans h.size hS.others.size⟩
  · rw [bsOf_snoc, h.scan, parse_push hw hk (by rw [List.length_map]; exact hl), hlen, List.map_append]
    rfl
  · rcases List.mem_append.1 he with he | he
    · obtain ⟨h1, h2, h3, h4⟩ := h.args e he
      have hlt := (Array.getElem?_eq_some_iff.1 h3).1
      refine ⟨h1, ?_, (hS.same _ hlt (fun z => ?_)).trans h3, h4⟩
      · rcases hat with hat | ⟨b, hat, hb⟩
        · rw [hat]; exact h2
        · rw [hat]
          intro z
          injection z with z
          omega
      · rcases z with z | z | z
        · omega
        · omega
        · exact h2 z
    · obtain rfl := List.mem_singleton.1 he
      refine ⟨Nat.le_trans h.size hA, ?_, hAo, hab⟩
      intro z
      have z' : some A = v'.ownBlock := z
      rcases hat with hat | ⟨b, hat, hb⟩
      · rw [hat] at z'
        have := own_ge h.row z'
        omega
      · rw [hat] at z'
        injection z' with z'
        omega
  · rcases z with z | z | z
    · omega
    · omega
    · have := own_ge h.row z; omega
  · rcases z with z | z | z
    · omega
    · omega
    · have := own_ge h.row z; omega
  · rcases z with z | z | z
    · omega
    · omega
    · have := own_ge h.row z; omega
  · rcases z with z | z | z
    · omega
    · omega
    · have := own_ge h.row z; omega
theorem ParseInv.stop {w : World} {all : List Bs} {pre : List ByteArray} {es : List Ent} {v : Value} {W W4 : World} {n e : Int} (N : Nat) (h : ParseInv w pre es v W) (hS : St (fun k => k = w.heap.size + 4) W W4) (hp : parseGo all 0 [] = ([], n, some e)) :
    KeepsFrom N W (((W4.setCell ⟨w.heap.size, 0, none⟩ (.slice none 0 0)).setCell ⟨w.heap.size + 1, 0, none⟩ (.int .i64 n)).setCell ⟨w.heap.size + 2, 0, none⟩ (.iface 93 (.int .i64 e))).drew ∧
    ParseOut w all (((W4.setCell ⟨w.heap.size, 0, none⟩ (.slice none 0 0)).setCell ⟨w.heap.size + 1, 0, none⟩ (.int .i64 n)).setCell ⟨w.heap.size + 2, 0, none⟩ (.iface 93 (.int .i64 e))).drew := by
  have h2 := hS.boxed h.r2 (by omega)
  have h3 := hS.boxed h.r3 (by omega)
  have h4 := hS.boxed h.r4 (by omega)
  have hX : ∀ k, (k = w.heap.size + 4 ∨ k = w.heap.size ∨ k = w.heap.size + 1 ∨ k = w.heap.size + 2) → w.heap.size ≤ k := fun k hk => by omega
  have hS' : St (fun k => k = w.heap.size + 4 ∨ k = w.heap.size ∨ k = w.heap.size + 1 ∨ k = w.heap.size + 2) W W4 := ⟨hS.os, hS.tape, hS.output, fun k hk hx => hS.same k hk (fun e => hx (.inl e)), hS.others⟩
  have hF := (((hS'.trans (St.setCell (b := w.heap.size) (.inr (.inl rfl)) (.slice none 0 0))).trans (St.setCell (b := w.heap.size + 1) (.inr (.inr (.inl rfl))) (.int .i64 n))).trans (St.setCell (b := w.heap.size + 2) (.inr (.inr (.inr rfl))) (.iface 93 (.int .i64 e)))).trans (St.drew _ _)
  refine ⟨hF.others.from _, ⟨n, e, hp, ?_, ?_⟩, ?_, hF.under h.below hX h.below.size⟩
  · exact ((h3.other (by omega) _).set _).other (by omega) _
  · exact ((h4.other (by omega) _).other (by omega) _).set _
  · exact ((h2.set _).other (by omega) _).other (by omega) _
theorem row_slice {W : World} {base e size n : Nat} {v : Value} {xs : List Value} (h : W.ownsRow base e size v n xs) : ∃ A c, v = .slice A n c := by
  rcases h.2 with ⟨rfl, rfl⟩ | ⟨g, cap, cur, rfl, _⟩
  · exact ⟨none, 0, rfl⟩
  · exact ⟨_, _, rfl⟩
theorem wordsGo_le (p : UInt8 → Bool) : ∀ (l acc : Bs), (wordsGo p acc l).length ≤ acc.length + l.length ∧ ∀ x ∈ wordsGo p acc l, x.length ≤ acc.length + l.length
  | [], acc => by
    unfold wordsGo
    split
    · simp
    · rename_i h
      have := List.length_pos_iff.2 h
      constructor
      · simp; omega
      · intro x hx; obtain rfl := List.mem_singleton.1 hx; simp
  | b :: l, acc => by
    unfold wordsGo
    split
    · split
      · have ih := wordsGo_le p l []
        simp only [List.length_nil, Nat.zero_add] at ih
        refine ⟨by rw [List.length_cons]; omega, fun x hx => ?_⟩
        have := ih.2 x hx
        rw [List.length_cons]; omega
      · rename_i h
        have h0 := List.length_pos_iff.2 h
        have ih := wordsGo_le p l []
        simp only [List.length_nil, Nat.zero_add] at ih
        refine ⟨by rw [List.length_cons, List.length_cons]; omega, fun x hx => ?_⟩
        rcases List.mem_cons.1 hx with rfl | hx
        · omega
        · have := ih.2 x hx
          rw [List.length_cons]; omega
    · have ih := wordsGo_le p l (acc ++ [b])
      simp only [List.length_append, List.length_cons, List.length_nil] at ih ⊢
      exact ⟨by omega, fun x hx => by have := ih.2 x hx; omega⟩
theorem wl_le (x : ByteArray) (hx : x.size ≤ 1000000) : (wl x).length ≤ 1000000 ∧ ∀ y ∈ wl x, y.length ≤ 1000000 := by
  have h1 := wordsGo_le blankB (x.data.toList.takeWhile (· ≠ 37)) []
  have h2 : (x.data.toList.takeWhile (· ≠ 37)).length ≤ x.data.toList.length := (List.takeWhile_sublist _).length_le
  rw [data_length] at h2
  simp only [List.length_nil, Nat.zero_add] at h1
  exact ⟨Nat.le_trans h1.1 (by omega), fun y hy => Nat.le_trans (h1.2 y hy) (by omega)⟩
theorem mem_le_sum (l : List Nat) : ∀ x ∈ l, x ≤ l.sum := by
  induction l with
  | nil => intro x hx; cases hx
  | cons a l ih =>
    intro x hx
    rw [List.sum_cons]
    rcases List.mem_cons.1 hx with rfl | hx
    · omega
    · have := ih x hx; omega
theorem piece_le (s : ByteArray) (pre : List ByteArray) (x : ByteArray) (h : pre ++ [x] <+: (pieces 10 s.data.toList).map mkB) : x.size ≤ s.size := by
  have hm : x ∈ (pieces 10 s.data.toList).map mkB := h.subset (by simp)
  obtain ⟨y, hy, rfl⟩ := List.mem_map.1 hm
  have h1 := mem_le_sum _ _ (List.mem_map_of_mem (f := List.length) hy)
  have h2 := pieces_sum 10 s.data.toList
  rw [data_length] at h2
  rw [mkB_len]
  omega
theorem pre_rest (s : ByteArray) (pre : List ByteArray) (x : ByteArray) (h : pre ++ [x] <+: (pieces 10 s.data.toList).map mkB) : ∃ rest, pieces 10 s.data.toList = bsOf pre ++ (x.data.toList :: rest) ∧ pre.length ≤ s.size := by
  obtain ⟨t, ht⟩ := h
  have h1 := congrArg bsOf ht
  rw [bsOf_map] at h1
  refine ⟨bsOf t, ?_, ?_⟩
  · rw [← h1]; simp [bsOf]
  · have h2 := congrArg List.length ht
    have h3 := pieces_length 10 s.data.toList
    rw [data_length] at h3
    simp at h2
    omega
theorem ff_calls (t : Bs) (ht : t.length ≤ 4294967296) (W : World) : Calls Tryz.prog 43 #[.string (mkB t), .func (.func 44) #[] #[]] W fun e w' => ∃ A, e = .returned (.slice (some ⟨A, 0, none⟩) (words t).length (words t).length) ∧ W.heap.size ≤ A ∧ w'.heap[A]? = some (.cells ((words t).map fun x => Value.string (mkB x)).toArray 9 (0, 0)) ∧ Below W.heap.size W w' := by
  have hl : (Lib.goFieldsP blankR (mkB t)) = (words t).map mkB := fields_words (mkB t)
  refine (Tryz.strings_FieldsFunc 44 #[] (enters_of Tryz.func44 (by kernel_rfl) rfl) blankR (mkB t) W (by rw [mkB_len]; exact ht) (blank_pred W)).mono ?_
  rintro e w' ⟨A, rfl, hA, hrow, hb⟩
  rw [hl, List.length_map] at hrow ⊢
  refine ⟨A, rfl, hA, ?_, hb⟩
  rcases hrow.2 with ⟨h, _⟩ | ⟨g, cap, cur, h, _, hh, _, _, hcs, htk⟩
  · cases h
  · injection h with h1 h2 h3
    injection h1 with h1
    injection h1 with h1
    subst h1 h3
    rw [hh]
    congr 2
    apply Array.toList_inj.1
    rw [List.take_of_length_le (by rw [Array.length_toList, hcs]; omega)] at htk
    rw [htk, List.map_map]
    rfl
set_option maxRecDepth 100000 in
set_option maxHeartbeats 4000000 in
theorem parse_in (s : ByteArray) (hs : s.size ≤ 65536) (w : World) (hg : Glob w) : CallsIn Fence.wide 1 Tryz.prog 9 #[.string s] w fun e w' => ∃ v es n r, parseGo (pieces 10 s.data.toList) 0 [] = (es, n, r) ∧ e = .returned (.tuple #[v, .int .i64 n, P.errW r]) ∧ Kd.V P.k34 34 w' w.heap.size (fun k_ => w.heap.size ≤ k_) v es ∧ Below w.heap.size w w' := by
  have HG := Lib.hid hg
  clear hg
  refine callsIn_of_wp_marks Tryz.func9 rfl trivial ?_ rfl
  simp only [Tryz.ntmps9, List.size_toArray, List.length_cons, List.length_nil, Nat.reduceAdd, Nat.reduceSub, Array.replicate_succ, Array.replicate_zero, List.push_toArray, List.append_toArray, List.nil_append, List.cons_append]
  gi_wp2_with (refine ⟨trivial, ?_⟩; refine (callsIn_wide.2 (splitSeq_calls s 10 _)).mono ?_; rintro e w' ⟨rfl, rfl⟩)
  have z2 := Boxed.new w 23 (.slice none 0 0)
  have z3 := Boxed.new (w.alloc (.cells #[.slice none 0 0] 23)) 3 (.int .i64 0)
  have z4 := Boxed.new ((w.alloc (.cells #[.slice none 0 0] 23)).alloc (.cells #[.int .i64 0] 3)) 25 .nilIface
  have z5 := Boxed.new (((w.alloc (.cells #[.slice none 0 0] 23)).alloc (.cells #[.int .i64 0] 3)).alloc (.cells #[.nilIface] 25)) 23 (.slice none 0 0)
  have z6 := Boxed.new ((((w.alloc (.cells #[.slice none 0 0] 23)).alloc (.cells #[.int .i64 0] 3)).alloc (.cells #[.nilIface] 25)).alloc (.cells #[.slice none 0 0] 23)) 3 (.int .i64 0)
  have y2 := Boxed.new (((((w.alloc (.cells #[.slice none 0 0] 23)).alloc (.cells #[.int .i64 0] 3)).alloc (.cells #[.nilIface] 25)).alloc (.cells #[.slice none 0 0] 23)).alloc (.cells #[.int .i64 0] 3)) 9 (.string s)
  have y1 := Boxed.new ((((((w.alloc (.cells #[.slice none 0 0] 23)).alloc (.cells #[.int .i64 0] 3)).alloc (.cells #[.nilIface] 25)).alloc (.cells #[.slice none 0 0] 23)).alloc (.cells #[.int .i64 0] 3)).alloc (.cells #[.string s] 9)) 9 (.string ⟨#[10]⟩)
  have y3 := Boxed.new (((((((w.alloc (.cells #[.slice none 0 0] 23)).alloc (.cells #[.int .i64 0] 3)).alloc (.cells #[.nilIface] 25)).alloc (.cells #[.slice none 0 0] 23)).alloc (.cells #[.int .i64 0] 3)).alloc (.cells #[.string s] 9)).alloc (.cells #[.string ⟨#[10]⟩] 9)) 3 (.int .i64 0)
  replace z2 := (((((((z2.alloc (.cells #[.int .i64 0] 3)).alloc (.cells #[.nilIface] 25)).alloc (.cells #[.slice none 0 0] 23)).alloc (.cells #[.int .i64 0] 3)).alloc (.cells #[.string s] 9)).alloc (.cells #[.string ⟨#[10]⟩] 9)).alloc (.cells #[.int .i64 0] 3))
  replace z3 := ((((((z3.alloc (.cells #[.nilIface] 25)).alloc (.cells #[.slice none 0 0] 23)).alloc (.cells #[.int .i64 0] 3)).alloc (.cells #[.string s] 9)).alloc (.cells #[.string ⟨#[10]⟩] 9)).alloc (.cells #[.int .i64 0] 3))
  replace z4 := (((((z4.alloc (.cells #[.slice none 0 0] 23)).alloc (.cells #[.int .i64 0] 3)).alloc (.cells #[.string s] 9)).alloc (.cells #[.string ⟨#[10]⟩] 9)).alloc (.cells #[.int .i64 0] 3))
  replace z5 := ((((z5.alloc (.cells #[.int .i64 0] 3)).alloc (.cells #[.string s] 9)).alloc (.cells #[.string ⟨#[10]⟩] 9)).alloc (.cells #[.int .i64 0] 3))
  replace z6 := (((z6.alloc (.cells #[.string s] 9)).alloc (.cells #[.string ⟨#[10]⟩] 9)).alloc (.cells #[.int .i64 0] 3))
  replace y2 := ((y2.alloc (.cells #[.string ⟨#[10]⟩] 9)).alloc (.cells #[.int .i64 0] 3))
  replace y1 := y1.alloc (.cells #[.int .i64 0] 3)
  have hB0 : Below w.heap.size w ((((((((w.alloc (.cells #[.slice none 0 0] 23)).alloc (.cells #[.int .i64 0] 3)).alloc (.cells #[.nilIface] 25)).alloc (.cells #[.slice none 0 0] 23)).alloc (.cells #[.int .i64 0] 3)).alloc (.cells #[.string s] 9)).alloc (.cells #[.string ⟨#[10]⟩] 9)).alloc (.cells #[.int .i64 0] 3)) := below_alloc (below_alloc (below_alloc (below_alloc (below_alloc (below_alloc (below_alloc (below_alloc (Below.refl _ _) _) _) _) _) _) _) _) _
  have hN : ((((((((w.alloc (.cells #[.slice none 0 0] 23)).alloc (.cells #[.int .i64 0] 3)).alloc (.cells #[.nilIface] 25)).alloc (.cells #[.slice none 0 0] 23)).alloc (.cells #[.int .i64 0] 3)).alloc (.cells #[.string s] 9)).alloc (.cells #[.string ⟨#[10]⟩] 9)).alloc (.cells #[.int .i64 0] 3)).heap.size = w.heap.size + 8 := by simp
  generalize ((((((((w.alloc (.cells #[.slice none 0 0] 23)).alloc (.cells #[.int .i64 0] 3)).alloc (.cells #[.nilIface] 25)).alloc (.cells #[.slice none 0 0] 23)).alloc (.cells #[.int .i64 0] 3)).alloc (.cells #[.string s] 9)).alloc (.cells #[.string ⟨#[10]⟩] 9)).alloc (.cells #[.int .i64 0] 3)) = W0 at *
  simp only [World.size_alloc, Nat.add_assoc, Nat.reduceAdd] at z2 z3 z4 z5 z6 y1 y2 y3 ⊢
  have HX := Aside0.mk hN
  refine wpIn_rangeOwn (gf := 132) (lb := #[.pointer (some ⟨w.heap.size + 6, 0, none⟩), .pointer (some ⟨w.heap.size + 5, 0, none⟩), .pointer (some ⟨w.heap.size + 7, 0, none⟩)]) rfl (enters_of Tryz.func132 (by kernel_rfl) rfl)
    (b := w.heap.size + 5) (by omega) (split_iter 10 s (w.heap.size + 6) (w.heap.size + 5) (w.heap.size + 7) W0 (by omega) (by omega) (by omega) y1 y2 y3) (fun h k => h.trans k) ?ka ?kb (fun _ => rfl)
    (fun pre W => ∃ es v, ParseInv w pre es v W) (ParseOut w (pieces 10 s.data.toList)) (fun pre A B ⟨es, v, h⟩ hT => ⟨es, v, h.turn (by rw [hN] at hT; exact hT)⟩) (fun A B h hT => h.turn (by rw [hN] at hT; exact hT)) ?start
    (fun x => { tmps := #[(.string s), undef, .pointer (some ⟨w.heap.size, 0, none⟩), .pointer (some ⟨w.heap.size + 1, 0, none⟩), .pointer (some ⟨w.heap.size + 2, 0, none⟩), .pointer (some ⟨w.heap.size + 3, 0, none⟩), .pointer (some ⟨w.heap.size + 4, 0, none⟩), .string x, undef, undef, undef, .string s, .int .i64 s.size, .bool (decide (65536 < (s.size : Int))), undef, .string s, .func (.func 132) #[] #[.pointer (some ⟨w.heap.size + 6, 0, none⟩), .pointer (some ⟨w.heap.size + 5, 0, none⟩), .pointer (some ⟨w.heap.size + 7, 0, none⟩)], .string x, undef, undef, undef, undef, undef, undef, undef, undef, undef, undef, undef, undef, undef, undef, undef, undef, undef, undef, undef, undef, undef, undef, undef, undef, undef, undef, undef, undef, undef, undef, undef, undef, undef, undef, undef], defers := [] }) ?assign ?body ?done ?stop
  case ka =>
    intro W o hW
    exact ⟨Below.heap_alloc W o _ (by omega), Below.heap_alloc W o _ (by omega), Below.heap_alloc W o _ (by omega)⟩
  case kb =>
    intro W l o hl
    exact ⟨World.putObj_heap_other (by omega), World.putObj_heap_other (by omega), World.putObj_heap_other (by omega)⟩
  case start => exact ⟨[], .slice none 0 0, fun rest => rfl, Nat.zero_le _, fun e he => (by cases he), z5, World.ownsRow_nil _ _ _ _, z6, z2, z3, z4, hB0, by omega⟩
  case assign =>
    intro l x W K hK
    gi_wp2
    exact hK
  case body =>
    rintro l pre x W ⟨es, v, hI⟩ hpre
    clear z2 z3 z4 z5 z6 y1 y2 y3 hB0
    have hxs := piece_le s pre x hpre
    obtain ⟨rest, hrest, hpl⟩ := pre_rest s pre x hpre
    have HI := Lib.hid hI
    have HRE := Lib.hid hrest
    have hc := hI.cnt.cell
    have hf := hI.cnt.frozen
    obtain ⟨n, hn⟩ : ∃ n : Nat, n = pre.length := ⟨_, rfl⟩
    have HNN := Lib.hid hn
    rw [← hn] at hc hpl
    have hwr : wrap64 ((n : Int) + 1) = (n : Int) + 1 := by unfold wrap64; omega
    obtain ⟨t, ht⟩ : ∃ t : Bs, t = x.data.toList.takeWhile (· ≠ 37) := ⟨_, rfl⟩
    have htl : t.length ≤ 1000000 := by
      have h2 : (x.data.toList.takeWhile (· ≠ 37)).length ≤ x.data.toList.length := (List.takeWhile_sublist _).length_le
      rw [data_length, ← ht] at h2
      omega
    obtain ⟨c2, c3, hcut⟩ : ∃ c2 c3, strings_Cut.f x (⟨#[37]⟩ : ByteArray) = some (mkB t, c2, c3) := by
      unfold strings_Cut.f
      rw [if_pos (by omega), ht, ← cut_take]
      exact ⟨_, _, rfl⟩
    have hb4 : Below w.heap.size w (W.setCell ⟨w.heap.size + 4, 0, none⟩ (.int .i64 ((n : Int) + 1))) := (St.setCell (X := fun k => k = w.heap.size + 4) rfl _).under hI.below (fun k z => by have : k = w.heap.size + 4 := z; omega) hI.below.size
    have HB0 := Lib.hid hb4
    have HCUT := Lib.hid (strings_Cut.calls x _ _ _ _ (W.setCell ⟨w.heap.size + 4, 0, none⟩ (.int .i64 ((n : Int) + 1))) (HG.out.below hb4) hcut)
    have HFF := Lib.hid (fun W1 => ff_calls t (by omega) W1)
    have htw : words t = wl x := by rw [ht]; rfl
    have HS1 : Hid (St (fun k => k = w.heap.size + 4) W (W.setCell ⟨w.heap.size + 4, 0, none⟩ (.int .i64 ((n : Int) + 1)))) := Lib.hid (St.setCell (X := fun k => k = w.heap.size + 4) (show w.heap.size + 4 = w.heap.size + 4 from rfl) _)
    have HC1 : Hid (Boxed (W.setCell ⟨w.heap.size + 4, 0, none⟩ (.int .i64 ((n : Int) + 1))) (w.heap.size + 4) 3 (.int .i64 ((n : Int) + 1))) := Lib.hid (hI.cnt.set _)
    rw [htw] at HFF
    have hwle := wl_le x (by omega)
    clear hcut hb4 htw ht hn hI hpre hrest
    cases hwx : wl x with
    | nil =>
      rw [hwx] at HFF
      have HWX := Lib.hid hwx
      clear hwx hwle
      gi_wp2_with (first
        | (refine ⟨trivial, rfl, ?_⟩; refine CallsIn.mono (CallsIn.inRound l (callsIn_wide.2 HCUT.out)) ?_; rintro e w1 ⟨rfl, hb1⟩; have HB1 := Lib.hid hb1; clear hb1)
        | (refine ⟨trivial, rfl, ?_⟩; refine CallsIn.mono (CallsIn.inRound l (callsIn_wide.2 (HFF.out _))) ?_; rintro e w2 ⟨A, rfl, hA, hrow, hb2⟩; have HB2 := Lib.hid hb2; clear hA hrow hb2))
      have hz := HI.out.size
      have hS := HS1.out.trans ((St.below HB1.out).trans (St.below HB2.out))
      have hcW := ((St.below (X := fun _ => False) HB1.out).trans (St.below HB2.out)).boxed HC1.out id
      refine ⟨hS.others.from _, ⟨hS.same _ (by omega) (fun z => ?_), hS.same _ (by omega) (fun z => ?_), hS.same _ (by omega) (fun z => ?_)⟩, es, v, HI.out.blank hS (by rw [← HNN.out]; exact hcW) HWX.out⟩
      · have z' : w.heap.size + 6 = w.heap.size + 4 := z; omega
      · have z' : w.heap.size + 5 = w.heap.size + 4 := z; omega
      · have z' : w.heap.size + 7 = w.heap.size + 4 := z; omega
    | cons vb ab =>
      rw [hwx] at HFF hwle
      have HWX := Lib.hid hwx
      have hvl := hwle.2 vb (List.mem_cons_self ..)
      have hal : ab.length ≤ 1000000 := by have := hwle.1; simp at this; omega
      have HAL := Lib.hid (fun y hy => hwle.2 y (List.mem_cons_of_mem vb hy))
      have hlen1 : (vb :: ab).length = ab.length + 1 := rfl
      rw [hlen1] at HFF
      clear hwx hwle hlen1
      gi_wp2_with (first
        | (refine ⟨trivial, rfl, ?_⟩; refine CallsIn.mono (CallsIn.inRound l (callsIn_wide.2 HCUT.out)) ?_; rintro e w1 ⟨rfl, hb1⟩; have HB1 := Lib.hid hb1; clear hb1)
        | (refine ⟨trivial, rfl, ?_⟩; refine CallsIn.mono (CallsIn.inRound l (callsIn_wide.2 (HFF.out _))) ?_; rintro e w2 ⟨A, rfl, hA, hrow, hb2⟩; have HB2 := Lib.hid hb2; have HRW := Lib.hid hrow; have HA := Lib.hid hA; clear hA hrow hb2))
      have hS : w2.drew.cell? ⟨A, 0, none⟩ = some (.string (mkB vb)) := by
        have h := cell_of_row w2 A 0 _ 9 (0, 0) HRW.out
        simpa using h
      have hpos : (0 : Int) < (ab.length : Int) + 1 := by omega
      obtain ⟨a1, ha1⟩ : ∃ a1 : Option Addr, a1 = if ab = [] then some (⟨A, 0, none⟩ : Addr) else some ⟨A, 1, none⟩ := ⟨_, rfl⟩
      have HV : Hid (argV (A, vb, ab) = .slice a1 ab.length ab.length) := Lib.hid (by
        unfold argV
        rw [ha1]
        by_cases h : ab = []
        · rw [if_pos h, if_pos (show ab.length = 0 by rw [h]; rfl)]
        · rw [if_neg h, if_neg (show ¬ ab.length = 0 from fun e => h (List.eq_nil_of_length_eq_zero e))])
      have HA1 := Lib.hid ha1
      clear ha1
      refine wpIn_region_heldM l (fun V => V.cell? ⟨A, 0, none⟩ = some (.string (mkB vb))) 7 (by rintro ⟨_, _, h⟩; exact h) (by kernel_rfl) (by kernel_rfl) ?_
      show wpAnyM _ _ _ _ _ _ _ _ _ w2.drew
      refine wpAnyM_take 0 (some 31) (.slice (some ⟨A, 0, none⟩) (ab.length + 1) (ab.length + 1)) rfl rfl (by kernel_rfl) (fun _ _ _ h => h) (Or.inl ⟨by rfl, ?_⟩) hS ?_
      · intro w' hS'
        go_simp
        try with_reducible rfl
      simp only [Act.put, List.setIfInBounds_toArray, List.set_cons_zero, List.set_cons_succ]
      refine wpAnyM_take 1 (some 32) (.pointer (some ⟨A, 0, none⟩)) rfl rfl (by kernel_rfl) (fun _ _ _ h => h) (Or.inl ⟨by rfl, ?_⟩) hS ?_
      · intro w' hS'
        go_simp
        try with_reducible rfl
      simp only [Act.put, List.setIfInBounds_toArray, List.set_cons_zero, List.set_cons_succ]
      refine wpAnyM_take 2 (some 33) (.string (mkB vb)) rfl rfl (by kernel_rfl) (fun _ _ _ h => h) (Or.inl ⟨by rfl, ?_⟩) hS ?_
      · intro w' hS'
        go_simp
        try with_reducible rfl
      simp only [Act.put, List.setIfInBounds_toArray, List.set_cons_zero, List.set_cons_succ]
      refine wpAnyM_take 3 (some 34) (.slice (some ⟨A, 0, none⟩) (ab.length + 1) (ab.length + 1)) rfl rfl (by kernel_rfl) (fun _ _ _ h => h) (Or.inl ⟨by rfl, ?_⟩) hS ?_
      · intro w' hS'
        go_simp
        try with_reducible rfl
      simp only [Act.put, List.setIfInBounds_toArray, List.set_cons_zero, List.set_cons_succ]
      refine wpAnyM_take 4 (some 35) (.slice a1 ab.length ab.length) rfl rfl (by kernel_rfl) (fun _ _ _ h => h) (Or.inl ⟨by rfl, ?_⟩) hS ?_
      · intro w' hS'
        go_simp
        rw [if_pos (by omega), HA1.out]
      simp only [Act.put, List.setIfInBounds_toArray, List.set_cons_zero, List.set_cons_succ]
      refine wpAnyM_take 5 (some 36) (.agg #[.string (mkB vb), .slice a1 ab.length ab.length]) rfl rfl (by kernel_rfl) (fun _ _ _ h => h) (Or.inl ⟨by rfl, ?_⟩) hS ?_
      · intro w' hS'
        go_simp
        try with_reducible rfl
      simp only [Act.put, List.setIfInBounds_toArray, List.set_cons_zero, List.set_cons_succ]
      refine wpAnyM_one 6 _ rfl (by kernel_rfl) (by decide) (fun K hK => ?_)
      rw [if_pos (by rfl)]
      go_simp
      refine hK _ _ ((cell_same (V := w2) (Below.heap_alloc w2 _ _ (Array.getElem?_eq_some_iff.1 HRW.out).1) 0).trans hS) ?_
      clear hK K
      have hb9 : Boxed2 (w2.alloc (.cells #[.string ⟨#[]⟩, .slice none 0 0] 34)).drew w2.heap.size 34 (.string ⟨#[]⟩) (.slice none 0 0) := World.alloc_heap_new w2 _
      refine wpAnyM_drop (by kernel_rfl) ?_
      simp only [List.drop_succ_cons, List.drop_zero]
      go_wp2
      clear hb9
      have hD : (w2.alloc (.cells #[.string (mkB vb), .slice a1 ab.length ab.length] 34)).drew.heap[w2.heap.size]? = some (.cells #[.string (mkB vb), .slice a1 ab.length ab.length] 34 (0, 0)) := World.alloc_heap_new w2 _
      have hB3 : Below w2.heap.size w2 (w2.alloc (.cells #[.string (mkB vb), .slice a1 ab.length ab.length] 34)).drew := below_drew (below_alloc (Below.refl _ _) _)
      generalize (w2.alloc (.cells #[.string (mkB vb), .slice a1 ab.length ab.length] 34)).drew = w3 at *
      have HB3 := Lib.hid hB3
      have hAlt := (Array.getElem?_eq_some_iff.1 HRW.out).1
      have HW3 : Hid (w3.heap[A]? = some (wordsObj (A, vb, ab))) := Lib.hid ((hB3.block A hAlt).trans HRW.out)
      have hb03 : Below w.heap.size w w3 := below_then (below_then (below_then HB0.out HB0.out.size HB1.out) (Nat.le_trans HB0.out.size HB1.out.size) HB2.out) (Nat.le_trans (Nat.le_trans HB0.out.size HB1.out.size) HB2.out.size) hB3
      have hargs : Kd.C Kd.string w3 a1 (ab.map mkB).length (ab.map mkB) := by
        have h1 := args_read (e := (A, vb, ab)) HW3.out hal
        have h2 : (some ⟨A, if ab.length = 0 then 0 else 1, none⟩ : Option Addr) = a1 := by
          have := HV.out
          unfold argV at this
          injection this
        rw [← h2]
        exact h1
      have hck := P.script_Check.calls _ (mkB vb) a1 ab.length (ab.map mkB) _ w3 hargs (by rw [List.length_map]; exact Nat.le_refl _) (HG.out.below hb03) (chk_eq (mkB vb) (ab.map mkB) (fun y hy => by obtain ⟨q, hq, rfl⟩ := List.mem_map.1 hy; rw [mkB_len]; exact HAL.out q hq) (by rw [List.length_map]; exact hal))
      rw [bsOf_map, List.length_map] at hck
      have hd0 : w3.cell? ⟨w2.heap.size, 0, none⟩ = some (.string (mkB vb)) := by rw [cell_of_row w3 _ 0 _ _ _ hD]; rfl
      have hd1 : w3.cell? ⟨w2.heap.size, 1, none⟩ = some (.slice a1 ab.length ab.length) := by rw [cell_of_row w3 _ 1 _ _ _ hD]; rfl
      have HD := Lib.hid hD
      clear hB3 hS hD hb03 hargs
      cases hk : chk vb ab with
      | false =>
        rw [show (mkB vb).data.toList = vb from rfl, hk, if_neg (by decide)] at hck
        simp only [P.errW_some] at hck
        have HCK := Lib.hid hck
        have HK := Lib.hid hk
        clear hck hk
        gi_wp2_with (refine ⟨trivial, rfl, ?_⟩; refine CallsIn.mono (CallsIn.inRound l (callsIn_wide.2 HCK.out)) ?_; rintro e w4 ⟨rfl, hb4⟩; have HB4 := Lib.hid hb4; clear hb4)
        have hS4 := HS1.out.trans ((St.below HB1.out).trans ((St.below HB2.out).trans ((St.below HB3.out).trans (St.below HB4.out))))
        have hcW := ((St.below (X := fun _ => False) HB1.out).trans ((St.below HB2.out).trans ((St.below HB3.out).trans (St.below HB4.out)))).boxed HC1.out id
        have g2 := hS4.boxed HI.out.r2 (by omega)
        have g3 := (hS4.boxed HI.out.r3 (by omega)).other (B' := w.heap.size) (by omega) (.slice none 0 0)
        have g4 := ((hS4.boxed HI.out.r4 (by omega)).other (B' := w.heap.size) (by omega) (.slice none 0 0)).other (B' := w.heap.size + 1) (by omega) (.int .i64 ((n : Int) + 1))
        have g6 := hcW.other (B' := w.heap.size) (by omega) (.slice none 0 0)
        have g7 := g6.other (B' := w.heap.size + 1) (by omega) (.int .i64 ((n : Int) + 1))
        have g2c := g2.cell
        have g2f := g2.frozen
        have g3c := g3.cell
        have g3f := g3.frozen
        have g4c := g4.cell
        have g4f := g4.frozen
        have HFIN := Lib.hid (HI.out.stop (all := pieces 10 s.data.toList) (n := (n : Int) + 1) (e := 337) W0.heap.size hS4 (by rw [HRE.out, HI.out.scan, parse_bad HWX.out HK.out, HNN.out]))
        have hSc : w4.drew.cell? ⟨w.heap.size + 4, 0, none⟩ = some (.int .i64 ((n : Int) + 1)) := hcW.cell
        have HG6 := Lib.hid g6
        have HG7 := Lib.hid g7
        clear hS4 hcW g2 g3 g4 g6 g7
        refine wpIn_region_heldM l (fun V => V.cell? ⟨w.heap.size + 4, 0, none⟩ = some (.int .i64 ((n : Int) + 1))) 4 (by rintro ⟨_, _, h⟩; exact h) (by kernel_rfl) (by kernel_rfl) ?_
        show wpAnyM _ _ _ _ _ _ _ _ _ w4.drew
        refine wpAnyM_take 0 (some 41) (.int .i64 ((n : Int) + 1)) rfl rfl (by kernel_rfl) (fun _ _ _ h => h) (Or.inl ⟨by rfl, ?_⟩) hSc ?_
        · intro w' hS'
          go_simp
          try with_reducible rfl
        simp only [Act.put, List.setIfInBounds_toArray, List.set_cons_zero, List.set_cons_succ]
        refine wpAnyM_take 1 (some 42) (.iface 93 (.int .i64 337)) rfl rfl (by kernel_rfl) (fun _ _ _ h => h) (Or.inl ⟨by rfl, ?_⟩) hSc ?_
        · intro w' hS'
          go_simp
          try with_reducible rfl
        simp only [Act.put, List.setIfInBounds_toArray, List.set_cons_zero, List.set_cons_succ]
        refine wpAnyM_one 2 _ rfl (by kernel_rfl) (by decide) (fun K hK => ?_)
        rw [if_pos (by rfl)]
        go_simp
        refine hK _ _ HG6.out.cell ?_
        clear hK K
        refine wpAnyM_one 3 _ rfl (by kernel_rfl) (by decide) (fun K hK => ?_)
        rw [if_pos (by rfl)]
        go_simp
        refine hK _ _ HG7.out.cell ?_
        clear hK K
        refine wpAnyM_drop (by kernel_rfl) ?_
        simp only [List.drop_succ_cons, List.drop_zero]
        go_wp2
        gi_wp2
        exact HFIN.out
      | true =>
        rw [show (mkB vb).data.toList = vb from rfl, hk, if_pos rfl] at hck
        simp only [P.errW_none] at hck
        have HCK := Lib.hid hck
        have HK := Lib.hid hk
        clear hck hk
        obtain ⟨av, cv, rfl⟩ := row_slice HI.out.row
        have h5c := HI.out.out.cell
        by_cases h4 : es.length = 4000
        · gi_wp2_with (refine ⟨trivial, rfl, ?_⟩; refine CallsIn.mono (CallsIn.inRound l (callsIn_wide.2 HCK.out)) ?_; rintro e w4 ⟨rfl, hb4⟩; have HB4 := Lib.hid hb4; clear hb4; have h5 := ((HS1.out.trans ((St.below HB1.out).trans ((St.below HB2.out).trans ((St.below HB3.out).trans (St.below HB4.out))))).boxed HI.out.out (by omega)).cell)
          clear h5
          have hS4 := HS1.out.trans ((St.below HB1.out).trans ((St.below HB2.out).trans ((St.below HB3.out).trans (St.below HB4.out))))
          have hcW := ((St.below (X := fun _ => False) HB1.out).trans ((St.below HB2.out).trans ((St.below HB3.out).trans (St.below HB4.out)))).boxed HC1.out id
          have g2 := hS4.boxed HI.out.r2 (by omega)
          have g3 := (hS4.boxed HI.out.r3 (by omega)).other (B' := w.heap.size) (by omega) (.slice none 0 0)
          have g4 := ((hS4.boxed HI.out.r4 (by omega)).other (B' := w.heap.size) (by omega) (.slice none 0 0)).other (B' := w.heap.size + 1) (by omega) (.int .i64 ((n : Int) + 1))
          have g6 := hcW.other (B' := w.heap.size) (by omega) (.slice none 0 0)
          have g7 := g6.other (B' := w.heap.size + 1) (by omega) (.int .i64 ((n : Int) + 1))
          have g2c := g2.cell
          have g2f := g2.frozen
          have g3c := g3.cell
          have g3f := g3.frozen
          have g4c := g4.cell
          have g4f := g4.frozen
          have HFIN := Lib.hid (HI.out.stop (all := pieces 10 s.data.toList) (n := (n : Int) + 1) (e := 90) W0.heap.size hS4 (by rw [HRE.out, HI.out.scan, parse_full HWX.out HK.out (by rw [List.length_map]; exact h4), HNN.out]))
          have hSc : w4.drew.cell? ⟨w.heap.size + 4, 0, none⟩ = some (.int .i64 ((n : Int) + 1)) := hcW.cell
          have HG6 := Lib.hid g6
          have HG7 := Lib.hid g7
          clear hS4 hcW g2 g3 g4 g6 g7
          refine wpIn_region_heldM l (fun V => V.cell? ⟨w.heap.size + 4, 0, none⟩ = some (.int .i64 ((n : Int) + 1))) 4 (by rintro ⟨_, _, h⟩; exact h) (by kernel_rfl) (by kernel_rfl) ?_
          show wpAnyM _ _ _ _ _ _ _ _ _ w4.drew
          refine wpAnyM_take 0 (some 46) (.int .i64 ((n : Int) + 1)) rfl rfl (by kernel_rfl) (fun _ _ _ h => h) (Or.inl ⟨by rfl, ?_⟩) hSc ?_
          · intro w' hS'
            go_simp
            try with_reducible rfl
          simp only [Act.put, List.setIfInBounds_toArray, List.set_cons_zero, List.set_cons_succ]
          refine wpAnyM_take 1 (some 47) (.iface 93 (.int .i64 90)) rfl rfl (by kernel_rfl) (fun _ _ _ h => h) (Or.inl ⟨by rfl, ?_⟩) hSc ?_
          · intro w' hS'
            go_simp
            try with_reducible rfl
          simp only [Act.put, List.setIfInBounds_toArray, List.set_cons_zero, List.set_cons_succ]
          refine wpAnyM_one 2 _ rfl (by kernel_rfl) (by decide) (fun K hK => ?_)
          rw [if_pos (by rfl)]
          go_simp
          refine hK _ _ HG6.out.cell ?_
          clear hK K
          refine wpAnyM_one 3 _ rfl (by kernel_rfl) (by decide) (fun K hK => ?_)
          rw [if_pos (by rfl)]
          go_simp
          refine hK _ _ HG7.out.cell ?_
          clear hK K
          refine wpAnyM_drop (by kernel_rfl) ?_
          simp only [List.drop_succ_cons, List.drop_zero]
          go_wp2
          gi_wp2
          exact HFIN.out
        · have h5n : ((es.length : Int) == 4000) = false := by
            rw [beq_eq_false_iff_ne]
            omega
          have hfew := HI.out.few
          have HR4 : ∀ {w4 : World}, St (fun k => k = w.heap.size + 4) W w4 → w4.ownsRow (w.heap.size + 8) 34 2 (.slice av es.length cv) es.length (rowCells es) := fun {w4} hS4 => ownsRow_same HI.out.row (fun g hg hlt => hS4.same g hlt (fun e => by
            have h1 := own_ge HI.out.row hg.symm
            have h2 : g = w.heap.size + 4 := e
            omega))
          obtain ⟨i0, hi, hz0, hz1, hz2⟩ := info_parts Tryz.info34
          gi_wp2_with (first
            | (refine ⟨trivial, rfl, ?_⟩; refine CallsIn.mono (CallsIn.inRound l (callsIn_wide.2 HCK.out)) ?_; rintro e w4 ⟨rfl, hb4⟩; have HB4 := Lib.hid hb4; clear hb4; have HS4 := Lib.hid (HS1.out.trans ((St.below HB1.out).trans ((St.below HB2.out).trans ((St.below HB3.out).trans (St.below HB4.out))))); have HO4 := Lib.hid (HS4.out.boxed HI.out.out (by omega)); have h5 := HO4.out.cell; have hD4 := (HB4.out.block _ (Array.getElem?_eq_some_iff.1 HD.out).1).trans HD.out; have h90 : w4.cell? ⟨w2.heap.size, 0, none⟩ = some (.string (mkB vb)) := (by rw [cell_of_row w4 _ 0 _ _ _ hD4]; rfl); have h91 : w4.cell? ⟨w2.heap.size, 1, none⟩ = some (.slice a1 ab.length ab.length) := (by rw [cell_of_row w4 _ 1 _ _ _ hD4]; rfl); clear hD4)
            | (gi_at_builtin; refine wpListIn_append_own_at _ rfl _ _ 23 rfl (w.heap.size + 8) 34 i0 _ 2 40 Tryz.underlying23 hi hz0 hz1 hz2 (by decide) (by decide) _ es.length (rowCells es) rfl ((HR4 HS4.out).alloc _) ⟨w4.heap.size, 0, none⟩ 1 1 [.string (mkB vb), .slice a1 ab.length ab.length] rfl rfl (new2 w4 _ _) (by simp [Value.oneCell']) (by unfold maxLen; omega) (by omega) (by have := HI.out.size; have := HS4.out.others.size; simp; omega) ?_; intro v' w5 hown' hgrow _ hat; obtain ⟨g', cap', rfl⟩ := ownsRow_succ hown'; obtain ⟨hv1, hv2, hr2, hk2, q1, q2, q3, q4, _⟩ := box_appended HO4.out (by decide) (HR4 HS4.out) (by have := HI.out.size; have := HS4.out.others.size; omega) hown' hgrow; have hc1 := hv1.cell; have hf1 := hv1.frozen; have HV2 := Lib.hid hv2; have HR2 := Lib.hid hr2; have HK2 := Lib.hid hk2; have HGR := Lib.hid hgrow; have HAT := Lib.hid hat; clear hv1 hv2 hr2 hk2 hown' hgrow hat))
          have hz := HI.out.size
          have hz4 := HS4.out.others.size
          have hS6 : St (fun k => k = w.heap.size + 3 ∨ some k = (Value.slice av es.length cv).ownBlock) w4 (w5.setCell ⟨w.heap.size + 3, 0, none⟩ (.slice (some ⟨g', 0, none⟩) (es.length + 1) cap')) :=
            ⟨q1, q2, q3, fun k hk hx => (Below.heap_setCell w5 ⟨w.heap.size + 3, 0, none⟩ (.slice (some ⟨g', 0, none⟩) (es.length + 1) cap') k (fun e => hx (.inl e))).trans ((HGR.out.block k (by rw [World.size_alloc]; omega) (fun e => hx (.inr e))).trans (Below.heap_alloc w4 _ k hk)), HK2.out⟩
          have hS := (HS4.out.mono (Y := fun k => k = w.heap.size + 4 ∨ k = w.heap.size + 3 ∨ some k = (Value.slice av es.length cv).ownBlock) (fun k e => .inl e)).trans (hS6.mono (fun k e => .inr e))
          have hcW := ((St.below (X := fun _ => False) HB1.out).trans ((St.below HB2.out).trans ((St.below HB3.out).trans (St.below HB4.out)))).boxed HC1.out id
          have hAW : W.heap.size ≤ A := Nat.le_trans (Nat.le_trans HS1.out.others.size HB1.out.size) HA.out
          have hno : ∀ k, some k = (Value.slice av es.length cv).ownBlock → w.heap.size + 8 ≤ k ∧ k < W.heap.size := fun k hk => own_ge HI.out.row hk
          have hA2 := (Array.getElem?_eq_some_iff.1 HRW.out).1
          have hA3 := (Array.getElem?_eq_some_iff.1 HW3.out).1
          have hA4 : A < w4.heap.size := Nat.lt_of_lt_of_le hA3 HB4.out.size
          have hAo : (w5.setCell ⟨w.heap.size + 3, 0, none⟩ (.slice (some ⟨g', 0, none⟩) (es.length + 1) cap')).heap[A]? = some (wordsObj (A, vb, ab)) := (hS6.same A hA4 (fun e => by
            rcases e with e | e
            · omega
            · have := hno A e; omega)).trans ((HB4.out.block A hA3).trans HW3.out)
          refine ⟨hS.others.from _, ⟨hS.same _ (by omega) (fun e => ?_), hS.same _ (by omega) (fun e => ?_), hS.same _ (by omega) (fun e => ?_)⟩, es ++ [(A, vb, ab)], .slice (some ⟨g', 0, none⟩) (es.length + 1) cap', HI.out.push hS ?_ HWX.out HK.out h4 hal HV2.out ?_ hAW hAo ?_⟩
          · rcases e with e | e | e
            · omega
            · omega
            · have := hno _ e; omega
          · rcases e with e | e | e
            · omega
            · omega
            · have := hno _ e; omega
          · rcases e with e | e | e
            · omega
            · omega
            · have := hno _ e; omega
          · rw [← HNN.out]
            refine hS6.boxed hcW (fun e => ?_)
            rcases e with e | e
            · omega
            · have := hno _ e; omega
          · have e1 : rowCells (es ++ [(A, vb, ab)]) = rowCells es ++ [.string (mkB vb), .slice a1 ab.length ab.length] := by
              unfold rowCells
              rw [List.flatMap_append]
              show _ ++ (cmdCells (A, vb, ab) ++ []) = _
              rw [List.append_nil]
              unfold cmdCells
              rw [HV.out]
            rw [e1]
            exact HR2.out
          · rcases HAT.out with h | h
            · exact .inl h
            · exact .inr ⟨_, h, by rw [World.size_alloc]; omega⟩
  case done =>
    rintro W ⟨es, v, hI⟩ hK
    clear z2 z3 z4 z5 z6 y1 y2 y3 hB0
    obtain ⟨av, cv, rfl⟩ := row_slice hI.row
    have HI := Lib.hid hI
    have HKK := Lib.hid hK
    have h5 := hI.out.cell
    have c2 := hI.r2.cell
    have f2 := hI.r2.frozen
    have b3 := hI.r3.other (B' := w.heap.size) (by omega) (.slice av es.length cv)
    have c3 := b3.cell
    have f3 := b3.frozen
    have b4 := (hI.r4.other (B' := w.heap.size) (by omega) (.slice av es.length cv)).other (B' := w.heap.size + 1) (by omega) (.int .i64 0)
    have c4 := b4.cell
    have f4 := b4.frozen
    clear hI hK b3 b4
    gi_wp2
    have hz := HI.out.size
    have hX : St (fun k => k = w.heap.size ∨ k = w.heap.size + 1 ∨ k = w.heap.size + 2) W (((W.setCell ⟨w.heap.size, 0, none⟩ (.slice av es.length cv)).setCell ⟨w.heap.size + 1, 0, none⟩ (.int .i64 0)).setCell ⟨w.heap.size + 2, 0, none⟩ .nilIface) :=
      ((St.setCell (b := w.heap.size) (.inl rfl) _).trans (St.setCell (b := w.heap.size + 1) (.inr (.inl rfl)) _)).trans (St.setCell (b := w.heap.size + 2) (.inr (.inr rfl)) _)
    have e2 := ((HI.out.r2.set (.slice av es.length cv)).other (B' := w.heap.size + 1) (by omega) (.int .i64 0)).other (B' := w.heap.size + 2) (by omega) .nilIface
    have e3 := ((HI.out.r3.other (B' := w.heap.size) (by omega) (.slice av es.length cv)).set (.int .i64 0)).other (B' := w.heap.size + 2) (by omega) .nilIface
    have e4 := (((HI.out.r4.other (B' := w.heap.size) (by omega) (.slice av es.length cv)).other (B' := w.heap.size + 1) (by omega) (.int .i64 0))).set .nilIface
    have eK := (hX.same W0.heap.size (Array.getElem?_eq_some_iff.1 HKK.out).1 (fun e => by have := HX.out; omega)).trans HKK.out
    have hbl := hX.under HI.out.below (fun k e => by omega) HI.out.below.size
    have hrow := ownsRow_same (W' := ((W.setCell ⟨w.heap.size, 0, none⟩ (.slice av es.length cv)).setCell ⟨w.heap.size + 1, 0, none⟩ (.int .i64 0)).setCell ⟨w.heap.size + 2, 0, none⟩ .nilIface) HI.out.row (fun g hg hlt => hX.same g hlt (fun e => by have := own_ge HI.out.row hg.symm; omega))
    have hargs : ∀ e ∈ es, w.heap.size + 8 ≤ e.1 ∧ (((W.setCell ⟨w.heap.size, 0, none⟩ (.slice av es.length cv)).setCell ⟨w.heap.size + 1, 0, none⟩ (.int .i64 0)).setCell ⟨w.heap.size + 2, 0, none⟩ .nilIface).heap[e.1]? = some (wordsObj e) ∧ e.2.2.length ≤ 1000000 := fun e he => by
      obtain ⟨q1, _, q3, q4⟩ := HI.out.args e he
      exact ⟨q1, (hX.same _ (Array.getElem?_eq_some_iff.1 q3).1 (fun z => by omega)).trans q3, q4⟩
    generalize (((W.setCell ⟨w.heap.size, 0, none⟩ (.slice av es.length cv)).setCell ⟨w.heap.size + 1, 0, none⟩ (.int .i64 0)).setCell ⟨w.heap.size + 2, 0, none⟩ .nilIface) = W5 at *
    refine ⟨by simp, .inl ⟨_, _, rfl, run_takeDeferred eK, ?_⟩⟩
    have hne : ∀ k, k ≠ W0.heap.size → (W5.putObj W0.heap.size (.deferred none)).heap[k]? = W5.heap[k]? := fun k hk => World.putObj_heap_other hk
    refine ⟨_, results_cell3 rfl _ _ _ rfl rfl rfl (load23 (v := .slice av es.length cv) ?_) (load3 (v := .int .i64 0) ?_) (load25 (v := .nilIface) ?_), _, es.map cmdE, 0, none, ?_, rfl, ?_, ?_⟩
    · exact (cell_same (V := W5) (hne _ (by have := HX.out; omega)) 0).trans e2.cell
    · exact (cell_same (V := W5) (hne _ (by have := HX.out; omega)) 0).trans e3.cell
    · exact (cell_same (V := W5) (hne _ (by have := HX.out; omega)) 0).trans e4.cell
    · have h1 := HI.out.scan []
      rw [List.append_nil, bsOf_map] at h1
      rw [h1]
      rfl
    · refine cmds_V (N := w.heap.size + 8) (by omega) (ownsRow_same hrow (fun g hg hlt => hne g (fun e => ?_))) (fun e he => ?_) (by have := HI.out.few; omega)
      · rcases hrow.2 with ⟨h, _⟩ | ⟨g', cap, cur, h, _, hh, _⟩
        · rw [h] at hg; simp [Value.ownBlock] at hg
        · rw [h] at hg
          have : g' = g := by simpa [Value.ownBlock] using hg
          rw [this, e, eK] at hh
          cases hh
      · obtain ⟨q1, q3, q4⟩ := hargs e he
        refine ⟨q1, (hne e.1 (fun z => ?_)).trans q3, q4⟩
        rw [z, eK] at q3
        unfold wordsObj at q3
        cases q3
    · exact hbl.trans (Turn.below' (by have := HX.out; omega))
  case stop =>
    rintro W ⟨⟨n, e, hp, e3, e4⟩, e2, hbl⟩ hK
    clear z2 z3 z4 z5 z6 y1 y2 y3 hB0
    gi_wp2
    refine ⟨by simp, .inl ⟨_, _, rfl, run_takeDeferred hK, ?_⟩⟩
    have hne : ∀ k, k ≠ W0.heap.size → (W.putObj W0.heap.size (.deferred none)).heap[k]? = W.heap[k]? := fun k hk => World.putObj_heap_other hk
    refine ⟨_, results_cell3 rfl _ _ _ rfl rfl rfl (load23 (v := .slice none 0 0) ?_) (load3 (v := .int .i64 n) ?_) (load25 (v := .iface 93 (.int .i64 e)) ?_), _, [], n, some e, hp, rfl, Kd.V_nil _ _ _ _ _, ?_⟩
    · exact (cell_same (V := W) (hne _ (by have := HX.out; omega)) 0).trans e2.cell
    · exact (cell_same (V := W) (hne _ (by have := HX.out; omega)) 0).trans e3.cell
    · exact (cell_same (V := W) (hne _ (by have := HX.out; omega)) 0).trans e4.cell
    · exact hbl.trans (Turn.below' (by have := HX.out; omega))
theorem script_Parse.calls (a0 : ByteArray) (r1 : List P.S34) (r2 : Int) (r3 : Option Int) (w : World) (hg : Glob w) (h : script_Parse.f a0 = some (r1, r2, r3)) : Calls Tryz.prog 9 #[.string a0] w fun e w' => ∃ v0_ : Value, e = .returned (.tuple #[v0_, .int .i64 r2, P.errW r3]) ∧ Kd.V P.k34 34 w' w.heap.size (fun k_ => (w.heap.size ≤ k_)) v0_ r1 ∧ Below w.heap.size w w' := by
  unfold script_Parse.f at h
  split at h
  · rename_i hs
    cases h
    refine (parse_long a0 (by omega) w).mono ?_
    rintro e w' ⟨rfl, hb⟩
    exact ⟨_, rfl, Kd.V_nil _ _ _ _ _, hb⟩
  · rename_i hs
    have h := Option.some.inj h
    refine (callsIn_wide.1 (parse_in a0 (by omega) w hg)).mono ?_
    rintro e w' ⟨v, es, n, r, hp, rfl, hV, hb⟩
    rw [hp] at h
    cases h
    exact ⟨v, rfl, hV, hb⟩
end Go.Proofs.YtinleajhckcapaaGreatDoor.Hand
namespace Go.Proofs.YtinleajhckcapaaGreatDoor.P
open Go.RowKit Go.Proofs.YtinleajhckcapaaGreatDoorW.PrintWords Go.Proofs.YtinleajhckcapaaGreatDoorW.PrintLast Go.Proofs.YtinleajhckcapaaGreatDoorW.PrintMore
attribute [local go_sem] max2_int min2_int max_two min_two max_three min_three max_four min_four
set_option linter.unusedVariables false
set_option linter.unusedSimpArgs false
end Go.Proofs.YtinleajhckcapaaGreatDoor.P
namespace Go.Proofs.YtinleajhckcapaaGreatDoor.Hand
open Go Go.RowKit Go.Proofs.YtinleajhckcapaaGreatDoorW.PrintWords Go.Proofs.YtinleajhckcapaaGreatDoorW.PrintLast
def c35 (x : P.S34) : P.S35 := ⟨x.f0, x.f1⟩
theorem mkB_nil (l : Bs) : (mkB l).toList = ([] : List UInt8) ↔ l = [] := by rw [Lib.toList_data]; exact Iff.rfl
end Go.Proofs.YtinleajhckcapaaGreatDoor.Hand
namespace Go.Proofs.YtinleajhckcapaaGreatDoor.Hand
open Go Go.RowKit Go.Proofs.YtinleajhckcapaaGreatDoorW.PrintWords Go.Proofs.YtinleajhckcapaaGreatDoorW.PrintLast
end Go.Proofs.YtinleajhckcapaaGreatDoor.Hand
namespace Go.Proofs.YtinleajhckcapaaGreatDoor.Hand
open Go Go.RowKit Go.Proofs.YtinleajhckcapaaGreatDoorW.PrintWords
def hexInts (l : List Int) : List Int := l.flatMap fun c => [((hexaL.getD (c.toNat / 16) 0).toNat : Int), ((hexaL.getD (c.toNat % 16) 0).toNat : Int)]
theorem hexInts_length (l : List Int) : (hexInts l).length = 2 * l.length := by
  unfold hexInts
  induction l with
  | nil => rfl
  | cons c l ih => rw [List.flatMap_cons, List.length_append, ih]; simp; omega
theorem hexInts_str (l : List Int) : strOfNums (hexInts l) = mkB (l.flatMap fun c => [hexaL.getD (c.toNat / 16) 0, hexaL.getD (c.toNat % 16) 0]) := by
  unfold strOfNums mkB hexInts
  congr 1
  rw [List.map_flatMap]
  congr 1
  congr 1
  funext c
  simp
theorem nib_and (d : Nat) (h : d < 256) : bits .and .u8 (d : Int) 15 = (d : Int) % 16 := by
  have : ∀ p : Fin 256, bits .and .u8 (p.val : Int) 15 = (p.val : Int) % 16 := by decide +kernel
  exact this ⟨d, h⟩
theorem nib_get (x : Int) (q : Nat) (hx : x = (q : Int)) (hq : q < 16) (hb : x.toNat < (⟨#[48, 49, 50, 51, 52, 53, 54, 55, 56, 57, 97, 98, 99, 100, 101, 102]⟩ : ByteArray).size) : (⟨#[48, 49, 50, 51, 52, 53, 54, 55, 56, 57, 97, 98, 99, 100, 101, 102]⟩ : ByteArray)[x.toNat]'hb = hexaL[q]?.getD 0 := by
  subst hx
  have h : ∀ p : Fin 16, (⟨#[48, 49, 50, 51, 52, 53, 54, 55, 56, 57, 97, 98, 99, 100, 101, 102]⟩ : ByteArray)[p.val]'p.isLt = hexaL[p.val]?.getD 0 := by decide +kernel
  exact h ⟨q, hq⟩
set_option maxRecDepth 100000 in
set_option maxHeartbeats 2000000 in
theorem hex_walk (A0 : Option Addr) (c0 : Nat) (l : List Int) (w : World) (hr : Kd.C (Kd.int .u8) w A0 l.length l) (hc0 : l.length ≤ c0) (hl : 1 ≤ l.length) (hm : l.length ≤ 1000000) (hb : ∀ c ∈ l, 0 ≤ c ∧ c < 256) : Calls Tryz.prog 15 #[.slice A0 l.length c0] w fun e w' => e = .returned (.string (strOfNums (hexInts l))) ∧ Below w.heap.size w w' := by
  obtain ⟨i0, hi, hz0, hz1, hz2⟩ := info_parts P.info5
  have HR := Lib.hid hr
  have HBb := Lib.hid hb
  obtain ⟨n, hn⟩ : ∃ n, n = l.length := ⟨_, rfl⟩
  have HN := Lib.hid hn
  rw [← hn] at hc0 hl hm ⊢
  clear hr hb hn
  have hmul : ((n : Int) * 2) = ((2 * n : Nat) : Int) := by omega
  go_enter Tryz.func15, Tryz.ntmps15
  go_wp2_with (at_make; refine wpList_make_own _ rfl _ _ 38 rfl w.heap.size 5 i0 _ 1 Tryz.underlying38 hi hz0 hz1 .i64 .i64 _ (2 * n) rfl rfl (by omega) (by rw [hz2]; omega) (by unfold maxLen; omega) (Nat.le_refl _) ?_; intro w2 hown hgrow)
  have hB2 : Below w.heap.size w w2 := ⟨hgrow.os, hgrow.tape, hgrow.output, hgrow.size, fun k hk => hgrow.block k hk (by simp)⟩
  clear hgrow hmul
  go_loopw [3, 15] (fun v i wr => ∃ k : Nat, k ≤ n ∧ i = .int .i64 k ∧ v = .slice (some ⟨w.heap.size, 0, none⟩) (2 * k) (2 * n) ∧ wr.ownsRow w.heap.size 5 1 (.slice (some ⟨w.heap.size, 0, none⟩) (2 * k) (2 * n)) (2 * k) ((hexInts (l.take k)).map (Value.int .u8)) ∧ Below w.heap.size w wr)
    (fun v i wr => n - (intOf i).toNat)
  case atStart => exact ⟨0, Nat.zero_le _, rfl, rfl, hown, hB2⟩
  case round =>
    clear hown hB2
    obtain ⟨k, hk, rfl, rfl, hown, hB⟩ := hrel
    have HB := Lib.hid hB
    have HO := Lib.hid hown
    by_cases hlt : k < n
    · have hln : k < l.length := by rw [← HN.out]; exact hlt
      obtain ⟨ad, hA, hcell⟩ := Kd.at_int (Kd.C_below HR.out hB) (k : Int) (by omega) (by omega)
      rw [Int.toNat_natCast] at hcell
      have hrd : rd l (k : Int) = l[k] := by simp [rd, hln]
      rw [hrd] at hcell
      have hb := HBb.out l[k] (List.getElem_mem hln)
      have HT : Hid (hexInts (l.take (k + 1)) = hexInts (l.take k) ++ [((hexaL.getD (l[k].toNat / 16) 0).toNat : Int), ((hexaL.getD (l[k].toNat % 16) 0).toNat : Int)]) := Lib.hid (by
        rw [List.take_succ_eq_append_getElem hln]
        unfold hexInts
        rw [List.flatMap_append]
        rfl)
      generalize l[k] = d at *
      obtain ⟨d, rfl⟩ : ∃ q : Nat, d = (q : Int) := ⟨d.toNat, by omega⟩
      simp only [Int.toNat_natCast] at HT
      subst hA
      clear hown hB hrd hln
      go_wp2
      refine wp_region_any (by kernel_rfl) (wpAny_of_M (S := fun _ => True) (m := 8) _ _ _ _ ?_)
      refine wpAnyM_take 0 (some 19) (.slice (some ⟨w.heap.size, 0, none⟩) (2 * k) (2 * n)) rfl rfl (by kernel_rfl) (fun _ _ _ h => h) (Or.inl ⟨by rfl, ?_⟩) trivial ?_
      · intro w' hS'
        go_simp
        try with_reducible rfl
      simp only [Act.put, List.setIfInBounds_toArray, List.set_cons_zero, List.set_cons_succ]
      refine wpAnyM_take 1 (some 20) (.int .u8 (d : Int)) rfl rfl (by kernel_rfl) (fun _ _ _ h => h) (Or.inl ⟨by rfl, ?_⟩) trivial ?_
      · intro w' hS'
        go_simp
        try with_reducible rfl
      simp only [Act.put, List.setIfInBounds_toArray, List.set_cons_zero, List.set_cons_succ]
      refine wpAnyM_take 2 (some 21) (.int .u8 ((d / 16 : Nat) : Int)) rfl rfl (by kernel_rfl) (fun _ _ _ h => h) (Or.inl ⟨by rfl, ?_⟩) trivial ?_
      · intro w' hS'
        go_simp
        try with_reducible rfl
      simp only [Act.put, List.setIfInBounds_toArray, List.set_cons_zero, List.set_cons_succ]
      refine wpAnyM_take 3 (some 22) (.int .u8 ((hexaL.getD (d / 16) 0).toNat : Int)) rfl rfl (by kernel_rfl) (fun _ _ _ h => h) (Or.inl ⟨by rfl, ?_⟩) trivial ?_
      · intro w' hS'
        go_simp
        rw [dif_pos (by omega)]
        exact congrArg (fun z : UInt8 => Result.ok (Next.value (Value.int .u8 (z.toNat : Int))) w') (nib_get _ (d / 16) (by omega) (by omega) _)
      simp only [Act.put, List.setIfInBounds_toArray, List.set_cons_zero, List.set_cons_succ]
      refine wpAnyM_take 4 (some 23) (.int .u8 (d : Int)) rfl rfl (by kernel_rfl) (fun _ _ _ h => h) (Or.inl ⟨by rfl, ?_⟩) trivial ?_
      · intro w' hS'
        go_simp
        try with_reducible rfl
      simp only [Act.put, List.setIfInBounds_toArray, List.set_cons_zero, List.set_cons_succ]
      refine wpAnyM_take 5 (some 24) (.int .u8 ((d % 16 : Nat) : Int)) rfl rfl (by kernel_rfl) (fun _ _ _ h => h) (Or.inl ⟨by rfl, ?_⟩) trivial ?_
      · intro w' hS'
        go_simp
        rw [nib_and d (by omega)]
        try rfl
      simp only [Act.put, List.setIfInBounds_toArray, List.set_cons_zero, List.set_cons_succ]
      refine wpAnyM_take 6 (some 25) (.int .u8 ((hexaL.getD (d % 16) 0).toNat : Int)) rfl rfl (by kernel_rfl) (fun _ _ _ h => h) (Or.inl ⟨by rfl, ?_⟩) trivial ?_
      · intro w' hS'
        go_simp
        rw [dif_pos (by omega)]
        exact congrArg (fun z : UInt8 => Result.ok (Next.value (Value.int .u8 (z.toNat : Int))) w') (nib_get _ (d % 16) (by omega) (by omega) _)
      simp only [Act.put, List.setIfInBounds_toArray, List.set_cons_zero, List.set_cons_succ]
      generalize (hexaL.getD (d / 16) 0).toNat = q1 at *
      generalize (hexaL.getD (d % 16) 0).toNat = q2 at *
      refine wpAnyM_one 7 _ rfl (by kernel_rfl) (by decide) (fun K hK => ?_)
      rw [if_pos (by rfl)]
      go_simp
      refine hK _ _ trivial ?_
      clear hK K
      refine wpAnyM_drop (by kernel_rfl) ?_
      simp only [List.drop_succ_cons, List.drop_zero]
      refine wpList_append_fits _ rfl _ _ 38 rfl w.heap.size 5 i0 1 Tryz.underlying38 hi hz1 w.heap.size (2 * k) (2 * n) _ rfl (own_drew (HO.out.alloc (.cells #[.int .u8 (q1 : Int), .int .u8 (q2 : Int)] 5))) ⟨wr.heap.size, 0, none⟩ 2 2 [.int .u8 (q1 : Int), .int .u8 (q2 : Int)] rfl rfl ?_ (by simp [Value.oneCell']) (by omega) ?_
      · intro j u hj
        have hrow : (wr.alloc (.cells #[.int .u8 (q1 : Int), .int .u8 (q2 : Int)] 5)).drew.heap[wr.heap.size]? = some (.cells #[.int .u8 (q1 : Int), .int .u8 (q2 : Int)] 5 (0, 0)) := World.alloc_heap_new wr _
        rw [add_plain, cell_of_row _ _ j _ _ _ hrow]
        simpa using hj
      intro w4 hown' hgrow
      have HO4 := Lib.hid hown'
      have HB4 : Hid (Below w.heap.size w w4) := Lib.hid (HB.out.trans ⟨hgrow.os, hgrow.tape, hgrow.output, Nat.le_trans (by simp) hgrow.size, fun j hj => (hgrow.block j (by have := HB.out.size; show j < (wr.alloc _).heap.size; simp; omega) (by simp; omega)).trans (Below.heap_alloc wr _ j (Nat.lt_of_lt_of_le hj HB.out.size))⟩)
      clear hown' hgrow
      simp only [Act.put, List.setIfInBounds_toArray, List.set_cons_zero, List.set_cons_succ]
      go_wp2
      go_roundw
      case rel => 
        refine ⟨k + 1, by omega, by rw [Int.natCast_add]; rfl, by simp [Nat.mul_add], ?_, HB4.out⟩
        rw [HT.out, List.map_append, show 2 * (k + 1) = 2 * k + 2 by omega]
        exact HO4.out
      case measure => simp [intOf]; omega
    · have hkn : k = n := by omega
      subst hkn
      have hrr := Kd.R_reads' (Kd.R_of_own (enc := Value.int .u8) (h1 := fun _ => rfl) (ok := fun _ => True) (xs := hexInts (l.take k)) (by rw [hexInts_length, List.length_take, ← HN.out, Nat.min_self]; exact hown) (fun _ _ => trivial))
      have kc := Kd.C_string (P := Tryz.prog) (src := 38) (dst := 9) (c := 2 * k) Tryz.underlying38 Tryz.underlying5 Tryz.underlying9 hrr.2.2
      rw [← hrr.1] at kc
      have hl : l.take k = l := List.take_of_length_le (by rw [← HN.out]; exact Nat.le_refl _)
      rw [hl] at kc
      clear hrr hl hown hB hlt
      go_wp2
      go_ret
      exact ⟨rfl, HB.out⟩
theorem script_Hex.calls (A0 : Option Addr) (c0 : Nat) (l0 : List Int) (r : ByteArray) (w : World) (hr0 : Kd.C (Kd.int .u8) w A0 l0.length l0) (hc0 : l0.length ≤ c0) (h : script_Hex.f l0 = some r) : Calls Tryz.prog 15 #[.slice A0 l0.length c0] w fun e w' => e = .returned (.string r) ∧ Below w.heap.size w w' := by
  unfold script_Hex.f at h
  split at h
  · rename_i hs
    replace h := Option.some.inj h
    by_cases h0 : l0 = []
    · rw [if_pos h0] at h
      subst h0 h
      clear hs hr0 hc0
      go_enter Tryz.func15, Tryz.ntmps15
      go_wp2
      go_ret
      exact ⟨rfl, Below.refl _ _⟩
    · rw [if_neg h0] at h
      subst h
      rw [← hexInts_str]
      refine hex_walk A0 c0 l0 w hr0 hc0 (List.length_pos_iff.2 h0) hs.1 (fun c hc => ?_)
      have := List.all_eq_true.1 hs.2 c hc
      exact of_decide_eq_true this
  · cases h
end Go.Proofs.YtinleajhckcapaaGreatDoor.Hand
namespace Go.Proofs.YtinleajhckcapaaGreatDoor.Hand
open Go.RowKit Go.Extern.Stop Go.Stop Go.Extern
theorem rl_valueOf (t : Addr) (w : World) : (ReflectliteValue.unpack (.iface 103 (.pointer (some t)))).run Tryz.prog w
    = .ok (.agg #[.pointer (some ⟨9, 103, none⟩), .pointer (some ⟨w.heap.size, 0, none⟩), .int .u64 150]) (w.alloc (.cells #[.pointer (some t)] 103)) := by kernel_rfl
theorem rl_type (a : Addr) (w : World) : (ReflectliteValue.methodAny (ReflectliteValue.valueError "reflectlite.Value.Type" 0) (fun t _ _ _ => ReflectliteType.toType t) #[.agg #[.pointer (some ⟨9, 103, none⟩), .pointer (some a), .int .u64 150]]).run Tryz.prog w
    = .ok (.iface 216 (.agg #[.pointer (some ⟨9, 103, none⟩)])) w := by kernel_rfl
theorem rl_methodKind (h : Value) (w : World) : (Go.method 411 216 (.agg #[h]) "Kind").run Tryz.prog w = .ok (222, h) w := by kernel_rfl
theorem rl_kindP (w : World) : ((ReflectliteType.abiMethod fun t => (fun a : Nat => Value.int IntKind.u8 (a : Int)) <$> Rtype.kind t) #[.pointer (some ⟨9, 103, none⟩)]).run Tryz.prog w = .ok (.int .u8 22) w := by kernel_rfl
theorem rl_kindI (w : World) : ((ReflectliteType.abiMethod fun t => (fun a : Nat => Value.int IntKind.u8 (a : Int)) <$> Rtype.kind t) #[.pointer (some ⟨9, 93, none⟩)]).run Tryz.prog w = .ok (.int .u8 2) w := by kernel_rfl
theorem rlm (z : Sem Value) (f : TypeId → Addr → Nat → Nat → Sem Value) (v : Value) :
    ReflectliteValue.method z f #[v] = (do match ← ReflectliteValue.parts v with | none => z | some (t, a, fl) => f t a fl (fl % 32)) := rfl
theorem rl_parts (a : Addr) (w : World) : (ReflectliteValue.parts (.agg #[.pointer (some ⟨9, 103, none⟩), .pointer (some a), .int .u64 150])).run Tryz.prog w = .ok (some (103, a, 150)) w := by kernel_rfl
theorem rl_isNil (a p : Addr) (W : World) (ha : W.cell? a = some (.pointer (some p))) :
    (ReflectliteValue.method (ReflectliteValue.valueError "reflectlite.Value.IsNil" 0) ReflectliteValue.isNil #[.agg #[.pointer (some ⟨9, 103, none⟩), .pointer (some a), .int .u64 150]]).run Tryz.prog W = .ok (.bool false) W := by
  rw [rlm]
  simp only [Sem.run_bind, rl_parts, Result.andThen]
  simp [ReflectliteValue.isNil, loadVar, isAgg, underlying, Tryz.underlying103, ha, Result.andThen]
theorem rl_methodElem (h : Value) (w : World) : (Go.method 411 216 (.agg #[h]) "Elem").run Tryz.prog w = .ok (233, .agg #[h]) w := by kernel_rfl
theorem rl_methodImplements (h : Value) (w : World) : (Go.method 411 216 (.agg #[h]) "Implements").run Tryz.prog w = .ok (234, .agg #[h]) w := by kernel_rfl
theorem rl_methodAssignableTo (h : Value) (w : World) : (Go.method 411 216 (.agg #[h]) "AssignableTo").run Tryz.prog w = .ok (231, .agg #[h]) w := by kernel_rfl
theorem rl_elem (w : World) : (ReflectliteType.method ReflectliteType.elem #[.agg #[.pointer (some ⟨9, 103, none⟩)]]).run Tryz.prog w = .ok (.iface 216 (.agg #[.pointer (some ⟨9, 93, none⟩)])) w := by kernel_rfl
theorem rl_implements (w : World) : (ReflectliteType.relation "Implements" ReflectliteType.implements_ #[.agg #[.pointer (some ⟨9, 93, none⟩)], .iface 216 (.agg #[.pointer (some ⟨9, 25, none⟩)])]).run Tryz.prog w = .ok (.bool true) w := by kernel_rfl
theorem rl_typeOf (v : Value) (w : World) : (ReflectliteType.typeOf #[.iface 93 v]).run Tryz.prog w = .ok (.iface 216 (.agg #[.pointer (some ⟨9, 93, none⟩)])) w := by kernel_rfl
theorem rl_assignable (w : World) : (ReflectliteType.relation "AssignableTo" ReflectliteType.assignableTo #[.agg #[.pointer (some ⟨9, 93, none⟩)], .iface 216 (.agg #[.pointer (some ⟨9, 93, none⟩)])]).run Tryz.prog w = .ok (.bool true) w := by kernel_rfl
theorem rl_valueOfI (e : Int) (w : World) : (ReflectliteValue.unpack (.iface 93 (.int .i64 e))).run Tryz.prog w
    = .ok (.agg #[.pointer (some ⟨9, 93, none⟩), .pointer (some ⟨w.heap.size, 0, none⟩), .int .u64 130]) (w.alloc (.cells #[.int .i64 e] 93)) := by kernel_rfl
theorem rl_elemOf (w : World) : (Rtype.elem? 103).run Tryz.prog w = .ok (some 93) w := by kernel_rfl
theorem rl_mk (p : Addr) (w : World) : (ReflectliteValue.mk 93 p ReflectliteValue.flagAddr).run Tryz.prog w = .ok (.agg #[.pointer (some ⟨9, 93, none⟩), .pointer (some p), .int .u64 386]) w := by kernel_rfl
theorem rl_elemV (a p : Addr) (W : World) (ha : W.cell? a = some (.pointer (some p))) :
    (ReflectliteValue.method (ReflectliteValue.valueError "reflectlite.Value.Elem" 0) ReflectliteValue.elem #[.agg #[.pointer (some ⟨9, 103, none⟩), .pointer (some a), .int .u64 150]]).run Tryz.prog W
      = .ok (.agg #[.pointer (some ⟨9, 93, none⟩), .pointer (some p), .int .u64 386]) W := by
  rw [rlm]
  simp only [Sem.run_bind, rl_parts, Result.andThen]
  simp [ReflectliteValue.elem, loadVar, isAgg, underlying, Tryz.underlying103, ha, Result.andThen, rl_elemOf, rl_mk]
theorem rls (v x : Value) : ReflectliteValue.set #[v, x] = (do
    let (some (dst, a, fl), some (src, b, _)) := (← ReflectliteValue.parts v, ← ReflectliteValue.parts x)
      | unsupported (.noEntry "extern/(internal/reflectlite.Value).Set.zeroValue")
    if fl / ReflectliteValue.flagAddr % 2 == 0 then unsupported (.noEntry "extern/(internal/reflectlite.Value).Set.unaddressable")
    let val ← loadVar src b
    if ← Rtype.directlyAssignable dst src then storeVar dst a val
    else if ← Rtype.implements dst src then
      if (← Rtype.kind src) == 20 then
        match val with
        | .nilIface => unsupported (.noEntry "extern/reflectlite: a nil value of one interface type handed on as a value of another")
        | _ => storeVar dst a val
      else storeVar dst a (.iface src val)
    else panicString ("reflectlite.Set: value of type " ++ (← Rtype.spelt src) ++ " is not assignable to type " ++ (← Rtype.spelt dst))
    pure (.tuple #[])) := rfl
theorem rl_partsA (a : Addr) (w : World) : (ReflectliteValue.parts (.agg #[.pointer (some ⟨9, 93, none⟩), .pointer (some a), .int .u64 386])).run Tryz.prog w = .ok (some (93, a, 386)) w := by kernel_rfl
theorem rl_partsI (a : Addr) (w : World) : (ReflectliteValue.parts (.agg #[.pointer (some ⟨9, 93, none⟩), .pointer (some a), .int .u64 130])).run Tryz.prog w = .ok (some (93, a, 130)) w := by kernel_rfl
theorem rl_direct (w : World) : (Rtype.directlyAssignable 93 93).run Tryz.prog w = .ok true w := by kernel_rfl
theorem rl_set (ta b : Addr) (e : Int) (old : Value) (W : World) (hb : W.cell? b = some (.int .i64 e)) (ht : W.cell? ta = some old) (hf : W.frozen? ta = false) :
    (ReflectliteValue.set #[.agg #[.pointer (some ⟨9, 93, none⟩), .pointer (some ta), .int .u64 386], .agg #[.pointer (some ⟨9, 93, none⟩), .pointer (some b), .int .u64 130]]).run Tryz.prog W
      = .ok (.tuple #[]) (W.setCell ta (.int .i64 e)) := by
  rw [rls]
  simp only [Sem.run_bind, rl_partsA, rl_partsI, Result.andThen]
  simp [ReflectliteValue.flagAddr, loadVar, isAgg, underlying, Tryz.underlying93, hb, Result.andThen, rl_direct, storeVar, Value.cells, storeCells, Addr.add]
  rw [run_store Tryz.prog W ta _ _ (by rfl)]
  simp [ht, hf]
end Go.Proofs.YtinleajhckcapaaGreatDoor.Hand
namespace Go.Proofs.YtinleajhckcapaaGreatDoor.Hand
open Go.RowKit Go.Extern.Stop Go.Stop Go.Extern
theorem as_loop (e : Int) (a t : Addr) (old : Value) (w : World) (hav : w.cell? a = some (.pointer (some t))) (ht : w.cell? t = some old) (hf : w.frozen? t = false) :
    Calls Tryz.prog 97 #[.iface 93 (.int .i64 e), .iface 103 (.pointer (some t)), .agg #[.pointer (some ⟨9, 103, none⟩), .pointer (some a), .int .u64 150], .iface 216 (.agg #[.pointer (some ⟨9, 93, none⟩)])] w fun ev w' => ev = .returned (.bool true) ∧
      w' = ((w.alloc (.cells #[.pointer (some ⟨9, 103, none⟩), .pointer (some a), .int .u64 150] 166)).alloc (.cells #[.int .i64 e] 93)).setCell t (.int .i64 e) := by
  have h94 := @run_callFunc_extern Tryz.prog 94 _ (fun args => ReflectliteValue.unpack (args.getD 0 (.tuple #[]))) Tryz.func94 (by kernel_rfl) (by kernel_rfl) (by kernel_rfl) (by kernel_rfl)
  have h144 := @run_callFunc_extern Tryz.prog 144 _ ReflectliteType.typeOf Tryz.func144 (by kernel_rfl) (by kernel_rfl) (by kernel_rfl) (by kernel_rfl)
  have h231 := @run_callFunc_extern Tryz.prog 231 _ (ReflectliteType.relation "AssignableTo" ReflectliteType.assignableTo) Tryz.func231 (by kernel_rfl) (by kernel_rfl) (by kernel_rfl) (by kernel_rfl)
  have h145 := @run_callFunc_extern Tryz.prog 145 _ (ReflectliteValue.method (ReflectliteValue.valueError "reflectlite.Value.Elem" 0) ReflectliteValue.elem) Tryz.func145 (by kernel_rfl) (by kernel_rfl) (by kernel_rfl) (by kernel_rfl)
  have h146 := @run_callFunc_extern Tryz.prog 146 _ ReflectliteValue.set Tryz.func146 (by kernel_rfl) (by kernel_rfl) (by kernel_rfl) (by kernel_rfl)
  have tO := rl_typeOf
  have mA := rl_methodAssignableTo
  have a93 := rl_assignable
  have vI := rl_valueOfI
  have hal : a.block < w.heap.size := World.block_lt_of_cell? w a hav
  have htl : t.block < w.heap.size := World.block_lt_of_cell? w t ht
  have el := rl_elemV a t (w.alloc (.cells #[.pointer (some ⟨9, 103, none⟩), .pointer (some a), .int .u64 150] 166)) (by rw [World.cell?_alloc_lt _ _ a hal]; exact hav)
  have st := rl_set t ⟨w.heap.size + 1, 0, none⟩ e old ((w.alloc (.cells #[.pointer (some ⟨9, 103, none⟩), .pointer (some a), .int .u64 150] 166)).alloc (.cells #[.int .i64 e] 93))
    (by rw [World.cell?_alloc_at _ _ _ _ (by simp)]; rfl)
    (by rw [World.cell?_alloc_lt _ _ t (by simp; omega), World.cell?_alloc_lt _ _ t htl]; exact ht)
    (by rw [World.frozen?_alloc_old _ _ t (by simp; omega), World.frozen?_alloc_old _ _ t (Nat.ne_of_lt htl)]; exact hf)
  go_enter Tryz.func97, Tryz.ntmps97
  go_wp2
  refine wp_loop_rounds 1 ?_
  rw [rounds_succ]
  go_wp2
  go_ret
  exact ⟨rfl, rfl⟩
end Go.Proofs.YtinleajhckcapaaGreatDoor.Hand
namespace Go.Proofs.YtinleajhckcapaaGreatDoor.Hand
open Go.RowKit Go.Extern.Stop Go.Stop Go.Extern
theorem as_hit (e : Int) (t : Addr) (old : Value) (w : World) (hg : w.cell? ⟨0, 0, none⟩ = some (.iface 216 (.agg #[.pointer (some ⟨9, 25, none⟩)]))) (ht : w.cell? t = some old) (hf : w.frozen? t = false) :
    Calls Tryz.prog 47 #[.iface 93 (.int .i64 e), .iface 103 (.pointer (some t))] w fun ev w' => ev = .returned (.bool true) ∧
      w' = ((((w.alloc (.cells #[.pointer (some t)] 103)).alloc (.cells #[.pointer (some ⟨9, 103, none⟩), .pointer (some ⟨w.heap.size, 0, none⟩), .int .u64 150] 166)).alloc (.cells #[.pointer (some ⟨9, 103, none⟩), .pointer (some ⟨w.heap.size, 0, none⟩), .int .u64 150] 166)).alloc (.cells #[.int .i64 e] 93)).setCell t (.int .i64 e) := by
  have h94 := @run_callFunc_extern Tryz.prog 94 _ (fun args => ReflectliteValue.unpack (args.getD 0 (.tuple #[]))) Tryz.func94 (by kernel_rfl) (by kernel_rfl) (by kernel_rfl) (by kernel_rfl)
  have h95 := @run_callFunc_extern Tryz.prog 95 _ (ReflectliteValue.methodAny (ReflectliteValue.valueError "reflectlite.Value.Type" 0) (fun t _ _ _ => ReflectliteType.toType t)) Tryz.func95 (by kernel_rfl) (by kernel_rfl) (by kernel_rfl) (by kernel_rfl)
  have h96 := @run_callFunc_extern Tryz.prog 96 _ (ReflectliteValue.method (ReflectliteValue.valueError "reflectlite.Value.IsNil" 0) ReflectliteValue.isNil) Tryz.func96 (by kernel_rfl) (by kernel_rfl) (by kernel_rfl) (by kernel_rfl)
  have h222 := @run_callFunc_extern Tryz.prog 222 _ (ReflectliteType.abiMethod fun t => do pure (.int .u8 (← Rtype.kind t))) Tryz.func222 (by kernel_rfl) (by kernel_rfl) (by kernel_rfl) (by kernel_rfl)
  have h233 := @run_callFunc_extern Tryz.prog 233 _ (ReflectliteType.method ReflectliteType.elem) Tryz.func233 (by kernel_rfl) (by kernel_rfl) (by kernel_rfl) (by kernel_rfl)
  have h234 := @run_callFunc_extern Tryz.prog 234 _ (ReflectliteType.relation "Implements" ReflectliteType.implements_) Tryz.func234 (by kernel_rfl) (by kernel_rfl) (by kernel_rfl) (by kernel_rfl)
  have f94 := rl_valueOf
  have f95 := rl_type
  have mK := rl_methodKind
  have mE := rl_methodElem
  have mI := rl_methodImplements
  have kP := rl_kindP
  have kI := rl_kindI
  have eP := rl_elem
  have iI := rl_implements
  have hlt : 0 < w.heap.size := World.block_lt_of_cell? w ⟨0, 0, none⟩ hg
  have htl : t.block < w.heap.size := World.block_lt_of_cell? w t ht
  have n8 := rl_isNil ⟨w.heap.size, 0, none⟩ t ((w.alloc (.cells #[.pointer (some t)] 103)).alloc (.cells #[.pointer (some ⟨9, 103, none⟩), .pointer (some ⟨w.heap.size, 0, none⟩), .int .u64 150] 166)) (by simp)
  have hg2 : ((w.alloc (.cells #[.pointer (some t)] 103)).alloc (.cells #[.pointer (some ⟨9, 103, none⟩), .pointer (some ⟨w.heap.size, 0, none⟩), .int .u64 150] 166)).cell? ⟨0, 0, none⟩ = some (.iface 216 (.agg #[.pointer (some ⟨9, 25, none⟩)])) := by
    rw [World.cell?_alloc_lt _ _ ⟨0, 0, none⟩ (by simp), World.cell?_alloc_lt _ _ ⟨0, 0, none⟩ hlt]; exact hg
  have ht2 : ((w.alloc (.cells #[.pointer (some t)] 103)).alloc (.cells #[.pointer (some ⟨9, 103, none⟩), .pointer (some ⟨w.heap.size, 0, none⟩), .int .u64 150] 166)).cell? t = some old := by
    rw [World.cell?_alloc_lt _ _ t (by simp; omega), World.cell?_alloc_lt _ _ t htl]; exact ht
  have hf2 : ((w.alloc (.cells #[.pointer (some t)] 103)).alloc (.cells #[.pointer (some ⟨9, 103, none⟩), .pointer (some ⟨w.heap.size, 0, none⟩), .int .u64 150] 166)).frozen? t = false := by
    rw [World.frozen?_alloc_old _ _ t (by simp; omega), World.frozen?_alloc_old _ _ t (Nat.ne_of_lt htl)]; exact hf
  have ha2 : ((w.alloc (.cells #[.pointer (some t)] 103)).alloc (.cells #[.pointer (some ⟨9, 103, none⟩), .pointer (some ⟨w.heap.size, 0, none⟩), .int .u64 150] 166)).cell? ⟨w.heap.size, 0, none⟩ = some (.pointer (some t)) := by simp
  have HL := as_loop e ⟨w.heap.size, 0, none⟩ t old _ ha2 ht2 hf2
  have HH := Lib.hid HL
  clear HL ha2
  go_enter Tryz.func47, Tryz.ntmps47
  go_wp2_with (go_at_call 97; refine HH.out.mono ?_; rintro ev w' ⟨rfl, rfl⟩)
  go_ret
  exact ⟨rfl, rfl⟩
def num36.f (e : Option Int) : Option Int := some (e.getD 0)
theorem num36_none (w : World) : Calls Tryz.prog 11 #[.nilIface] w fun e w' => e = .returned (.int .i64 0) ∧ Below w.heap.size w w' := by
  go_enter Tryz.func11, Tryz.ntmps11
  go_wp2
  go_ret
  exact ⟨rfl, (Below.refl _ _).alloc (Nat.le_refl _) _⟩
theorem num36_some (n : Int) (w : World) (hg : Glob w) : Calls Tryz.prog 11 #[.iface 93 (.int .i64 n)] w fun e w' => e = .returned (.int .i64 n) ∧ Below w.heap.size w w' := by
  have hgA : (w.alloc (.cells #[.int .i64 0] 93)).cell? ⟨0, 0, none⟩ = some (.iface 216 (.agg #[.pointer (some ⟨9, 25, none⟩)])) := (hg _ ((Below.refl _ _).alloc (Nat.le_refl _) _)).ety
  have htA : (w.alloc (.cells #[.int .i64 0] 93)).cell? ⟨w.heap.size, 0, none⟩ = some (.int .i64 0) := by simp
  have hfA : (w.alloc (.cells #[.int .i64 0] 93)).frozen? ⟨w.heap.size, 0, none⟩ = false := by simp
  go_enter Tryz.func11, Tryz.ntmps11
  go_wp2_with (go_at_call 47; refine (as_hit n _ _ _ hgA htA hfA).mono ?_; rintro ev w' ⟨rfl, rfl⟩)
  go_ret
  refine ⟨rfl, ?_⟩
  repeat (first | exact Below.refl _ _ | apply Go.Proofs.YtinleajhckcapaaGreatDoorW.PrintWords.below_alloc | (refine Below.setCell ?_ (by simp) _))
theorem num36.calls (a0 : Option Int) (r : Int) (w : World) (hg : Glob w) (h : num36.f a0 = some r) : Calls Tryz.prog 11 #[P.errW a0] w fun e w' => e = .returned (.int .i64 r) ∧ Below w.heap.size w w' := by
  cases a0 with
  | none => obtain rfl := Option.some.inj h; exact num36_none w
  | some n => obtain rfl := Option.some.inj h; exact num36_some n w hg
end Go.Proofs.YtinleajhckcapaaGreatDoor.Hand
namespace Go.Proofs.YtinleajhckcapaaGreatDoor.Hand
open Go Go.RowKit Go.Proofs.YtinleajhckcapaaGreatDoorW.PrintWords
set_option maxRecDepth 100000 in
set_option maxHeartbeats 2000000 in
theorem print_walk (v : ByteArray) (A : Option Addr) (c : Nat) (l : List ByteArray) (w : World) (hr : Kd.C Kd.string w A l.length l) (hc : l.length ≤ c) (hg : Glob w) (ha : ∀ x ∈ l, x.size ≤ 1000000) (hl : l.length ≤ 1000000)
    (hj : (Lib.join (v.data.toList :: bsOf l) [32]).length ≤ 100000000) (hk : chk v.data.toList (bsOf l) = true) :
    Calls Tryz.prog 16 #[.agg #[.string v, .slice A l.length c]] w fun e w' => e = .returned (.tuple #[.string (mkB (Lib.join (v.data.toList :: bsOf l) [32] ++ [10])), .nilIface]) ∧ Below w.heap.size w w' := by
  have hb0 := below_alloc (Below.refl w.heap.size w) (.cells #[.string v, .slice A l.length c] 34)
  have HR := Lib.hid (Kd.C_below hr (below_alloc (Below.refl w.heap.size w) (.cells #[.string v, .slice A l.length c] 34)))
  have HC := Lib.hid (P.script_Check.calls _ v A c l _ (w.alloc (.cells #[.string v, .slice A l.length c] 34)) HR.out hc (hg.below hb0) (chk_eq v l ha hl))
  rw [if_pos hk] at HC
  simp only [P.errW_none] at HC
  clear hr hg hk ha
  obtain ⟨js, hjs⟩ : ∃ js, js = mkB (Lib.join (v.data.toList :: bsOf l) [32]) := ⟨_, rfl⟩
  have HJ : Hid (∀ (g c' : Nat) (W : World), (∀ (j : Nat) x, ([v] ++ l)[j]? = some x → W.cell? ⟨g, 0 + j, none⟩ = some (.string x)) → g < W.heap.size → ([v] ++ l).length ≤ c' → Calls Tryz.prog 51 #[.slice (some ⟨g, 0, none⟩) ([v] ++ l).length c', .string ⟨#[32]⟩] W fun e w' => e = .returned (.string js) ∧ Below W.heap.size W w') :=
    Lib.hid fun g c' W h1 h2 h3 => by rw [hjs]; exact Tryz.strings_Join g 0 c' ([v] ++ l) (⟨#[32]⟩ : ByteArray) W h1 h2 (by simp; omega) h3 (Nat.le_trans hj (by omega))
  have hsum : js.size + (⟨#[10]⟩ : ByteArray).size ≤ 9223372036854775807 := by
    rw [hjs, mkB_size]
    show _ + 1 ≤ _
    omega
  have HE : Hid (js ++ (⟨#[10]⟩ : ByteArray) = mkB (Lib.join (v.data.toList :: bsOf l) [32] ++ [10])) := Lib.hid (by
    rw [hjs]
    apply Go.WideShapes.bytes_inj
    simp [mkB, ByteArray.data_append])
  clear hj hb0 hjs
  have hrow0 : (w.alloc (.cells #[.string v, .slice A l.length c] 34)).heap[w.heap.size]? = some (.cells #[.string v, .slice A l.length c] 34 (0, 0)) := World.alloc_heap_new w _
  have hc0 : (w.alloc (.cells #[.string v, .slice A l.length c] 34)).cell? ⟨w.heap.size, 0, none⟩ = some (.string v) := by rw [cell_of_row _ _ 0 _ _ _ hrow0]; rfl
  have hc1 : (w.alloc (.cells #[.string v, .slice A l.length c] 34)).cell? ⟨w.heap.size, 1, none⟩ = some (.slice A l.length c) := by rw [cell_of_row _ _ 1 _ _ _ hrow0]; rfl
  clear hrow0
  go_enter Tryz.func16, Tryz.ntmps16
  go_wp2_with (first
    | (go_at_call 45; refine HC.out.mono ?_; rintro e w1 ⟨rfl, hb1⟩; have HB1 := Lib.hid hb1; have hd0 := (hb1.cell (p := ⟨w.heap.size, 0, none⟩) (by simp)).trans hc0; have hd1 := (hb1.cell (p := ⟨w.heap.size, 1, none⟩) (by simp)).trans hc1; have hd2 := (Below.cell (below_alloc (Below.refl w1.heap.size w1) (.cells #[.string v] 9)) (p := ⟨w.heap.size, 1, none⟩) (by have := HB1.out.size; simp at this; show w.heap.size < _; omega)).trans hd1; have HR1 := Lib.hid (Kd.C_below HR.out hb1); clear hb1)
    | (at_builtin; refine Kd.R_append_row (w0 := w) Value.string ByteArray.empty w.heap.size rfl _ _ 32 9 (.string ⟨#[]⟩) 16 rfl Tryz.underlying32 Tryz.info9 rfl (by decide) _ [v] l A l.length c (fun _ => True) rfl rfl (fun _ _ => trivial) (Kd.R_of_own (own_lit_of (enc := Value.string) w1 w.heap.size 9 [v] (by have := HB1.out.size; simp at this; omega) (by simp)) (fun _ _ => trivial)) (Kd.C_alloc HR1.out _) (below_alloc ((below_alloc (Below.refl w.heap.size w) _).trans (HB1.out.mono (by simp))) _) (by have := HB1.out.size; simp at this ⊢; omega) (by simp; omega) ?_; intro v1 w2 hR2 hb2 _ _; obtain ⟨g, c', rfl, hcc, hgl, hcells⟩ := strs_own hR2 (by simp); have HCC := Lib.hid hcells; have HB2 := Lib.hid hb2; clear hcells hb2 hR2)
    | (go_at_call 51; refine (HJ.out g c' w2 HCC.out hgl hcc).mono ?_; rintro e w3 ⟨rfl, hb3⟩; have HB3 := Lib.hid (below_then HB2.out HB2.out.size hb3); clear hb3))
  go_ret2
  exact ⟨by rw [HE.out]; rfl, HB3.out⟩
set_option maxRecDepth 100000 in
set_option maxHeartbeats 2000000 in
theorem print_no (v : ByteArray) (A : Option Addr) (c : Nat) (l : List ByteArray) (w : World) (hr : Kd.C Kd.string w A l.length l) (hc : l.length ≤ c) (hg : Glob w) (ha : ∀ x ∈ l, x.size ≤ 1000000) (hl : l.length ≤ 1000000) (hk : ¬ chk v.data.toList (bsOf l) = true) :
    Calls Tryz.prog 16 #[.agg #[.string v, .slice A l.length c]] w fun e w' => e = .returned (.tuple #[.string (mkB []), P.errW (some 337)]) ∧ Below w.heap.size w w' := by
  have hb0 := below_alloc (Below.refl w.heap.size w) (.cells #[.string v, .slice A l.length c] 34)
  have HC := Lib.hid (P.script_Check.calls _ v A c l _ (w.alloc (.cells #[.string v, .slice A l.length c] 34)) (Kd.C_below hr hb0) hc (hg.below hb0) (chk_eq v l ha hl))
  rw [if_neg hk] at HC
  simp only [P.errW_some] at HC
  clear hr hg hk ha hb0
  go_enter Tryz.func16, Tryz.ntmps16
  go_wp2_with (go_at_call 45; refine HC.out.mono ?_; rintro e w1 ⟨rfl, hb1⟩; have HB1 := Lib.hid (hb1.mono (B' := w.heap.size) (by simp)); clear hb1)
  go_ret2
  exact ⟨rfl, (below_alloc (Below.refl w.heap.size w) _).trans HB1.out⟩
theorem size_le_sum (l : List ByteArray) : ∀ (n : Nat) (x : ByteArray), x ∈ l → x.size ≤ (l.map ByteArray.size).foldl (· + ·) n := by
  have hge : ∀ (l : List Nat) (n : Nat), n ≤ l.foldl (· + ·) n := by
    intro l
    induction l with
    | nil => intro n; exact Nat.le_refl _
    | cons a l ih => intro n; exact Nat.le_trans (Nat.le_add_right n a) (ih (n + a))
  induction l with
  | nil => intro n x hx; cases hx
  | cons a l ih =>
    intro n x hx
    rw [List.map_cons, List.foldl_cons]
    rcases List.mem_cons.1 hx with rfl | hx
    · exact Nat.le_trans (by omega) (hge _ _)
    · exact ih _ x hx
theorem foldl_sum (l : List Nat) : ∀ n, l.foldl (· + ·) n = n + l.sum := by
  induction l with
  | nil => intro n; simp
  | cons a l ih => intro n; rw [List.foldl_cons, ih, List.sum_cons]; omega
theorem script_Print.calls (a0_0 : ByteArray) (A0_1 : Option Addr) (c0_1 : Nat) (l0_1 : List ByteArray) (r1 : ByteArray) (r2 : Option Int) (w : World) (hr0_1 : Kd.C Kd.string w A0_1 l0_1.length l0_1) (hc0_1 : l0_1.length ≤ c0_1) (hg : Glob w) (h : script_Print.f a0_0 l0_1 = some (r1, r2)) : Calls Tryz.prog 16 #[.agg #[.string a0_0, .slice A0_1 l0_1.length c0_1]] w fun e w' => e = .returned (.tuple #[.string r1, P.errW r2]) ∧ Below w.heap.size w w' := by
  unfold script_Print.f at h
  split at h
  · rename_i hs
    have h := Option.some.inj h
    have ha : ∀ x ∈ l0_1, x.size ≤ 1000000 := fun x hx => Nat.le_trans (size_le_sum l0_1 0 x hx) hs.2
    have hl : l0_1.length ≤ 1000000 := by omega
    by_cases hk : chk a0_0.data.toList (bsOf l0_1) = true
    · rw [if_pos hk] at h
      cases h
      refine print_walk a0_0 A0_1 c0_1 l0_1 w hr0_1 hc0_1 hg ha hl ?_ hk
      have h1 := join_le [32] (a0_0.data.toList :: bsOf l0_1)
      have h2 : ((bsOf l0_1).map List.length) = l0_1.map ByteArray.size := by
        unfold bsOf
        rw [List.map_map]
        exact List.map_congr_left (fun x _ => data_length x)
      have h3 := hs.2
      rw [foldl_sum, Nat.zero_add] at h3
      rw [List.map_cons, List.sum_cons, h2, data_length] at h1
      have h4 : (bsOf l0_1).length = l0_1.length := by simp [bsOf]
      simp only [List.length_cons, List.length_nil] at h1
      omega
    · rw [if_neg hk] at h
      cases h
      exact print_no a0_0 A0_1 c0_1 l0_1 w hr0_1 hc0_1 hg ha hl hk
  · cases h
end Go.Proofs.YtinleajhckcapaaGreatDoor.Hand
