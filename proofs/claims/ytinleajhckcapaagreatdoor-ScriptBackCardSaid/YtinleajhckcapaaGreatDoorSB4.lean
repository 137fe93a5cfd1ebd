/- ScriptBack: for every command and every bytes, what the program's script.Print tells of the command is read by script.Parse as it was, whatever notes and blanks stand beside it, and bytes come back out of their digits; the conditions: the listed package-level variables of Go's library are as its text lays them. -/
import Derived.Test.YtinleajhckcapaaGreatDoorSB3
set_option linter.unusedVariables false
set_option linter.unusedSimpArgs false
namespace Go.Proofs.YtinleajhckcapaaGreatDoor.P
open Go.RowKit Go.Proofs.YtinleajhckcapaaGreatDoorW.PrintWords Go.Proofs.YtinleajhckcapaaGreatDoorW.PrintLast Go.Proofs.YtinleajhckcapaaGreatDoorW.PrintMore
attribute [local go_sem] max2_int min2_int max_two min_two max_three min_three max_four min_four
set_option linter.unusedVariables false
set_option linter.unusedSimpArgs false
mutual
def halterlaw36_ScriptBack.j0 : Nat → List Int → Bool → ByteArray → List ByteArray → Option (Bool)
  | 0, _, _, _, _ => none
  | k + 1, x1, x21, x245000, x245001 => if x21 = true then ((halterlaw36_sure.f k).bind fun t246 => (some t246)) else ((Hand.script_Hex.f x1).bind fun t247 => ((Hand.script_Bytes.f t247).bind fun bt248 => (if (x1.length : Int) ≤ 512 then (if bt248.2.isNone = true then (if (strOfNums bt248.1).toList = (strOfNums x1).toList then (if (x1.length : Int) > 512 then ((Hand.num36.f none).bind fun t253 => (halterlaw36_ScriptBack.j1 k (t253 != 337) x245000 x245001)) else (halterlaw36_ScriptBack.j1 k false x245000 x245001)) else (halterlaw36_ScriptBack.j1 k true x245000 x245001)) else (halterlaw36_ScriptBack.j1 k true x245000 x245001)) else (if (x1.length : Int) > 512 then ((Hand.num36.f bt248.2).bind fun t254 => (halterlaw36_ScriptBack.j1 k (t254 != 337) x245000 x245001)) else (halterlaw36_ScriptBack.j1 k false x245000 x245001)))))
def halterlaw36_ScriptBack.j1 : Nat → Bool → ByteArray → List ByteArray → Option (Bool)
  | 0, _, _, _ => none
  | k + 1, x52, x245000, x245001 => if x52 = true then (none) else ((Hand.script_Print.f x245000 x245001).bind fun bt255 => (if bt255.2.isNone = true then (if (bt255.1.size : Int) = 0 then (none) else ((Hand.script_Parse.f bt255.1).bind fun bt258 => (if 0 ≤ (wrap64 ((bt255.1.size : Int) - 1)) then (if (wrap64 ((bt255.1.size : Int) - 1)) ≤ (bt255.1.size : Int) then (if 4 + (bt255.1.extract 0 ((wrap64 ((bt255.1.size : Int) - 1)) : Int).toNat).size ≤ 9223372036854775807 then (if ((⟨#[37, 10, 32, 9]⟩ : ByteArray) ++ (bt255.1.extract 0 ((wrap64 ((bt255.1.size : Int) - 1)) : Int).toNat)).size + 9 ≤ 9223372036854775807 then ((Hand.script_Parse.f (((⟨#[37, 10, 32, 9]⟩ : ByteArray) ++ (bt255.1.extract 0 ((wrap64 ((bt255.1.size : Int) - 1)) : Int).toNat)) ++ (⟨#[32, 37, 32, 110, 111, 116, 101, 10, 10]⟩ : ByteArray))).bind fun bt263 => (if bt258.2.2.isNone = true then (if bt263.2.2.isNone = true then (if (bt258.1.length : Int) = 1 then (if (bt263.1.length : Int) = 1 then (if 0 < (bt258.1.length : Int) then (if ((rd_T34 bt258.1 0).f0).toList = x245000.toList then ((halterlaw36_texts.f k ((rd_T34 bt258.1 0).f1) x245001).bind fun t272 => (if t272 = true then (if 0 < (bt263.1.length : Int) then (if ((rd_T34 bt263.1 0).f0).toList = x245000.toList then ((halterlaw36_texts.f k ((rd_T34 bt263.1 0).f1) x245001).bind fun t275 => (if t275 = true then ((halterlaw36_sure.f k).bind fun t276 => (some t276)) else (none))) else (none)) else (none)) else (none))) else (none)) else (none)) else (none)) else (none)) else (none)) else (none))) else (none)) else (none)) else (none)) else (none)))) else (if bt255.1.toList = ([] : List UInt8) then ((halterlaw36_sure.f k).bind fun t277 => (some t277)) else (none))))
end
def halterlaw36_ScriptBack.f (k : Nat) (a0_0 : ByteArray) (l0_1 : List ByteArray) (l1 : List Int) : Option (Bool) := (halterlaw36_bigCommand.f k a0_0 l0_1).bind fun t245 => (if t245 = true then (halterlaw36_ScriptBack.j0 k l1 true a0_0 l0_1) else (halterlaw36_ScriptBack.j0 k l1 (decide ((l1.length : Int) > 1500)) a0_0 l0_1))
def halterlaw36_ScriptBack.T13 : Bool × List (List Nat × List Nat) := (true, [([], []), ([0], [0]), ([1], [1]), ([2], [2]), ([3, 2], [2, 3]), ([2, 4], [2, 4]), ([5, 2], [5]), ([6], [6]), ([7, 6], [6, 7]), ([8, 6], [6, 8]), ([6, 9], [6, 9]), ([10, 6], [10]), ([11], [11]), ([12, 11], [11, 12]), ([13, 11], [11, 13]), ([11, 14], [11, 14]), ([15, 11], [15]), ([16], [16]), ([17, 16], [16, 17]), ([18, 16], [16, 18]), ([19, 16], [16, 19]), ([16], [16]), ([21, 16], [16, 21]), ([20, 22, 16], [16, 20, 22]), ([16, 23], [16, 23]), ([24, 16], [24]), ([25], [25]), ([26, 25], [25, 26]), ([27, 25], [25, 27]), ([28, 25], [25, 28]), ([25], [25]), ([30, 25], [25, 30]), ([29, 31, 25, 25], [25, 29, 31]), ([25, 32], [25, 32]), ([33, 32], [33]), ([34], [34]), ([35, 34], [34, 35]), ([36, 34], [34, 36]), ([37, 34], [34, 37]), ([34], [34]), ([39, 34], [34, 39]), ([38, 40, 34], [34, 38, 40]), ([34, 41], [34, 41]), ([42, 34], [42]), ([43], [43]), ([44, 43], [43, 44]), ([45, 43], [43, 45]), ([46, 43], [43, 46]), ([43], [43]), ([48, 43], [43, 48]), ([47, 49, 43, 43], [43, 47, 49]), ([43, 50], [43, 50]), ([51, 50], [51]), ([52, 52], [52]), ([52, 53], [52, 53]), ([54, 53, 0, 1, 2, 3, 4, 5, 6, 7, 8, 9, 10, 11, 12, 13, 14, 15, 16, 17, 18, 19, 20, 21, 22, 23, 24, 25, 26, 27, 28, 29, 30, 31, 32, 33, 34, 35, 36, 37, 38, 39, 40, 41, 42, 43, 44, 45, 46, 47, 48, 49, 50, 51, 52, 53, 54], [54])])
def halterlaw36_ScriptBack.B13 : List Nat := [0, 1, 3, 7, 15, 31, 63, 127, 255, 511, 1023, 2047, 4095, 8191, 16383, 32767, 65535, 131071, 262143, 524287, 1048575, 131071, 2228223, 8388607, 16777215, 33554431, 67108863, 134217727, 268435455, 536870911, 67108863, 1140850687, 4294967295, 8589934591, 17179869183, 34359738367, 68719476735, 137438953471, 274877906943, 34359738367, 584115552255, 2199023255551, 4398046511103, 8796093022207, 17592186044415, 35184372088831, 70368744177663, 140737488355327, 17592186044415, 299067162755071, 1125899906842623, 2251799813685247, 4503599627370495, 9007199254740991, 18014398509481983, 36028797018963967]
theorem halterlaw36_ScriptBack.tab13 : rtab .any (opsOf Tryz.f4 13) = halterlaw36_ScriptBack.T13 := by kernel_rfl
theorem halterlaw36_ScriptBack.bits13 : waitsOk halterlaw36_ScriptBack.T13.2 halterlaw36_ScriptBack.B13 = true := by kernel_rfl
set_option maxHeartbeats 8000000 in
set_option maxRecDepth 100000 in
theorem halterlaw36_ScriptBack.calls (k : Nat) (a0_0 : ByteArray) (A0_1 : Option Addr) (c0_1 : Nat) (l0_1 : List ByteArray) (A1 : Option Addr) (c1 : Nat) (l1 : List Int) (r : Bool) (w : World) (hr0_1 : Kd.C Kd.string w A0_1 l0_1.length l0_1) (hc0_1 : l0_1.length ≤ c0_1) (hr1 : Kd.C (Kd.int .u8) w A1 l1.length l1) (hc1 : l1.length ≤ c1) (hg : Hand.Glob w) (h : halterlaw36_ScriptBack.f k a0_0 l0_1 l1 = some r) :
    Calls Tryz.prog 4 #[.agg #[.string a0_0, .slice A0_1 l0_1.length c0_1], .slice A1 l1.length c1] w fun e w' => e = .returned (.bool r) ∧ Below w.heap.size w w' := by
  have hu35 := Tryz.underlying35
  have hu25 := Tryz.underlying25
  have hu93 := Tryz.underlying93
  have HR0_1 := Aside0.mk hr0_1
  have HC0_1 := Aside0.mk hc0_1
  clear hr0_1 hc0_1
  have HR1 := Aside0.mk hr1
  have HC1 := Aside0.mk hc1
  clear hr1 hc1
  have HG := Aside0.mk hg
  clear hg
  have HB := Aside0.mk (Below.refl w.heap.size w)
  have H : ((halterlaw36_bigCommand.f k a0_0 l0_1).bind fun t245 => (if t245 = true then (halterlaw36_ScriptBack.j0 k l1 true a0_0 l0_1) else (halterlaw36_ScriptBack.j0 k l1 (decide ((l1.length : Int) > 1500)) a0_0 l0_1))) = some r := h
  clear h
  have HC3 := Aside0.mk H
  clear H
  go_enter Tryz.func4, Tryz.ntmps4
  go_upto_region 1 with (first | ((with_reducible refine gate_dst (N := 2) rfl ?_); (try (refine gate_guard (by rfl) ?_; dsimp only)); refine box_event ?hg (N := 2) ?hd (cs := #[.string a0_0, .slice A0_1 l0_1.length c0_1]) (t := 35) ?hr ?_; (case hd => rfl); (case hg => rfl); (case hr => first | (go_simp; done) | (go_simp; rfl)); intro gb244 hg w4 hbox hb; have n0_ := Aside0.mk (below_step (by repeat (first | (with_reducible first | exact HB.out | apply below_alloc | apply pw_below_drewN | apply below_drew1) | exact HB.out)) hb); have n1_ := Aside0.mk (hbox); have n2_ := Aside0.mk ((by rw [hg]; exact (below_size (by repeat (first | (with_reducible first | exact HB.out | apply below_alloc | apply pw_below_drewN | apply below_drew1) | exact HB.out))) : w.heap.size ≤ gb244)); have n3_ := Aside0.mk ((by rw [hg]; exact (below_size (by repeat (first | (with_reducible first | exact HB.out | apply below_alloc | apply pw_below_drewN | apply below_drew1) | exact HB.out))) : w.heap.size ≤ gb244)); clear HB; have HB := n0_; have BK244 := n1_; have GW244 := n2_; have GE244 := n3_; clear n0_ n1_ n2_ n3_; clear hb hbox hg))
  (try simp only [Act.put, List.setIfInBounds_toArray, List.set_cons_zero, List.set_cons_succ])
  go_cut [21] (fun v21 wc => ∃ (kq : Nat) (x21_2 : Bool), v21 = .bool x21_2 ∧ Aside0 (halterlaw36_ScriptBack.j0 kq l1 x21_2 a0_0 l0_1 = some r) ∧ Aside0 (kq ≤ k) ∧ Aside0 (wc.heap[gb244]? = some (.cells #[.string a0_0, (.slice A0_1 l0_1.length c0_1)] 35 (0, 0))) ∧ Aside0 (Below w.heap.size w wc))
  case first =>
    have H := HC3.out
    clear HC3
    replace H := Option.bind_eq_some_iff.mp H
    obtain ⟨t245, A50, H⟩ := H
    replace H : (if t245 = true then (halterlaw36_ScriptBack.j0 k l1 true a0_0 l0_1) else (halterlaw36_ScriptBack.j0 k l1 (decide ((l1.length : Int) > 1500)) a0_0 l0_1)) = some r := H
    have A5 := Aside0.mk A50
    clear A50
    by_cases c6 : t245 = true
    · subst c6
      have H1 : (halterlaw36_ScriptBack.j0 k l1 true a0_0 l0_1) = some r := by rw [if_pos rfl] at H; exact H
      clear H
      have H := H1
      clear H1
      have H' := Aside0.mk H
      clear H
      have hcz7_0 : w4.cell? ⟨gb244, 0, none⟩ = some (.string a0_0) := (blk_cell BK244.out 0).trans rfl
      have hcz7_1 : w4.cell? ⟨gb244, 1, none⟩ = some (.slice A0_1 l0_1.length c0_1) := (blk_cell BK244.out 1).trans rfl
      have hfz7_0 := blk_frozen BK244.out 0
      have hfz7_1 := blk_frozen BK244.out 1
      go_wp2_with (first | ((with_reducible refine gate_callee (f := 13) rfl ?_); refine goesL_ (some 16) rfl rfl Tryz.func13 (by kernel_rfl) rfl #[.agg #[.string a0_0, .slice A0_1 l0_1.length c0_1]] rfl (by (try simp only [List.map_toArray, List.map_cons, List.map_nil]); first | done | rfl | (simp only [List.length_drop, List.length_take]; rfl)) ?_; (with_reducible refine (halterlaw36_bigCommand.calls k a0_0 _ _ l0_1 true _ ?side1 ?side2 A5.out).mono ?_); (case side1 => repeat (first | exact (Kd.C_below HR0_1.out HB.out) | (with_reducible refine Kd.C_alloc ?_ _) | (with_reducible refine Kd.C_drewN ?_ _) | (with_reducible refine Kd.C_drew ?_))); (case side2 => exact HC0_1.out); rintro e w8 ⟨rfl, hb⟩; refine ⟨_, rfl, ?_⟩; have n0_ := Aside0.mk (blk_below (g := gb244) (o := .cells #[.string a0_0, .slice A0_1 l0_1.length c0_1] 35 (0, 0)) (by (with_reducible repeat (first | refine blk_drewN ?_ _ | refine blk_drew ?_ | refine blk_alloc ?_ _)); exact BK244.out) hb); have n1_ := Aside0.mk (below_step (by repeat (first | (with_reducible first | exact HB.out | apply below_alloc | apply pw_below_drewN | apply below_drew1 | refine below_set ?_ GE244.out) | exact HB.out)) hb); clear BK244; clear HB; have BK244 := n0_; have HB := n1_; clear n0_ n1_; (try clear hb); (try clear hb2); (try clear hk); (try clear hi)))
      go_meet
      case rel => exact ⟨_, (true), (by first | rfl | (simp; done) | (simp [*]; done)), H', ⟨by first | omega | exact Nat.le_refl _⟩, ⟨by (with_reducible repeat (first | refine blk_drewN ?_ _ | refine blk_drew ?_ | refine blk_alloc ?_ _)); exact BK244.out⟩, ⟨by repeat (first | (with_reducible first | exact HB.out | apply below_alloc | apply pw_below_drewN | apply below_drew1 | refine below_set ?_ GE244.out) | exact HB.out)⟩⟩
    · replace c6 := Bool.eq_false_iff.mpr c6
      subst c6
      have H1 : (halterlaw36_ScriptBack.j0 k l1 (decide ((l1.length : Int) > 1500)) a0_0 l0_1) = some r := by rw [if_neg (show ¬ (false = true) by decide)] at H; exact H
      clear H
      have H := H1
      clear H1
      have H' := Aside0.mk H
      clear H
      have hcz9_0 : w4.cell? ⟨gb244, 0, none⟩ = some (.string a0_0) := (blk_cell BK244.out 0).trans rfl
      have hcz9_1 : w4.cell? ⟨gb244, 1, none⟩ = some (.slice A0_1 l0_1.length c0_1) := (blk_cell BK244.out 1).trans rfl
      have hfz9_0 := blk_frozen BK244.out 0
      have hfz9_1 := blk_frozen BK244.out 1
      go_wp2_with (first | ((with_reducible refine gate_callee (f := 13) rfl ?_); refine goesL_ (some 16) rfl rfl Tryz.func13 (by kernel_rfl) rfl #[.agg #[.string a0_0, .slice A0_1 l0_1.length c0_1]] rfl (by (try simp only [List.map_toArray, List.map_cons, List.map_nil]); first | done | rfl | (simp only [List.length_drop, List.length_take]; rfl)) ?_; (with_reducible refine (halterlaw36_bigCommand.calls k a0_0 _ _ l0_1 false _ ?side1 ?side2 A5.out).mono ?_); (case side1 => repeat (first | exact (Kd.C_below HR0_1.out HB.out) | (with_reducible refine Kd.C_alloc ?_ _) | (with_reducible refine Kd.C_drewN ?_ _) | (with_reducible refine Kd.C_drew ?_))); (case side2 => exact HC0_1.out); rintro e w10 ⟨rfl, hb⟩; refine ⟨_, rfl, ?_⟩; have n0_ := Aside0.mk (blk_below (g := gb244) (o := .cells #[.string a0_0, .slice A0_1 l0_1.length c0_1] 35 (0, 0)) (by (with_reducible repeat (first | refine blk_drewN ?_ _ | refine blk_drew ?_ | refine blk_alloc ?_ _)); exact BK244.out) hb); have n1_ := Aside0.mk (below_step (by repeat (first | (with_reducible first | exact HB.out | apply below_alloc | apply pw_below_drewN | apply below_drew1 | refine below_set ?_ GE244.out) | exact HB.out)) hb); clear BK244; clear HB; have BK244 := n0_; have HB := n1_; clear n0_ n1_; (try clear hb); (try clear hb2); (try clear hk); (try clear hi)))
      go_meet
      case rel => exact ⟨_, (decide ((l1.length : Int) > 1500)), (by first | rfl | (simp; done) | (simp [*]; done)), H', ⟨by first | omega | exact Nat.le_refl _⟩, ⟨by (with_reducible repeat (first | refine blk_drewN ?_ _ | refine blk_drew ?_ | refine blk_alloc ?_ _)); exact BK244.out⟩, ⟨by repeat (first | (with_reducible first | exact HB.out | apply below_alloc | apply pw_below_drewN | apply below_drew1 | refine below_set ?_ GE244.out) | exact HB.out)⟩⟩
  case rest =>
    clear HC3
    try clear c1
    try clear p2
    try clear c4
    try clear c6
    try clear hcz7_0
    try clear hcz7_1
    try clear hcz9_0
    try clear hcz9_1
    try clear hfz7_0
    try clear hfz7_1
    try clear hfz9_0
    try clear hfz9_1
    obtain ⟨kq, x21_2, rfl, HA, HJ2, BK244, HB⟩ := hcut
    cases kq with
    | zero => exact absurd HA.out (by simp [halterlaw36_ScriptBack.j0])
    | succ kj2 =>
      have H := HA.out
      clear HA
      simp only [halterlaw36_ScriptBack.j0] at H
      by_cases c11 : x21_2 = true
      · subst c11
        have H1 : ((halterlaw36_sure.f kj2).bind fun t246 => (some t246)) = some r := by rw [if_pos rfl] at H; exact H
        clear H
        have H := H1
        clear H1
        replace H := Option.bind_eq_some_iff.mp H
        obtain ⟨t246, A120, H⟩ := H
        replace H : (some t246) = some r := H
        have A12 := Aside0.mk A120
        clear A120
        obtain rfl := Option.some.inj H
        go_wp2_with (first | ((with_reducible refine gate_callee (f := 8) rfl ?_); refine goesL_ (some 22) rfl rfl Tryz.func8 (by kernel_rfl) rfl #[] rfl (by (try simp only [List.map_toArray, List.map_cons, List.map_nil]); first | done | rfl | (simp only [List.length_drop, List.length_take]; rfl)) ?_; (with_reducible refine (halterlaw36_sure.calls kj2  t246 _ ?side1 A12.out).mono ?_); (case side1 => exact Hand.Glob.below HG.out (by repeat (first | (with_reducible first | exact HB.out | apply below_alloc | apply pw_below_drewN | apply below_drew1 | refine below_set ?_ GE244.out) | exact HB.out))); rintro e w13 ⟨rfl, hb⟩; refine ⟨_, rfl, ?_⟩; have n0_ := Aside0.mk (blk_below (g := gb244) (o := .cells #[.string a0_0, .slice A0_1 l0_1.length c0_1] 35 (0, 0)) (by (with_reducible repeat (first | refine blk_drewN ?_ _ | refine blk_drew ?_ | refine blk_alloc ?_ _)); exact BK244.out) hb); have n1_ := Aside0.mk (below_step (by repeat (first | (with_reducible first | exact HB.out | apply below_alloc | apply pw_below_drewN | apply below_drew1 | refine below_set ?_ GE244.out) | exact HB.out)) hb); clear BK244; clear HB; have BK244 := n0_; have HB := n1_; clear n0_ n1_; (try clear hb); (try clear hb2); (try clear hk); (try clear hi)))
        go_ret
        exact ⟨by first | rfl | (simp [errW_none, errW_some] <;> rfl) | (simp [*, errW_none, errW_some] <;> rfl), by repeat (first | (with_reducible first | exact HB.out | apply below_alloc | apply pw_below_drewN | apply below_drew1 | refine below_set ?_ GE244.out) | exact HB.out)⟩
      · replace c11 := Bool.eq_false_iff.mpr c11
        subst c11
        have H1 : ((Hand.script_Hex.f l1).bind fun t247 => ((Hand.script_Bytes.f t247).bind fun bt248 => (if (l1.length : Int) ≤ 512 then (if bt248.2.isNone = true then (if (strOfNums bt248.1).toList = (strOfNums l1).toList then (if (l1.length : Int) > 512 then ((Hand.num36.f none).bind fun t253 => (halterlaw36_ScriptBack.j1 kj2 (t253 != 337) a0_0 l0_1)) else (halterlaw36_ScriptBack.j1 kj2 false a0_0 l0_1)) else (halterlaw36_ScriptBack.j1 kj2 true a0_0 l0_1)) else (halterlaw36_ScriptBack.j1 kj2 true a0_0 l0_1)) else (if (l1.length : Int) > 512 then ((Hand.num36.f bt248.2).bind fun t254 => (halterlaw36_ScriptBack.j1 kj2 (t254 != 337) a0_0 l0_1)) else (halterlaw36_ScriptBack.j1 kj2 false a0_0 l0_1))))) = some r := by rw [if_neg (show ¬ (false = true) by decide)] at H; exact H
        clear H
        have H := H1
        clear H1
        replace H := Option.bind_eq_some_iff.mp H
        obtain ⟨t247, A140, H⟩ := H
        replace H : ((Hand.script_Bytes.f t247).bind fun bt248 => (if (l1.length : Int) ≤ 512 then (if bt248.2.isNone = true then (if (strOfNums bt248.1).toList = (strOfNums l1).toList then (if (l1.length : Int) > 512 then ((Hand.num36.f none).bind fun t253 => (halterlaw36_ScriptBack.j1 kj2 (t253 != 337) a0_0 l0_1)) else (halterlaw36_ScriptBack.j1 kj2 false a0_0 l0_1)) else (halterlaw36_ScriptBack.j1 kj2 true a0_0 l0_1)) else (halterlaw36_ScriptBack.j1 kj2 true a0_0 l0_1)) else (if (l1.length : Int) > 512 then ((Hand.num36.f bt248.2).bind fun t254 => (halterlaw36_ScriptBack.j1 kj2 (t254 != 337) a0_0 l0_1)) else (halterlaw36_ScriptBack.j1 kj2 false a0_0 l0_1)))) = some r := H
        have A14 := Aside0.mk A140
        clear A140
        replace H := Option.bind_eq_some_iff.mp H
        obtain ⟨⟨t248, t249⟩, A150, H⟩ := H
        replace H : (if (l1.length : Int) ≤ 512 then (if t249.isNone = true then (if (strOfNums t248).toList = (strOfNums l1).toList then (if (l1.length : Int) > 512 then ((Hand.num36.f none).bind fun t253 => (halterlaw36_ScriptBack.j1 kj2 (t253 != 337) a0_0 l0_1)) else (halterlaw36_ScriptBack.j1 kj2 false a0_0 l0_1)) else (halterlaw36_ScriptBack.j1 kj2 true a0_0 l0_1)) else (halterlaw36_ScriptBack.j1 kj2 true a0_0 l0_1)) else (if (l1.length : Int) > 512 then ((Hand.num36.f t249).bind fun t254 => (halterlaw36_ScriptBack.j1 kj2 (t254 != 337) a0_0 l0_1)) else (halterlaw36_ScriptBack.j1 kj2 false a0_0 l0_1))) = some r := H
        have A15 := Aside0.mk A150
        clear A150
        have HC16 := Aside0.mk H
        clear H
        go_upto_region 4 with (first | ((with_reducible refine gate_callee (f := 15) rfl ?_); refine goesL_ (some 25) rfl rfl Tryz.func15 (by kernel_rfl) rfl #[.slice A1 l1.length c1] rfl (by (try simp only [List.map_toArray, List.map_cons, List.map_nil]); first | done | rfl | (simp only [List.length_drop, List.length_take]; rfl)) ?_; (with_reducible refine (Hand.script_Hex.calls _ _ l1 t247 _ ?side1 ?side2 A14.out).mono ?_); (case side1 => repeat (first | exact (Kd.C_below HR1.out HB.out) | (with_reducible refine Kd.C_alloc ?_ _) | (with_reducible refine Kd.C_drewN ?_ _) | (with_reducible refine Kd.C_drew ?_))); (case side2 => exact HC1.out); rintro e w17 ⟨rfl, hb⟩; refine ⟨_, rfl, ?_⟩; have n0_ := Aside0.mk (blk_below (g := gb244) (o := .cells #[.string a0_0, .slice A0_1 l0_1.length c0_1] 35 (0, 0)) (by (with_reducible repeat (first | refine blk_drewN ?_ _ | refine blk_drew ?_ | refine blk_alloc ?_ _)); exact BK244.out) hb); have n1_ := Aside0.mk (below_step (by repeat (first | (with_reducible first | exact HB.out | apply below_alloc | apply pw_below_drewN | apply below_drew1 | refine below_set ?_ GE244.out) | exact HB.out)) hb); clear BK244; clear HB; have BK244 := n0_; have HB := n1_; clear n0_ n1_; (try clear hb); (try clear hb2); (try clear hk); (try clear hi)) | ((with_reducible refine gate_callee (f := 14) rfl ?_); refine goesL_ (some 26) rfl rfl Tryz.func14 (by kernel_rfl) rfl #[.string t247] rfl (by (try simp only [List.map_toArray, List.map_cons, List.map_nil]); first | done | rfl | (simp only [List.length_drop, List.length_take]; rfl)) ?_; (with_reducible refine (Hand.script_Bytes.calls t247 t248 t249 _ A15.out).mono ?_); rintro e w18 ⟨v250, rfl, ho0, hb⟩; refine ⟨_, rfl, ?_⟩; have n0_ := Aside0.mk (Kd.R_lower ho0 (below_size (by repeat (first | (with_reducible first | exact HB.out | apply below_alloc | apply pw_below_drewN | apply below_drew1 | refine below_set ?_ GE244.out) | exact HB.out)))); have n1_ := Aside0.mk (blk_below (g := gb244) (o := .cells #[.string a0_0, .slice A0_1 l0_1.length c0_1] 35 (0, 0)) (by (with_reducible repeat (first | refine blk_drewN ?_ _ | refine blk_drew ?_ | refine blk_alloc ?_ _)); exact BK244.out) hb); have n2_ := Aside0.mk (below_step (by repeat (first | (with_reducible first | exact HB.out | apply below_alloc | apply pw_below_drewN | apply below_drew1 | refine below_set ?_ GE244.out) | exact HB.out)) hb); clear BK244; clear HB; have HO251 := n0_; have BK244 := n1_; have HB := n2_; clear n0_ n1_ n2_; (try clear hb); (try clear hb2); (try clear hk); (try clear hi); (try clear ho0); (try simp only [errW_none, errW_some])))
        (try simp only [Act.put, List.setIfInBounds_toArray, List.set_cons_zero, List.set_cons_succ])
        go_cut [52] (fun v52 wc => ∃ (kq : Nat) (x52_15 : Bool), v52 = .bool x52_15 ∧ Aside0 (halterlaw36_ScriptBack.j1 kq x52_15 a0_0 l0_1 = some r) ∧ Aside0 (kq ≤ kj2) ∧ Aside0 (wc.heap[gb244]? = some (.cells #[.string a0_0, (.slice A0_1 l0_1.length c0_1)] 35 (0, 0))) ∧ Aside0 (Below w.heap.size w wc))
        case first =>
          have H := HC16.out
          clear HC16
          by_cases c19 : (l1.length : Int) ≤ 512
          · rw [if_pos c19] at H
            have c19b0 : decide ((l1.length : Int) ≤ 512) = true := decide_eq_true c19
            have c19b1 : decide (l1.length ≤ 512) = true := decide_eq_true (by omega)
            clear c19
            (first | rw [c19b0] | (simp only [i64_w, i32_w]; rw [c19b0]) | skip)
            rcases t249 with _ | q252
            · have H1 : (if (strOfNums t248).toList = (strOfNums l1).toList then (if (l1.length : Int) > 512 then ((Hand.num36.f none).bind fun t253 => (halterlaw36_ScriptBack.j1 kj2 (t253 != 337) a0_0 l0_1)) else (halterlaw36_ScriptBack.j1 kj2 false a0_0 l0_1)) else (halterlaw36_ScriptBack.j1 kj2 true a0_0 l0_1)) = some r := by rw [if_pos (show (none : Option Int).isNone = true by rfl)] at H; exact H
              clear H
              have H := H1
              clear H1
              try simp only [errW_none, errW_some]
              by_cases c20 : (strOfNums t248).toList = (strOfNums l1).toList
              · rw [if_pos c20] at H
                have c20b0 : ((strOfNums t248).toList == (strOfNums l1).toList) = true := beq_iff_eq.mpr c20
                have c20b1 : ((strOfNums t248).toList != (strOfNums l1).toList) = false := bne_eq_false_iff_eq.mpr c20
                clear c20
                by_cases c21 : (l1.length : Int) > 512
                · rw [if_pos c21] at H
                  have c21b0 : decide (512 < (l1.length : Int)) = true := decide_eq_true c21
                  have c21b1 : decide (512 < l1.length) = true := decide_eq_true (by omega)
                  clear c21
                  replace H := Option.bind_eq_some_iff.mp H
                  obtain ⟨t253, A220, H⟩ := H
                  replace H : (halterlaw36_ScriptBack.j1 kj2 (t253 != 337) a0_0 l0_1) = some r := H
                  have A22 := Aside0.mk A220
                  clear A220
                  have H' := Aside0.mk H
                  clear H
                  have hcv23 := own_string (P := Tryz.prog) Tryz.underlying38 Tryz.underlying5 Tryz.underlying9 (Kd.own_of_R HO251.out)
                  have hcv24 := Kd.C_string (P := Tryz.prog) (A := A1) (c := c1) Tryz.underlying38 Tryz.underlying5 Tryz.underlying9 (Kd.C_below HR1.out HB.out)
                  have CA22 := fun W (hg_ : Hand.Glob W) => Hand.num36.calls none t253 W hg_ A22.out
                  try simp only [errW_none, errW_some] at CA22
                  go_wp2_with (first | (go_at_call 11; (with_reducible refine (CA22 _ ?side1).mono ?_); (case side1 => exact Hand.Glob.below HG.out (by repeat (first | (with_reducible first | exact HB.out | apply below_alloc | apply pw_below_drewN | apply below_drew1 | refine below_set ?_ GE244.out) | exact HB.out))); rintro e w25 ⟨rfl, hb⟩; have n0_ := Aside0.mk (Kd.R_below (by (with_reducible repeat (first | apply Kd.R_alloc | apply Kd.R_drewN | apply Kd.R_drew)); exact HO251.out) hb); have n1_ := Aside0.mk (blk_below (g := gb244) (o := .cells #[.string a0_0, .slice A0_1 l0_1.length c0_1] 35 (0, 0)) (by (with_reducible repeat (first | refine blk_drewN ?_ _ | refine blk_drew ?_ | refine blk_alloc ?_ _)); exact BK244.out) hb); have n2_ := Aside0.mk (below_step (by repeat (first | (with_reducible first | exact HB.out | apply below_alloc | apply pw_below_drewN | apply below_drew1 | refine below_set ?_ GE244.out) | exact HB.out)) hb); clear HO251; clear BK244; clear HB; have HO251 := n0_; have BK244 := n1_; have HB := n2_; clear n0_ n1_ n2_; (try clear hb); (try clear hb2); (try clear hk); (try clear hi)))
                  go_meet
                  case rel => exact ⟨_, ((t253 != 337)), (by first | rfl | (simp; done) | (simp [*]; done)), H', ⟨by have := HJ2.out; first | omega | exact Nat.le_refl _⟩, ⟨by (with_reducible repeat (first | refine blk_drewN ?_ _ | refine blk_drew ?_ | refine blk_alloc ?_ _)); exact BK244.out⟩, ⟨by repeat (first | (with_reducible first | exact HB.out | apply below_alloc | apply pw_below_drewN | apply below_drew1 | refine below_set ?_ GE244.out) | exact HB.out)⟩⟩
                · rw [if_neg c21] at H
                  have c21b0 : decide (512 < (l1.length : Int)) = false := decide_eq_false c21
                  have c21b1 : decide (512 < l1.length) = false := decide_eq_false (by omega)
                  clear c21
                  have H' := Aside0.mk H
                  clear H
                  have hcv26 := own_string (P := Tryz.prog) Tryz.underlying38 Tryz.underlying5 Tryz.underlying9 (Kd.own_of_R HO251.out)
                  have hcv27 := Kd.C_string (P := Tryz.prog) (A := A1) (c := c1) Tryz.underlying38 Tryz.underlying5 Tryz.underlying9 (Kd.C_below HR1.out HB.out)
                  go_wp2
                  go_meet
                  case rel => exact ⟨_, (false), (by first | rfl | (simp; done) | (simp [*]; done)), H', ⟨by have := HJ2.out; first | omega | exact Nat.le_refl _⟩, ⟨by (with_reducible repeat (first | refine blk_drewN ?_ _ | refine blk_drew ?_ | refine blk_alloc ?_ _)); exact BK244.out⟩, ⟨by repeat (first | (with_reducible first | exact HB.out | apply below_alloc | apply pw_below_drewN | apply below_drew1 | refine below_set ?_ GE244.out) | exact HB.out)⟩⟩
              · rw [if_neg c20] at H
                have c20b0 : ((strOfNums t248).toList == (strOfNums l1).toList) = false := beq_eq_false_iff_ne.mpr c20
                have c20b1 : ((strOfNums t248).toList != (strOfNums l1).toList) = true := bne_iff_ne.mpr c20
                have H' := Aside0.mk H
                clear H
                have hcv28 := own_string (P := Tryz.prog) Tryz.underlying38 Tryz.underlying5 Tryz.underlying9 (Kd.own_of_R HO251.out)
                have hcv29 := Kd.C_string (P := Tryz.prog) (A := A1) (c := c1) Tryz.underlying38 Tryz.underlying5 Tryz.underlying9 (Kd.C_below HR1.out HB.out)
                go_wp2
                go_meet
                case rel => exact ⟨_, (true), (by first | rfl | (simp; done) | (simp [*]; done)), H', ⟨by have := HJ2.out; first | omega | exact Nat.le_refl _⟩, ⟨by (with_reducible repeat (first | refine blk_drewN ?_ _ | refine blk_drew ?_ | refine blk_alloc ?_ _)); exact BK244.out⟩, ⟨by repeat (first | (with_reducible first | exact HB.out | apply below_alloc | apply pw_below_drewN | apply below_drew1 | refine below_set ?_ GE244.out) | exact HB.out)⟩⟩
            · have H1 : (halterlaw36_ScriptBack.j1 kj2 true a0_0 l0_1) = some r := by rw [if_neg (show ¬ (some q252).isNone = true by simp)] at H; exact H
              clear H
              have H := H1
              clear H1
              try simp only [errW_none, errW_some]
              have H' := Aside0.mk H
              clear H
              go_wp2
              go_meet
              case rel => exact ⟨_, (true), (by first | rfl | (simp; done) | (simp [*]; done)), H', ⟨by have := HJ2.out; first | omega | exact Nat.le_refl _⟩, ⟨by (with_reducible repeat (first | refine blk_drewN ?_ _ | refine blk_drew ?_ | refine blk_alloc ?_ _)); exact BK244.out⟩, ⟨by repeat (first | (with_reducible first | exact HB.out | apply below_alloc | apply pw_below_drewN | apply below_drew1 | refine below_set ?_ GE244.out) | exact HB.out)⟩⟩
          · rw [if_neg c19] at H
            have c19b0 : decide ((l1.length : Int) ≤ 512) = false := decide_eq_false c19
            have c19b1 : decide (l1.length ≤ 512) = false := decide_eq_false (by omega)
            clear c19
            (first | rw [c19b0] | (simp only [i64_w, i32_w]; rw [c19b0]) | skip)
            by_cases c30 : (l1.length : Int) > 512
            · rw [if_pos c30] at H
              have c30b0 : decide (512 < (l1.length : Int)) = true := decide_eq_true c30
              have c30b1 : decide (512 < l1.length) = true := decide_eq_true (by omega)
              clear c30
              replace H := Option.bind_eq_some_iff.mp H
              obtain ⟨t254, A310, H⟩ := H
              replace H : (halterlaw36_ScriptBack.j1 kj2 (t254 != 337) a0_0 l0_1) = some r := H
              have A31 := Aside0.mk A310
              clear A310
              have H' := Aside0.mk H
              clear H
              have CA31 := fun W (hg_ : Hand.Glob W) => Hand.num36.calls t249 t254 W hg_ A31.out
              try simp only [errW_none, errW_some] at CA31
              go_wp2_with (first | (go_at_call 11; (with_reducible refine (CA31 _ ?side1).mono ?_); (case side1 => exact Hand.Glob.below HG.out (by repeat (first | (with_reducible first | exact HB.out | apply below_alloc | apply pw_below_drewN | apply below_drew1 | refine below_set ?_ GE244.out) | exact HB.out))); rintro e w32 ⟨rfl, hb⟩; have n0_ := Aside0.mk (Kd.R_below (by (with_reducible repeat (first | apply Kd.R_alloc | apply Kd.R_drewN | apply Kd.R_drew)); exact HO251.out) hb); have n1_ := Aside0.mk (blk_below (g := gb244) (o := .cells #[.string a0_0, .slice A0_1 l0_1.length c0_1] 35 (0, 0)) (by (with_reducible repeat (first | refine blk_drewN ?_ _ | refine blk_drew ?_ | refine blk_alloc ?_ _)); exact BK244.out) hb); have n2_ := Aside0.mk (below_step (by repeat (first | (with_reducible first | exact HB.out | apply below_alloc | apply pw_below_drewN | apply below_drew1 | refine below_set ?_ GE244.out) | exact HB.out)) hb); clear HO251; clear BK244; clear HB; have HO251 := n0_; have BK244 := n1_; have HB := n2_; clear n0_ n1_ n2_; (try clear hb); (try clear hb2); (try clear hk); (try clear hi)))
              go_meet
              case rel => exact ⟨_, ((t254 != 337)), (by first | rfl | (simp; done) | (simp [*]; done)), H', ⟨by have := HJ2.out; first | omega | exact Nat.le_refl _⟩, ⟨by (with_reducible repeat (first | refine blk_drewN ?_ _ | refine blk_drew ?_ | refine blk_alloc ?_ _)); exact BK244.out⟩, ⟨by repeat (first | (with_reducible first | exact HB.out | apply below_alloc | apply pw_below_drewN | apply below_drew1 | refine below_set ?_ GE244.out) | exact HB.out)⟩⟩
            · rw [if_neg c30] at H
              have c30b0 : decide (512 < (l1.length : Int)) = false := decide_eq_false c30
              have c30b1 : decide (512 < l1.length) = false := decide_eq_false (by omega)
              clear c30
              have H' := Aside0.mk H
              clear H
              go_wp2
              go_meet
              case rel => exact ⟨_, (false), (by first | rfl | (simp; done) | (simp [*]; done)), H', ⟨by have := HJ2.out; first | omega | exact Nat.le_refl _⟩, ⟨by (with_reducible repeat (first | refine blk_drewN ?_ _ | refine blk_drew ?_ | refine blk_alloc ?_ _)); exact BK244.out⟩, ⟨by repeat (first | (with_reducible first | exact HB.out | apply below_alloc | apply pw_below_drewN | apply below_drew1 | refine below_set ?_ GE244.out) | exact HB.out)⟩⟩
        case rest =>
          clear HC16
          try clear c1
          try clear c2
          try clear p2
          try clear q2
          try clear hcv2
          try clear c3
          try clear c4
          try clear c6
          try clear c8
          try clear c11
          try clear c13
          try clear c14
          try clear c15
          try clear c19
          try clear c19b0
          try clear c19b1
          try clear c20
          try clear c20b0
          try clear c20b1
          try clear c21
          try clear c21b0
          try clear c21b1
          try clear hcv23
          try clear hcv24
          try clear q25
          try clear hcv26
          try clear hcv27
          try clear hcv28
          try clear hcv29
          try clear c30
          try clear c30b0
          try clear c30b1
          try clear hcz7_0
          try clear hcz7_1
          try clear hcz9_0
          try clear hcz9_1
          try clear hfz7_0
          try clear hfz7_1
          try clear hfz9_0
          try clear hfz9_1
          try clear p2
          try clear q252
          obtain ⟨kq, x52_15, rfl, HA, HJ15, BK244, HB⟩ := hcut
          cases kq with
          | zero => exact absurd HA.out (by simp [halterlaw36_ScriptBack.j1])
          | succ kj15 =>
            have H := HA.out
            clear HA
            simp only [halterlaw36_ScriptBack.j1] at H
            by_cases c33 : x52_15 = true
            · subst c33
              have H1 : (none) = some r := by rw [if_pos rfl] at H; exact H
              clear H
              have H := H1
              clear H1
              exact absurd H (by simp)
            · replace c33 := Bool.eq_false_iff.mpr c33
              subst c33
              have H1 : ((Hand.script_Print.f a0_0 l0_1).bind fun bt255 => (if bt255.2.isNone = true then (if (bt255.1.size : Int) = 0 then (none) else ((Hand.script_Parse.f bt255.1).bind fun bt258 => (if 0 ≤ (wrap64 ((bt255.1.size : Int) - 1)) then (if (wrap64 ((bt255.1.size : Int) - 1)) ≤ (bt255.1.size : Int) then (if 4 + (bt255.1.extract 0 ((wrap64 ((bt255.1.size : Int) - 1)) : Int).toNat).size ≤ 9223372036854775807 then (if ((⟨#[37, 10, 32, 9]⟩ : ByteArray) ++ (bt255.1.extract 0 ((wrap64 ((bt255.1.size : Int) - 1)) : Int).toNat)).size + 9 ≤ 9223372036854775807 then ((Hand.script_Parse.f (((⟨#[37, 10, 32, 9]⟩ : ByteArray) ++ (bt255.1.extract 0 ((wrap64 ((bt255.1.size : Int) - 1)) : Int).toNat)) ++ (⟨#[32, 37, 32, 110, 111, 116, 101, 10, 10]⟩ : ByteArray))).bind fun bt263 => (if bt258.2.2.isNone = true then (if bt263.2.2.isNone = true then (if (bt258.1.length : Int) = 1 then (if (bt263.1.length : Int) = 1 then (if 0 < (bt258.1.length : Int) then (if ((rd_T34 bt258.1 0).f0).toList = a0_0.toList then ((halterlaw36_texts.f kj15 ((rd_T34 bt258.1 0).f1) l0_1).bind fun t272 => (if t272 = true then (if 0 < (bt263.1.length : Int) then (if ((rd_T34 bt263.1 0).f0).toList = a0_0.toList then ((halterlaw36_texts.f kj15 ((rd_T34 bt263.1 0).f1) l0_1).bind fun t275 => (if t275 = true then ((halterlaw36_sure.f kj15).bind fun t276 => (some t276)) else (none))) else (none)) else (none)) else (none))) else (none)) else (none)) else (none)) else (none)) else (none)) else (none))) else (none)) else (none)) else (none)) else (none)))) else (if bt255.1.toList = ([] : List UInt8) then ((halterlaw36_sure.f kj15).bind fun t277 => (some t277)) else (none)))) = some r := by rw [if_neg (show ¬ (false = true) by decide)] at H; exact H
              clear H
              have H := H1
              clear H1
              replace H := Option.bind_eq_some_iff.mp H
              obtain ⟨⟨t255, t256⟩, A340, H⟩ := H
              replace H : (if t256.isNone = true then (if (t255.size : Int) = 0 then (none) else ((Hand.script_Parse.f t255).bind fun bt258 => (if 0 ≤ (wrap64 ((t255.size : Int) - 1)) then (if (wrap64 ((t255.size : Int) - 1)) ≤ (t255.size : Int) then (if 4 + (t255.extract 0 ((wrap64 ((t255.size : Int) - 1)) : Int).toNat).size ≤ 9223372036854775807 then (if ((⟨#[37, 10, 32, 9]⟩ : ByteArray) ++ (t255.extract 0 ((wrap64 ((t255.size : Int) - 1)) : Int).toNat)).size + 9 ≤ 9223372036854775807 then ((Hand.script_Parse.f (((⟨#[37, 10, 32, 9]⟩ : ByteArray) ++ (t255.extract 0 ((wrap64 ((t255.size : Int) - 1)) : Int).toNat)) ++ (⟨#[32, 37, 32, 110, 111, 116, 101, 10, 10]⟩ : ByteArray))).bind fun bt263 => (if bt258.2.2.isNone = true then (if bt263.2.2.isNone = true then (if (bt258.1.length : Int) = 1 then (if (bt263.1.length : Int) = 1 then (if 0 < (bt258.1.length : Int) then (if ((rd_T34 bt258.1 0).f0).toList = a0_0.toList then ((halterlaw36_texts.f kj15 ((rd_T34 bt258.1 0).f1) l0_1).bind fun t272 => (if t272 = true then (if 0 < (bt263.1.length : Int) then (if ((rd_T34 bt263.1 0).f0).toList = a0_0.toList then ((halterlaw36_texts.f kj15 ((rd_T34 bt263.1 0).f1) l0_1).bind fun t275 => (if t275 = true then ((halterlaw36_sure.f kj15).bind fun t276 => (some t276)) else (none))) else (none)) else (none)) else (none))) else (none)) else (none)) else (none)) else (none)) else (none)) else (none))) else (none)) else (none)) else (none)) else (none)))) else (if t255.toList = ([] : List UInt8) then ((halterlaw36_sure.f kj15).bind fun t277 => (some t277)) else (none))) = some r := H
              have A34 := Aside0.mk A340
              clear A340
              rcases t256 with _ | q257
              · have H1 : (if (t255.size : Int) = 0 then (none) else ((Hand.script_Parse.f t255).bind fun bt258 => (if 0 ≤ (wrap64 ((t255.size : Int) - 1)) then (if (wrap64 ((t255.size : Int) - 1)) ≤ (t255.size : Int) then (if 4 + (t255.extract 0 ((wrap64 ((t255.size : Int) - 1)) : Int).toNat).size ≤ 9223372036854775807 then (if ((⟨#[37, 10, 32, 9]⟩ : ByteArray) ++ (t255.extract 0 ((wrap64 ((t255.size : Int) - 1)) : Int).toNat)).size + 9 ≤ 9223372036854775807 then ((Hand.script_Parse.f (((⟨#[37, 10, 32, 9]⟩ : ByteArray) ++ (t255.extract 0 ((wrap64 ((t255.size : Int) - 1)) : Int).toNat)) ++ (⟨#[32, 37, 32, 110, 111, 116, 101, 10, 10]⟩ : ByteArray))).bind fun bt263 => (if bt258.2.2.isNone = true then (if bt263.2.2.isNone = true then (if (bt258.1.length : Int) = 1 then (if (bt263.1.length : Int) = 1 then (if 0 < (bt258.1.length : Int) then (if ((rd_T34 bt258.1 0).f0).toList = a0_0.toList then ((halterlaw36_texts.f kj15 ((rd_T34 bt258.1 0).f1) l0_1).bind fun t272 => (if t272 = true then (if 0 < (bt263.1.length : Int) then (if ((rd_T34 bt263.1 0).f0).toList = a0_0.toList then ((halterlaw36_texts.f kj15 ((rd_T34 bt263.1 0).f1) l0_1).bind fun t275 => (if t275 = true then ((halterlaw36_sure.f kj15).bind fun t276 => (some t276)) else (none))) else (none)) else (none)) else (none))) else (none)) else (none)) else (none)) else (none)) else (none)) else (none))) else (none)) else (none)) else (none)) else (none)))) = some r := by rw [if_pos (show (none : Option Int).isNone = true by rfl)] at H; exact H
                clear H
                have H := H1
                clear H1
                try simp only [errW_none, errW_some]
                by_cases c35 : (t255.size : Int) = 0
                · rw [if_pos c35] at H
                  exact absurd H (by simp)
                · rw [if_neg c35] at H
                  have c35b0 : ((t255.size : Int) == 0) = false := beq_eq_false_iff_ne.mpr c35
                  have c35b1 : ((t255.size : Int) != 0) = true := bne_iff_ne.mpr c35
                  replace H := Option.bind_eq_some_iff.mp H
                  obtain ⟨⟨t258, t261, t262⟩, A360, H⟩ := H
                  replace H : (if 0 ≤ (wrap64 ((t255.size : Int) - 1)) then (if (wrap64 ((t255.size : Int) - 1)) ≤ (t255.size : Int) then (if 4 + (t255.extract 0 ((wrap64 ((t255.size : Int) - 1)) : Int).toNat).size ≤ 9223372036854775807 then (if ((⟨#[37, 10, 32, 9]⟩ : ByteArray) ++ (t255.extract 0 ((wrap64 ((t255.size : Int) - 1)) : Int).toNat)).size + 9 ≤ 9223372036854775807 then ((Hand.script_Parse.f (((⟨#[37, 10, 32, 9]⟩ : ByteArray) ++ (t255.extract 0 ((wrap64 ((t255.size : Int) - 1)) : Int).toNat)) ++ (⟨#[32, 37, 32, 110, 111, 116, 101, 10, 10]⟩ : ByteArray))).bind fun bt263 => (if t262.isNone = true then (if bt263.2.2.isNone = true then (if (t258.length : Int) = 1 then (if (bt263.1.length : Int) = 1 then (if 0 < (t258.length : Int) then (if ((rd_T34 t258 0).f0).toList = a0_0.toList then ((halterlaw36_texts.f kj15 ((rd_T34 t258 0).f1) l0_1).bind fun t272 => (if t272 = true then (if 0 < (bt263.1.length : Int) then (if ((rd_T34 bt263.1 0).f0).toList = a0_0.toList then ((halterlaw36_texts.f kj15 ((rd_T34 bt263.1 0).f1) l0_1).bind fun t275 => (if t275 = true then ((halterlaw36_sure.f kj15).bind fun t276 => (some t276)) else (none))) else (none)) else (none)) else (none))) else (none)) else (none)) else (none)) else (none)) else (none)) else (none))) else (none)) else (none)) else (none)) else (none)) = some r := H
                  have A36 := Aside0.mk A360
                  clear A360
                  obtain ⟨ji37, hji37⟩ : ∃ j_ : Int, (wrap64 ((t255.size : Int) - 1)) = j_ := ⟨_, rfl⟩
                  replace H : (if 0 ≤ (ji37) then (if (ji37) ≤ (t255.size : Int) then (if 4 + (t255.extract 0 ((ji37) : Int).toNat).size ≤ 9223372036854775807 then (if ((⟨#[37, 10, 32, 9]⟩ : ByteArray) ++ (t255.extract 0 ((ji37) : Int).toNat)).size + 9 ≤ 9223372036854775807 then ((Hand.script_Parse.f (((⟨#[37, 10, 32, 9]⟩ : ByteArray) ++ (t255.extract 0 ((ji37) : Int).toNat)) ++ (⟨#[32, 37, 32, 110, 111, 116, 101, 10, 10]⟩ : ByteArray))).bind fun bt263 => (if t262.isNone = true then (if bt263.2.2.isNone = true then (if (t258.length : Int) = 1 then (if (bt263.1.length : Int) = 1 then (if 0 < (t258.length : Int) then (if ((rd_T34 t258 0).f0).toList = a0_0.toList then ((halterlaw36_texts.f kj15 ((rd_T34 t258 0).f1) l0_1).bind fun t272 => (if t272 = true then (if 0 < (bt263.1.length : Int) then (if ((rd_T34 bt263.1 0).f0).toList = a0_0.toList then ((halterlaw36_texts.f kj15 ((rd_T34 bt263.1 0).f1) l0_1).bind fun t275 => (if t275 = true then ((halterlaw36_sure.f kj15).bind fun t276 => (some t276)) else (none))) else (none)) else (none)) else (none))) else (none)) else (none)) else (none)) else (none)) else (none)) else (none))) else (none)) else (none)) else (none)) else (none)) = some r := by first | (rw [hji37] at H; exact H) | (simp only [hji37] at H ⊢; exact H)
                  (try rw [hji37] at A34)
                  (try rw [hji37] at A36)
                  have hji37w : (IntKind.i64.wrap ((t255.size : Int) - 1)) = ji37 := (i64_w _).trans hji37
                  by_cases c38 : 0 ≤ (ji37)
                  · rw [if_pos c38] at H
                    have c38b0 := eq_true c38
                    have c38b1 : decide (0 ≤ (ji37)) = true := decide_eq_true c38
                    clear c38
                    by_cases c39 : (ji37) ≤ (t255.size : Int)
                    · rw [if_pos c39] at H
                      have c39b0 := eq_true c39
                      have c39b1 : decide ((ji37) ≤ (t255.size : Int)) = true := decide_eq_true c39
                      clear c39
                      by_cases c40 : 4 + (t255.extract 0 ((ji37) : Int).toNat).size ≤ 9223372036854775807
                      · rw [if_pos c40] at H
                        have c40b0 := eq_true c40
                        have c40b1 : decide (4 + (t255.extract 0 ((ji37) : Int).toNat).size ≤ 9223372036854775807) = true := decide_eq_true c40
                        try have c40b2 : (9223372036854775807 < 4 + (t255.extract 0 ((ji37) : Int).toNat).size) = False := eq_false (Nat.not_lt.2 c40)
                        by_cases c41 : ((⟨#[37, 10, 32, 9]⟩ : ByteArray) ++ (t255.extract 0 ((ji37) : Int).toNat)).size + 9 ≤ 9223372036854775807
                        · rw [if_pos c41] at H
                          have c41b0 := eq_true c41
                          have c41b1 : decide (((⟨#[37, 10, 32, 9]⟩ : ByteArray) ++ (t255.extract 0 ((ji37) : Int).toNat)).size + 9 ≤ 9223372036854775807) = true := decide_eq_true c41
                          try have c41b2 : (9223372036854775807 < ((⟨#[37, 10, 32, 9]⟩ : ByteArray) ++ (t255.extract 0 ((ji37) : Int).toNat)).size + 9) = False := eq_false (Nat.not_lt.2 c41)
                          replace H := Option.bind_eq_some_iff.mp H
                          obtain ⟨⟨t263, t266, t267⟩, A420, H⟩ := H
                          replace H : (if t262.isNone = true then (if t267.isNone = true then (if (t258.length : Int) = 1 then (if (t263.length : Int) = 1 then (if 0 < (t258.length : Int) then (if ((rd_T34 t258 0).f0).toList = a0_0.toList then ((halterlaw36_texts.f kj15 ((rd_T34 t258 0).f1) l0_1).bind fun t272 => (if t272 = true then (if 0 < (t263.length : Int) then (if ((rd_T34 t263 0).f0).toList = a0_0.toList then ((halterlaw36_texts.f kj15 ((rd_T34 t263 0).f1) l0_1).bind fun t275 => (if t275 = true then ((halterlaw36_sure.f kj15).bind fun t276 => (some t276)) else (none))) else (none)) else (none)) else (none))) else (none)) else (none)) else (none)) else (none)) else (none)) else (none)) = some r := H
                          have A42 := Aside0.mk A420
                          clear A420
                          rcases t262 with _ | q268
                          · have H1 : (if t267.isNone = true then (if (t258.length : Int) = 1 then (if (t263.length : Int) = 1 then (if 0 < (t258.length : Int) then (if ((rd_T34 t258 0).f0).toList = a0_0.toList then ((halterlaw36_texts.f kj15 ((rd_T34 t258 0).f1) l0_1).bind fun t272 => (if t272 = true then (if 0 < (t263.length : Int) then (if ((rd_T34 t263 0).f0).toList = a0_0.toList then ((halterlaw36_texts.f kj15 ((rd_T34 t263 0).f1) l0_1).bind fun t275 => (if t275 = true then ((halterlaw36_sure.f kj15).bind fun t276 => (some t276)) else (none))) else (none)) else (none)) else (none))) else (none)) else (none)) else (none)) else (none)) else (none)) = some r := by rw [if_pos (show (none : Option Int).isNone = true by rfl)] at H; exact H
                            clear H
                            have H := H1
                            clear H1
                            try simp only [errW_none, errW_some]
                            rcases t267 with _ | q269
                            · have H1 : (if (t258.length : Int) = 1 then (if (t263.length : Int) = 1 then (if 0 < (t258.length : Int) then (if ((rd_T34 t258 0).f0).toList = a0_0.toList then ((halterlaw36_texts.f kj15 ((rd_T34 t258 0).f1) l0_1).bind fun t272 => (if t272 = true then (if 0 < (t263.length : Int) then (if ((rd_T34 t263 0).f0).toList = a0_0.toList then ((halterlaw36_texts.f kj15 ((rd_T34 t263 0).f1) l0_1).bind fun t275 => (if t275 = true then ((halterlaw36_sure.f kj15).bind fun t276 => (some t276)) else (none))) else (none)) else (none)) else (none))) else (none)) else (none)) else (none)) else (none)) = some r := by rw [if_pos (show (none : Option Int).isNone = true by rfl)] at H; exact H
                              clear H
                              have H := H1
                              clear H1
                              try simp only [errW_none, errW_some]
                              by_cases c43 : (t258.length : Int) = 1
                              · rw [if_pos c43] at H
                                have c43b0 : ((t258.length : Int) == 1) = true := beq_iff_eq.mpr c43
                                have c43b1 : ((t258.length : Int) != 1) = false := bne_eq_false_iff_eq.mpr c43
                                clear c43
                                by_cases c44 : (t263.length : Int) = 1
                                · rw [if_pos c44] at H
                                  have c44b0 : ((t263.length : Int) == 1) = true := beq_iff_eq.mpr c44
                                  have c44b1 : ((t263.length : Int) != 1) = false := bne_eq_false_iff_eq.mpr c44
                                  clear c44
                                  by_cases c45 : 0 < (t258.length : Int)
                                  · rw [if_pos c45] at H
                                    have c45b0 : decide (0 < (t258.length : Int)) = true := decide_eq_true c45
                                    have c45b1 : decide (0 < t258.length) = true := decide_eq_true (by omega)
                                    clear c45
                                    by_cases c46 : ((rd_T34 t258 0).f0).toList = a0_0.toList
                                    · rw [if_pos c46] at H
                                      have c46b0 : (((rd_T34 t258 0).f0).toList == a0_0.toList) = true := beq_iff_eq.mpr c46
                                      have c46b1 : (((rd_T34 t258 0).f0).toList != a0_0.toList) = false := bne_eq_false_iff_eq.mpr c46
                                      clear c46
                                      replace H := Option.bind_eq_some_iff.mp H
                                      obtain ⟨t272, A470, H⟩ := H
                                      replace H : (if t272 = true then (if 0 < (t263.length : Int) then (if ((rd_T34 t263 0).f0).toList = a0_0.toList then ((halterlaw36_texts.f kj15 ((rd_T34 t263 0).f1) l0_1).bind fun t275 => (if t275 = true then ((halterlaw36_sure.f kj15).bind fun t276 => (some t276)) else (none))) else (none)) else (none)) else (none)) = some r := H
                                      have A47 := Aside0.mk A470
                                      clear A470
                                      by_cases c48 : t272 = true
                                      · subst c48
                                        have H1 : (if 0 < (t263.length : Int) then (if ((rd_T34 t263 0).f0).toList = a0_0.toList then ((halterlaw36_texts.f kj15 ((rd_T34 t263 0).f1) l0_1).bind fun t275 => (if t275 = true then ((halterlaw36_sure.f kj15).bind fun t276 => (some t276)) else (none))) else (none)) else (none)) = some r := by rw [if_pos rfl] at H; exact H
                                        clear H
                                        have H := H1
                                        clear H1
                                        by_cases c49 : 0 < (t263.length : Int)
                                        · rw [if_pos c49] at H
                                          have c49b0 : decide (0 < (t263.length : Int)) = true := decide_eq_true c49
                                          have c49b1 : decide (0 < t263.length) = true := decide_eq_true (by omega)
                                          clear c49
                                          by_cases c50 : ((rd_T34 t263 0).f0).toList = a0_0.toList
                                          · rw [if_pos c50] at H
                                            have c50b0 : (((rd_T34 t263 0).f0).toList == a0_0.toList) = true := beq_iff_eq.mpr c50
                                            have c50b1 : (((rd_T34 t263 0).f0).toList != a0_0.toList) = false := bne_eq_false_iff_eq.mpr c50
                                            clear c50
                                            replace H := Option.bind_eq_some_iff.mp H
                                            obtain ⟨t275, A510, H⟩ := H
                                            replace H : (if t275 = true then ((halterlaw36_sure.f kj15).bind fun t276 => (some t276)) else (none)) = some r := H
                                            have A51 := Aside0.mk A510
                                            clear A510
                                            by_cases c52 : t275 = true
                                            · subst c52
                                              have H1 : ((halterlaw36_sure.f kj15).bind fun t276 => (some t276)) = some r := by rw [if_pos rfl] at H; exact H
                                              clear H
                                              have H := H1
                                              clear H1
                                              replace H := Option.bind_eq_some_iff.mp H
                                              obtain ⟨t276, A530, H⟩ := H
                                              replace H : (some t276) = some r := H
                                              have A53 := Aside0.mk A530
                                              clear A530
                                              obtain rfl := Option.some.inj H
                                              have hcz54_0 : wc.cell? ⟨gb244, 0, none⟩ = some (.string a0_0) := (blk_cell BK244.out 0).trans rfl
                                              have hcz54_1 : wc.cell? ⟨gb244, 1, none⟩ = some (.slice A0_1 l0_1.length c0_1) := (blk_cell BK244.out 1).trans rfl
                                              have hfz54_0 := blk_frozen BK244.out 0
                                              have hfz54_1 := blk_frozen BK244.out 1
                                              have ex40 : (t255.extract 0 (ji37 : Int).toNat).size = ji37.toNat := by
                                                have h39 := of_eq_true c39b0
                                                rw [ByteArray.size_extract]
                                                omega
                                              have c40x : (9223372036854775807 < 4 + ji37.toNat) = False := eq_false (by have h40 := c40; rw [ex40] at h40; omega)
                                              have c41x : (9223372036854775807 < 4 + ji37.toNat + 9) = False := eq_false (by have h41 := c41; rw [ByteArray.size_append, ex40] at h41; have h42 : (⟨#[37, 10, 32, 9]⟩ : ByteArray).size = 4 := rfl; omega)
                                              clear ex40
                                              try go_wp2_with (first | ((with_reducible refine gate_callee (f := 16) rfl ?_); refine goesL_ (some 55) rfl rfl Tryz.func16 (by kernel_rfl) rfl #[.agg #[.string a0_0, .slice A0_1 l0_1.length c0_1]] rfl (by (try simp only [List.map_toArray, List.map_cons, List.map_nil]); first | done | rfl | (simp only [List.length_drop, List.length_take]; rfl)) ?_; (with_reducible refine (Hand.script_Print.calls a0_0 _ _ l0_1 t255 none _ ?side1 ?side2 ?side3 A34.out).mono ?_); (case side1 => repeat (first | exact (Kd.C_below HR0_1.out HB.out) | (with_reducible refine Kd.C_alloc ?_ _) | (with_reducible refine Kd.C_drewN ?_ _) | (with_reducible refine Kd.C_drew ?_))); (case side2 => exact HC0_1.out); (case side3 => exact Hand.Glob.below HG.out (by repeat (first | (with_reducible first | exact HB.out | apply below_alloc | apply pw_below_drewN | apply below_drew1 | refine below_set ?_ GE244.out) | exact HB.out))); rintro e w55 ⟨rfl, hb⟩; refine ⟨_, rfl, ?_⟩; have n0_ := Aside0.mk (blk_below (g := gb244) (o := .cells #[.string a0_0, .slice A0_1 l0_1.length c0_1] 35 (0, 0)) (by (with_reducible repeat (first | refine blk_drewN ?_ _ | refine blk_drew ?_ | refine blk_alloc ?_ _)); exact BK244.out) hb); have n1_ := Aside0.mk (below_step (by repeat (first | (with_reducible first | exact HB.out | apply below_alloc | apply pw_below_drewN | apply below_drew1 | refine below_set ?_ GE244.out) | exact HB.out)) hb); clear BK244; clear HB; have BK244 := n0_; have HB := n1_; clear n0_ n1_; (try clear hb); (try clear hb2); (try clear hk); (try clear hi); (try simp only [errW_none, errW_some])) | ((with_reducible refine gate_callee (f := 9) rfl ?_); refine goesL_ (some 70) rfl rfl Tryz.func9 (by kernel_rfl) rfl #[.string t255] rfl (by (try simp only [List.map_toArray, List.map_cons, List.map_nil]); first | done | rfl | (simp only [List.length_drop, List.length_take]; rfl)) ?_; (with_reducible refine (Hand.script_Parse.calls t255 t258 t261 none _ ?side1 A36.out).mono ?_); (case side1 => exact Hand.Glob.below HG.out (by repeat (first | (with_reducible first | exact HB.out | apply below_alloc | apply pw_below_drewN | apply below_drew1 | refine below_set ?_ GE244.out) | exact HB.out))); rintro e w56 ⟨v259, rfl, ho0, hb⟩; refine ⟨_, rfl, ?_⟩; have n0_ := Aside0.mk (Kd.V_lower (Kd.V_mono (ok' := fun k_ => k_ ≠ gb244) ho0 (fun k_ hk_ => (Kd.freshB (g := gb244) (o := .cells #[.string a0_0, .slice A0_1 l0_1.length c0_1] 35 (0, 0)) (by (with_reducible repeat (first | refine blk_drewN ?_ _ | refine blk_drew ?_ | refine blk_alloc ?_ _)); exact BK244.out) k_ hk_))) (below_size (by repeat (first | (with_reducible first | exact HB.out | apply below_alloc | apply pw_below_drewN | apply below_drew1 | refine below_set ?_ GE244.out) | exact HB.out)))); have n1_ := Aside0.mk (blk_below (g := gb244) (o := .cells #[.string a0_0, .slice A0_1 l0_1.length c0_1] 35 (0, 0)) (by (with_reducible repeat (first | refine blk_drewN ?_ _ | refine blk_drew ?_ | refine blk_alloc ?_ _)); exact BK244.out) hb); have n2_ := Aside0.mk (below_step (by repeat (first | (with_reducible first | exact HB.out | apply below_alloc | apply pw_below_drewN | apply below_drew1 | refine below_set ?_ GE244.out) | exact HB.out)) hb); clear BK244; clear HB; have HO260 := n0_; have BK244 := n1_; have HB := n2_; clear n0_ n1_ n2_; (try clear hb); (try clear hb2); (try clear hk); (try clear hi); (try clear ho0); (try simp only [errW_none, errW_some])) | ((with_reducible refine gate_callee (f := 9) rfl ?_); refine goesL_ (some 82) rfl rfl Tryz.func9 (by kernel_rfl) rfl #[.string (((⟨#[37, 10, 32, 9]⟩ : ByteArray) ++ (t255.extract 0 ((ji37) : Int).toNat)) ++ (⟨#[32, 37, 32, 110, 111, 116, 101, 10, 10]⟩ : ByteArray))] rfl (by (try simp only [List.map_toArray, List.map_cons, List.map_nil]); first | done | (simp only [hji37]; rfl) | rfl | (simp only [List.length_drop, List.length_take]; rfl)) ?_; (with_reducible refine (Hand.script_Parse.calls (((⟨#[37, 10, 32, 9]⟩ : ByteArray) ++ (t255.extract 0 ((ji37) : Int).toNat)) ++ (⟨#[32, 37, 32, 110, 111, 116, 101, 10, 10]⟩ : ByteArray)) t263 t266 none _ ?side1 A42.out).mono ?_); (case side1 => exact Hand.Glob.below HG.out (by repeat (first | (with_reducible first | exact HB.out | apply below_alloc | apply pw_below_drewN | apply below_drew1 | refine below_set ?_ GE244.out) | exact HB.out))); rintro e w57 ⟨v264, rfl, ho0, hb⟩; refine ⟨_, rfl, ?_⟩; have n0_ := Aside0.mk (Kd.V_below (by (with_reducible repeat (first | apply Kd.V_alloc | apply Kd.V_drewN | apply Kd.V_drew)); exact HO260.out) hb); have n1_ := Aside0.mk (Kd.V_lower (Kd.V_mono (ok' := fun k_ => k_ ≠ gb244) ho0 (fun k_ hk_ => (Kd.freshB (g := gb244) (o := .cells #[.string a0_0, .slice A0_1 l0_1.length c0_1] 35 (0, 0)) (by (with_reducible repeat (first | refine blk_drewN ?_ _ | refine blk_drew ?_ | refine blk_alloc ?_ _)); exact BK244.out) k_ hk_))) (below_size (by repeat (first | (with_reducible first | exact HB.out | apply below_alloc | apply pw_below_drewN | apply below_drew1 | refine below_set ?_ GE244.out) | exact HB.out)))); have n2_ := Aside0.mk (blk_below (g := gb244) (o := .cells #[.string a0_0, .slice A0_1 l0_1.length c0_1] 35 (0, 0)) (by (with_reducible repeat (first | refine blk_drewN ?_ _ | refine blk_drew ?_ | refine blk_alloc ?_ _)); exact BK244.out) hb); have n3_ := Aside0.mk (below_step (by repeat (first | (with_reducible first | exact HB.out | apply below_alloc | apply pw_below_drewN | apply below_drew1 | refine below_set ?_ GE244.out) | exact HB.out)) hb); clear HO260; clear BK244; clear HB; have HO260 := n0_; have HO265 := n1_; have BK244 := n2_; have HB := n3_; clear n0_ n1_ n2_ n3_; (try clear hb); (try clear hb2); (try clear hk); (try clear hi); (try clear ho0); (try simp only [errW_none, errW_some])))
                                              have n0_ := Aside0.mk (Kd.V_drew HO260.out)
                                              have n1_ := Aside0.mk (Kd.V_drew HO265.out)
                                              have n2_ := Aside0.mk (blk_drew BK244.out)
                                              have n3_ := Aside0.mk (below_drew1 HB.out)
                                              clear HO260
                                              clear HO265
                                              clear BK244
                                              clear HB
                                              have HO260 := n0_
                                              have HO265 := n1_
                                              have BK244 := n2_
                                              have HB := n3_
                                              clear n0_ n1_ n2_ n3_
                                              obtain ⟨Ao59, co59, eo59⟩ := Kd.V_slice HO260.out
                                              (first | subst eo59 | (injection eo59 with f1_ f2_ f3_; have f4_ := f1_.symm; have f5_ := f3_.symm; clear f1_ f2_ f3_; subst f4_; subst f5_))
                                              obtain ⟨Ao60, co60, eo60⟩ := Kd.V_slice HO265.out
                                              (first | subst eo60 | (injection eo60 with f1_ f2_ f3_; have f4_ := f1_.symm; have f5_ := f3_.symm; clear f1_ f2_ f3_; subst f4_; subst f5_))
                                              have p270 : 0 ≤ (0 : Int) := (by omega)
                                              have q270 : 0 < (t258.length : Int) := of_decide_eq_true (by first | (with_reducible assumption) | assumption)
                                              obtain ⟨ad270, A270_1, c270_1, e270, hx270_0, hx270_1, hl270_1, hi270_1⟩ := at_T34 (Kd.V_reads' HO260.out).2.2 0 p270 q270
                                              cases e270
                                              obtain ⟨ce270, hce270, hMe270, hcc270⟩ := Kd.V_get HO260.out z34 0 p270 (by first | exact q270 | exact of_decide_eq_true (by first | (with_reducible assumption) | assumption) | (have e_ := (Kd.V_reads' HO260.out).1; omega))
                                              obtain ⟨ua270_1, uc270_1, rfl, ul270_1, ge270_1⟩ := k34_openF hMe270
                                              have hv270_1 := hcc270 1 _ rfl
                                              rw [add_field _ _ 1 (by omega)] at hv270_1
                                              replace hv270_1 := Option.some.inj (hv270_1.symm.trans hx270_1)
                                              injection hv270_1 with hva_ hvn_ hvc_
                                              rw [hva_] at ge270_1
                                              rw [hvc_] at ul270_1
                                              have HL270_1 := Aside0.mk (show Kd.V Kd.string 9 _ w.heap.size _ _ ((rd_T34 t258 0).f1) from Kd.V_mk ul270_1 ge270_1)
                                              clear hva_ hvn_ hvc_ ge270_1 ul270_1
                                              clear hcc270 hce270
                                              have qi270 : (0 < t258.length) = True := eq_true (by omega)
                                              (try rw [show ((0 : Int)).toNat = 0 from rfl] at hx270_0)
                                              (try rw [show 0 * 2 = 0 from rfl] at hx270_0)
                                              (try rw [Addr.add_zero'] at hx270_0)
                                              (try rw [show ((0 : Int)).toNat = 0 from rfl] at hx270_1)
                                              (try rw [show 0 * 2 = 0 from rfl] at hx270_1)
                                              (try rw [Addr.add_zero'] at hx270_1)
                                              have HR270_1 := Aside0.mk hi270_1
                                              have HC270_1 := Aside0.mk hl270_1
                                              clear hi270_1 hl270_1
                                              replace p270 := eq_true p270
                                              replace q270 := eq_true q270
                                              have p271 : 0 ≤ (0 : Int) := (by omega)
                                              have q271 : 0 < (t258.length : Int) := of_decide_eq_true (by first | (with_reducible assumption) | assumption)
                                              obtain ⟨ad271, A271_1, c271_1, e271, hx271_0, hx271_1, hl271_1, hi271_1⟩ := at_T34 (Kd.V_reads' HO260.out).2.2 0 p271 q271
                                              obtain rfl : ad270 = ad271 := (by injection e271)
                                              obtain ⟨ce271, hce271, hMe271, hcc271⟩ := Kd.V_get HO260.out z34 0 p271 (by first | exact q271 | exact of_decide_eq_true (by first | (with_reducible assumption) | assumption) | (have e_ := (Kd.V_reads' HO260.out).1; omega))
                                              obtain ⟨ua271_1, uc271_1, rfl, ul271_1, ge271_1⟩ := k34_openF hMe271
                                              have hv271_1 := hcc271 1 _ rfl
                                              rw [add_field _ _ 1 (by omega)] at hv271_1
                                              replace hv271_1 := Option.some.inj (hv271_1.symm.trans hx271_1)
                                              injection hv271_1 with hva_ hvn_ hvc_
                                              rw [hva_] at ge271_1
                                              rw [hvc_] at ul271_1
                                              have HL271_1 := Aside0.mk (show Kd.V Kd.string 9 _ w.heap.size _ _ ((rd_T34 t258 0).f1) from Kd.V_mk ul271_1 ge271_1)
                                              clear hva_ hvn_ hvc_ ge271_1 ul271_1
                                              clear hcc271 hce271
                                              have qi271 : (0 < t258.length) = True := eq_true (by omega)
                                              (try rw [show ((0 : Int)).toNat = 0 from rfl] at hx271_0)
                                              (try rw [show 0 * 2 = 0 from rfl] at hx271_0)
                                              (try rw [Addr.add_zero'] at hx271_0)
                                              (try rw [show ((0 : Int)).toNat = 0 from rfl] at hx271_1)
                                              (try rw [show 0 * 2 = 0 from rfl] at hx271_1)
                                              (try rw [Addr.add_zero'] at hx271_1)
                                              have HR271_1 := Aside0.mk hi271_1
                                              have HC271_1 := Aside0.mk hl271_1
                                              clear hi271_1 hl271_1
                                              replace p271 := eq_true p271
                                              replace q271 := eq_true q271
                                              have ea_ := Option.some.inj (hx270_1.symm.trans hx271_1)
                                              injection ea_ with ea_ en_ ec_
                                              subst ea_
                                              subst ec_
                                              clear en_
                                              have p273 : 0 ≤ (0 : Int) := (by omega)
                                              have q273 : 0 < (t263.length : Int) := of_decide_eq_true (by first | (with_reducible assumption) | assumption)
                                              obtain ⟨ad273, A273_1, c273_1, e273, hx273_0, hx273_1, hl273_1, hi273_1⟩ := at_T34 (Kd.V_reads' HO265.out).2.2 0 p273 q273
                                              cases e273
                                              obtain ⟨ce273, hce273, hMe273, hcc273⟩ := Kd.V_get HO265.out z34 0 p273 (by first | exact q273 | exact of_decide_eq_true (by first | (with_reducible assumption) | assumption) | (have e_ := (Kd.V_reads' HO265.out).1; omega))
                                              obtain ⟨ua273_1, uc273_1, rfl, ul273_1, ge273_1⟩ := k34_openF hMe273
                                              have hv273_1 := hcc273 1 _ rfl
                                              rw [add_field _ _ 1 (by omega)] at hv273_1
                                              replace hv273_1 := Option.some.inj (hv273_1.symm.trans hx273_1)
                                              injection hv273_1 with hva_ hvn_ hvc_
                                              rw [hva_] at ge273_1
                                              rw [hvc_] at ul273_1
                                              have HL273_1 := Aside0.mk (show Kd.V Kd.string 9 _ w.heap.size _ _ ((rd_T34 t263 0).f1) from Kd.V_mk ul273_1 ge273_1)
                                              clear hva_ hvn_ hvc_ ge273_1 ul273_1
                                              clear hcc273 hce273
                                              have qi273 : (0 < t263.length) = True := eq_true (by omega)
                                              (try rw [show ((0 : Int)).toNat = 0 from rfl] at hx273_0)
                                              (try rw [show 0 * 2 = 0 from rfl] at hx273_0)
                                              (try rw [Addr.add_zero'] at hx273_0)
                                              (try rw [show ((0 : Int)).toNat = 0 from rfl] at hx273_1)
                                              (try rw [show 0 * 2 = 0 from rfl] at hx273_1)
                                              (try rw [Addr.add_zero'] at hx273_1)
                                              have HR273_1 := Aside0.mk hi273_1
                                              have HC273_1 := Aside0.mk hl273_1
                                              clear hi273_1 hl273_1
                                              replace p273 := eq_true p273
                                              replace q273 := eq_true q273
                                              have p274 : 0 ≤ (0 : Int) := (by omega)
                                              have q274 : 0 < (t263.length : Int) := of_decide_eq_true (by first | (with_reducible assumption) | assumption)
                                              obtain ⟨ad274, A274_1, c274_1, e274, hx274_0, hx274_1, hl274_1, hi274_1⟩ := at_T34 (Kd.V_reads' HO265.out).2.2 0 p274 q274
                                              obtain rfl : ad273 = ad274 := (by injection e274)
                                              obtain ⟨ce274, hce274, hMe274, hcc274⟩ := Kd.V_get HO265.out z34 0 p274 (by first | exact q274 | exact of_decide_eq_true (by first | (with_reducible assumption) | assumption) | (have e_ := (Kd.V_reads' HO265.out).1; omega))
                                              obtain ⟨ua274_1, uc274_1, rfl, ul274_1, ge274_1⟩ := k34_openF hMe274
                                              have hv274_1 := hcc274 1 _ rfl
                                              rw [add_field _ _ 1 (by omega)] at hv274_1
                                              replace hv274_1 := Option.some.inj (hv274_1.symm.trans hx274_1)
                                              injection hv274_1 with hva_ hvn_ hvc_
                                              rw [hva_] at ge274_1
                                              rw [hvc_] at ul274_1
                                              have HL274_1 := Aside0.mk (show Kd.V Kd.string 9 _ w.heap.size _ _ ((rd_T34 t263 0).f1) from Kd.V_mk ul274_1 ge274_1)
                                              clear hva_ hvn_ hvc_ ge274_1 ul274_1
                                              clear hcc274 hce274
                                              have qi274 : (0 < t263.length) = True := eq_true (by omega)
                                              (try rw [show ((0 : Int)).toNat = 0 from rfl] at hx274_0)
                                              (try rw [show 0 * 2 = 0 from rfl] at hx274_0)
                                              (try rw [Addr.add_zero'] at hx274_0)
                                              (try rw [show ((0 : Int)).toNat = 0 from rfl] at hx274_1)
                                              (try rw [show 0 * 2 = 0 from rfl] at hx274_1)
                                              (try rw [Addr.add_zero'] at hx274_1)
                                              have HR274_1 := Aside0.mk hi274_1
                                              have HC274_1 := Aside0.mk hl274_1
                                              clear hi274_1 hl274_1
                                              replace p274 := eq_true p274
                                              replace q274 := eq_true q274
                                              have ea_ := Option.some.inj (hx273_1.symm.trans hx274_1)
                                              injection ea_ with ea_ en_ ec_
                                              subst ea_
                                              subst ec_
                                              clear en_
                                              refine start_ (n := 56) (S := fun w' => w'.cell? ⟨gb244, 0, none⟩ = some (.string a0_0) ∧ w'.cell? ⟨gb244, 1, none⟩ = some (.slice A0_1 l0_1.length c0_1) ∧ w'.cell? ad270 = some (.string ((rd_T34 t258 0).f0)) ∧ w'.cell? ⟨ad270.block, ad270.off + 1, none⟩ = some (.slice A270_1 ((rd_T34 t258 0).f1).length c270_1) ∧ w'.cell? ad270 = some (.string ((rd_T34 t258 0).f0)) ∧ w'.cell? ⟨ad270.block, ad270.off + 1, none⟩ = some (.slice A270_1 ((rd_T34 t258 0).f1).length c270_1) ∧ w'.cell? ad273 = some (.string ((rd_T34 t263 0).f0)) ∧ w'.cell? ⟨ad273.block, ad273.off + 1, none⟩ = some (.slice A273_1 ((rd_T34 t263 0).f1).length c273_1) ∧ w'.cell? ad273 = some (.string ((rd_T34 t263 0).f0)) ∧ w'.cell? ⟨ad273.block, ad273.off + 1, none⟩ = some (.slice A273_1 ((rd_T34 t263 0).f1).length c273_1)) (ds := []) #[false, false, false, false, false, false, false, false, false, false, false, false, false, false, false, false, false, false, false, false, false, false, false, false, false, false, false, false, false, false, false, false, false, false, false, false, false, false, false, false, false, false, false, false, false, false, false, false, false, false, false, false, false, false, false, false] (by kernel_rfl) rfl rfl ⟨(blk_cell BK244.out 0).trans rfl, (blk_cell BK244.out 1).trans rfl, hx270_0, hx270_1, hx271_0, hx271_1, hx273_0, hx273_1, hx274_0, hx274_1⟩ (fun hHeld => ?_); refine with_tabW halterlaw36_ScriptBack.tab13 halterlaw36_ScriptBack.bits13 (fun HT_ HW_ => ?_)
                                              generalize w57.drew = w58 at HO260 HO265 BK244 HB HL270_1 HL271_1 HL273_1 HL274_1 HR270_1 HR271_1 HR273_1 HR274_1 hx270_0 hx270_1 hx271_0 hx271_1 hx273_0 hx273_1 hx274_0 hx274_1 hHeld ⊢
                                              refine pure_ (i := 0) (N := some 86) (v := ?_) (a' := ?_) #[true, false, false, false, false, false, false, false, false, false, false, false, false, false, false, false, false, false, false, false, false, false, false, false, false, false, false, false, false, false, false, false, false, false, false, false, false, false, false, false, false, false, false, false, false, false, false, false, false, false, false, false, false, false, false, false] rfl rfl (any_of HT_.out (by kernel_rfl)) (fun _ _ _ h => h) (Or.inl ⟨by rfl, ?_⟩) ?_ ?_
                                              rotate_left
                                              · intro w'
                                                go_simp
                                                with_reducible rfl
                                              rotate_left
                                              · simp only [Act.put, List.setIfInBounds_toArray, List.set_cons_zero, List.set_cons_succ, i64_w, i32_w]
                                                rfl
                                              refine pure_ (i := 1) (N := some 87) (v := ?_) (a' := ?_) #[true, true, false, false, false, false, false, false, false, false, false, false, false, false, false, false, false, false, false, false, false, false, false, false, false, false, false, false, false, false, false, false, false, false, false, false, false, false, false, false, false, false, false, false, false, false, false, false, false, false, false, false, false, false, false, false] rfl rfl (any_of HT_.out (by kernel_rfl)) (fun _ _ _ h => h) (Or.inl ⟨by rfl, ?_⟩) ?_ ?_
                                              rotate_left
                                              · intro w'
                                                go_simp
                                                with_reducible rfl
                                              rotate_left
                                              · simp only [Act.put, List.setIfInBounds_toArray, List.set_cons_zero, List.set_cons_succ, i64_w, i32_w]
                                                rfl
                                              refine pure_ (i := 2) (N := some 88) (v := ?_) (a' := ?_) #[true, true, true, false, false, false, false, false, false, false, false, false, false, false, false, false, false, false, false, false, false, false, false, false, false, false, false, false, false, false, false, false, false, false, false, false, false, false, false, false, false, false, false, false, false, false, false, false, false, false, false, false, false, false, false, false] rfl rfl (any_of HT_.out (by kernel_rfl)) (fun _ _ _ h => h) (Or.inl ⟨by rfl, ?_⟩) ?_ ?_
                                              rotate_left
                                              · intro w'
                                                go_simp
                                                with_reducible rfl
                                              rotate_left
                                              · simp only [Act.put, List.setIfInBounds_toArray, List.set_cons_zero, List.set_cons_succ, i64_w, i32_w]
                                                rfl
                                              refine pure_ (i := 3) (N := some 89) (v := ?_) (a' := ?_) #[true, true, true, true, false, false, false, false, false, false, false, false, false, false, false, false, false, false, false, false, false, false, false, false, false, false, false, false, false, false, false, false, false, false, false, false, false, false, false, false, false, false, false, false, false, false, false, false, false, false, false, false, false, false, false, false] rfl rfl (any_of HT_.out (by kernel_rfl)) (fun _ _ _ h => h) (Or.inl ⟨by rfl, ?_⟩) ?_ ?_
                                              rotate_left
                                              · intro w'
                                                go_simp
                                                with_reducible rfl
                                              rotate_left
                                              · simp only [Act.put, List.setIfInBounds_toArray, List.set_cons_zero, List.set_cons_succ, i64_w, i32_w]
                                                rfl
                                              refine pure_ (i := 4) (N := some 90) (v := ?_) (a' := ?_) #[true, true, true, true, true, false, false, false, false, false, false, false, false, false, false, false, false, false, false, false, false, false, false, false, false, false, false, false, false, false, false, false, false, false, false, false, false, false, false, false, false, false, false, false, false, false, false, false, false, false, false, false, false, false, false, false] rfl rfl (any_of HT_.out (by kernel_rfl)) (fun _ _ _ h => h) (Or.inl ⟨by rfl, ?_⟩) ?_ ?_
                                              rotate_left
                                              · intro w'
                                                go_simp
                                                with_reducible rfl
                                              rotate_left
                                              · simp only [Act.put, List.setIfInBounds_toArray, List.set_cons_zero, List.set_cons_succ, i64_w, i32_w]
                                                rfl
                                              refine pure_ (i := 5) (N := some 91) (v := ?_) (a' := ?_) #[true, true, true, true, true, true, false, false, false, false, false, false, false, false, false, false, false, false, false, false, false, false, false, false, false, false, false, false, false, false, false, false, false, false, false, false, false, false, false, false, false, false, false, false, false, false, false, false, false, false, false, false, false, false, false, false] rfl rfl (any_of HT_.out (by kernel_rfl)) (fun _ _ _ h => h) (Or.inl ⟨by rfl, ?_⟩) ?_ ?_
                                              rotate_left
                                              · intro w'
                                                go_simp
                                                with_reducible rfl
                                              rotate_left
                                              · simp only [Act.put, List.setIfInBounds_toArray, List.set_cons_zero, List.set_cons_succ, i64_w, i32_w]
                                                rfl
                                              refine pure_ (i := 6) (N := some 92) (v := ?_) (a' := ?_) #[true, true, true, true, true, true, true, false, false, false, false, false, false, false, false, false, false, false, false, false, false, false, false, false, false, false, false, false, false, false, false, false, false, false, false, false, false, false, false, false, false, false, false, false, false, false, false, false, false, false, false, false, false, false, false, false] rfl rfl (any_of HT_.out (by kernel_rfl)) (fun _ _ _ h => h) (Or.inl ⟨by rfl, ?_⟩) ?_ ?_
                                              rotate_left
                                              · intro w'
                                                go_simp
                                                with_reducible rfl
                                              rotate_left
                                              · simp only [Act.put, List.setIfInBounds_toArray, List.set_cons_zero, List.set_cons_succ, i64_w, i32_w]
                                                rfl
                                              refine pure_ (i := 7) (N := some 93) (v := ?_) (a' := ?_) #[true, true, true, true, true, true, true, true, false, false, false, false, false, false, false, false, false, false, false, false, false, false, false, false, false, false, false, false, false, false, false, false, false, false, false, false, false, false, false, false, false, false, false, false, false, false, false, false, false, false, false, false, false, false, false, false] rfl rfl (any_of HT_.out (by kernel_rfl)) (fun _ _ _ h => h) (Or.inl ⟨by rfl, ?_⟩) ?_ ?_
                                              rotate_left
                                              · intro w'
                                                go_simp
                                                with_reducible rfl
                                              rotate_left
                                              · simp only [Act.put, List.setIfInBounds_toArray, List.set_cons_zero, List.set_cons_succ, i64_w, i32_w]
                                                rfl
                                              refine pure_ (i := 8) (N := some 94) (v := ?_) (a' := ?_) #[true, true, true, true, true, true, true, true, true, false, false, false, false, false, false, false, false, false, false, false, false, false, false, false, false, false, false, false, false, false, false, false, false, false, false, false, false, false, false, false, false, false, false, false, false, false, false, false, false, false, false, false, false, false, false, false] rfl rfl (any_of HT_.out (by kernel_rfl)) (fun _ _ _ h => h) (Or.inl ⟨by rfl, ?_⟩) ?_ ?_
                                              rotate_left
                                              · intro w'
                                                go_simp
                                                with_reducible rfl
                                              rotate_left
                                              · simp only [Act.put, List.setIfInBounds_toArray, List.set_cons_zero, List.set_cons_succ, i64_w, i32_w]
                                                rfl
                                              refine pure_ (i := 9) (N := some 95) (v := ?_) (a' := ?_) #[true, true, true, true, true, true, true, true, true, true, false, false, false, false, false, false, false, false, false, false, false, false, false, false, false, false, false, false, false, false, false, false, false, false, false, false, false, false, false, false, false, false, false, false, false, false, false, false, false, false, false, false, false, false, false, false] rfl rfl (any_of HT_.out (by kernel_rfl)) (fun _ _ _ h => h) (Or.inl ⟨by rfl, ?_⟩) ?_ ?_
                                              rotate_left
                                              · intro w'
                                                go_simp
                                                with_reducible rfl
                                              rotate_left
                                              · simp only [Act.put, List.setIfInBounds_toArray, List.set_cons_zero, List.set_cons_succ, i64_w, i32_w]
                                                rfl
                                              refine pure_ (i := 10) (N := some 96) (v := ?_) (a' := ?_) #[true, true, true, true, true, true, true, true, true, true, true, false, false, false, false, false, false, false, false, false, false, false, false, false, false, false, false, false, false, false, false, false, false, false, false, false, false, false, false, false, false, false, false, false, false, false, false, false, false, false, false, false, false, false, false, false] rfl rfl (any_of HT_.out (by kernel_rfl)) (fun _ _ _ h => h) (Or.inl ⟨by rfl, ?_⟩) ?_ ?_
                                              rotate_left
                                              · intro w'
                                                go_simp
                                                with_reducible rfl
                                              rotate_left
                                              · simp only [Act.put, List.setIfInBounds_toArray, List.set_cons_zero, List.set_cons_succ, i64_w, i32_w]
                                                rfl
                                              refine pure_ (i := 11) (N := some 97) (v := ?_) (a' := ?_) #[true, true, true, true, true, true, true, true, true, true, true, true, false, false, false, false, false, false, false, false, false, false, false, false, false, false, false, false, false, false, false, false, false, false, false, false, false, false, false, false, false, false, false, false, false, false, false, false, false, false, false, false, false, false, false, false] rfl rfl (any_of HT_.out (by kernel_rfl)) (fun _ _ _ h => h) (Or.inl ⟨by rfl, ?_⟩) ?_ ?_
                                              rotate_left
                                              · intro w'
                                                go_simp
                                                with_reducible rfl
                                              rotate_left
                                              · simp only [Act.put, List.setIfInBounds_toArray, List.set_cons_zero, List.set_cons_succ, i64_w, i32_w]
                                                rfl
                                              refine pure_ (i := 12) (N := some 98) (v := ?_) (a' := ?_) #[true, true, true, true, true, true, true, true, true, true, true, true, true, false, false, false, false, false, false, false, false, false, false, false, false, false, false, false, false, false, false, false, false, false, false, false, false, false, false, false, false, false, false, false, false, false, false, false, false, false, false, false, false, false, false, false] rfl rfl (any_of HT_.out (by kernel_rfl)) (fun _ _ _ h => h) (Or.inl ⟨by rfl, ?_⟩) ?_ ?_
                                              rotate_left
                                              · intro w'
                                                go_simp
                                                with_reducible rfl
                                              rotate_left
                                              · simp only [Act.put, List.setIfInBounds_toArray, List.set_cons_zero, List.set_cons_succ, i64_w, i32_w]
                                                rfl
                                              refine pure_ (i := 13) (N := some 99) (v := ?_) (a' := ?_) #[true, true, true, true, true, true, true, true, true, true, true, true, true, true, false, false, false, false, false, false, false, false, false, false, false, false, false, false, false, false, false, false, false, false, false, false, false, false, false, false, false, false, false, false, false, false, false, false, false, false, false, false, false, false, false, false] rfl rfl (any_of HT_.out (by kernel_rfl)) (fun _ _ _ h => h) (Or.inl ⟨by rfl, ?_⟩) ?_ ?_
                                              rotate_left
                                              · intro w'
                                                go_simp
                                                with_reducible rfl
                                              rotate_left
                                              · simp only [Act.put, List.setIfInBounds_toArray, List.set_cons_zero, List.set_cons_succ, i64_w, i32_w]
                                                rfl
                                              refine pure_ (i := 14) (N := some 100) (v := ?_) (a' := ?_) #[true, true, true, true, true, true, true, true, true, true, true, true, true, true, true, false, false, false, false, false, false, false, false, false, false, false, false, false, false, false, false, false, false, false, false, false, false, false, false, false, false, false, false, false, false, false, false, false, false, false, false, false, false, false, false, false] rfl rfl (any_of HT_.out (by kernel_rfl)) (fun _ _ _ h => h) (Or.inl ⟨by rfl, ?_⟩) ?_ ?_
                                              rotate_left
                                              · intro w'
                                                go_simp
                                                with_reducible rfl
                                              rotate_left
                                              · simp only [Act.put, List.setIfInBounds_toArray, List.set_cons_zero, List.set_cons_succ, i64_w, i32_w]
                                                rfl
                                              refine pure_ (i := 15) (N := some 101) (v := ?_) (a' := ?_) #[true, true, true, true, true, true, true, true, true, true, true, true, true, true, true, true, false, false, false, false, false, false, false, false, false, false, false, false, false, false, false, false, false, false, false, false, false, false, false, false, false, false, false, false, false, false, false, false, false, false, false, false, false, false, false, false] rfl rfl (any_of HT_.out (by kernel_rfl)) (fun _ _ _ h => h) (Or.inl ⟨by rfl, ?_⟩) ?_ ?_
                                              rotate_left
                                              · intro w'
                                                go_simp
                                                with_reducible rfl
                                              rotate_left
                                              · simp only [Act.put, List.setIfInBounds_toArray, List.set_cons_zero, List.set_cons_succ, i64_w, i32_w]
                                                rfl
                                              refine pure_ (i := 16) (N := some 102) (v := ?_) (a' := ?_) #[true, true, true, true, true, true, true, true, true, true, true, true, true, true, true, true, true, false, false, false, false, false, false, false, false, false, false, false, false, false, false, false, false, false, false, false, false, false, false, false, false, false, false, false, false, false, false, false, false, false, false, false, false, false, false, false] rfl rfl (any_of HT_.out (by kernel_rfl)) (fun _ _ _ h => h) (Or.inl ⟨by rfl, ?_⟩) ?_ ?_
                                              rotate_left
                                              · intro w'
                                                go_simp
                                                with_reducible rfl
                                              rotate_left
                                              · simp only [Act.put, List.setIfInBounds_toArray, List.set_cons_zero, List.set_cons_succ, i64_w, i32_w]
                                                rfl
                                              refine pure_ (i := 17) (N := some 103) (v := ?_) (a' := ?_) #[true, true, true, true, true, true, true, true, true, true, true, true, true, true, true, true, true, true, false, false, false, false, false, false, false, false, false, false, false, false, false, false, false, false, false, false, false, false, false, false, false, false, false, false, false, false, false, false, false, false, false, false, false, false, false, false] rfl rfl (any_of HT_.out (by kernel_rfl)) (fun _ _ _ h => h) (Or.inl ⟨by rfl, ?_⟩) ?_ ?_
                                              rotate_left
                                              · intro w'
                                                go_simp
                                                with_reducible rfl
                                              rotate_left
                                              · simp only [Act.put, List.setIfInBounds_toArray, List.set_cons_zero, List.set_cons_succ, i64_w, i32_w]
                                                rfl
                                              refine pure_ (i := 18) (N := some 104) (v := ?_) (a' := ?_) #[true, true, true, true, true, true, true, true, true, true, true, true, true, true, true, true, true, true, true, false, false, false, false, false, false, false, false, false, false, false, false, false, false, false, false, false, false, false, false, false, false, false, false, false, false, false, false, false, false, false, false, false, false, false, false, false] rfl rfl (any_of HT_.out (by kernel_rfl)) (fun _ _ _ h => h) (Or.inl ⟨by rfl, ?_⟩) ?_ ?_
                                              rotate_left
                                              · intro w'
                                                go_simp
                                                with_reducible rfl
                                              rotate_left
                                              · simp only [Act.put, List.setIfInBounds_toArray, List.set_cons_zero, List.set_cons_succ, i64_w, i32_w]
                                                rfl
                                              refine pure_ (i := 19) (N := some 105) (v := ?_) (a' := ?_) #[true, true, true, true, true, true, true, true, true, true, true, true, true, true, true, true, true, true, true, true, false, false, false, false, false, false, false, false, false, false, false, false, false, false, false, false, false, false, false, false, false, false, false, false, false, false, false, false, false, false, false, false, false, false, false, false] rfl rfl (any_of HT_.out (by kernel_rfl)) (fun _ _ _ h => h) (Or.inl ⟨by rfl, ?_⟩) ?_ ?_
                                              rotate_left
                                              · intro w'
                                                go_simp
                                                with_reducible rfl
                                              rotate_left
                                              · simp only [Act.put, List.setIfInBounds_toArray, List.set_cons_zero, List.set_cons_succ, i64_w, i32_w]
                                                rfl
                                              refine pure_ (i := 21) (N := some 107) (v := ?_) (a' := ?_) #[true, true, true, true, true, true, true, true, true, true, true, true, true, true, true, true, true, true, true, true, false, true, false, false, false, false, false, false, false, false, false, false, false, false, false, false, false, false, false, false, false, false, false, false, false, false, false, false, false, false, false, false, false, false, false, false] rfl rfl (any_of HT_.out (by kernel_rfl)) (fun _ _ _ h => h) (Or.inl ⟨by rfl, ?_⟩) ?_ ?_
                                              rotate_left
                                              · intro w'
                                                go_simp
                                                with_reducible rfl
                                              rotate_left
                                              · simp only [Act.put, List.setIfInBounds_toArray, List.set_cons_zero, List.set_cons_succ, i64_w, i32_w]
                                                rfl
                                              refine take_ (i := 20) (N := some 106) (v := ?_) (a' := ?_) #[true, true, true, true, true, true, true, true, true, true, true, true, true, true, true, true, true, true, true, true, true, true, false, false, false, false, false, false, false, false, false, false, false, false, false, false, false, false, false, false, false, false, false, false, false, false, false, false, false, false, false, false, false, false, false, false] rfl rfl (take_ofW HT_.out HW_.out (by kernel_rfl)) (fun _ _ _ h => h) (Or.inl ⟨by rfl, ?_⟩) hHeld ?_ ?_
                                              rotate_left
                                              · rintro w' ⟨s0, s1, s2, s3, s4, s5, s6, s7, s8, s9⟩
                                                go_simp
                                                with_reducible rfl
                                              rotate_left
                                              · simp only [Act.put, List.setIfInBounds_toArray, List.set_cons_zero, List.set_cons_succ, i64_w, i32_w]
                                                rfl
                                              refine take_ (i := 22) (N := some 108) (v := ?_) (a' := ?_) #[true, true, true, true, true, true, true, true, true, true, true, true, true, true, true, true, true, true, true, true, true, true, true, false, false, false, false, false, false, false, false, false, false, false, false, false, false, false, false, false, false, false, false, false, false, false, false, false, false, false, false, false, false, false, false, false] rfl rfl (take_ofW HT_.out HW_.out (by kernel_rfl)) (fun _ _ _ h => h) (Or.inl ⟨by rfl, ?_⟩) hHeld ?_ ?_
                                              rotate_left
                                              · rintro w' ⟨s0, s1, s2, s3, s4, s5, s6, s7, s8, s9⟩
                                                go_simp
                                                with_reducible rfl
                                              rotate_left
                                              · simp only [Act.put, List.setIfInBounds_toArray, List.set_cons_zero, List.set_cons_succ, i64_w, i32_w]
                                                rfl
                                              refine pure_ (i := 23) (N := some 109) (v := ?_) (a' := ?_) #[true, true, true, true, true, true, true, true, true, true, true, true, true, true, true, true, true, true, true, true, true, true, true, true, false, false, false, false, false, false, false, false, false, false, false, false, false, false, false, false, false, false, false, false, false, false, false, false, false, false, false, false, false, false, false, false] rfl rfl (any_of HT_.out (by kernel_rfl)) (fun _ _ _ h => h) (Or.inl ⟨by rfl, ?_⟩) ?_ ?_
                                              rotate_left
                                              · intro w'
                                                go_simp
                                                with_reducible rfl
                                              rotate_left
                                              · simp only [Act.put, List.setIfInBounds_toArray, List.set_cons_zero, List.set_cons_succ, i64_w, i32_w]
                                                rfl
                                              refine pure_ (i := 24) (N := some 110) (v := ?_) (a' := ?_) #[true, true, true, true, true, true, true, true, true, true, true, true, true, true, true, true, true, true, true, true, true, true, true, true, true, false, false, false, false, false, false, false, false, false, false, false, false, false, false, false, false, false, false, false, false, false, false, false, false, false, false, false, false, false, false, false] rfl rfl (any_of HT_.out (by kernel_rfl)) (fun _ _ _ h => h) (Or.inl ⟨by rfl, ?_⟩) ?_ ?_
                                              rotate_left
                                              · intro w'
                                                go_simp
                                                with_reducible rfl
                                              rotate_left
                                              · simp only [Act.put, List.setIfInBounds_toArray, List.set_cons_zero, List.set_cons_succ, i64_w, i32_w]
                                                rfl
                                              refine pure_ (i := 25) (N := some 111) (v := ?_) (a' := ?_) #[true, true, true, true, true, true, true, true, true, true, true, true, true, true, true, true, true, true, true, true, true, true, true, true, true, true, false, false, false, false, false, false, false, false, false, false, false, false, false, false, false, false, false, false, false, false, false, false, false, false, false, false, false, false, false, false] rfl rfl (any_of HT_.out (by kernel_rfl)) (fun _ _ _ h => h) (Or.inl ⟨by rfl, ?_⟩) ?_ ?_
                                              rotate_left
                                              · intro w'
                                                go_simp
                                                with_reducible rfl
                                              rotate_left
                                              · simp only [Act.put, List.setIfInBounds_toArray, List.set_cons_zero, List.set_cons_succ, i64_w, i32_w]
                                                rfl
                                              refine pure_ (i := 26) (N := some 112) (v := ?_) (a' := ?_) #[true, true, true, true, true, true, true, true, true, true, true, true, true, true, true, true, true, true, true, true, true, true, true, true, true, true, true, false, false, false, false, false, false, false, false, false, false, false, false, false, false, false, false, false, false, false, false, false, false, false, false, false, false, false, false, false] rfl rfl (any_of HT_.out (by kernel_rfl)) (fun _ _ _ h => h) (Or.inl ⟨by rfl, ?_⟩) ?_ ?_
                                              rotate_left
                                              · intro w'
                                                go_simp
                                                with_reducible rfl
                                              rotate_left
                                              · simp only [Act.put, List.setIfInBounds_toArray, List.set_cons_zero, List.set_cons_succ, i64_w, i32_w]
                                                rfl
                                              refine pure_ (i := 27) (N := some 113) (v := ?_) (a' := ?_) #[true, true, true, true, true, true, true, true, true, true, true, true, true, true, true, true, true, true, true, true, true, true, true, true, true, true, true, true, false, false, false, false, false, false, false, false, false, false, false, false, false, false, false, false, false, false, false, false, false, false, false, false, false, false, false, false] rfl rfl (any_of HT_.out (by kernel_rfl)) (fun _ _ _ h => h) (Or.inl ⟨by rfl, ?_⟩) ?_ ?_
                                              rotate_left
                                              · intro w'
                                                go_simp
                                                with_reducible rfl
                                              rotate_left
                                              · simp only [Act.put, List.setIfInBounds_toArray, List.set_cons_zero, List.set_cons_succ, i64_w, i32_w]
                                                rfl
                                              refine pure_ (i := 28) (N := some 114) (v := ?_) (a' := ?_) #[true, true, true, true, true, true, true, true, true, true, true, true, true, true, true, true, true, true, true, true, true, true, true, true, true, true, true, true, true, false, false, false, false, false, false, false, false, false, false, false, false, false, false, false, false, false, false, false, false, false, false, false, false, false, false, false] rfl rfl (any_of HT_.out (by kernel_rfl)) (fun _ _ _ h => h) (Or.inl ⟨by rfl, ?_⟩) ?_ ?_
                                              rotate_left
                                              · intro w'
                                                go_simp
                                                with_reducible rfl
                                              rotate_left
                                              · simp only [Act.put, List.setIfInBounds_toArray, List.set_cons_zero, List.set_cons_succ, i64_w, i32_w]
                                                rfl
                                              refine pure_ (i := 30) (N := some 116) (v := ?_) (a' := ?_) #[true, true, true, true, true, true, true, true, true, true, true, true, true, true, true, true, true, true, true, true, true, true, true, true, true, true, true, true, true, false, true, false, false, false, false, false, false, false, false, false, false, false, false, false, false, false, false, false, false, false, false, false, false, false, false, false] rfl rfl (any_of HT_.out (by kernel_rfl)) (fun _ _ _ h => h) (Or.inl ⟨by rfl, ?_⟩) ?_ ?_
                                              rotate_left
                                              · intro w'
                                                go_simp
                                                with_reducible rfl
                                              rotate_left
                                              · simp only [Act.put, List.setIfInBounds_toArray, List.set_cons_zero, List.set_cons_succ, i64_w, i32_w]
                                                rfl
                                              refine take_ (i := 29) (N := some 115) (v := ?_) (a' := ?_) #[true, true, true, true, true, true, true, true, true, true, true, true, true, true, true, true, true, true, true, true, true, true, true, true, true, true, true, true, true, true, true, false, false, false, false, false, false, false, false, false, false, false, false, false, false, false, false, false, false, false, false, false, false, false, false, false] rfl rfl (take_ofW HT_.out HW_.out (by kernel_rfl)) (fun _ _ _ h => h) (Or.inl ⟨by rfl, ?_⟩) hHeld ?_ ?_
                                              rotate_left
                                              · rintro w' ⟨s0, s1, s2, s3, s4, s5, s6, s7, s8, s9⟩
                                                go_simp
                                                with_reducible rfl
                                              rotate_left
                                              · simp only [Act.put, List.setIfInBounds_toArray, List.set_cons_zero, List.set_cons_succ, i64_w, i32_w]
                                                rfl
                                              refine take_ (i := 31) (N := some 117) (v := ?_) (a' := ?_) #[true, true, true, true, true, true, true, true, true, true, true, true, true, true, true, true, true, true, true, true, true, true, true, true, true, true, true, true, true, true, true, true, false, false, false, false, false, false, false, false, false, false, false, false, false, false, false, false, false, false, false, false, false, false, false, false] rfl rfl (take_ofW HT_.out HW_.out (by kernel_rfl)) (fun _ _ _ h => h) (Or.inl ⟨by rfl, ?_⟩) hHeld ?_ ?_
                                              rotate_left
                                              · rintro w' ⟨s0, s1, s2, s3, s4, s5, s6, s7, s8, s9⟩
                                                go_simp
                                                with_reducible rfl
                                              rotate_left
                                              · simp only [Act.put, List.setIfInBounds_toArray, List.set_cons_zero, List.set_cons_succ, i64_w, i32_w]
                                                rfl
                                              refine one_ (i := 32) (N := some 118) #[true, true, true, true, true, true, true, true, true, true, true, true, true, true, true, true, true, true, true, true, true, true, true, true, true, true, true, true, true, true, true, true, true, false, false, false, false, false, false, false, false, false, false, false, false, false, false, false, false, false, false, false, false, false, false, false] rfl rfl (one_of HT_.out (by kernel_rfl)) (by decide) (fun K hK => ?_)
                                              refine goes_ Tryz.func12 (by kernel_rfl) rfl #[.slice A270_1 ((rd_T34 t258 0).f1).length c270_1, .slice A0_1 l0_1.length c0_1] (by rfl) rfl rfl (by (try simp only [List.map_toArray, List.map_cons, List.map_nil]); first | done | rfl | (simp only [List.length_drop, List.length_take]; rfl)) ?_
                                              with_reducible refine (halterlaw36_texts.calls kj15 _ _ ((rd_T34 t258 0).f1) _ _ l0_1 true _ ?side1 ?side2 ?side3 ?side4 A47.out).mono ?_
                                              (case side1 => repeat (first | exact (by repeat (first | (with_reducible exact HR271_1.out) | (with_reducible refine Kd.C_alloc ?_ _) | (with_reducible refine Kd.C_drewN ?_ _) | (with_reducible refine Kd.C_drew ?_) | exact HR271_1.out)) | (with_reducible refine Kd.C_alloc ?_ _) | (with_reducible refine Kd.C_drewN ?_ _) | (with_reducible refine Kd.C_drew ?_)))
                                              (case side2 => exact HC271_1.out)
                                              (case side3 => repeat (first | exact (Kd.C_below HR0_1.out HB.out) | (with_reducible refine Kd.C_alloc ?_ _) | (with_reducible refine Kd.C_drewN ?_ _) | (with_reducible refine Kd.C_drew ?_)))
                                              (case side4 => exact HC0_1.out)
                                              rintro e w' ⟨rfl, ⟨nd, rfl⟩⟩
                                              refine ⟨_, rfl, ?_⟩
                                              refine hK.out _ _ ⟨(blk_cell BK244.out 0).trans rfl, (blk_cell BK244.out 1).trans rfl, hHeld.2.2.1, hHeld.2.2.2.1, hHeld.2.2.2.2.1, hHeld.2.2.2.2.2.1, hHeld.2.2.2.2.2.2.1, hHeld.2.2.2.2.2.2.2.1, hHeld.2.2.2.2.2.2.2.2.1, hHeld.2.2.2.2.2.2.2.2.2⟩ (fun hHeld => ?_)
                                              clear hK K
                                              refine norm_ (a' := ?_) ?_ ?_
                                              rotate_left
                                              · show Act.put _ (some 118) _ = _
                                                simp only [Act.put, List.setIfInBounds_toArray, List.set_cons_zero, List.set_cons_succ, i64_w, i32_w]
                                                rfl
                                              refine pure_ (i := 33) (N := some 119) (v := ?_) (a' := ?_) #[true, true, true, true, true, true, true, true, true, true, true, true, true, true, true, true, true, true, true, true, true, true, true, true, true, true, true, true, true, true, true, true, true, true, false, false, false, false, false, false, false, false, false, false, false, false, false, false, false, false, false, false, false, false, false, false] rfl rfl (any_of HT_.out (by kernel_rfl)) (fun _ _ _ h => h) (Or.inl ⟨by rfl, ?_⟩) ?_ ?_
                                              rotate_left
                                              · intro w'
                                                go_simp
                                                with_reducible rfl
                                              rotate_left
                                              · simp only [Act.put, List.setIfInBounds_toArray, List.set_cons_zero, List.set_cons_succ, i64_w, i32_w]
                                                rfl
                                              refine pure_ (i := 34) (N := some 120) (v := ?_) (a' := ?_) #[true, true, true, true, true, true, true, true, true, true, true, true, true, true, true, true, true, true, true, true, true, true, true, true, true, true, true, true, true, true, true, true, true, true, true, false, false, false, false, false, false, false, false, false, false, false, false, false, false, false, false, false, false, false, false, false] rfl rfl (any_of HT_.out (by kernel_rfl)) (fun _ _ _ h => h) (Or.inl ⟨by rfl, ?_⟩) ?_ ?_
                                              rotate_left
                                              · intro w'
                                                go_simp
                                                with_reducible rfl
                                              rotate_left
                                              · simp only [Act.put, List.setIfInBounds_toArray, List.set_cons_zero, List.set_cons_succ, i64_w, i32_w]
                                                rfl
                                              refine pure_ (i := 35) (N := some 121) (v := ?_) (a' := ?_) #[true, true, true, true, true, true, true, true, true, true, true, true, true, true, true, true, true, true, true, true, true, true, true, true, true, true, true, true, true, true, true, true, true, true, true, true, false, false, false, false, false, false, false, false, false, false, false, false, false, false, false, false, false, false, false, false] rfl rfl (any_of HT_.out (by kernel_rfl)) (fun _ _ _ h => h) (Or.inl ⟨by rfl, ?_⟩) ?_ ?_
                                              rotate_left
                                              · intro w'
                                                go_simp
                                                with_reducible rfl
                                              rotate_left
                                              · simp only [Act.put, List.setIfInBounds_toArray, List.set_cons_zero, List.set_cons_succ, i64_w, i32_w]
                                                rfl
                                              refine pure_ (i := 36) (N := some 122) (v := ?_) (a' := ?_) #[true, true, true, true, true, true, true, true, true, true, true, true, true, true, true, true, true, true, true, true, true, true, true, true, true, true, true, true, true, true, true, true, true, true, true, true, true, false, false, false, false, false, false, false, false, false, false, false, false, false, false, false, false, false, false, false] rfl rfl (any_of HT_.out (by kernel_rfl)) (fun _ _ _ h => h) (Or.inl ⟨by rfl, ?_⟩) ?_ ?_
                                              rotate_left
                                              · intro w'
                                                go_simp
                                                with_reducible rfl
                                              rotate_left
                                              · simp only [Act.put, List.setIfInBounds_toArray, List.set_cons_zero, List.set_cons_succ, i64_w, i32_w]
                                                rfl
                                              refine pure_ (i := 37) (N := some 123) (v := ?_) (a' := ?_) #[true, true, true, true, true, true, true, true, true, true, true, true, true, true, true, true, true, true, true, true, true, true, true, true, true, true, true, true, true, true, true, true, true, true, true, true, true, true, false, false, false, false, false, false, false, false, false, false, false, false, false, false, false, false, false, false] rfl rfl (any_of HT_.out (by kernel_rfl)) (fun _ _ _ h => h) (Or.inl ⟨by rfl, ?_⟩) ?_ ?_
                                              rotate_left
                                              · intro w'
                                                go_simp
                                                with_reducible rfl
                                              rotate_left
                                              · simp only [Act.put, List.setIfInBounds_toArray, List.set_cons_zero, List.set_cons_succ, i64_w, i32_w]
                                                rfl
                                              refine pure_ (i := 39) (N := some 125) (v := ?_) (a' := ?_) #[true, true, true, true, true, true, true, true, true, true, true, true, true, true, true, true, true, true, true, true, true, true, true, true, true, true, true, true, true, true, true, true, true, true, true, true, true, true, false, true, false, false, false, false, false, false, false, false, false, false, false, false, false, false, false, false] rfl rfl (any_of HT_.out (by kernel_rfl)) (fun _ _ _ h => h) (Or.inl ⟨by rfl, ?_⟩) ?_ ?_
                                              rotate_left
                                              · intro w'
                                                go_simp
                                                with_reducible rfl
                                              rotate_left
                                              · simp only [Act.put, List.setIfInBounds_toArray, List.set_cons_zero, List.set_cons_succ, i64_w, i32_w]
                                                rfl
                                              refine take_ (i := 38) (N := some 124) (v := ?_) (a' := ?_) #[true, true, true, true, true, true, true, true, true, true, true, true, true, true, true, true, true, true, true, true, true, true, true, true, true, true, true, true, true, true, true, true, true, true, true, true, true, true, true, true, false, false, false, false, false, false, false, false, false, false, false, false, false, false, false, false] rfl rfl (take_ofW HT_.out HW_.out (by kernel_rfl)) (fun _ _ _ h => h) (Or.inl ⟨by rfl, ?_⟩) hHeld ?_ ?_
                                              rotate_left
                                              · rintro w' ⟨s0, s1, s2, s3, s4, s5, s6, s7, s8, s9⟩
                                                go_simp
                                                with_reducible rfl
                                              rotate_left
                                              · simp only [Act.put, List.setIfInBounds_toArray, List.set_cons_zero, List.set_cons_succ, i64_w, i32_w]
                                                rfl
                                              refine take_ (i := 40) (N := some 126) (v := ?_) (a' := ?_) #[true, true, true, true, true, true, true, true, true, true, true, true, true, true, true, true, true, true, true, true, true, true, true, true, true, true, true, true, true, true, true, true, true, true, true, true, true, true, true, true, true, false, false, false, false, false, false, false, false, false, false, false, false, false, false, false] rfl rfl (take_ofW HT_.out HW_.out (by kernel_rfl)) (fun _ _ _ h => h) (Or.inl ⟨by rfl, ?_⟩) hHeld ?_ ?_
                                              rotate_left
                                              · rintro w' ⟨s0, s1, s2, s3, s4, s5, s6, s7, s8, s9⟩
                                                go_simp
                                                with_reducible rfl
                                              rotate_left
                                              · simp only [Act.put, List.setIfInBounds_toArray, List.set_cons_zero, List.set_cons_succ, i64_w, i32_w]
                                                rfl
                                              refine pure_ (i := 41) (N := some 127) (v := ?_) (a' := ?_) #[true, true, true, true, true, true, true, true, true, true, true, true, true, true, true, true, true, true, true, true, true, true, true, true, true, true, true, true, true, true, true, true, true, true, true, true, true, true, true, true, true, true, false, false, false, false, false, false, false, false, false, false, false, false, false, false] rfl rfl (any_of HT_.out (by kernel_rfl)) (fun _ _ _ h => h) (Or.inl ⟨by rfl, ?_⟩) ?_ ?_
                                              rotate_left
                                              · intro w'
                                                go_simp
                                                with_reducible rfl
                                              rotate_left
                                              · simp only [Act.put, List.setIfInBounds_toArray, List.set_cons_zero, List.set_cons_succ, i64_w, i32_w]
                                                rfl
                                              refine pure_ (i := 42) (N := some 128) (v := ?_) (a' := ?_) #[true, true, true, true, true, true, true, true, true, true, true, true, true, true, true, true, true, true, true, true, true, true, true, true, true, true, true, true, true, true, true, true, true, true, true, true, true, true, true, true, true, true, true, false, false, false, false, false, false, false, false, false, false, false, false, false] rfl rfl (any_of HT_.out (by kernel_rfl)) (fun _ _ _ h => h) (Or.inl ⟨by rfl, ?_⟩) ?_ ?_
                                              rotate_left
                                              · intro w'
                                                go_simp
                                                with_reducible rfl
                                              rotate_left
                                              · simp only [Act.put, List.setIfInBounds_toArray, List.set_cons_zero, List.set_cons_succ, i64_w, i32_w]
                                                rfl
                                              refine pure_ (i := 43) (N := some 129) (v := ?_) (a' := ?_) #[true, true, true, true, true, true, true, true, true, true, true, true, true, true, true, true, true, true, true, true, true, true, true, true, true, true, true, true, true, true, true, true, true, true, true, true, true, true, true, true, true, true, true, true, false, false, false, false, false, false, false, false, false, false, false, false] rfl rfl (any_of HT_.out (by kernel_rfl)) (fun _ _ _ h => h) (Or.inl ⟨by rfl, ?_⟩) ?_ ?_
                                              rotate_left
                                              · intro w'
                                                go_simp
                                                with_reducible rfl
                                              rotate_left
                                              · simp only [Act.put, List.setIfInBounds_toArray, List.set_cons_zero, List.set_cons_succ, i64_w, i32_w]
                                                rfl
                                              refine pure_ (i := 44) (N := some 130) (v := ?_) (a' := ?_) #[true, true, true, true, true, true, true, true, true, true, true, true, true, true, true, true, true, true, true, true, true, true, true, true, true, true, true, true, true, true, true, true, true, true, true, true, true, true, true, true, true, true, true, true, true, false, false, false, false, false, false, false, false, false, false, false] rfl rfl (any_of HT_.out (by kernel_rfl)) (fun _ _ _ h => h) (Or.inl ⟨by rfl, ?_⟩) ?_ ?_
                                              rotate_left
                                              · intro w'
                                                go_simp
                                                with_reducible rfl
                                              rotate_left
                                              · simp only [Act.put, List.setIfInBounds_toArray, List.set_cons_zero, List.set_cons_succ, i64_w, i32_w]
                                                rfl
                                              refine pure_ (i := 45) (N := some 131) (v := ?_) (a' := ?_) #[true, true, true, true, true, true, true, true, true, true, true, true, true, true, true, true, true, true, true, true, true, true, true, true, true, true, true, true, true, true, true, true, true, true, true, true, true, true, true, true, true, true, true, true, true, true, false, false, false, false, false, false, false, false, false, false] rfl rfl (any_of HT_.out (by kernel_rfl)) (fun _ _ _ h => h) (Or.inl ⟨by rfl, ?_⟩) ?_ ?_
                                              rotate_left
                                              · intro w'
                                                go_simp
                                                with_reducible rfl
                                              rotate_left
                                              · simp only [Act.put, List.setIfInBounds_toArray, List.set_cons_zero, List.set_cons_succ, i64_w, i32_w]
                                                rfl
                                              refine pure_ (i := 46) (N := some 132) (v := ?_) (a' := ?_) #[true, true, true, true, true, true, true, true, true, true, true, true, true, true, true, true, true, true, true, true, true, true, true, true, true, true, true, true, true, true, true, true, true, true, true, true, true, true, true, true, true, true, true, true, true, true, true, false, false, false, false, false, false, false, false, false] rfl rfl (any_of HT_.out (by kernel_rfl)) (fun _ _ _ h => h) (Or.inl ⟨by rfl, ?_⟩) ?_ ?_
                                              rotate_left
                                              · intro w'
                                                go_simp
                                                with_reducible rfl
                                              rotate_left
                                              · simp only [Act.put, List.setIfInBounds_toArray, List.set_cons_zero, List.set_cons_succ, i64_w, i32_w]
                                                rfl
                                              refine pure_ (i := 48) (N := some 134) (v := ?_) (a' := ?_) #[true, true, true, true, true, true, true, true, true, true, true, true, true, true, true, true, true, true, true, true, true, true, true, true, true, true, true, true, true, true, true, true, true, true, true, true, true, true, true, true, true, true, true, true, true, true, true, false, true, false, false, false, false, false, false, false] rfl rfl (any_of HT_.out (by kernel_rfl)) (fun _ _ _ h => h) (Or.inl ⟨by rfl, ?_⟩) ?_ ?_
                                              rotate_left
                                              · intro w'
                                                go_simp
                                                with_reducible rfl
                                              rotate_left
                                              · simp only [Act.put, List.setIfInBounds_toArray, List.set_cons_zero, List.set_cons_succ, i64_w, i32_w]
                                                rfl
                                              refine take_ (i := 47) (N := some 133) (v := ?_) (a' := ?_) #[true, true, true, true, true, true, true, true, true, true, true, true, true, true, true, true, true, true, true, true, true, true, true, true, true, true, true, true, true, true, true, true, true, true, true, true, true, true, true, true, true, true, true, true, true, true, true, true, true, false, false, false, false, false, false, false] rfl rfl (take_ofW HT_.out HW_.out (by kernel_rfl)) (fun _ _ _ h => h) (Or.inl ⟨by rfl, ?_⟩) hHeld ?_ ?_
                                              rotate_left
                                              · rintro w' ⟨s0, s1, s2, s3, s4, s5, s6, s7, s8, s9⟩
                                                go_simp
                                                with_reducible rfl
                                              rotate_left
                                              · simp only [Act.put, List.setIfInBounds_toArray, List.set_cons_zero, List.set_cons_succ, i64_w, i32_w]
                                                rfl
                                              refine take_ (i := 49) (N := some 135) (v := ?_) (a' := ?_) #[true, true, true, true, true, true, true, true, true, true, true, true, true, true, true, true, true, true, true, true, true, true, true, true, true, true, true, true, true, true, true, true, true, true, true, true, true, true, true, true, true, true, true, true, true, true, true, true, true, true, false, false, false, false, false, false] rfl rfl (take_ofW HT_.out HW_.out (by kernel_rfl)) (fun _ _ _ h => h) (Or.inl ⟨by rfl, ?_⟩) hHeld ?_ ?_
                                              rotate_left
                                              · rintro w' ⟨s0, s1, s2, s3, s4, s5, s6, s7, s8, s9⟩
                                                go_simp
                                                with_reducible rfl
                                              rotate_left
                                              · simp only [Act.put, List.setIfInBounds_toArray, List.set_cons_zero, List.set_cons_succ, i64_w, i32_w]
                                                rfl
                                              refine one_ (i := 50) (N := some 136) #[true, true, true, true, true, true, true, true, true, true, true, true, true, true, true, true, true, true, true, true, true, true, true, true, true, true, true, true, true, true, true, true, true, true, true, true, true, true, true, true, true, true, true, true, true, true, true, true, true, true, true, false, false, false, false, false] rfl rfl (one_of HT_.out (by kernel_rfl)) (by decide) (fun K hK => ?_)
                                              refine goes_ Tryz.func12 (by kernel_rfl) rfl #[.slice A273_1 ((rd_T34 t263 0).f1).length c273_1, .slice A0_1 l0_1.length c0_1] (by rfl) rfl rfl (by (try simp only [List.map_toArray, List.map_cons, List.map_nil]); first | done | rfl | (simp only [List.length_drop, List.length_take]; rfl)) ?_
                                              with_reducible refine (halterlaw36_texts.calls kj15 _ _ ((rd_T34 t263 0).f1) _ _ l0_1 true _ ?side1 ?side2 ?side3 ?side4 A51.out).mono ?_
                                              (case side1 => repeat (first | exact (by repeat (first | (with_reducible exact HR274_1.out) | (with_reducible refine Kd.C_alloc ?_ _) | (with_reducible refine Kd.C_drewN ?_ _) | (with_reducible refine Kd.C_drew ?_) | exact HR274_1.out)) | (with_reducible refine Kd.C_alloc ?_ _) | (with_reducible refine Kd.C_drewN ?_ _) | (with_reducible refine Kd.C_drew ?_)))
                                              (case side2 => exact HC274_1.out)
                                              (case side3 => repeat (first | exact (Kd.C_below HR0_1.out (by repeat (first | (with_reducible first | exact HB.out | apply below_alloc | apply pw_below_drewN | apply below_drew1 | refine below_set ?_ GE244.out) | exact HB.out))) | (with_reducible refine Kd.C_alloc ?_ _) | (with_reducible refine Kd.C_drewN ?_ _) | (with_reducible refine Kd.C_drew ?_)))
                                              (case side4 => exact HC0_1.out)
                                              rintro e w' ⟨rfl, ⟨nd, rfl⟩⟩
                                              refine ⟨_, rfl, ?_⟩
                                              refine hK.out _ _ ⟨(blk_cell BK244.out 0).trans rfl, (blk_cell BK244.out 1).trans rfl, hHeld.2.2.1, hHeld.2.2.2.1, hHeld.2.2.2.2.1, hHeld.2.2.2.2.2.1, hHeld.2.2.2.2.2.2.1, hHeld.2.2.2.2.2.2.2.1, hHeld.2.2.2.2.2.2.2.2.1, hHeld.2.2.2.2.2.2.2.2.2⟩ (fun hHeld => ?_)
                                              clear hK K
                                              refine norm_ (a' := ?_) ?_ ?_
                                              rotate_left
                                              · show Act.put _ (some 136) _ = _
                                                simp only [Act.put, List.setIfInBounds_toArray, List.set_cons_zero, List.set_cons_succ, i64_w, i32_w]
                                                rfl
                                              refine pure_ (i := 51) (N := some 137) (v := ?_) (a' := ?_) #[true, true, true, true, true, true, true, true, true, true, true, true, true, true, true, true, true, true, true, true, true, true, true, true, true, true, true, true, true, true, true, true, true, true, true, true, true, true, true, true, true, true, true, true, true, true, true, true, true, true, true, true, false, false, false, false] rfl rfl (any_of HT_.out (by kernel_rfl)) (fun _ _ _ h => h) (Or.inl ⟨by rfl, ?_⟩) ?_ ?_
                                              rotate_left
                                              · intro w'
                                                go_simp
                                                with_reducible rfl
                                              rotate_left
                                              · simp only [Act.put, List.setIfInBounds_toArray, List.set_cons_zero, List.set_cons_succ, i64_w, i32_w]
                                                rfl
                                              refine pure_ (i := 52) (N := some 138) (v := ?_) (a' := ?_) #[true, true, true, true, true, true, true, true, true, true, true, true, true, true, true, true, true, true, true, true, true, true, true, true, true, true, true, true, true, true, true, true, true, true, true, true, true, true, true, true, true, true, true, true, true, true, true, true, true, true, true, true, true, false, false, false] rfl rfl (any_of HT_.out (by kernel_rfl)) (fun _ _ _ h => h) (Or.inl ⟨by rfl, ?_⟩) ?_ ?_
                                              rotate_left
                                              · intro w'
                                                go_simp
                                                with_reducible rfl
                                              rotate_left
                                              · simp only [Act.put, List.setIfInBounds_toArray, List.set_cons_zero, List.set_cons_succ, i64_w, i32_w]
                                                rfl
                                              refine one_ (i := 53) (N := some 139) #[true, true, true, true, true, true, true, true, true, true, true, true, true, true, true, true, true, true, true, true, true, true, true, true, true, true, true, true, true, true, true, true, true, true, true, true, true, true, true, true, true, true, true, true, true, true, true, true, true, true, true, true, true, true, false, false] rfl rfl (one_of HT_.out (by kernel_rfl)) (by decide) (fun K hK => ?_)
                                              refine goes_ Tryz.func8 (by kernel_rfl) rfl #[] (by rfl) rfl rfl (by (try simp only [List.map_toArray, List.map_cons, List.map_nil]); first | done | rfl | (simp only [List.length_drop, List.length_take]; rfl)) ?_
                                              with_reducible refine (halterlaw36_sure.calls kj15  t276 _ ?side1 A53.out).mono ?_
                                              (case side1 => exact Hand.Glob.below HG.out (by repeat (first | (with_reducible first | exact HB.out | apply below_alloc | apply pw_below_drewN | apply below_drew1 | refine below_set ?_ GE244.out) | exact HB.out)))
                                              rintro e w61 ⟨rfl, hb⟩
                                              have HS2_ := (hb.cell (World.block_lt_of_cell? _ _ (hHeld.2.2.1))).trans (hHeld.2.2.1)
                                              have HS3_ := (hb.cell (World.block_lt_of_cell? _ _ (hHeld.2.2.2.1))).trans (hHeld.2.2.2.1)
                                              have HS4_ := (hb.cell (World.block_lt_of_cell? _ _ (hHeld.2.2.2.2.1))).trans (hHeld.2.2.2.2.1)
                                              have HS5_ := (hb.cell (World.block_lt_of_cell? _ _ (hHeld.2.2.2.2.2.1))).trans (hHeld.2.2.2.2.2.1)
                                              have HS6_ := (hb.cell (World.block_lt_of_cell? _ _ (hHeld.2.2.2.2.2.2.1))).trans (hHeld.2.2.2.2.2.2.1)
                                              have HS7_ := (hb.cell (World.block_lt_of_cell? _ _ (hHeld.2.2.2.2.2.2.2.1))).trans (hHeld.2.2.2.2.2.2.2.1)
                                              have HS8_ := (hb.cell (World.block_lt_of_cell? _ _ (hHeld.2.2.2.2.2.2.2.2.1))).trans (hHeld.2.2.2.2.2.2.2.2.1)
                                              have HS9_ := (hb.cell (World.block_lt_of_cell? _ _ (hHeld.2.2.2.2.2.2.2.2.2))).trans (hHeld.2.2.2.2.2.2.2.2.2)
                                              refine ⟨_, rfl, ?_⟩
                                              have n6_ := Aside0.mk (blk_below (g := gb244) (o := .cells #[.string a0_0, .slice A0_1 l0_1.length c0_1] 35 (0, 0)) (by (with_reducible repeat (first | refine blk_drewN ?_ _ | refine blk_drew ?_ | refine blk_alloc ?_ _)); exact BK244.out) hb)
                                              have n11_ := Aside0.mk (below_step (by repeat (first | (with_reducible first | exact HB.out | apply below_alloc | apply pw_below_drewN | apply below_drew1 | refine below_set ?_ GE244.out) | exact HB.out)) hb)
                                              clear HO260
                                              clear HO265
                                              clear HL270_1
                                              clear HL271_1
                                              clear HL273_1
                                              clear HL274_1
                                              clear BK244
                                              clear HR270_1
                                              clear HR271_1
                                              clear HR273_1
                                              clear HR274_1
                                              clear HB
                                              have BK244 := n6_
                                              have HB := n11_
                                              clear n6_ n11_
                                              (try clear hb)
                                              (try clear hb2)
                                              (try clear hk)
                                              (try clear hi)
                                              refine hK.out _ _ ⟨(blk_cell BK244.out 0).trans rfl, (blk_cell BK244.out 1).trans rfl, HS2_, HS3_, HS4_, HS5_, HS6_, HS7_, HS8_, HS9_⟩ (fun hHeld => ?_)
                                              clear hK K
                                              refine norm_ (a' := ?_) ?_ ?_
                                              rotate_left
                                              · show Act.put _ (some 139) _ = _
                                                simp only [Act.put, List.setIfInBounds_toArray, List.set_cons_zero, List.set_cons_succ, i64_w, i32_w]
                                                rfl
                                              refine pure_ (i := 54) (N := some 140) (v := ?_) (a' := ?_) #[true, true, true, true, true, true, true, true, true, true, true, true, true, true, true, true, true, true, true, true, true, true, true, true, true, true, true, true, true, true, true, true, true, true, true, true, true, true, true, true, true, true, true, true, true, true, true, true, true, true, true, true, true, true, true, false] rfl rfl (any_of HT_.out (by kernel_rfl)) (fun _ _ _ h => h) (Or.inl ⟨by rfl, ?_⟩) ?_ ?_
                                              rotate_left
                                              · intro w'
                                                go_simp
                                                with_reducible rfl
                                              rotate_left
                                              · simp only [Act.put, List.setIfInBounds_toArray, List.set_cons_zero, List.set_cons_succ, i64_w, i32_w]
                                                rfl
                                              refine pure_ (i := 55) (N := some 4) (v := ?_) (a' := ?_) #[true, true, true, true, true, true, true, true, true, true, true, true, true, true, true, true, true, true, true, true, true, true, true, true, true, true, true, true, true, true, true, true, true, true, true, true, true, true, true, true, true, true, true, true, true, true, true, true, true, true, true, true, true, true, true, true] rfl rfl (any_of HT_.out (by kernel_rfl)) (fun _ _ _ h => h) (Or.inl ⟨by rfl, ?_⟩) ?_ ?_
                                              rotate_left
                                              · intro w'
                                                go_simp
                                                with_reducible rfl
                                              rotate_left
                                              · simp only [Act.put, List.setIfInBounds_toArray, List.set_cons_zero, List.set_cons_succ, i64_w, i32_w]
                                                rfl
                                              refine done_ (done_of HT_.out (by kernel_rfl)) ?_
                                              try go_wp2
                                              go_ret
                                              exact ⟨by first | rfl | (simp [errW_none, errW_some] <;> rfl) | (simp only [← hji37]; first | rfl | (simp [errW_none, errW_some] <;> rfl)) | (simp [*, errW_none, errW_some] <;> rfl), by repeat (first | (with_reducible first | exact HB.out | apply below_alloc | apply pw_below_drewN | apply below_drew1 | refine below_set ?_ GE244.out) | exact HB.out)⟩
                                            · replace c52 := Bool.eq_false_iff.mpr c52
                                              subst c52
                                              have H1 : (none) = some r := by rw [if_neg (show ¬ (false = true) by decide)] at H; exact H
                                              clear H
                                              have H := H1
                                              clear H1
                                              exact absurd H (by simp)
                                          · rw [if_neg c50] at H
                                            have c50b0 : (((rd_T34 t263 0).f0).toList == a0_0.toList) = false := beq_eq_false_iff_ne.mpr c50
                                            have c50b1 : (((rd_T34 t263 0).f0).toList != a0_0.toList) = true := bne_iff_ne.mpr c50
                                            exact absurd H (by simp)
                                        · rw [if_neg c49] at H
                                          exact absurd H (by simp)
                                      · replace c48 := Bool.eq_false_iff.mpr c48
                                        subst c48
                                        have H1 : (none) = some r := by rw [if_neg (show ¬ (false = true) by decide)] at H; exact H
                                        clear H
                                        have H := H1
                                        clear H1
                                        exact absurd H (by simp)
                                    · rw [if_neg c46] at H
                                      have c46b0 : (((rd_T34 t258 0).f0).toList == a0_0.toList) = false := beq_eq_false_iff_ne.mpr c46
                                      have c46b1 : (((rd_T34 t258 0).f0).toList != a0_0.toList) = true := bne_iff_ne.mpr c46
                                      exact absurd H (by simp)
                                  · rw [if_neg c45] at H
                                    exact absurd H (by simp)
                                · rw [if_neg c44] at H
                                  have c44b0 : ((t263.length : Int) == 1) = false := beq_eq_false_iff_ne.mpr c44
                                  have c44b1 : ((t263.length : Int) != 1) = true := bne_iff_ne.mpr c44
                                  exact absurd H (by simp)
                              · rw [if_neg c43] at H
                                have c43b0 : ((t258.length : Int) == 1) = false := beq_eq_false_iff_ne.mpr c43
                                have c43b1 : ((t258.length : Int) != 1) = true := bne_iff_ne.mpr c43
                                exact absurd H (by simp)
                            · have H1 : (none) = some r := by rw [if_neg (show ¬ (some q269).isNone = true by simp)] at H; exact H
                              clear H
                              have H := H1
                              clear H1
                              try simp only [errW_none, errW_some]
                              exact absurd H (by simp)
                          · have H1 : (none) = some r := by rw [if_neg (show ¬ (some q268).isNone = true by simp)] at H; exact H
                            clear H
                            have H := H1
                            clear H1
                            try simp only [errW_none, errW_some]
                            exact absurd H (by simp)
                        · rw [if_neg c41] at H
                          exact absurd H (by simp)
                      · rw [if_neg c40] at H
                        exact absurd H (by simp)
                    · rw [if_neg c39] at H
                      exact absurd H (by simp)
                  · rw [if_neg c38] at H
                    exact absurd H (by simp)
              · have H1 : (if t255.toList = ([] : List UInt8) then ((halterlaw36_sure.f kj15).bind fun t277 => (some t277)) else (none)) = some r := by rw [if_neg (show ¬ (some q257).isNone = true by simp)] at H; exact H
                clear H
                have H := H1
                clear H1
                try simp only [errW_none, errW_some]
                by_cases c62 : t255.toList = ([] : List UInt8)
                · rw [if_pos c62] at H
                  have c62b0 : (t255.toList == ([] : List UInt8)) = true := beq_iff_eq.mpr c62
                  have c62b1 : (t255.toList != ([] : List UInt8)) = false := bne_eq_false_iff_eq.mpr c62
                  clear c62
                  replace H := Option.bind_eq_some_iff.mp H
                  obtain ⟨t277, A630, H⟩ := H
                  replace H : (some t277) = some r := H
                  have A63 := Aside0.mk A630
                  clear A630
                  obtain rfl := Option.some.inj H
                  have hcz64_0 : wc.cell? ⟨gb244, 0, none⟩ = some (.string a0_0) := (blk_cell BK244.out 0).trans rfl
                  have hcz64_1 : wc.cell? ⟨gb244, 1, none⟩ = some (.slice A0_1 l0_1.length c0_1) := (blk_cell BK244.out 1).trans rfl
                  have hfz64_0 := blk_frozen BK244.out 0
                  have hfz64_1 := blk_frozen BK244.out 1
                  go_wp2_with (first | ((with_reducible refine gate_callee (f := 16) rfl ?_); refine goesL_ (some 55) rfl rfl Tryz.func16 (by kernel_rfl) rfl #[.agg #[.string a0_0, .slice A0_1 l0_1.length c0_1]] rfl (by (try simp only [List.map_toArray, List.map_cons, List.map_nil]); first | done | rfl | (simp only [List.length_drop, List.length_take]; rfl)) ?_; (with_reducible refine (Hand.script_Print.calls a0_0 _ _ l0_1 t255 (some q257) _ ?side1 ?side2 ?side3 A34.out).mono ?_); (case side1 => repeat (first | exact (Kd.C_below HR0_1.out HB.out) | (with_reducible refine Kd.C_alloc ?_ _) | (with_reducible refine Kd.C_drewN ?_ _) | (with_reducible refine Kd.C_drew ?_))); (case side2 => exact HC0_1.out); (case side3 => exact Hand.Glob.below HG.out (by repeat (first | (with_reducible first | exact HB.out | apply below_alloc | apply pw_below_drewN | apply below_drew1 | refine below_set ?_ GE244.out) | exact HB.out))); rintro e w65 ⟨rfl, hb⟩; refine ⟨_, rfl, ?_⟩; have n0_ := Aside0.mk (blk_below (g := gb244) (o := .cells #[.string a0_0, .slice A0_1 l0_1.length c0_1] 35 (0, 0)) (by (with_reducible repeat (first | refine blk_drewN ?_ _ | refine blk_drew ?_ | refine blk_alloc ?_ _)); exact BK244.out) hb); have n1_ := Aside0.mk (below_step (by repeat (first | (with_reducible first | exact HB.out | apply below_alloc | apply pw_below_drewN | apply below_drew1 | refine below_set ?_ GE244.out) | exact HB.out)) hb); clear BK244; clear HB; have BK244 := n0_; have HB := n1_; clear n0_ n1_; (try clear hb); (try clear hb2); (try clear hk); (try clear hi); (try simp only [errW_none, errW_some])) | (go_at_call 8; (with_reducible refine (halterlaw36_sure.calls kj15  t277 _ ?side1 A63.out).mono ?_); (case side1 => exact Hand.Glob.below HG.out (by repeat (first | (with_reducible first | exact HB.out | apply below_alloc | apply pw_below_drewN | apply below_drew1 | refine below_set ?_ GE244.out) | exact HB.out))); rintro e w66 ⟨rfl, hb⟩; have n0_ := Aside0.mk (blk_below (g := gb244) (o := .cells #[.string a0_0, .slice A0_1 l0_1.length c0_1] 35 (0, 0)) (by (with_reducible repeat (first | refine blk_drewN ?_ _ | refine blk_drew ?_ | refine blk_alloc ?_ _)); exact BK244.out) hb); have n1_ := Aside0.mk (below_step (by repeat (first | (with_reducible first | exact HB.out | apply below_alloc | apply pw_below_drewN | apply below_drew1 | refine below_set ?_ GE244.out) | exact HB.out)) hb); clear BK244; clear HB; have BK244 := n0_; have HB := n1_; clear n0_ n1_; (try clear hb); (try clear hb2); (try clear hk); (try clear hi)))
                  go_ret
                  exact ⟨by first | rfl | (simp [errW_none, errW_some] <;> rfl) | (simp [*, errW_none, errW_some] <;> rfl), by repeat (first | (with_reducible first | exact HB.out | apply below_alloc | apply pw_below_drewN | apply below_drew1 | refine below_set ?_ GE244.out) | exact HB.out)⟩
                · rw [if_neg c62] at H
                  exact absurd H (by simp)
end Go.Proofs.YtinleajhckcapaaGreatDoor.P
namespace Go.Proofs.YtinleajhckcapaaGreatDoor.Hand
open Go Go.RowKit Go.Proofs.YtinleajhckcapaaGreatDoorW.PrintWords Go.Proofs.YtinleajhckcapaaGreatDoorW.PrintLast
def okB (c : UInt8) : Bool := decide (33 ≤ c.toNat ∧ c.toNat ≤ 126 ∧ c.toNat ≠ 37)
def fineW (l : Bs) : Bool := decide (l ≠ []) && l.all okB
theorem fineW_of {l : Bs} (h0 : l ≠ []) (h : l.all okB = true) : fineW l = true := by
  unfold fineW
  rw [decide_eq_true h0, h]
  rfl
theorem fineW_ne {l : Bs} (h : fineW l = true) : l ≠ [] := by
  unfold fineW at h
  rw [Bool.and_eq_true] at h
  exact of_decide_eq_true h.1
theorem fineW_all {l : Bs} (h : fineW l = true) : l.all okB = true := by
  unfold fineW at h
  rw [Bool.and_eq_true] at h
  exact h.2
theorem all_imp {p q : UInt8 → Bool} (hp : ∀ c, p c = true → q c = true) {l : Bs} (h : l.all p = true) : l.all q = true :=
  List.all_eq_true.2 fun c hc => hp c (List.all_eq_true.1 h c hc)
theorem ok_dig (c : UInt8) (h : isDig c = true) : okB c = true := by
  unfold isDig at h
  unfold okB
  have := of_decide_eq_true h
  exact decide_eq_true (by omega)
theorem ok_vis (c : UInt8) (h : visB c = true) : okB c = true := by
  unfold visB at h
  unfold okB
  have := of_decide_eq_true h
  exact decide_eq_true (by omega)
theorem ok_fine (c : UInt8) (h : fineL.contains c = true) : okB c = true := by
  rw [fine_eq] at h
  unfold okB
  have := of_decide_eq_true h
  exact decide_eq_true (by omega)
theorem ok_hexa (c : UInt8) (h : hexaL.contains c = true) : okB c = true := by
  have h1 : hexaL.all okB = true := by decide
  exact List.all_eq_true.1 h1 c (List.contains_iff_mem.1 h)
theorem join_cons2 (a b : Bs) (l : List Bs) (sep : Bs) : Lib.join (a :: b :: l) sep = a ++ (sep ++ Lib.join (b :: l) sep) := by simp [Lib.join, List.intercalate]
theorem join_all (q : UInt8 → Bool) (sep : Bs) (hs : sep.all q = true) : ∀ ps : List Bs, (∀ p ∈ ps, p.all q = true) → (Lib.join ps sep).all q = true
  | [], _ => rfl
  | [a], h => by rw [Lib.join_one]; exact h a (List.mem_singleton.2 rfl)
  | a :: b :: l, h => by
    rw [join_cons2, List.all_append, List.all_append, h a (List.mem_cons_self ..), hs, join_all q sep hs (b :: l) (fun p hp => h p (List.mem_cons_of_mem _ hp))]
    rfl
theorem fits_fine (c : UInt8) (l : Bs) (h : fitsB c l = true) : fineW l = true := by
  unfold fitsB at h
  by_cases h1 : c = 110
  · rw [if_pos h1, numOf_isSome, Bool.and_eq_true] at h
    have h2 := h.1
    unfold canonB at h2
    rw [Bool.and_eq_true] at h2
    exact fineW_of (of_decide_eq_true h2.2).1 (all_imp ok_dig h2.1)
  · rw [if_neg h1] at h
    by_cases h2 : c = 112
    · rw [if_pos h2] at h
      unfold placeB at h
      rw [Bool.and_eq_true, Bool.and_eq_true] at h
      have h4 : joinP (parts l) = l := of_decide_eq_true h.2
      rw [← h4]
      refine fineW_of (by unfold joinP; exact List.cons_ne_nil _ _) ?_
      unfold joinP
      rw [List.all_cons, join_all okB [47] (by decide) (parts l) (fun p hp => ?_)]
      · rfl
      · have h5 := List.all_eq_true.1 h.1.2 p hp
        unfold pathCheckB at h5
        rw [Bool.and_eq_true] at h5
        exact all_imp ok_fine h5.2
    · rw [if_neg h2] at h
      by_cases h3 : c = 104
      · rw [if_pos h3] at h
        unfold bytesB at h
        rw [Bool.or_eq_true] at h
        rcases h with h | h
        · rw [of_decide_eq_true h]
          decide
        · rw [Bool.and_eq_true] at h
          exact fineW_of (of_decide_eq_true h.1).1 (all_imp ok_hexa h.2)
      · rw [if_neg h3, nameB_eq, Bool.and_eq_true] at h
        exact fineW_of (of_decide_eq_true h.2).1 (all_imp ok_vis h.1)
theorem needs_fine (v : Bs) (p : Bs × Bool) (h : needs v = some p) : fineW v = true := by
  by_cases hk : ∃ k, k < 18 ∧ v = (verbT.getD k ([], [])).1
  · obtain ⟨k, hk, rfl⟩ := hk
    have hall : ∀ j : Fin 18, fineW (verbT.getD j.1 ([], [])).1 = true := by decide
    exact hall ⟨k, hk⟩
  · have hm := needT_miss v (fun k hk' e => hk ⟨k, hk', e⟩)
    unfold needT at hm
    rw [h] at hm
    obtain ⟨s, more⟩ := p
    exact absurd (congrArg Prod.snd hm) (by simp)
theorem chk_fine (v : Bs) (a : List Bs) (h : chk v a = true) : ∀ x ∈ v :: a, fineW x = true := by
  unfold chk at h
  cases hn : needs v with
  | none => rw [hn] at h; cases h
  | some p =>
    rw [hn] at h
    obtain ⟨s, more⟩ := p
    simp only [Bool.and_eq_true] at h
    intro x hx
    rcases List.mem_cons.1 hx with rfl | hx
    · exact needs_fine x _ hn
    · obtain ⟨i, hi, rfl⟩ := List.mem_iff_getElem.1 hx
      have h2 := List.all_eq_true.1 h.2 i (List.mem_range.2 hi)
      have h3 := fits_fine _ _ h2
      simpa [List.getD_eq_getElem?_getD, hi] using h3
theorem ok_blank {l : Bs} (h : l.all okB = true) : ∀ c ∈ l, blankB c = false ∧ c ≠ 37 ∧ c ≠ 10 := by
  intro c hc
  have h1 := List.all_eq_true.1 h c hc
  unfold okB at h1
  have h2 := of_decide_eq_true h1
  have ne : ∀ q : UInt8, c.toNat ≠ q.toNat → c ≠ q := fun q h e => h (by rw [e])
  refine ⟨?_, ne 37 h2.2.2, ne 10 (by have : (10 : UInt8).toNat = 10 := rfl; omega)⟩
  unfold blankB
  rw [Bool.or_eq_false_iff]
  exact ⟨beq_eq_false_iff_ne.2 (ne 32 (by have : (32 : UInt8).toNat = 32 := rfl; omega)), beq_eq_false_iff_ne.2 (ne 9 (by have : (9 : UInt8).toNat = 9 := rfl; omega))⟩
theorem go_word : ∀ (w acc rest : Bs), (∀ c ∈ w, blankB c = false) → wordsGo blankB acc (w ++ rest) = wordsGo blankB (acc ++ w) rest
  | [], acc, rest, _ => by rw [List.nil_append, List.append_nil]
  | c :: w, acc, rest, h => by
    rw [List.cons_append, wordsGo, if_neg (by rw [h c (List.mem_cons_self ..)]; decide), go_word w _ rest (fun x hx => h x (List.mem_cons_of_mem _ hx)), List.append_assoc]
    rfl
theorem go_join (rest : Bs) (hr : rest = [] ∨ rest = [32]) : ∀ ws : List Bs, (∀ w ∈ ws, fineW w = true) → wordsGo blankB [] (Lib.join ws [32] ++ rest) = ws
  | [], _ => by
    rw [Lib.join_nil, List.nil_append]
    rcases hr with rfl | rfl <;> rfl
  | [a], h => by
    have hf := h a (List.mem_singleton.2 rfl)
    rw [Lib.join_one, go_word a [] rest (fun c hc => (ok_blank (fineW_all hf) c hc).1), List.nil_append]
    rcases hr with rfl | rfl
    · rw [wordsGo, if_neg (fineW_ne hf)]
    · rw [wordsGo, if_pos (by decide), if_neg (fineW_ne hf)]
      rfl
  | a :: b :: l, h => by
    have hf := h a (List.mem_cons_self ..)
    rw [join_cons2, List.append_assoc, go_word a [] _ (fun c hc => (ok_blank (fineW_all hf) c hc).1), List.nil_append, List.append_assoc, List.singleton_append, wordsGo, if_pos (by decide), if_neg (fineW_ne hf),
      go_join rest hr (b :: l) (fun w hw => h w (List.mem_cons_of_mem _ hw))]
def lineB (c : UInt8) : Bool := okB c || c == 32
theorem line_all (ws : List Bs) (h : ∀ w ∈ ws, fineW w = true) : (Lib.join ws [32]).all lineB = true :=
  join_all lineB [32] (by decide) ws fun p hp => all_imp (fun c hc => by unfold lineB; rw [hc]; rfl) (fineW_all (h p hp))
theorem line_ne {l : Bs} (h : l.all lineB = true) : ∀ c ∈ l, c ≠ 37 ∧ c ≠ 10 := by
  intro c hc
  have h1 := List.all_eq_true.1 h c hc
  unfold lineB at h1
  rw [Bool.or_eq_true] at h1
  rcases h1 with h1 | h1
  · exact (ok_blank (l := [c]) (by rw [List.all_cons, h1]; rfl) c (List.mem_singleton.2 rfl)).2
  · have := eq_of_beq h1
    subst this
    decide
theorem pieces_cut (rest : Bs) : ∀ l : Bs, (∀ c ∈ l, c ≠ 10) → pieces 10 (l ++ 10 :: rest) = l :: pieces 10 rest
  | [], _ => by rw [List.nil_append]; exact pieces_eq 10 10 rest rfl
  | x :: l, h => by
    rw [List.cons_append]
    exact pieces_other 10 x _ l (pieces 10 rest) (h x (List.mem_cons_self ..)) (pieces_cut rest l fun c hc => h c (List.mem_cons_of_mem _ hc))
theorem tw_all (l rest : Bs) (h : ∀ c ∈ l, c ≠ 37) : (l ++ rest).takeWhile (fun c => decide (c ≠ 37)) = l ++ rest.takeWhile (fun c => decide (c ≠ 37)) :=
  List.takeWhile_append_of_pos fun c hc => decide_eq_true (h c hc)
theorem parseGo_blank (l : Bs) (r : List Bs) (n : Int) (out : List P.S34) (h : words (l.takeWhile (fun c => decide (c ≠ 37))) = []) : parseGo (l :: r) n out = parseGo r (n + 1) out := by
  rw [parseGo]
  simp only [ne_eq, decide_not] at h ⊢
  rw [h]
theorem parseGo_cmd (l : Bs) (r : List Bs) (n : Int) (v : Bs) (a : List Bs) (h : words (l.takeWhile (fun c => decide (c ≠ 37))) = v :: a) (hk : chk v a = true) : parseGo (l :: r) n [] = parseGo r (n + 1) [⟨mkB v, a.map mkB⟩] := by
  rw [parseGo]
  simp only [ne_eq, decide_not] at h ⊢
  rw [h]
  simp only
  rw [if_neg (by rw [hk]; decide), if_neg (by decide)]
  rfl
theorem back1 (v : Bs) (a : List Bs) (hk : chk v a = true) : parseGo (pieces 10 (Lib.join (v :: a) [32] ++ [10])) 0 [] = ([⟨mkB v, a.map mkB⟩], 0, none) := by
  have hf := chk_fine v a hk
  have hl := line_ne (line_all _ hf)
  rw [pieces_cut [] _ (fun c hc => (hl c hc).2), parseGo_cmd _ _ _ v a (by
    have := tw_all _ [] (fun c hc => (hl c hc).1)
    rw [List.append_nil] at this
    rw [this, List.takeWhile_nil, words]
    exact go_join [] (.inl rfl) _ hf) hk]
  rfl
theorem back2 (v : Bs) (a : List Bs) (hk : chk v a = true) : parseGo (pieces 10 ([37, 10, 32, 9] ++ Lib.join (v :: a) [32] ++ [32, 37, 32, 110, 111, 116, 101, 10, 10])) 0 [] = ([⟨mkB v, a.map mkB⟩], 0, none) := by
  have hf := chk_fine v a hk
  have hl := line_ne (line_all _ hf)
  have q1 : ∀ c ∈ ([32, 9] : Bs), c ≠ 37 ∧ c ≠ 10 := by decide
  have q2 : ∀ c ∈ ([32] : Bs), c ≠ 37 := by decide
  have q3 : ∀ c ∈ ([32, 37, 32, 110, 111, 116, 101] : Bs), c ≠ 10 := by decide
  generalize hJ : Lib.join (v :: a) [32] = J at hl
  have e : [37, 10, 32, 9] ++ J ++ [32, 37, 32, 110, 111, 116, 101, 10, 10] = [37] ++ (10 : UInt8) :: (([32, 9] ++ J ++ [32, 37, 32, 110, 111, 116, 101]) ++ (10 : UInt8) :: ([] ++ (10 : UInt8) :: [])) := by simp
  rw [e, pieces_cut _ [37] (by decide), pieces_cut _ ([32, 9] ++ J ++ [32, 37, 32, 110, 111, 116, 101]) (fun c hc => ?_), pieces_cut _ [] (by decide), parseGo_blank _ _ _ _ (by decide), parseGo_cmd _ _ _ v a ?_ hk]
  · rfl
  · have e2 : [32, 9] ++ J ++ [32, 37, 32, 110, 111, 116, 101] = ([32, 9] ++ J ++ [32]) ++ [37, 32, 110, 111, 116, 101] := by simp
    rw [e2, tw_all _ _ (fun c hc => ?_)]
    · rw [show ([37, 32, 110, 111, 116, 101] : Bs).takeWhile (fun c => decide (c ≠ 37)) = [] from by decide, List.append_nil, List.append_assoc]
      show wordsGo blankB [] ([32, 9] ++ (J ++ [32])) = _
      have e3 : wordsGo blankB [] ([32, 9] ++ (J ++ [32])) = wordsGo blankB [] (J ++ [32]) := rfl
      rw [e3, ← hJ]
      exact go_join [32] (.inr rfl) _ hf
    · rcases List.mem_append.1 hc with hc | hc
      · rcases List.mem_append.1 hc with hc | hc
        · exact (q1 c hc).1
        · exact (hl c hc).1
      · exact q2 c hc
  · rcases List.mem_append.1 hc with hc | hc
    · rcases List.mem_append.1 hc with hc | hc
      · exact (q1 c hc).2
      · exact (hl c hc).2
    · exact q3 c hc
def hexT (l : List Int) : Bs := l.flatMap fun c => [hexaL.getD (c.toNat / 16) 0, hexaL.getD (c.toNat % 16) 0]
theorem hexT_length (l : List Int) : (hexT l).length = 2 * l.length := by
  unfold hexT
  induction l with
  | nil => rfl
  | cons c l ih => rw [List.flatMap_cons, List.length_append, ih]; simp; omega
theorem nib (q : Nat) (h : q < 16) : hexv (hexaL.getD q 0) = q ∧ hexaL.contains (hexaL.getD q 0) = true := by
  have : ∀ p : Fin 16, hexv (hexaL.getD p.1 0) = p.1 ∧ hexaL.contains (hexaL.getD p.1 0) = true := by decide
  exact this ⟨q, h⟩
theorem hexT_pairs (l : List Int) (hb : ∀ c ∈ l, 0 ≤ c ∧ c < 256) : pairsOf (hexT l) = l ∧ (hexT l).all (hexaL.contains ·) = true := by
  unfold hexT
  induction l with
  | nil => exact ⟨rfl, rfl⟩
  | cons c l ih =>
    have hc := hb c (List.mem_cons_self ..)
    obtain ⟨h1, h2⟩ := ih fun x hx => hb x (List.mem_cons_of_mem _ hx)
    have n1 := nib (c.toNat / 16) (by omega)
    have n2 := nib (c.toNat % 16) (by omega)
    rw [List.flatMap_cons]
    constructor
    · rw [List.cons_append, List.cons_append, List.nil_append, pairsOf, h1, n1.1, n2.1]
      congr 1
      omega
    · show ([hexaL.getD (c.toNat / 16) 0, hexaL.getD (c.toNat % 16) 0] ++ l.flatMap _).all _ = true
      rw [List.all_append, h2, List.all_cons, List.all_cons, n1.2, n2.2]
      rfl
theorem bytes_back (l : List Int) (hb : ∀ c ∈ l, 0 ≤ c ∧ c < 256) (hl : l.length ≤ 1500) : ∃ s, script_Hex.f l = some s ∧ script_Bytes.f s = some (if l.length ≤ 512 then (l, none) else ([], some 337)) := by
  have hall : l.all (fun c => decide (0 ≤ c ∧ c < 256)) = true := List.all_eq_true.2 fun c hc => decide_eq_true (hb c hc)
  unfold script_Hex.f
  rw [if_pos ⟨by omega, hall⟩]
  by_cases h0 : l = []
  · subst h0
    exact ⟨_, rfl, by kernel_rfl⟩
  · rw [if_neg h0]
    refine ⟨_, rfl, ?_⟩
    show script_Bytes.f (mkB (hexT l)) = _
    obtain ⟨h1, h2⟩ := hexT_pairs l hb
    have h3 := hexT_length l
    have hp := List.length_pos_iff.2 h0
    have hne : ¬ (hexT l) = [45] := fun e => by rw [e] at h3; simp at h3; omega
    unfold script_Bytes.f
    have hd : (mkB (hexT l)).data.toList = hexT l := rfl
    rw [mkB_size, if_pos (by omega), hd, if_neg hne, h1]
    unfold bytesB
    rw [h2, decide_eq_false hne, Bool.false_or, Bool.and_true]
    by_cases h5 : l.length ≤ 512
    · rw [if_pos h5, decide_eq_true ⟨fun e => by rw [e] at h3; simp at h3; omega, by omega, by omega⟩]
      rfl
    · rw [if_neg h5, decide_eq_false (by omega)]
      rfl
theorem wsum (n m : Nat) (hn : n ≤ 140737488351232) (hm : m ≤ 5000) : wrap64 ((n : Int) + (m : Int)) = ((n + m : Nat) : Int) := by
  rw [wrap_id (by omega) (by omega)]
  omega
theorem wsum1 (n : Nat) (hn : n ≤ 140737488360000) : wrap64 ((n : Int) + 1) = ((n + 1 : Nat) : Int) := by
  rw [wrap_id (by omega) (by omega)]
  omega
theorem mn5000 (z : Nat) : ∃ m : Nat, mn (z : Int) 5000 = (m : Int) ∧ m ≤ 5000 ∧ (m < 5000 → m = z) := by
  by_cases h : z < 5000
  · exact ⟨z, by unfold mn; split <;> omega, by omega, fun _ => rfl⟩
  · exact ⟨5000, by unfold mn; split <;> omega, by omega, fun h => absurd h (by omega)⟩
theorem big_loop (v : ByteArray) (l : List ByteArray) (hl : l.length ≤ 140737488351232) : ∀ (d i n k : Nat), l.length - i = d → i ≤ l.length → n ≤ 140737488351232 → d < k →
    ∃ b, P.halterlaw36_bigCommand.l0 k (n : Int) (i : Int) v l = some b ∧ (b = false → n + ((l.drop i).map ByteArray.size).sum + (l.length - i) ≤ 3000) := by
  intro d
  induction d with
  | zero =>
    intro i n k hd hi hn hk
    obtain ⟨k, rfl⟩ : ∃ m, k = m + 1 := ⟨k - 1, by omega⟩
    simp only [P.halterlaw36_bigCommand.l0]
    rw [if_neg (by omega)]
    refine ⟨_, rfl, fun h => ?_⟩
    have := of_decide_eq_false h
    rw [List.drop_eq_nil_of_le (by omega)]
    simp
    omega
  | succ d ih =>
    intro i n k hd hi hn hk
    obtain ⟨k, rfl⟩ : ∃ m, k = m + 1 := ⟨k - 1, by omega⟩
    have hlt : i < l.length := by omega
    have hsum : ((l.drop i).map ByteArray.size).sum = l[i].size + ((l.drop (i + 1)).map ByteArray.size).sum := by rw [List.drop_eq_getElem_cons hlt, List.map_cons, List.sum_cons]
    simp only [P.halterlaw36_bigCommand.l0]
    rw [if_pos (by omega), if_pos (by omega), rdOf_at l i hlt, hsum]
    generalize l[i].size = z
    obtain ⟨m, hm, hm5, hmz⟩ := mn5000 z
    rw [hm, wsum n m hn hm5, wsum1 (n + m) (by clear hsum ih; omega), wsum1 i (by clear hsum ih; omega)]
    clear hm
    by_cases h1 : ((n + m + 1 : Nat) : Int) > 3000
    · rw [if_pos h1]
      exact ⟨true, rfl, fun h => by cases h⟩
    · rw [if_neg h1]
      by_cases h2 : (i : Int) > 60
      · rw [if_pos h2]
        exact ⟨true, rfl, fun h => by cases h⟩
      · rw [if_neg h2]
        have h3 : n + m + 1 ≤ 3000 := by clear hsum ih hl hn; omega
        clear h1 h2 hn
        obtain ⟨b, g1, g2⟩ := ih (i + 1) (n + m + 1) k (by omega) (by omega) (by omega) (by omega)
        refine ⟨b, g1, fun h => ?_⟩
        have g3 := g2 h
        have g4 := hmz (by omega)
        clear ih hl hmz g2 hsum
        omega
theorem extract_front (l : Bs) (n : Nat) (h : n = l.length) : (mkB (l ++ [10])).extract 0 n = mkB l := by
  subst h
  rw [ext_mk]
  congr 1
  show ((l ++ [10]).drop 0).take _ = _
  simp
theorem back_j1 (v : ByteArray) (l : List ByteArray) (hs : v.size + (l.map ByteArray.size).sum + l.length ≤ 3000) (K : Nat) (hK : ∀ k, K ≤ k → P.halterlaw36_sure.f k = some true) (k : Nat) (hk : 4000 + K ≤ k) : P.halterlaw36_ScriptBack.j1 k false v l = some true := by
  obtain ⟨k, rfl⟩ : ∃ m, k = m + 1 := ⟨k - 1, by omega⟩
  have hP : script_Print.f v l = some (if chk v.data.toList (bsOf l) then (mkB (Lib.join (v.data.toList :: bsOf l) [32] ++ [10]), none) else (mkB [], some 337)) := by
    unfold script_Print.f
    rw [if_pos ⟨by omega, by rw [foldl_sum]; omega⟩]
  simp only [P.halterlaw36_ScriptBack.j1]
  rw [if_neg Bool.false_ne_true, hP, Option.bind_some]
  by_cases hk2 : chk v.data.toList (bsOf l) = true
  · rw [if_pos hk2]
    simp only
    have hb1 := back1 _ _ hk2
    have hb2 := back2 _ _ hk2
    have hjl : (Lib.join (v.data.toList :: bsOf l) [32]).length ≤ 6001 := by
      have h1 := join_le [32] (v.data.toList :: bsOf l)
      have h2 : ((bsOf l).map List.length) = l.map ByteArray.size := by
        unfold bsOf
        rw [List.map_map]
        exact List.map_congr_left (fun x _ => data_length x)
      have h4 : (bsOf l).length = l.length := by simp [bsOf]
      rw [List.map_cons, List.sum_cons, h2, data_length] at h1
      simp only [List.length_cons, List.length_nil] at h1
      omega
    have hmb : (bsOf l).map mkB = l := by
      unfold bsOf
      rw [List.map_map]
      exact List.map_id'' (fun x => rfl) l
    rw [hmb, mk_self] at hb1 hb2
    generalize Lib.join (v.data.toList :: bsOf l) [32] = J at hjl hb1 hb2
    have hz : (mkB (J ++ [10])).size = J.length + 1 := by rw [mkB_size, List.length_append]; rfl
    have hw : wrap64 (((mkB (J ++ [10])).size : Int) - 1) = (J.length : Int) := by rw [hz, wrap_id (by omega) (by omega)]; omega
    have hx : (mkB (J ++ [10])).extract 0 ((J.length : Int) : Int).toNat = mkB J := extract_front J _ (by omega)
    have ha : ((⟨#[37, 10, 32, 9]⟩ : ByteArray) ++ mkB J) ++ (⟨#[32, 37, 32, 110, 111, 116, 101, 10, 10]⟩ : ByteArray) = mkB ([37, 10, 32, 9] ++ J ++ [32, 37, 32, 110, 111, 116, 101, 10, 10]) := by
      show (mkB [37, 10, 32, 9] ++ mkB J) ++ mkB [32, 37, 32, 110, 111, 116, 101, 10, 10] = _
      rw [mkB_app, mkB_app]
    have ha1 : ((⟨#[37, 10, 32, 9]⟩ : ByteArray) ++ mkB J).size = 4 + J.length := by
      show (mkB [37, 10, 32, 9] ++ mkB J).size = _
      rw [mkB_app, mkB_size, List.length_append]
      rfl
    have hp1 : script_Parse.f (mkB (J ++ [10])) = some ([⟨v, l⟩], 0, none) := by
      unfold script_Parse.f
      rw [if_neg (by omega)]
      exact congrArg some hb1
    have hp2 : script_Parse.f (mkB ([37, 10, 32, 9] ++ J ++ [32, 37, 32, 110, 111, 116, 101, 10, 10])) = some ([⟨v, l⟩], 0, none) := by
      unfold script_Parse.f
      rw [if_neg (by rw [mkB_size]; simp; omega)]
      exact congrArg some hb2
    have ht := texts_eq l (by omega) k (by omega)
    have hr : P.rd_T34 [(⟨v, l⟩ : P.S34)] 0 = ⟨v, l⟩ := rfl
    have h01 : (0 : Int) < (([(⟨v, l⟩ : P.S34)].length : Nat) : Int) := Int.one_pos
    rw [if_pos (show (none : Option Int).isNone = true from rfl), if_neg (by omega), hp1, Option.bind_some, hw, if_pos (by omega), if_pos (by omega), hx, if_pos (by rw [mkB_size]; omega), if_pos (by omega), ha, hp2, Option.bind_some]
    simp only [hr]
    rw [if_pos (show (none : Option Int).isNone = true from rfl), if_pos (show (none : Option Int).isNone = true from rfl), if_pos (by rfl), if_pos (by rfl), if_pos h01, if_pos trivial, ht, Option.bind_some, if_pos rfl, if_pos h01, if_pos trivial, Option.bind_some, if_pos rfl, hK k (by omega), Option.bind_some]
  · rw [if_neg hk2]
    simp only
    rw [if_neg (by decide), if_pos ((mkB_nil []).2 rfl), hK k (by omega), Option.bind_some]
theorem back_law (v : ByteArray) (l : List ByteArray) (b : List Int) (hv : v.size ≤ 140737488351232) (hl : l.length ≤ 140737488351232) (hb : ∀ c ∈ b, 0 ≤ c ∧ c < 256) : ∃ k, P.halterlaw36_ScriptBack.f k v l b = some true := by
  have hK : ∀ k, 5 ≤ k → P.halterlaw36_sure.f k = some true := sure_yes
  obtain ⟨r, h1, h2⟩ := big_loop v l hl l.length 0 v.size (l.length + 5000) (by omega) (by omega) hv (by omega)
  refine ⟨l.length + 5000, ?_⟩
  unfold P.halterlaw36_ScriptBack.f P.halterlaw36_bigCommand.f
  rw [show ((0 : Int)) = ((0 : Nat) : Int) from rfl, h1, Option.bind_some]
  have hj0 : ∀ c, P.halterlaw36_ScriptBack.j0 (l.length + 5000) b true c l = some true := fun c => by
    rw [show l.length + 5000 = (l.length + 4999) + 1 by omega]
    simp only [P.halterlaw36_ScriptBack.j0]
    rw [if_pos trivial, hK _ (by omega), Option.bind_some]
  cases r with
  | true => rw [if_pos rfl]; exact hj0 v
  | false =>
    rw [if_neg (by decide)]
    by_cases hbl : (b.length : Int) > 1500
    · rw [decide_eq_true hbl]
      exact hj0 v
    · rw [decide_eq_false hbl, show l.length + 5000 = (l.length + 4999) + 1 by omega]
      have hs : v.size + (l.map ByteArray.size).sum + l.length ≤ 3000 := by have := h2 rfl; rw [List.drop_zero] at this; omega
      have hj1 := back_j1 v l hs 5 hK (l.length + 4999) (by omega)
      obtain ⟨s, g1, g2⟩ := bytes_back b hb (by omega)
      simp only [P.halterlaw36_ScriptBack.j0]
      rw [if_neg Bool.false_ne_true, g1, Option.bind_some, g2, Option.bind_some]
      by_cases h5 : b.length ≤ 512
      · rw [if_pos h5, if_pos (by omega)]
        simp only
        rw [if_pos (show (none : Option Int).isNone = true from rfl), if_pos trivial, if_neg (by omega)]
        exact hj1
      · rw [if_neg h5, if_neg (by omega), if_pos (by omega)]
        unfold num36.f
        rw [Option.bind_some]
        exact hj1
end Go.Proofs.YtinleajhckcapaaGreatDoor.Hand
namespace Go.Proofs.YtinleajhckcapaaGreatDoor.Law36B
open Go Go.ChangeShapes Go.WideShapes Go.ChangeAt Go.RowKit Go.Proofs.YtinleajhckcapaaGreatDoor.Hand Go.Proofs.YtinleajhckcapaaGreatDoor.RowBase Go.Proofs.YtinleajhckcapaaGreatDoorW.PrintWords
set_option maxRecDepth 100000 in
theorem lifted (os : Os) (started : os.Started) (H : Type) (enc : TypeId × Value → H) :
    ReturnsInHanded {} Tryz.checked os 4 .any (fun w args => (Rows.scriptBackSpec.pre enc Tryz.prog Tryz.f4 Rows.scriptBackRow.domain false w args ∧ laidMetH Tryz.prog Rows.scriptBackRow.laid w) ∧ sizedMet enc Tryz.prog Tryz.f4 (OpenSpec.ofChange Rows.scriptBackSpec) false w args)
      (Rows.scriptBackSpec.post enc Tryz.prog Tryz.f4 false true false false) := by
  refine returnsInHanded_both (C := Tryz.checked) (X := fun w _ => laidMetH Tryz.prog Rows.scriptBackRow.laid w) (fun _ _ _ hh h => h.of_heap hh) own started (by kernel_rfl) Tryz.func4
    (ChangeSpec.witness_shaped (enc := enc) (C := Tryz.checked) (os := os) (X := fun w _ => laidMetH Tryz.prog Rows.scriptBackRow.laid w) false (RowBase.start os) #[.agg #[.string ByteArray.empty, .slice none 0 0], .slice none 0 0] 8 (RowBase.start_os os)
      (World.shaped_of_ZipB (by kernel_rfl) (by kernel_rfl)) (by kernel_rfl) (by kernel_rfl) (by kernel_rfl) (RowBase.start_met os _)) ?_
  intro W base args ds gs before hval0 hW hcnd hsz0 hL hsh _
  have hsz : (DataW.weightsEach Tryz.prog (Tryz.f4.params.toList ++ Rows.scriptBackSpec.plain.varTypes Tryz.prog) (ds ++ gs)).all (· ≤ reachBytes) = true := hsz0
  have hval : ∀ (j : Nat) t v, Tryz.f4.params[j]? = some t → args[j]? = some v → Value.okWide Tryz.prog W .any base t v := hval0
  have hW' := hW
  have hg := glob_of_laid hsh hL
  obtain ⟨p, q, hA0, hV, rfl, hfz, hnd⟩ := hW
  have hA : DataW.TrodAll enc Tryz.prog W 0 (fun _ => true) true Tryz.f4.params.toList args.toList ds p := hA0
  rw [Tryz.params4] at hA hval hsz
  obtain ⟨v0, vs0, d0, ds0, p0, q0, hargs, rfl, rfl, h0, r0⟩ := trodAll_cons hA
  obtain ⟨v1, vs1, d1, ds1, p1, q1, rfl, rfl, rfl, h1, r1⟩ := trodAll_cons r0
  obtain ⟨rfl, rfl, rfl⟩ := trodAll_nil r1
  obtain rfl : args = #[v0, v1] := by cases args; simp_all
  obtain ⟨rfl, rfl⟩ := trodVars_none hV
  have lt0 : ∀ x ∈ p0, x.block < W.heap.size := by obtain ⟨m, hm⟩ := h0; exact DataW.trod_lt m _ _ _ hm
  have lt1 : ∀ x ∈ p1, x.block < W.heap.size := by obtain ⟨m, hm⟩ := h1; exact DataW.trod_lt m _ _ _ hm
  obtain ⟨x0, hx0, hv0, hl0⟩ := opens_arg opens35 h0 hsz (j := 0) rfl rfl
  obtain ⟨x1, hx1, -, hq1⟩ := opens_arg opens38 h1 hsz (j := 1) rfl rfl
  obtain ⟨cs0, hcs0, -⟩ := okWide_struct Tryz.underlying35 (hval 0 35 v0 rfl rfl)
  obtain ⟨a1, len1, cap1, hcs1⟩ := okWide_slice Tryz.underlying38 (hval 1 38 v1 rfl rfl)
  subst hcs0 hcs1
  obtain ⟨A0, c0, e0, hle0, hC0⟩ := P.k35_open hx0
  obtain ⟨A1, c1, e1, hle1, hC1⟩ := hx1
  obtain rfl : cs0 = #[.string x0.f0, .slice A0 x0.f1.length c0] := Array.toList_inj.1 e0
  have e1' : Value.slice a1 len1 cap1 = .slice A1 x1.length c1 := List.cons.inj e1 |>.1
  injection e1' with e1 e2 e3
  subst e1 e2 e3
  clear hA0 hval0 hsz0 hsz hx0
  obtain ⟨k, hk⟩ := back_law x0.f0 x0.f1 x1 hv0 hl0 (fun c hc => wf_u8 (hq1 c hc))
  refine (P.halterlaw36_ScriptBack.calls k x0.f0 A0 c0 x0.f1 _ _ x1 true W hC0 hle0 hC1 hle1 hg hk).mono fun e W' ⟨he, bel⟩ => ?_
  subst he
  exact ⟨_, rfl, _, _, _, [], _, [], hW', trodAll_mk1 (shut_bool Tryz.underlying4 _), (trodAll_cons_mk (Below.trod laidOut (by kernel_rfl) (of_decide_eq_true (by kernel_rfl)) h0 bel lt0) (trodAll_cons_mk (Below.trod laidOut (by kernel_rfl) (of_decide_eq_true (by kernel_rfl)) h1 bel lt1) trodAll_mk0)), rfl, bel.frame _, fun h => by cases h⟩
theorem row_holds : Rows.ScriptBackSaid :=
  OpenClaim.holds_of_wide 4 Tryz.f4 rfl rfl rfl rfl rfl rfl rfl ⟨rfl, rfl, rfl, rfl, rfl⟩ rfl rfl rfl rfl rfl (by kernel_rfl) Tryz.func4 (by kernel_rfl)
    (of_decide_eq_true (by kernel_rfl)) (by unfold Func.isWrapper; first | (rw [if_pos (by decide +kernel)]; kernel_rfl) | (rw [if_neg (by decide +kernel)]; exact ⟨rfl, rfl⟩))
    (fun os started H enc _ => lifted os started H enc)
#print axioms row_holds
theorem card_holds : Rows.ScriptBackCardSaid :=
  Claim7.holds_tied_plain_at .later [] [.data, .data, .data, .data, .handle, .sentinel, .sentinel, .pinned] true (true, "749a1ae7d44183e61de45f79d9dd1e7c03421c317d8b8111820811eae11c808f") true
    row_holds (fun _ h => by cases h) (by kernel_rfl) (fun _ h => by cases h) scriptBack_row_tie rfl ⟨rfl, rfl⟩ (by kernel_rfl) rfl
    (fun f fn hf hfn => by
      obtain rfl : f = 4 := Option.some.inj ((show Tryz.prog.funcNamed "halter/halterlaw36.ScriptBack" = some 4 by kernel_rfl).symm.trans hf) |>.symm
      obtain rfl : fn = Tryz.f4 := (Option.some.inj (Tryz.func4.symm.trans hfn)).symm
      exact ⟨by kernel_rfl, fun j t ht => by
        rw [Tryz.params4] at ht
        have hm : t ∈ [35, 38] := by simpa using Array.mem_of_getElem? ht
        have hall : ([35, 38].all fun u => !Tryz.prog.wantsStandIn u) = true := by kernel_rfl
        exact (show Tryz.prog.wantsStandIn t = false by simpa using List.all_eq_true.1 hall t hm)⟩)
    (by kernel_rfl)
#print axioms card_holds
end Go.Proofs.YtinleajhckcapaaGreatDoor.Law36B
