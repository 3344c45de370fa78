import Derived.Test.YtpmmfckgfbdboaaDoorM2x0
import Derived.Test.YtpmmfckgfbdboaaDoorM2x1
section
namespace Go.Proofs.YtpmmfckgfbdboaaDoor.G
open Go.RowKit Go.Proofs.YtpmmfckgfbdboaaDoorW.PrintWords Go.Proofs.YtpmmfckgfbdboaaDoorW.PrintLast Go.Proofs.YtpmmfckgfbdboaaDoorW.PrintMore
attribute [local go_sem] max2_int min2_int max_two min_two max_three min_three max_four min_four   -- for this text's walks alone
set_option linter.unusedVariables false
set_option linter.unusedSimpArgs false

/-! ### tables_grammar_valid: function 56 -/
mutual
def tables_grammar_valid.j0 : Nat → List (S56) → Bool → Option (Bool)
  | 0, _, _ => none
  | k + 1, x0, x12 => if x12 = true then (some false) else (tables_grammar_valid.l0 k x0 x0 (x0.length : Int) 0)
def tables_grammar_valid.l0 : Nat → List (S56) → List (S56) → Int → Int → Option (Bool)
  | 0, _, _, _, _ => none
  | k + 1, x0, x13, x14, x15 => if x15 < x14 then (if 0 ≤ x15 then (if x15 < (x13.length : Int) then ((tables_isPart.f ((rd_T56 x13 x15).f0)).bind fun t108 => (if t108 = true then (if (((rd_T56 x13 x15).f1).size : Int) > 4 then (some false) else ((strings_Trim.f ((rd_T56 x13 x15).f1) (⟨#[65, 66, 67, 68, 69, 97, 98, 99, 100]⟩ : ByteArray)).bind fun t109 => (if t109.toList = ([] : List UInt8) then (if x15 ≤ (x0.length : Int) then ((tables_Rule_91.f k (x0.take (x15 : Int).toNat) ((rd_T56 x13 x15).f0) ((rd_T56 x13 x15).f1)).bind fun t114 => (if t114 = true then (some false) else (tables_grammar_valid.l0 k x0 x13 x14 (wrap64 (x15 + 1))))) else (none)) else (some false)))) else (some false))) else (none)) else (none)) else (some true)
end
def tables_grammar_valid.f (k : Nat) (l0 : List (S56)) : Option (Bool) := if (l0.length : Int) < 1 then (tables_grammar_valid.j0 k l0 true) else (tables_grammar_valid.j0 k l0 (decide ((l0.length : Int) > 8)))
theorem tables_grammar_valid.mono_l : ∀ k, (∀ y0 y1, LeO (tables_grammar_valid.j0 k y0 y1) (tables_grammar_valid.j0 (k + 1) y0 y1)) ∧ (∀ y0 y1 y2 y3, LeO (tables_grammar_valid.l0 k y0 y1 y2 y3) (tables_grammar_valid.l0 (k + 1) y0 y1 y2 y3))
  | 0 => ⟨fun _ _ r h => by simp [tables_grammar_valid.j0] at h, fun _ _ _ _ r h => by simp [tables_grammar_valid.l0] at h⟩
  | k + 1 => by
    obtain ⟨ih0, ih1⟩ := tables_grammar_valid.mono_l k
    refine ⟨?_, ?_⟩
    · intro y0 y1
      unfold tables_grammar_valid.j0
      repeat' first
      | (with_reducible exact ih0 _ _)
      | (with_reducible exact ih1 _ _ _ _)
      | (with_reducible exact tables_Rule_91.mono _ _ _ _)
      | (with_reducible exact LeO.refl _)
      | (with_reducible exact LeO.none _)
      | (with_reducible refine LeO.ite ?_ ?_)
      | (with_reducible refine LeO.bind ?_ (fun _ => ?_))
      | exact ih0 _ _
      | exact ih1 _ _ _ _
      | exact tables_Rule_91.mono _ _ _ _
      | exact LeO.none _
      | refine LeO.ite ?_ ?_
      | refine LeO.bind ?_ (fun _ => ?_)
    · intro y0 y1 y2 y3
      unfold tables_grammar_valid.l0
      repeat' first
      | (with_reducible exact ih0 _ _)
      | (with_reducible exact ih1 _ _ _ _)
      | (with_reducible exact tables_Rule_91.mono _ _ _ _)
      | (with_reducible exact LeO.refl _)
      | (with_reducible exact LeO.none _)
      | (with_reducible refine LeO.ite ?_ ?_)
      | (with_reducible refine LeO.bind ?_ (fun _ => ?_))
      | exact ih0 _ _
      | exact ih1 _ _ _ _
      | exact tables_Rule_91.mono _ _ _ _
      | exact LeO.none _
      | refine LeO.ite ?_ ?_
      | refine LeO.bind ?_ (fun _ => ?_)
theorem tables_grammar_valid.mono : ∀ a0 k, LeO (tables_grammar_valid.f k a0) (tables_grammar_valid.f (k + 1) a0) := by
  intro a0 k
  obtain ⟨ih0, ih1⟩ := tables_grammar_valid.mono_l k
  unfold tables_grammar_valid.f
  repeat' first
      | (with_reducible exact ih0 _ _)
      | (with_reducible exact ih1 _ _ _ _)
      | (with_reducible exact tables_Rule_91.mono _ _ _ _)
      | (with_reducible exact LeO.refl _)
      | (with_reducible exact LeO.none _)
      | (with_reducible refine LeO.ite ?_ ?_)
      | (with_reducible refine LeO.bind ?_ (fun _ => ?_))
      | exact ih0 _ _
      | exact ih1 _ _ _ _
      | exact tables_Rule_91.mono _ _ _ _
      | exact LeO.none _
      | refine LeO.ite ?_ ?_
      | refine LeO.bind ?_ (fun _ => ?_)
def tables_grammar_valid.T6 : Bool × List (List Nat × List Nat) := (true, [([], []), ([0], [0]), ([1], [1]), ([2], [2]), ([3, 2], [3]), ([4], [4]), ([5, 4], [4, 5]), ([6, 4], [4, 6]), ([7, 4], [4, 7]), ([4, 8], [4, 8]), ([9, 4], [9]), ([10], [10]), ([11, 10], [10, 11]), ([12, 10, 10], [10, 12]), ([13, 10], [10, 13]), ([10, 14], [10, 14]), ([15, 13], [15]), ([16], [16]), ([16], [16]), ([17, 18, 16], [16, 17, 18]), ([16], [16]), ([19, 20, 16, 16], [16, 19, 20]), ([16, 21], [16, 21])])
def tables_grammar_valid.B6 : List Nat := [0, 1, 3, 7, 15, 31, 63, 127, 255, 511, 1023, 2047, 4095, 8191, 16383, 32767, 65535, 131071, 131071, 524287, 131071, 2097151, 4194303]
theorem tables_grammar_valid.tab6 : rtab .any (opsOf Tryd.f56 6) = tables_grammar_valid.T6 := by kernel_rfl
theorem tables_grammar_valid.bits6 : waitsOk tables_grammar_valid.T6.2 tables_grammar_valid.B6 = true := by kernel_rfl
set_option maxHeartbeats 8000000 in
set_option maxRecDepth 100000 in
theorem tables_grammar_valid.calls (k : Nat) (A0 : Option Addr) (c0 : Nat) (l0 : List (S56)) (r : Bool) (w : World) (hr0 : Kd.C k56 w A0 l0.length l0) (hc0 : l0.length ≤ c0) (h : tables_grammar_valid.f k l0 = some r) :
    Calls Tryd.prog 56 #[.slice A0 l0.length c0] w fun e w' => e = .returned (.bool r) ∧ Below w.heap.size w w' := by
  have hu56 := Tryd.underlying56
  have HR0 := Aside0.mk hr0
  have HC0 := Aside0.mk hc0
  clear hr0 hc0
  have HB := Aside0.mk (Below.refl w.heap.size w)
  have H : (if (l0.length : Int) < 1 then (tables_grammar_valid.j0 k l0 true) else (tables_grammar_valid.j0 k l0 (decide ((l0.length : Int) > 8)))) = some r := h
  clear h
  have HC2 := Aside0.mk H
  clear H
  go_enter Tryd.func56, Tryd.ntmps56
  go_upto_region 1 with (fail)
  go_cut [12] (fun v12 wc => ∃ (kq : Nat) (x12_1 : Bool), v12 = .bool x12_1 ∧ Aside0 (tables_grammar_valid.j0 kq l0 x12_1 = some r) ∧ Aside0 (kq ≤ k) ∧ Aside0 (Below w.heap.size w wc))
  case first =>
    have H := HC2.out
    clear HC2
    by_cases c3 : (l0.length : Int) < 1
    · rw [if_pos c3] at H
      have c3b0 : decide ((l0.length : Int) < 1) = true := decide_eq_true c3
      have c3b1 : decide (l0.length < 1) = true := decide_eq_true (by omega)
      clear c3
      (first | rw [c3b0] | (simp only [i64_w, i32_w]; rw [c3b0]) | skip)
      have H' := Aside0.mk H
      clear H
      go_wp2
      go_meet
      case rel => exact ⟨_, (true), (by first | rfl | (simp; done) | (simp [*]; done)), H', ⟨by first | omega | exact Nat.le_refl _⟩, ⟨by repeat (first | (with_reducible first | exact HB.out | apply below_alloc | apply pw_below_drewN | apply below_drew1) | exact HB.out)⟩⟩
    · rw [if_neg c3] at H
      have c3b0 : decide ((l0.length : Int) < 1) = false := decide_eq_false c3
      have c3b1 : decide (l0.length < 1) = false := decide_eq_false (by omega)
      clear c3
      (first | rw [c3b0] | (simp only [i64_w, i32_w]; rw [c3b0]) | skip)
      have H' := Aside0.mk H
      clear H
      go_wp2
      go_meet
      case rel => exact ⟨_, (decide ((l0.length : Int) > 8)), (by first | rfl | (simp; done) | (simp [*]; done)), H', ⟨by first | omega | exact Nat.le_refl _⟩, ⟨by repeat (first | (with_reducible first | exact HB.out | apply below_alloc | apply pw_below_drewN | apply below_drew1) | exact HB.out)⟩⟩
  case rest =>
    clear HC2
    try clear p2
    try clear c3
    try clear c3b0
    try clear c3b1
    obtain ⟨kq, x12_1, rfl, HA, HJ1, HB⟩ := hcut
    cases kq with
    | zero => exact absurd HA.out (by simp [tables_grammar_valid.j0])
    | succ kj1 =>
      have H := HA.out
      clear HA
      simp only [tables_grammar_valid.j0] at H
      by_cases c4 : x12_1 = true
      · subst c4
        have H1 : (some false) = some r := by rw [if_pos rfl] at H; exact H
        clear H
        have H := H1
        clear H1
        obtain rfl := Option.some.inj H
        go_wp2
        go_ret
        exact ⟨by first | rfl | (simp [errW_none, errW_some] <;> rfl) | (simp [*, errW_none, errW_some] <;> rfl), by repeat (first | (with_reducible first | exact HB.out | apply below_alloc | apply pw_below_drewN | apply below_drew1) | exact HB.out)⟩
      · replace c4 := Bool.eq_false_iff.mpr c4
        subst c4
        have H1 : (tables_grammar_valid.l0 kj1 l0 l0 (l0.length : Int) 0) = some r := by rw [if_neg (show ¬ (false = true) by decide)] at H; exact H
        clear H
        have H := H1
        clear H1
        have H' := Aside0.mk H
        clear H
        go_wp2
        go_loopg [15] kj1 (fun kq v15 w' => ∃ (x15_2 : Int), v15 = .int .i64 x15_2 ∧ Aside0 (tables_grammar_valid.l0 kq l0 l0 (l0.length : Int) x15_2 = some r) ∧ Aside0 (kq ≤ kj1) ∧ Aside0 (Below w.heap.size w w'))
        case atStart => exact ⟨(0), (by first | rfl | (simp; done) | (simp [*]; done)), H', ⟨Nat.le_refl _⟩, ⟨by repeat (first | (with_reducible first | exact HB.out | apply below_alloc | apply pw_below_drewN | apply below_drew1) | exact HB.out)⟩⟩
        case round =>
          clear H'
          try clear p2
          try clear c3
          try clear c3b0
          try clear c3b1
          try clear c4
          try clear p2
          obtain ⟨x15_2, rfl, HA, HK2, HB⟩ := hrel
          cases gk with
          | zero => exact absurd HA.out (by simp [tables_grammar_valid.l0])
          | succ k2 =>
            have H := HA.out
            clear HA
            simp only [tables_grammar_valid.l0] at H
            by_cases c5 : x15_2 < (l0.length : Int)
            · rw [if_pos c5] at H
              have c5b0 : decide (x15_2 < (l0.length : Int)) = true := decide_eq_true c5
              clear c5
              by_cases c6 : 0 ≤ x15_2
              · rw [if_pos c6] at H
                have c6b0 : decide (0 ≤ x15_2) = true := decide_eq_true c6
                clear c6
                by_cases c7 : x15_2 < (l0.length : Int)
                · rw [if_pos c7] at H
                  have c7b0 : decide (x15_2 < (l0.length : Int)) = true := decide_eq_true c7
                  clear c7
                  replace H := Option.bind_eq_some_iff.mp H
                  obtain ⟨t108, A80, H⟩ := H
                  replace H : (if t108 = true then (if (((rd_T56 l0 x15_2).f1).size : Int) > 4 then (some false) else ((strings_Trim.f ((rd_T56 l0 x15_2).f1) (⟨#[65, 66, 67, 68, 69, 97, 98, 99, 100]⟩ : ByteArray)).bind fun t109 => (if t109.toList = ([] : List UInt8) then (if x15_2 ≤ (l0.length : Int) then ((tables_Rule_91.f k2 (l0.take (x15_2 : Int).toNat) ((rd_T56 l0 x15_2).f0) ((rd_T56 l0 x15_2).f1)).bind fun t114 => (if t114 = true then (some false) else (tables_grammar_valid.l0 k2 l0 l0 (l0.length : Int) (wrap64 (x15_2 + 1))))) else (none)) else (some false)))) else (some false)) = some r := H
                  have A8 := Aside0.mk A80
                  clear A80
                  by_cases c9 : t108 = true
                  · subst c9
                    have H1 : (if (((rd_T56 l0 x15_2).f1).size : Int) > 4 then (some false) else ((strings_Trim.f ((rd_T56 l0 x15_2).f1) (⟨#[65, 66, 67, 68, 69, 97, 98, 99, 100]⟩ : ByteArray)).bind fun t109 => (if t109.toList = ([] : List UInt8) then (if x15_2 ≤ (l0.length : Int) then ((tables_Rule_91.f k2 (l0.take (x15_2 : Int).toNat) ((rd_T56 l0 x15_2).f0) ((rd_T56 l0 x15_2).f1)).bind fun t114 => (if t114 = true then (some false) else (tables_grammar_valid.l0 k2 l0 l0 (l0.length : Int) (wrap64 (x15_2 + 1))))) else (none)) else (some false)))) = some r := by rw [if_pos rfl] at H; exact H
                    clear H
                    have H := H1
                    clear H1
                    by_cases c10 : (((rd_T56 l0 x15_2).f1).size : Int) > 4
                    · rw [if_pos c10] at H
                      have c10b0 : decide (4 < (((rd_T56 l0 x15_2).f1).size : Int)) = true := decide_eq_true c10
                      have c10b1 : decide (4 < ((rd_T56 l0 x15_2).f1).size) = true := decide_eq_true (by omega)
                      clear c10
                      obtain rfl := Option.some.inj H
                      have p106 : 0 ≤ (x15_2 : Int) := of_decide_eq_true (by first | (with_reducible assumption) | assumption)
                      have q106 : x15_2 < (l0.length : Int) := of_decide_eq_true (by first | (with_reducible assumption) | assumption)
                      obtain ⟨ad106, e106, hx106_0, hx106_1⟩ := at_T56 HR0.out x15_2 p106 q106
                      cases e106
                      replace hx106_0 := (HB.out.cell (World.block_lt_of_cell? w _ hx106_0)).trans hx106_0
                      replace hx106_1 := (HB.out.cell (World.block_lt_of_cell? w _ hx106_1)).trans hx106_1
                      replace p106 := eq_true p106
                      replace q106 := eq_true q106
                      try go_wp2_with (first | ((with_reducible refine gate_dst (N := 4) rfl ?_); (try (refine gate_guard (by rfl) ?_; dsimp only)); refine box_event ?hg (N := 4) ?hd (cs := #[.int .u8 0, .string (⟨#[]⟩ : ByteArray)]) (t := 56) ?hr ?_; (case hd => rfl); (case hg => rfl); (case hr => first | (go_simp; done) | (go_simp; rfl)); intro gb107 hg w11 hbox hb; have n0_ := Aside0.mk (below_step (by repeat (first | (with_reducible first | exact HB.out | apply below_alloc | apply pw_below_drewN | apply below_drew1) | exact HB.out)) hb); have n1_ := Aside0.mk (hbox); have n2_ := Aside0.mk ((by rw [hg]; exact (below_size (by repeat (first | (with_reducible first | exact HB.out | apply below_alloc | apply pw_below_drewN | apply below_drew1) | exact HB.out))) : w.heap.size ≤ gb107)); have n3_ := Aside0.mk ((by rw [hg]; exact (below_size (by repeat (first | (with_reducible first | exact HB.out | apply below_alloc | apply pw_below_drewN | apply below_drew1) | exact HB.out))) : w.heap.size ≤ gb107)); clear HB; have HB := n0_; have BK107 := n1_; have GW107 := n2_; have GE107 := n3_; clear n0_ n1_ n2_ n3_; clear hb hbox hg; have hcz12_0 : w11.cell? ⟨gb107, 0, none⟩ = some (.int .u8 0) := (blk_cell BK107.out 0).trans rfl; have hcz12_1 : w11.cell? ⟨gb107, 1, none⟩ = some (.string (⟨#[]⟩ : ByteArray)) := (blk_cell BK107.out 1).trans rfl; have hfz12_0 := blk_frozen BK107.out 0; have hfz12_1 := blk_frozen BK107.out 1))
                      have n0_ : Aside0 (((w11.setCell ⟨gb107, 0, none⟩ (.int .u8 ((rd_T56 l0 x15_2).f0))).setCell ⟨gb107, 1, none⟩ (.string ((rd_T56 l0 x15_2).f1))).heap[gb107]? = some (.cells #[.int .u8 ((rd_T56 l0 x15_2).f0), .string ((rd_T56 l0 x15_2).f1)] 56 (0, 0))) := ⟨by (with_reducible repeat (first | refine blk_drewN ?_ _ | refine blk_drew ?_ | refine blk_alloc ?_ _)); refine blk_put (cs := #[.int .u8 ((rd_T56 l0 x15_2).f0), .string (⟨#[]⟩ : ByteArray)]) ?_ 1 _ rfl; (with_reducible repeat (first | refine blk_drewN ?_ _ | refine blk_drew ?_ | refine blk_alloc ?_ _)); refine blk_put (cs := #[.int .u8 0, .string (⟨#[]⟩ : ByteArray)]) ?_ 0 _ rfl; (with_reducible repeat (first | refine blk_drewN ?_ _ | refine blk_drew ?_ | refine blk_alloc ?_ _)); exact BK107.out⟩
                      have n1_ : Aside0 (Below w.heap.size w ((w11.setCell ⟨gb107, 0, none⟩ (.int .u8 ((rd_T56 l0 x15_2).f0))).setCell ⟨gb107, 1, none⟩ (.string ((rd_T56 l0 x15_2).f1)))) := ⟨by repeat (first | (with_reducible first | exact HB.out | apply below_alloc | apply pw_below_drewN | apply below_drew1 | refine below_set ?_ GE107.out) | exact HB.out)⟩
                      (try clear BK107)
                      (try clear HB)
                      generalize ((w11.setCell ⟨gb107, 0, none⟩ (.int .u8 ((rd_T56 l0 x15_2).f0))).setCell ⟨gb107, 1, none⟩ (.string ((rd_T56 l0 x15_2).f1))) = w13 at n0_ n1_ ⊢
                      have BK107 := n0_
                      have HB := n1_
                      clear n0_ n1_
                      have n0_ := Aside0.mk (blk_drew BK107.out)
                      have n1_ := Aside0.mk (below_drew1 HB.out)
                      clear BK107
                      clear HB
                      have BK107 := n0_
                      have HB := n1_
                      clear n0_ n1_
                      refine start_ (n := 23) (S := fun w' => w'.cell? ⟨gb107, 0, none⟩ = some (.int .u8 ((rd_T56 l0 x15_2).f0)) ∧ w'.cell? ⟨gb107, 1, none⟩ = some (.string ((rd_T56 l0 x15_2).f1))) (ds := []) #[false, false, false, false, false, false, false, false, false, false, false, false, false, false, false, false, false, false, false, false, false, false, false] (by kernel_rfl) rfl rfl ⟨(blk_cell BK107.out 0).trans rfl, (blk_cell BK107.out 1).trans rfl⟩ (fun hHeld => ?_); refine with_tabW tables_grammar_valid.tab6 tables_grammar_valid.bits6 (fun HT_ HW_ => ?_)
                      generalize w13.drew = w14 at BK107 HB hHeld ⊢
                      refine pure_ (i := 0) (N := some 20) (v := ?_) (a' := ?_) #[true, false, false, false, false, false, false, false, false, false, false, false, false, false, false, false, false, false, false, false, false, false, false] rfl rfl (any_of HT_.out (by kernel_rfl)) (fun _ _ _ h => h) (Or.inl ⟨by rfl, ?_⟩) ?_ ?_
                      rotate_left
                      · intro w'
                        go_simp
                        with_reducible rfl
                      rotate_left
                      · simp only [Act.put, List.setIfInBounds_toArray, List.set_cons_zero, List.set_cons_succ, i64_w, i32_w]
                        rfl
                      refine take_ (i := 1) (N := some 21) (v := ?_) (a' := ?_) #[true, true, false, false, false, false, false, false, false, false, false, false, false, false, false, false, false, false, false, false, false, false, false] rfl rfl (take_ofW HT_.out HW_.out (by kernel_rfl)) (fun _ _ _ h => h) (Or.inl ⟨by rfl, ?_⟩) hHeld ?_ ?_
                      rotate_left
                      · rintro w' ⟨s0, s1⟩
                        go_simp
                        with_reducible rfl
                      rotate_left
                      · simp only [Act.put, List.setIfInBounds_toArray, List.set_cons_zero, List.set_cons_succ, i64_w, i32_w]
                        rfl
                      refine one_ (i := 2) (N := some 22) #[true, true, true, false, false, false, false, false, false, false, false, false, false, false, false, false, false, false, false, false, false, false, false] rfl rfl (one_of HT_.out (by kernel_rfl)) (by decide) (fun K hK => ?_)
                      refine goes_ Tryd.func89 (by kernel_rfl) rfl #[.int .u8 ((rd_T56 l0 x15_2).f0)] (by rfl) rfl rfl (by (try simp only [List.map_toArray, List.map_cons, List.map_nil]); first | done | rfl | (simp only [List.length_drop, List.length_take]; rfl)) ?_
                      with_reducible refine (tables_isPart.calls ((rd_T56 l0 x15_2).f0) true _ A8.out).mono ?_
                      rintro e w' ⟨rfl, ⟨nd, rfl⟩⟩
                      refine ⟨_, rfl, ?_⟩
                      refine hK.out _ _ ⟨(blk_cell BK107.out 0).trans rfl, (blk_cell BK107.out 1).trans rfl⟩ (fun hHeld => ?_)
                      clear hK K
                      refine norm_ (a' := ?_) ?_ ?_
                      rotate_left
                      · show Act.put _ (some 22) _ = _
                        simp only [Act.put, List.setIfInBounds_toArray, List.set_cons_zero, List.set_cons_succ, i64_w, i32_w]
                        rfl
                      refine pure_ (i := 3) (N := some 23) (v := ?_) (a' := ?_) #[true, true, true, true, false, false, false, false, false, false, false, false, false, false, false, false, false, false, false, false, false, false, false] rfl rfl (any_of HT_.out (by kernel_rfl)) (fun _ _ _ h => h) (Or.inl ⟨by rfl, ?_⟩) ?_ ?_
                      rotate_left
                      · intro w'
                        go_simp
                        with_reducible rfl
                      rotate_left
                      · simp only [Act.put, List.setIfInBounds_toArray, List.set_cons_zero, List.set_cons_succ, i64_w, i32_w]
                        rfl
                      refine pure_ (i := 4) (N := some 24) (v := ?_) (a' := ?_) #[true, true, true, true, true, false, false, false, false, false, false, false, false, false, false, false, false, false, false, false, false, false, false] rfl rfl (any_of HT_.out (by kernel_rfl)) (fun _ _ _ h => h) (Or.inl ⟨by rfl, ?_⟩) ?_ ?_
                      rotate_left
                      · intro w'
                        go_simp
                        with_reducible rfl
                      rotate_left
                      · simp only [Act.put, List.setIfInBounds_toArray, List.set_cons_zero, List.set_cons_succ, i64_w, i32_w]
                        rfl
                      refine pure_ (i := 5) (N := some 25) (v := ?_) (a' := ?_) #[true, true, true, true, true, true, false, false, false, false, false, false, false, false, false, false, false, false, false, false, false, false, false] rfl rfl (any_of HT_.out (by kernel_rfl)) (fun _ _ _ h => h) (Or.inl ⟨by rfl, ?_⟩) ?_ ?_
                      rotate_left
                      · intro w'
                        go_simp
                        with_reducible rfl
                      rotate_left
                      · simp only [Act.put, List.setIfInBounds_toArray, List.set_cons_zero, List.set_cons_succ, i64_w, i32_w]
                        rfl
                      refine take_ (i := 6) (N := some 26) (v := ?_) (a' := ?_) #[true, true, true, true, true, true, true, false, false, false, false, false, false, false, false, false, false, false, false, false, false, false, false] rfl rfl (take_ofW HT_.out HW_.out (by kernel_rfl)) (fun _ _ _ h => h) (Or.inl ⟨by rfl, ?_⟩) hHeld ?_ ?_
                      rotate_left
                      · rintro w' ⟨s0, s1⟩
                        go_simp
                        with_reducible rfl
                      rotate_left
                      · simp only [Act.put, List.setIfInBounds_toArray, List.set_cons_zero, List.set_cons_succ, i64_w, i32_w]
                        rfl
                      refine pure_ (i := 7) (N := some 27) (v := ?_) (a' := ?_) #[true, true, true, true, true, true, true, true, false, false, false, false, false, false, false, false, false, false, false, false, false, false, false] rfl rfl (any_of HT_.out (by kernel_rfl)) (fun _ _ _ h => h) (Or.inl ⟨by rfl, ?_⟩) ?_ ?_
                      rotate_left
                      · intro w'
                        go_simp
                        with_reducible rfl
                      rotate_left
                      · simp only [Act.put, List.setIfInBounds_toArray, List.set_cons_zero, List.set_cons_succ, i64_w, i32_w]
                        rfl
                      refine pure_ (i := 8) (N := some 28) (v := ?_) (a' := ?_) #[true, true, true, true, true, true, true, true, true, false, false, false, false, false, false, false, false, false, false, false, false, false, false] rfl rfl (any_of HT_.out (by kernel_rfl)) (fun _ _ _ h => h) (Or.inl ⟨by rfl, ?_⟩) ?_ ?_
                      rotate_left
                      · intro w'
                        go_simp
                        with_reducible rfl
                      rotate_left
                      · simp only [Act.put, List.setIfInBounds_toArray, List.set_cons_zero, List.set_cons_succ, i64_w, i32_w]
                        rfl
                      refine pure_ (i := 9) (N := some 29) (v := ?_) (a' := ?_) #[true, true, true, true, true, true, true, true, true, true, false, false, false, false, false, false, false, false, false, false, false, false, false] rfl rfl (any_of HT_.out (by kernel_rfl)) (fun _ _ _ h => h) (Or.inl ⟨by rfl, ?_⟩) ?_ ?_
                      rotate_left
                      · intro w'
                        go_simp
                        with_reducible rfl
                      rotate_left
                      · simp only [Act.put, List.setIfInBounds_toArray, List.set_cons_zero, List.set_cons_succ, i64_w, i32_w]
                        rfl
                      refine pure_ (i := 10) (N := some 30) (v := ?_) (a' := ?_) #[true, true, true, true, true, true, true, true, true, true, true, false, false, false, false, false, false, false, false, false, false, false, false] rfl rfl (any_of HT_.out (by kernel_rfl)) (fun _ _ _ h => h) (Or.inl ⟨by rfl, ?_⟩) ?_ ?_
                      rotate_left
                      · intro w'
                        go_simp
                        with_reducible rfl
                      rotate_left
                      · simp only [Act.put, List.setIfInBounds_toArray, List.set_cons_zero, List.set_cons_succ, i64_w, i32_w]
                        rfl
                      refine pure_ (i := 11) (N := some 31) (v := undef) (a' := ?_) #[true, true, true, true, true, true, true, true, true, true, true, true, false, false, false, false, false, false, false, false, false, false, false] rfl rfl (any_of HT_.out (by kernel_rfl)) (fun _ _ _ h => h) (Or.inr ⟨by rfl, rfl⟩) ?_ ?_
                      rotate_left
                      · simp only [Act.put, List.setIfInBounds_toArray, List.set_cons_zero, List.set_cons_succ, i64_w, i32_w]
                        rfl
                      refine pure_ (i := 12) (N := some 32) (v := undef) (a' := ?_) #[true, true, true, true, true, true, true, true, true, true, true, true, true, false, false, false, false, false, false, false, false, false, false] rfl rfl (any_of HT_.out (by kernel_rfl)) (fun _ _ _ h => h) (Or.inr ⟨by rfl, rfl⟩) ?_ ?_
                      rotate_left
                      · simp only [Act.put, List.setIfInBounds_toArray, List.set_cons_zero, List.set_cons_succ, i64_w, i32_w]
                        rfl
                      refine pure_ (i := 13) (N := some 33) (v := undef) (a' := ?_) #[true, true, true, true, true, true, true, true, true, true, true, true, true, true, false, false, false, false, false, false, false, false, false] rfl rfl (any_of HT_.out (by kernel_rfl)) (fun _ _ _ h => h) (Or.inr ⟨by rfl, rfl⟩) ?_ ?_
                      rotate_left
                      · simp only [Act.put, List.setIfInBounds_toArray, List.set_cons_zero, List.set_cons_succ, i64_w, i32_w]
                        rfl
                      refine pure_ (i := 14) (N := some 34) (v := undef) (a' := ?_) #[true, true, true, true, true, true, true, true, true, true, true, true, true, true, true, false, false, false, false, false, false, false, false] rfl rfl (any_of HT_.out (by kernel_rfl)) (fun _ _ _ h => h) (Or.inr ⟨by rfl, rfl⟩) ?_ ?_
                      rotate_left
                      · simp only [Act.put, List.setIfInBounds_toArray, List.set_cons_zero, List.set_cons_succ, i64_w, i32_w]
                        rfl
                      refine pure_ (i := 15) (N := some 35) (v := ?_) (a' := ?_) #[true, true, true, true, true, true, true, true, true, true, true, true, true, true, true, true, false, false, false, false, false, false, false] rfl rfl (any_of HT_.out (by kernel_rfl)) (fun _ _ _ h => h) (Or.inl ⟨by rfl, ?_⟩) ?_ ?_
                      rotate_left
                      · intro w'
                        go_simp
                        with_reducible rfl
                      rotate_left
                      · simp only [Act.put, List.setIfInBounds_toArray, List.set_cons_zero, List.set_cons_succ, i64_w, i32_w]
                        rfl
                      refine pure_ (i := 16) (N := some 36) (v := ?_) (a' := ?_) #[true, true, true, true, true, true, true, true, true, true, true, true, true, true, true, true, true, false, false, false, false, false, false] rfl rfl (any_of HT_.out (by kernel_rfl)) (fun _ _ _ h => h) (Or.inl ⟨by rfl, ?_⟩) ?_ ?_
                      rotate_left
                      · intro w'
                        go_simp
                        with_reducible rfl
                      rotate_left
                      · simp only [Act.put, List.setIfInBounds_toArray, List.set_cons_zero, List.set_cons_succ, i64_w, i32_w]
                        rfl
                      refine pure_ (i := 17) (N := some 37) (v := undef) (a' := ?_) #[true, true, true, true, true, true, true, true, true, true, true, true, true, true, true, true, true, true, false, false, false, false, false] rfl rfl (any_of HT_.out (by kernel_rfl)) (fun _ _ _ h => h) (Or.inr ⟨by rfl, rfl⟩) ?_ ?_
                      rotate_left
                      · simp only [Act.put, List.setIfInBounds_toArray, List.set_cons_zero, List.set_cons_succ, i64_w, i32_w]
                        rfl
                      refine pure_ (i := 18) (N := some 38) (v := undef) (a' := ?_) #[true, true, true, true, true, true, true, true, true, true, true, true, true, true, true, true, true, true, true, false, false, false, false] rfl rfl (any_of HT_.out (by kernel_rfl)) (fun _ _ _ h => h) (Or.inr ⟨by rfl, rfl⟩) ?_ ?_
                      rotate_left
                      · simp only [Act.put, List.setIfInBounds_toArray, List.set_cons_zero, List.set_cons_succ, i64_w, i32_w]
                        rfl
                      refine pure_ (i := 19) (N := some 39) (v := undef) (a' := ?_) #[true, true, true, true, true, true, true, true, true, true, true, true, true, true, true, true, true, true, true, true, false, false, false] rfl rfl (any_of HT_.out (by kernel_rfl)) (fun _ _ _ h => h) (Or.inr ⟨by rfl, rfl⟩) ?_ ?_
                      rotate_left
                      · simp only [Act.put, List.setIfInBounds_toArray, List.set_cons_zero, List.set_cons_succ, i64_w, i32_w]
                        rfl
                      refine pure_ (i := 20) (N := some 40) (v := undef) (a' := ?_) #[true, true, true, true, true, true, true, true, true, true, true, true, true, true, true, true, true, true, true, true, true, false, false] rfl rfl (any_of HT_.out (by kernel_rfl)) (fun _ _ _ h => h) (Or.inr ⟨by rfl, rfl⟩) ?_ ?_
                      rotate_left
                      · simp only [Act.put, List.setIfInBounds_toArray, List.set_cons_zero, List.set_cons_succ, i64_w, i32_w]
                        rfl
                      refine pure_ (i := 21) (N := some 41) (v := undef) (a' := ?_) #[true, true, true, true, true, true, true, true, true, true, true, true, true, true, true, true, true, true, true, true, true, true, false] rfl rfl (any_of HT_.out (by kernel_rfl)) (fun _ _ _ h => h) (Or.inr ⟨by rfl, rfl⟩) ?_ ?_
                      rotate_left
                      · simp only [Act.put, List.setIfInBounds_toArray, List.set_cons_zero, List.set_cons_succ, i64_w, i32_w]
                        rfl
                      refine pure_ (i := 22) (N := some 42) (v := ?_) (a' := ?_) #[true, true, true, true, true, true, true, true, true, true, true, true, true, true, true, true, true, true, true, true, true, true, true] rfl rfl (any_of HT_.out (by kernel_rfl)) (fun _ _ _ h => h) (Or.inl ⟨by rfl, ?_⟩) ?_ ?_
                      rotate_left
                      · intro w'
                        go_simp
                        with_reducible rfl
                      rotate_left
                      · simp only [Act.put, List.setIfInBounds_toArray, List.set_cons_zero, List.set_cons_succ, i64_w, i32_w]
                        rfl
                      refine done_ (done_of HT_.out (by kernel_rfl)) ?_
                      try go_wp2
                      go_ret
                      exact ⟨by first | rfl | (simp [errW_none, errW_some] <;> rfl) | (simp [*, errW_none, errW_some] <;> rfl), by repeat (first | (with_reducible first | exact HB.out | apply below_alloc | apply pw_below_drewN | apply below_drew1 | refine below_set ?_ GE107.out) | exact HB.out)⟩
                    · rw [if_neg c10] at H
                      have c10b0 : decide (4 < (((rd_T56 l0 x15_2).f1).size : Int)) = false := decide_eq_false c10
                      have c10b1 : decide (4 < ((rd_T56 l0 x15_2).f1).size) = false := decide_eq_false (by omega)
                      clear c10
                      replace H := Option.bind_eq_some_iff.mp H
                      obtain ⟨t109, A150, H⟩ := H
                      replace H : (if t109.toList = ([] : List UInt8) then (if x15_2 ≤ (l0.length : Int) then ((tables_Rule_91.f k2 (l0.take (x15_2 : Int).toNat) ((rd_T56 l0 x15_2).f0) ((rd_T56 l0 x15_2).f1)).bind fun t114 => (if t114 = true then (some false) else (tables_grammar_valid.l0 k2 l0 l0 (l0.length : Int) (wrap64 (x15_2 + 1))))) else (none)) else (some false)) = some r := H
                      have A15 := Aside0.mk A150
                      clear A150
                      by_cases c16 : t109.toList = ([] : List UInt8)
                      · rw [if_pos c16] at H
                        have c16b0 : (t109.toList == ([] : List UInt8)) = true := beq_iff_eq.mpr c16
                        have c16b1 : (t109.toList != ([] : List UInt8)) = false := bne_eq_false_iff_eq.mpr c16
                        clear c16
                        have c17b0 := eq_true (of_decide_eq_true (by first | (with_reducible assumption) | assumption) : 0 ≤ x15_2)
                        by_cases c18 : x15_2 ≤ (l0.length : Int)
                        · rw [if_pos c18] at H
                          have c18b0 := eq_true c18
                          have c18b1 : decide (x15_2 ≤ (l0.length : Int)) = true := decide_eq_true c18
                          clear c18
                          obtain ⟨y110, hy110⟩ : ∃ y_ : List (S56), y_ = (l0.take (x15_2 : Int).toNat) := ⟨_, rfl⟩
                          replace H : ((tables_Rule_91.f k2 y110 ((rd_T56 l0 x15_2).f0) ((rd_T56 l0 x15_2).f1)).bind fun t114 => (if t114 = true then (some false) else (tables_grammar_valid.l0 k2 l0 l0 (l0.length : Int) (wrap64 (x15_2 + 1))))) = some r := by first | (rw [hy110]; with_reducible exact H) | (have H2_ := (Option.bind_some _ _).symm.trans H; rw [hy110]; with_reducible exact H2_) | (have H2_ := (Option.bind_some _ _).symm.trans H; with_reducible exact H2_) | with_reducible exact H | (rw [hy110]; exact H) | exact H
                          have Ny110 := Aside0.mk hy110
                          clear hy110
                          replace H := Option.bind_eq_some_iff.mp H
                          obtain ⟨t114, A190, H⟩ := H
                          replace H : (if t114 = true then (some false) else (tables_grammar_valid.l0 k2 l0 l0 (l0.length : Int) (wrap64 (x15_2 + 1)))) = some r := H
                          have A19 := Aside0.mk A190
                          clear A190
                          by_cases c20 : t114 = true
                          · subst c20
                            have H1 : (some false) = some r := by rw [if_pos rfl] at H; exact H
                            clear H
                            have H := H1
                            clear H1
                            obtain rfl := Option.some.inj H
                            have p106 : 0 ≤ (x15_2 : Int) := of_decide_eq_true (by first | (with_reducible assumption) | assumption)
                            have q106 : x15_2 < (l0.length : Int) := of_decide_eq_true (by first | (with_reducible assumption) | assumption)
                            obtain ⟨ad106, e106, hx106_0, hx106_1⟩ := at_T56 HR0.out x15_2 p106 q106
                            cases e106
                            replace hx106_0 := (HB.out.cell (World.block_lt_of_cell? w _ hx106_0)).trans hx106_0
                            replace hx106_1 := (HB.out.cell (World.block_lt_of_cell? w _ hx106_1)).trans hx106_1
                            replace p106 := eq_true p106
                            replace q106 := eq_true q106
                            try go_wp2_with (first | ((with_reducible refine gate_dst (N := 4) rfl ?_); (try (refine gate_guard (by rfl) ?_; dsimp only)); refine box_event ?hg (N := 4) ?hd (cs := #[.int .u8 0, .string (⟨#[]⟩ : ByteArray)]) (t := 56) ?hr ?_; (case hd => rfl); (case hg => rfl); (case hr => first | (go_simp; done) | (go_simp; rfl)); intro gb107 hg w21 hbox hb; have n0_ := Aside0.mk (below_step (by repeat (first | (with_reducible first | exact HB.out | apply below_alloc | apply pw_below_drewN | apply below_drew1) | exact HB.out)) hb); have n1_ := Aside0.mk (hbox); have n2_ := Aside0.mk ((by rw [hg]; exact (below_size (by repeat (first | (with_reducible first | exact HB.out | apply below_alloc | apply pw_below_drewN | apply below_drew1) | exact HB.out))) : w.heap.size ≤ gb107)); have n3_ := Aside0.mk ((by rw [hg]; exact (below_size (by repeat (first | (with_reducible first | exact HB.out | apply below_alloc | apply pw_below_drewN | apply below_drew1) | exact HB.out))) : w.heap.size ≤ gb107)); clear HB; have HB := n0_; have BK107 := n1_; have GW107 := n2_; have GE107 := n3_; clear n0_ n1_ n2_ n3_; clear hb hbox hg; have hcz22_0 : w21.cell? ⟨gb107, 0, none⟩ = some (.int .u8 0) := (blk_cell BK107.out 0).trans rfl; have hcz22_1 : w21.cell? ⟨gb107, 1, none⟩ = some (.string (⟨#[]⟩ : ByteArray)) := (blk_cell BK107.out 1).trans rfl; have hfz22_0 := blk_frozen BK107.out 0; have hfz22_1 := blk_frozen BK107.out 1))
                            have n0_ : Aside0 (((w21.setCell ⟨gb107, 0, none⟩ (.int .u8 ((rd_T56 l0 x15_2).f0))).setCell ⟨gb107, 1, none⟩ (.string ((rd_T56 l0 x15_2).f1))).heap[gb107]? = some (.cells #[.int .u8 ((rd_T56 l0 x15_2).f0), .string ((rd_T56 l0 x15_2).f1)] 56 (0, 0))) := ⟨by (with_reducible repeat (first | refine blk_drewN ?_ _ | refine blk_drew ?_ | refine blk_alloc ?_ _)); refine blk_put (cs := #[.int .u8 ((rd_T56 l0 x15_2).f0), .string (⟨#[]⟩ : ByteArray)]) ?_ 1 _ rfl; (with_reducible repeat (first | refine blk_drewN ?_ _ | refine blk_drew ?_ | refine blk_alloc ?_ _)); refine blk_put (cs := #[.int .u8 0, .string (⟨#[]⟩ : ByteArray)]) ?_ 0 _ rfl; (with_reducible repeat (first | refine blk_drewN ?_ _ | refine blk_drew ?_ | refine blk_alloc ?_ _)); exact BK107.out⟩
                            have n1_ : Aside0 (Below w.heap.size w ((w21.setCell ⟨gb107, 0, none⟩ (.int .u8 ((rd_T56 l0 x15_2).f0))).setCell ⟨gb107, 1, none⟩ (.string ((rd_T56 l0 x15_2).f1)))) := ⟨by repeat (first | (with_reducible first | exact HB.out | apply below_alloc | apply pw_below_drewN | apply below_drew1 | refine below_set ?_ GE107.out) | exact HB.out)⟩
                            (try clear BK107)
                            (try clear HB)
                            generalize ((w21.setCell ⟨gb107, 0, none⟩ (.int .u8 ((rd_T56 l0 x15_2).f0))).setCell ⟨gb107, 1, none⟩ (.string ((rd_T56 l0 x15_2).f1))) = w23 at n0_ n1_ ⊢
                            have BK107 := n0_
                            have HB := n1_
                            clear n0_ n1_
                            have n0_ := Aside0.mk (blk_drew BK107.out)
                            have n1_ := Aside0.mk (below_drew1 HB.out)
                            clear BK107
                            clear HB
                            have BK107 := n0_
                            have HB := n1_
                            clear n0_ n1_
                            refine start_ (n := 23) (S := fun w' => w'.cell? ⟨gb107, 0, none⟩ = some (.int .u8 ((rd_T56 l0 x15_2).f0)) ∧ w'.cell? ⟨gb107, 1, none⟩ = some (.string ((rd_T56 l0 x15_2).f1))) (ds := []) #[false, false, false, false, false, false, false, false, false, false, false, false, false, false, false, false, false, false, false, false, false, false, false] (by kernel_rfl) rfl rfl ⟨(blk_cell BK107.out 0).trans rfl, (blk_cell BK107.out 1).trans rfl⟩ (fun hHeld => ?_); refine with_tabW tables_grammar_valid.tab6 tables_grammar_valid.bits6 (fun HT_ HW_ => ?_)
                            generalize w23.drew = w24 at BK107 HB hHeld ⊢
                            refine pure_ (i := 0) (N := some 20) (v := ?_) (a' := ?_) #[true, false, false, false, false, false, false, false, false, false, false, false, false, false, false, false, false, false, false, false, false, false, false] rfl rfl (any_of HT_.out (by kernel_rfl)) (fun _ _ _ h => h) (Or.inl ⟨by rfl, ?_⟩) ?_ ?_
                            rotate_left
                            · intro w'
                              go_simp
                              with_reducible rfl
                            rotate_left
                            · simp only [Act.put, List.setIfInBounds_toArray, List.set_cons_zero, List.set_cons_succ, i64_w, i32_w]
                              rfl
                            refine take_ (i := 1) (N := some 21) (v := ?_) (a' := ?_) #[true, true, false, false, false, false, false, false, false, false, false, false, false, false, false, false, false, false, false, false, false, false, false] rfl rfl (take_ofW HT_.out HW_.out (by kernel_rfl)) (fun _ _ _ h => h) (Or.inl ⟨by rfl, ?_⟩) hHeld ?_ ?_
                            rotate_left
                            · rintro w' ⟨s0, s1⟩
                              go_simp
                              with_reducible rfl
                            rotate_left
                            · simp only [Act.put, List.setIfInBounds_toArray, List.set_cons_zero, List.set_cons_succ, i64_w, i32_w]
                              rfl
                            refine one_ (i := 2) (N := some 22) #[true, true, true, false, false, false, false, false, false, false, false, false, false, false, false, false, false, false, false, false, false, false, false] rfl rfl (one_of HT_.out (by kernel_rfl)) (by decide) (fun K hK => ?_)
                            refine goes_ Tryd.func89 (by kernel_rfl) rfl #[.int .u8 ((rd_T56 l0 x15_2).f0)] (by rfl) rfl rfl (by (try simp only [List.map_toArray, List.map_cons, List.map_nil]); first | done | rfl | (simp only [List.length_drop, List.length_take]; rfl)) ?_
                            with_reducible refine (tables_isPart.calls ((rd_T56 l0 x15_2).f0) true _ A8.out).mono ?_
                            rintro e w' ⟨rfl, ⟨nd, rfl⟩⟩
                            refine ⟨_, rfl, ?_⟩
                            refine hK.out _ _ ⟨(blk_cell BK107.out 0).trans rfl, (blk_cell BK107.out 1).trans rfl⟩ (fun hHeld => ?_)
                            clear hK K
                            refine norm_ (a' := ?_) ?_ ?_
                            rotate_left
                            · show Act.put _ (some 22) _ = _
                              simp only [Act.put, List.setIfInBounds_toArray, List.set_cons_zero, List.set_cons_succ, i64_w, i32_w]
                              rfl
                            refine pure_ (i := 3) (N := some 23) (v := ?_) (a' := ?_) #[true, true, true, true, false, false, false, false, false, false, false, false, false, false, false, false, false, false, false, false, false, false, false] rfl rfl (any_of HT_.out (by kernel_rfl)) (fun _ _ _ h => h) (Or.inl ⟨by rfl, ?_⟩) ?_ ?_
                            rotate_left
                            · intro w'
                              go_simp
                              with_reducible rfl
                            rotate_left
                            · simp only [Act.put, List.setIfInBounds_toArray, List.set_cons_zero, List.set_cons_succ, i64_w, i32_w]
                              rfl
                            refine pure_ (i := 4) (N := some 24) (v := ?_) (a' := ?_) #[true, true, true, true, true, false, false, false, false, false, false, false, false, false, false, false, false, false, false, false, false, false, false] rfl rfl (any_of HT_.out (by kernel_rfl)) (fun _ _ _ h => h) (Or.inl ⟨by rfl, ?_⟩) ?_ ?_
                            rotate_left
                            · intro w'
                              go_simp
                              with_reducible rfl
                            rotate_left
                            · simp only [Act.put, List.setIfInBounds_toArray, List.set_cons_zero, List.set_cons_succ, i64_w, i32_w]
                              rfl
                            refine pure_ (i := 5) (N := some 25) (v := ?_) (a' := ?_) #[true, true, true, true, true, true, false, false, false, false, false, false, false, false, false, false, false, false, false, false, false, false, false] rfl rfl (any_of HT_.out (by kernel_rfl)) (fun _ _ _ h => h) (Or.inl ⟨by rfl, ?_⟩) ?_ ?_
                            rotate_left
                            · intro w'
                              go_simp
                              with_reducible rfl
                            rotate_left
                            · simp only [Act.put, List.setIfInBounds_toArray, List.set_cons_zero, List.set_cons_succ, i64_w, i32_w]
                              rfl
                            refine take_ (i := 6) (N := some 26) (v := ?_) (a' := ?_) #[true, true, true, true, true, true, true, false, false, false, false, false, false, false, false, false, false, false, false, false, false, false, false] rfl rfl (take_ofW HT_.out HW_.out (by kernel_rfl)) (fun _ _ _ h => h) (Or.inl ⟨by rfl, ?_⟩) hHeld ?_ ?_
                            rotate_left
                            · rintro w' ⟨s0, s1⟩
                              go_simp
                              with_reducible rfl
                            rotate_left
                            · simp only [Act.put, List.setIfInBounds_toArray, List.set_cons_zero, List.set_cons_succ, i64_w, i32_w]
                              rfl
                            refine pure_ (i := 7) (N := some 27) (v := ?_) (a' := ?_) #[true, true, true, true, true, true, true, true, false, false, false, false, false, false, false, false, false, false, false, false, false, false, false] rfl rfl (any_of HT_.out (by kernel_rfl)) (fun _ _ _ h => h) (Or.inl ⟨by rfl, ?_⟩) ?_ ?_
                            rotate_left
                            · intro w'
                              go_simp
                              with_reducible rfl
                            rotate_left
                            · simp only [Act.put, List.setIfInBounds_toArray, List.set_cons_zero, List.set_cons_succ, i64_w, i32_w]
                              rfl
                            refine pure_ (i := 8) (N := some 28) (v := ?_) (a' := ?_) #[true, true, true, true, true, true, true, true, true, false, false, false, false, false, false, false, false, false, false, false, false, false, false] rfl rfl (any_of HT_.out (by kernel_rfl)) (fun _ _ _ h => h) (Or.inl ⟨by rfl, ?_⟩) ?_ ?_
                            rotate_left
                            · intro w'
                              go_simp
                              with_reducible rfl
                            rotate_left
                            · simp only [Act.put, List.setIfInBounds_toArray, List.set_cons_zero, List.set_cons_succ, i64_w, i32_w]
                              rfl
                            refine pure_ (i := 9) (N := some 29) (v := ?_) (a' := ?_) #[true, true, true, true, true, true, true, true, true, true, false, false, false, false, false, false, false, false, false, false, false, false, false] rfl rfl (any_of HT_.out (by kernel_rfl)) (fun _ _ _ h => h) (Or.inl ⟨by rfl, ?_⟩) ?_ ?_
                            rotate_left
                            · intro w'
                              go_simp
                              with_reducible rfl
                            rotate_left
                            · simp only [Act.put, List.setIfInBounds_toArray, List.set_cons_zero, List.set_cons_succ, i64_w, i32_w]
                              rfl
                            refine pure_ (i := 10) (N := some 30) (v := ?_) (a' := ?_) #[true, true, true, true, true, true, true, true, true, true, true, false, false, false, false, false, false, false, false, false, false, false, false] rfl rfl (any_of HT_.out (by kernel_rfl)) (fun _ _ _ h => h) (Or.inl ⟨by rfl, ?_⟩) ?_ ?_
                            rotate_left
                            · intro w'
                              go_simp
                              with_reducible rfl
                            rotate_left
                            · simp only [Act.put, List.setIfInBounds_toArray, List.set_cons_zero, List.set_cons_succ, i64_w, i32_w]
                              rfl
                            refine pure_ (i := 11) (N := some 31) (v := ?_) (a' := ?_) #[true, true, true, true, true, true, true, true, true, true, true, true, false, false, false, false, false, false, false, false, false, false, false] rfl rfl (any_of HT_.out (by kernel_rfl)) (fun _ _ _ h => h) (Or.inl ⟨by rfl, ?_⟩) ?_ ?_
                            rotate_left
                            · intro w'
                              go_simp
                              with_reducible rfl
                            rotate_left
                            · simp only [Act.put, List.setIfInBounds_toArray, List.set_cons_zero, List.set_cons_succ, i64_w, i32_w]
                              rfl
                            refine take_ (i := 12) (N := some 32) (v := ?_) (a' := ?_) #[true, true, true, true, true, true, true, true, true, true, true, true, true, false, false, false, false, false, false, false, false, false, false] rfl rfl (take_ofW HT_.out HW_.out (by kernel_rfl)) (fun _ _ _ h => h) (Or.inl ⟨by rfl, ?_⟩) hHeld ?_ ?_
                            rotate_left
                            · rintro w' ⟨s0, s1⟩
                              go_simp
                              with_reducible rfl
                            rotate_left
                            · simp only [Act.put, List.setIfInBounds_toArray, List.set_cons_zero, List.set_cons_succ, i64_w, i32_w]
                              rfl
                            refine one_ (i := 13) (N := some 33) #[true, true, true, true, true, true, true, true, true, true, true, true, true, true, false, false, false, false, false, false, false, false, false] rfl rfl (one_of HT_.out (by kernel_rfl)) (by decide) (fun K hK => ?_)
                            refine goes_ Tryd.func90 (by kernel_rfl) rfl #[.string ((rd_T56 l0 x15_2).f1), .string (⟨#[65, 66, 67, 68, 69, 97, 98, 99, 100]⟩ : ByteArray)] (by rfl) rfl rfl (by (try simp only [List.map_toArray, List.map_cons, List.map_nil]); first | done | rfl | (simp only [List.length_drop, List.length_take]; rfl)) ?_
                            with_reducible refine (strings_Trim.calls ((rd_T56 l0 x15_2).f1) (⟨#[65, 66, 67, 68, 69, 97, 98, 99, 100]⟩ : ByteArray) t109 _ A15.out).mono ?_
                            rintro e w25 ⟨rfl, hb⟩
                            refine ⟨_, rfl, ?_⟩
                            have n0_ := Aside0.mk (blk_below (g := gb107) (o := .cells #[.int .u8 ((rd_T56 l0 x15_2).f0), .string ((rd_T56 l0 x15_2).f1)] 56 (0, 0)) (by (with_reducible repeat (first | refine blk_drewN ?_ _ | refine blk_drew ?_ | refine blk_alloc ?_ _)); exact BK107.out) hb)
                            have n1_ := Aside0.mk (below_step (by repeat (first | (with_reducible first | exact HB.out | apply below_alloc | apply pw_below_drewN | apply below_drew1 | refine below_set ?_ GE107.out) | exact HB.out)) hb)
                            clear BK107
                            clear HB
                            have BK107 := n0_
                            have HB := n1_
                            clear n0_ n1_
                            (try clear hb)
                            (try clear hb2)
                            (try clear hk)
                            (try clear hi)
                            have q26 : (x15_2 : Int) ≤ ((l0.length : Int) : Int) := of_decide_eq_true (by first | (with_reducible assumption) | assumption)
                            obtain ⟨i026, hi026, _, hsz26, _⟩ := info_parts info56
                            have hroom26 : l0.length ≤ c0 := HC0.out
                            have hC26 : Kd.C k56 _ (some ad106) l0.length l0 := HR0.out
                            have hcut26 := cut_to (P := Tryd.prog) 82 56 .i64 Tryd.underlying82 hi026 (some ad106) l0.length c0 x15_2 (of_decide_eq_true (by first | (with_reducible assumption) | assumption)) q26 hroom26
                            have hr26 := Kd.C_take (m := (x15_2 : Int).toNat) hC26 (by omega)
                            have hy26 : y110.length = (x15_2 : Int).toNat := (by rw [Ny110.out, List.length_take]; omega)
                            rw [← Ny110.out] at hr26
                            rw [← hy26] at hcut26
                            have HR113 := Aside0.mk hr26
                            have HC113 := Aside0.mk (show y110.length ≤ c0 from by omega)
                            clear hr26 hC26 hroom26 hi026 hsz26
                            have KY26 := Aside0.mk hy26
                            clear hy26
                            replace q26 := eq_true q26
                            refine hK.out _ _ ⟨(blk_cell BK107.out 0).trans rfl, (blk_cell BK107.out 1).trans rfl⟩ (fun hHeld => ?_)
                            clear hK K
                            refine norm_ (a' := ?_) ?_ ?_
                            rotate_left
                            · show Act.put _ (some 33) _ = _
                              simp only [Act.put, List.setIfInBounds_toArray, List.set_cons_zero, List.set_cons_succ, i64_w, i32_w]
                              rfl
                            refine pure_ (i := 14) (N := some 34) (v := ?_) (a' := ?_) #[true, true, true, true, true, true, true, true, true, true, true, true, true, true, true, false, false, false, false, false, false, false, false] rfl rfl (any_of HT_.out (by kernel_rfl)) (fun _ _ _ h => h) (Or.inl ⟨by rfl, ?_⟩) ?_ ?_
                            rotate_left
                            · intro w'
                              go_simp
                              with_reducible rfl
                            rotate_left
                            · simp only [Act.put, List.setIfInBounds_toArray, List.set_cons_zero, List.set_cons_succ, i64_w, i32_w]
                              rfl
                            refine pure_ (i := 15) (N := some 35) (v := ?_) (a' := ?_) #[true, true, true, true, true, true, true, true, true, true, true, true, true, true, true, true, false, false, false, false, false, false, false] rfl rfl (any_of HT_.out (by kernel_rfl)) (fun _ _ _ h => h) (Or.inl ⟨by rfl, ?_⟩) ?_ ?_
                            rotate_left
                            · intro w'
                              go_simp
                              with_reducible rfl
                            rotate_left
                            · simp only [Act.put, List.setIfInBounds_toArray, List.set_cons_zero, List.set_cons_succ, i64_w, i32_w]
                              rfl
                            refine pure_ (i := 16) (N := some 36) (v := ?_) (a' := ?_) #[true, true, true, true, true, true, true, true, true, true, true, true, true, true, true, true, true, false, false, false, false, false, false] rfl rfl (any_of HT_.out (by kernel_rfl)) (fun _ _ _ h => h) (Or.inl ⟨by rfl, ?_⟩) ?_ ?_
                            rotate_left
                            · intro w'
                              go_simp
                              with_reducible rfl
                            rotate_left
                            · simp only [Act.put, List.setIfInBounds_toArray, List.set_cons_zero, List.set_cons_succ, i64_w, i32_w]
                              rfl
                            refine pure_ (i := 17) (N := some 37) (v := ?_) (a' := ?_) #[true, true, true, true, true, true, true, true, true, true, true, true, true, true, true, true, true, true, false, false, false, false, false] rfl rfl (any_of HT_.out (by kernel_rfl)) (fun _ _ _ h => h) (Or.inl ⟨by rfl, ?_⟩) ?_ ?_
                            rotate_left
                            · intro w'
                              go_simp
                              with_reducible rfl
                            rotate_left
                            · simp only [Act.put, List.setIfInBounds_toArray, List.set_cons_zero, List.set_cons_succ, i64_w, i32_w]
                              rfl
                            refine pure_ (i := 18) (N := some 38) (v := ?_) (a' := ?_) #[true, true, true, true, true, true, true, true, true, true, true, true, true, true, true, true, true, true, true, false, false, false, false] rfl rfl (any_of HT_.out (by kernel_rfl)) (fun _ _ _ h => h) (Or.inl ⟨by rfl, ?_⟩) ?_ ?_
                            rotate_left
                            · intro w'
                              go_simp
                              with_reducible rfl
                            rotate_left
                            · simp only [Act.put, List.setIfInBounds_toArray, List.set_cons_zero, List.set_cons_succ, i64_w, i32_w]
                              rfl
                            refine pure_ (i := 19) (N := some 39) (v := ?_) (a' := ?_) #[true, true, true, true, true, true, true, true, true, true, true, true, true, true, true, true, true, true, true, true, false, false, false] rfl rfl (any_of HT_.out (by kernel_rfl)) (fun _ _ _ h => h) (Or.inl ⟨by rfl, ?_⟩) ?_ ?_
                            rotate_left
                            · intro w'
                              go_simp
                              with_reducible rfl
                            rotate_left
                            · simp only [Act.put, List.setIfInBounds_toArray, List.set_cons_zero, List.set_cons_succ, i64_w, i32_w]
                              rfl
                            refine take_ (i := 20) (N := some 40) (v := ?_) (a' := ?_) #[true, true, true, true, true, true, true, true, true, true, true, true, true, true, true, true, true, true, true, true, true, false, false] rfl rfl (take_ofW HT_.out HW_.out (by kernel_rfl)) (fun _ _ _ h => h) (Or.inl ⟨by rfl, ?_⟩) hHeld ?_ ?_
                            rotate_left
                            · rintro w' ⟨s0, s1⟩
                              go_simp
                              with_reducible rfl
                            rotate_left
                            · simp only [Act.put, List.setIfInBounds_toArray, List.set_cons_zero, List.set_cons_succ, i64_w, i32_w]
                              rfl
                            refine one_ (i := 21) (N := some 41) #[true, true, true, true, true, true, true, true, true, true, true, true, true, true, true, true, true, true, true, true, true, true, false] rfl rfl (one_of HT_.out (by kernel_rfl)) (by decide) (fun K hK => ?_)
                            refine goes_ Tryd.func91 (by kernel_rfl) rfl #[.slice (some ad106) y110.length c0, .agg #[.int .u8 ((rd_T56 l0 x15_2).f0), .string ((rd_T56 l0 x15_2).f1)]] (by rfl) rfl rfl (by (try simp only [List.map_toArray, List.map_cons, List.map_nil]); first | done | rfl | (simp only [List.length_drop, List.length_take]; rfl)) ?_
                            with_reducible refine (tables_Rule_91.calls k2 _ _ y110 ((rd_T56 l0 x15_2).f0) ((rd_T56 l0 x15_2).f1) true _ ?side1 ?side2 A19.out).mono ?_
                            (case side1 => repeat (first | exact (Kd.C_below HR113.out HB.out) | (with_reducible refine Kd.C_alloc ?_ _) | (with_reducible refine Kd.C_drewN ?_ _) | (with_reducible refine Kd.C_drew ?_)))
                            (case side2 => exact HC113.out)
                            rintro e w27 ⟨rfl, hb⟩
                            refine ⟨_, rfl, ?_⟩
                            have n0_ := Aside0.mk (blk_below (g := gb107) (o := .cells #[.int .u8 ((rd_T56 l0 x15_2).f0), .string ((rd_T56 l0 x15_2).f1)] 56 (0, 0)) (by (with_reducible repeat (first | refine blk_drewN ?_ _ | refine blk_drew ?_ | refine blk_alloc ?_ _)); exact BK107.out) hb)
                            have n1_ := Aside0.mk (below_step (by repeat (first | (with_reducible first | exact HB.out | apply below_alloc | apply pw_below_drewN | apply below_drew1 | refine below_set ?_ GE107.out) | exact HB.out)) hb)
                            clear BK107
                            clear HB
                            have BK107 := n0_
                            have HB := n1_
                            clear n0_ n1_
                            (try clear hb)
                            (try clear hb2)
                            (try clear hk)
                            (try clear hi)
                            refine hK.out _ _ ⟨(blk_cell BK107.out 0).trans rfl, (blk_cell BK107.out 1).trans rfl⟩ (fun hHeld => ?_)
                            clear hK K
                            refine norm_ (a' := ?_) ?_ ?_
                            rotate_left
                            · show Act.put _ (some 41) _ = _
                              simp only [Act.put, List.setIfInBounds_toArray, List.set_cons_zero, List.set_cons_succ, i64_w, i32_w]
                              rfl
                            refine pure_ (i := 22) (N := some 42) (v := ?_) (a' := ?_) #[true, true, true, true, true, true, true, true, true, true, true, true, true, true, true, true, true, true, true, true, true, true, true] rfl rfl (any_of HT_.out (by kernel_rfl)) (fun _ _ _ h => h) (Or.inl ⟨by rfl, ?_⟩) ?_ ?_
                            rotate_left
                            · intro w'
                              go_simp
                              with_reducible rfl
                            rotate_left
                            · simp only [Act.put, List.setIfInBounds_toArray, List.set_cons_zero, List.set_cons_succ, i64_w, i32_w]
                              rfl
                            refine done_ (done_of HT_.out (by kernel_rfl)) ?_
                            try go_wp2
                            go_ret
                            exact ⟨by first | rfl | (simp [errW_none, errW_some] <;> rfl) | (simp [*, errW_none, errW_some] <;> rfl), by repeat (first | (with_reducible first | exact HB.out | apply below_alloc | apply pw_below_drewN | apply below_drew1 | refine below_set ?_ GE107.out) | exact HB.out)⟩
                          · replace c20 := Bool.eq_false_iff.mpr c20
                            subst c20
                            have H1 : (tables_grammar_valid.l0 k2 l0 l0 (l0.length : Int) (wrap64 (x15_2 + 1))) = some r := by rw [if_neg (show ¬ (false = true) by decide)] at H; exact H
                            clear H
                            have H := H1
                            clear H1
                            have H' := Aside0.mk H
                            clear H
                            have p106 : 0 ≤ (x15_2 : Int) := of_decide_eq_true (by first | (with_reducible assumption) | assumption)
                            have q106 : x15_2 < (l0.length : Int) := of_decide_eq_true (by first | (with_reducible assumption) | assumption)
                            obtain ⟨ad106, e106, hx106_0, hx106_1⟩ := at_T56 HR0.out x15_2 p106 q106
                            cases e106
                            replace hx106_0 := (HB.out.cell (World.block_lt_of_cell? w _ hx106_0)).trans hx106_0
                            replace hx106_1 := (HB.out.cell (World.block_lt_of_cell? w _ hx106_1)).trans hx106_1
                            replace p106 := eq_true p106
                            replace q106 := eq_true q106
                            try go_wp2_with (first | ((with_reducible refine gate_dst (N := 4) rfl ?_); (try (refine gate_guard (by rfl) ?_; dsimp only)); refine box_event ?hg (N := 4) ?hd (cs := #[.int .u8 0, .string (⟨#[]⟩ : ByteArray)]) (t := 56) ?hr ?_; (case hd => rfl); (case hg => rfl); (case hr => first | (go_simp; done) | (go_simp; rfl)); intro gb107 hg w28 hbox hb; have n0_ := Aside0.mk (below_step (by repeat (first | (with_reducible first | exact HB.out | apply below_alloc | apply pw_below_drewN | apply below_drew1) | exact HB.out)) hb); have n1_ := Aside0.mk (hbox); have n2_ := Aside0.mk ((by rw [hg]; exact (below_size (by repeat (first | (with_reducible first | exact HB.out | apply below_alloc | apply pw_below_drewN | apply below_drew1) | exact HB.out))) : w.heap.size ≤ gb107)); have n3_ := Aside0.mk ((by rw [hg]; exact (below_size (by repeat (first | (with_reducible first | exact HB.out | apply below_alloc | apply pw_below_drewN | apply below_drew1) | exact HB.out))) : w.heap.size ≤ gb107)); clear HB; have HB := n0_; have BK107 := n1_; have GW107 := n2_; have GE107 := n3_; clear n0_ n1_ n2_ n3_; clear hb hbox hg; have hcz29_0 : w28.cell? ⟨gb107, 0, none⟩ = some (.int .u8 0) := (blk_cell BK107.out 0).trans rfl; have hcz29_1 : w28.cell? ⟨gb107, 1, none⟩ = some (.string (⟨#[]⟩ : ByteArray)) := (blk_cell BK107.out 1).trans rfl; have hfz29_0 := blk_frozen BK107.out 0; have hfz29_1 := blk_frozen BK107.out 1))
                            have n0_ : Aside0 (((w28.setCell ⟨gb107, 0, none⟩ (.int .u8 ((rd_T56 l0 x15_2).f0))).setCell ⟨gb107, 1, none⟩ (.string ((rd_T56 l0 x15_2).f1))).heap[gb107]? = some (.cells #[.int .u8 ((rd_T56 l0 x15_2).f0), .string ((rd_T56 l0 x15_2).f1)] 56 (0, 0))) := ⟨by (with_reducible repeat (first | refine blk_drewN ?_ _ | refine blk_drew ?_ | refine blk_alloc ?_ _)); refine blk_put (cs := #[.int .u8 ((rd_T56 l0 x15_2).f0), .string (⟨#[]⟩ : ByteArray)]) ?_ 1 _ rfl; (with_reducible repeat (first | refine blk_drewN ?_ _ | refine blk_drew ?_ | refine blk_alloc ?_ _)); refine blk_put (cs := #[.int .u8 0, .string (⟨#[]⟩ : ByteArray)]) ?_ 0 _ rfl; (with_reducible repeat (first | refine blk_drewN ?_ _ | refine blk_drew ?_ | refine blk_alloc ?_ _)); exact BK107.out⟩
                            have n1_ : Aside0 (Below w.heap.size w ((w28.setCell ⟨gb107, 0, none⟩ (.int .u8 ((rd_T56 l0 x15_2).f0))).setCell ⟨gb107, 1, none⟩ (.string ((rd_T56 l0 x15_2).f1)))) := ⟨by repeat (first | (with_reducible first | exact HB.out | apply below_alloc | apply pw_below_drewN | apply below_drew1 | refine below_set ?_ GE107.out) | exact HB.out)⟩
                            (try clear BK107)
                            (try clear HB)
                            generalize ((w28.setCell ⟨gb107, 0, none⟩ (.int .u8 ((rd_T56 l0 x15_2).f0))).setCell ⟨gb107, 1, none⟩ (.string ((rd_T56 l0 x15_2).f1))) = w30 at n0_ n1_ ⊢
                            have BK107 := n0_
                            have HB := n1_
                            clear n0_ n1_
                            have n0_ := Aside0.mk (blk_drew BK107.out)
                            have n1_ := Aside0.mk (below_drew1 HB.out)
                            clear BK107
                            clear HB
                            have BK107 := n0_
                            have HB := n1_
                            clear n0_ n1_
                            refine start_ (n := 23) (S := fun w' => w'.cell? ⟨gb107, 0, none⟩ = some (.int .u8 ((rd_T56 l0 x15_2).f0)) ∧ w'.cell? ⟨gb107, 1, none⟩ = some (.string ((rd_T56 l0 x15_2).f1))) (ds := []) #[false, false, false, false, false, false, false, false, false, false, false, false, false, false, false, false, false, false, false, false, false, false, false] (by kernel_rfl) rfl rfl ⟨(blk_cell BK107.out 0).trans rfl, (blk_cell BK107.out 1).trans rfl⟩ (fun hHeld => ?_); refine with_tabW tables_grammar_valid.tab6 tables_grammar_valid.bits6 (fun HT_ HW_ => ?_)
                            generalize w30.drew = w31 at BK107 HB hHeld ⊢
                            refine pure_ (i := 0) (N := some 20) (v := ?_) (a' := ?_) #[true, false, false, false, false, false, false, false, false, false, false, false, false, false, false, false, false, false, false, false, false, false, false] rfl rfl (any_of HT_.out (by kernel_rfl)) (fun _ _ _ h => h) (Or.inl ⟨by rfl, ?_⟩) ?_ ?_
                            rotate_left
                            · intro w'
                              go_simp
                              with_reducible rfl
                            rotate_left
                            · simp only [Act.put, List.setIfInBounds_toArray, List.set_cons_zero, List.set_cons_succ, i64_w, i32_w]
                              rfl
                            refine take_ (i := 1) (N := some 21) (v := ?_) (a' := ?_) #[true, true, false, false, false, false, false, false, false, false, false, false, false, false, false, false, false, false, false, false, false, false, false] rfl rfl (take_ofW HT_.out HW_.out (by kernel_rfl)) (fun _ _ _ h => h) (Or.inl ⟨by rfl, ?_⟩) hHeld ?_ ?_
                            rotate_left
                            · rintro w' ⟨s0, s1⟩
                              go_simp
                              with_reducible rfl
                            rotate_left
                            · simp only [Act.put, List.setIfInBounds_toArray, List.set_cons_zero, List.set_cons_succ, i64_w, i32_w]
                              rfl
                            refine one_ (i := 2) (N := some 22) #[true, true, true, false, false, false, false, false, false, false, false, false, false, false, false, false, false, false, false, false, false, false, false] rfl rfl (one_of HT_.out (by kernel_rfl)) (by decide) (fun K hK => ?_)
                            refine goes_ Tryd.func89 (by kernel_rfl) rfl #[.int .u8 ((rd_T56 l0 x15_2).f0)] (by rfl) rfl rfl (by (try simp only [List.map_toArray, List.map_cons, List.map_nil]); first | done | rfl | (simp only [List.length_drop, List.length_take]; rfl)) ?_
                            with_reducible refine (tables_isPart.calls ((rd_T56 l0 x15_2).f0) true _ A8.out).mono ?_
                            rintro e w' ⟨rfl, ⟨nd, rfl⟩⟩
                            refine ⟨_, rfl, ?_⟩
                            refine hK.out _ _ ⟨(blk_cell BK107.out 0).trans rfl, (blk_cell BK107.out 1).trans rfl⟩ (fun hHeld => ?_)
                            clear hK K
                            refine norm_ (a' := ?_) ?_ ?_
                            rotate_left
                            · show Act.put _ (some 22) _ = _
                              simp only [Act.put, List.setIfInBounds_toArray, List.set_cons_zero, List.set_cons_succ, i64_w, i32_w]
                              rfl
                            refine pure_ (i := 3) (N := some 23) (v := ?_) (a' := ?_) #[true, true, true, true, false, false, false, false, false, false, false, false, false, false, false, false, false, false, false, false, false, false, false] rfl rfl (any_of HT_.out (by kernel_rfl)) (fun _ _ _ h => h) (Or.inl ⟨by rfl, ?_⟩) ?_ ?_
                            rotate_left
                            · intro w'
                              go_simp
                              with_reducible rfl
                            rotate_left
                            · simp only [Act.put, List.setIfInBounds_toArray, List.set_cons_zero, List.set_cons_succ, i64_w, i32_w]
                              rfl
                            refine pure_ (i := 4) (N := some 24) (v := ?_) (a' := ?_) #[true, true, true, true, true, false, false, false, false, false, false, false, false, false, false, false, false, false, false, false, false, false, false] rfl rfl (any_of HT_.out (by kernel_rfl)) (fun _ _ _ h => h) (Or.inl ⟨by rfl, ?_⟩) ?_ ?_
                            rotate_left
                            · intro w'
                              go_simp
                              with_reducible rfl
                            rotate_left
                            · simp only [Act.put, List.setIfInBounds_toArray, List.set_cons_zero, List.set_cons_succ, i64_w, i32_w]
                              rfl
                            refine pure_ (i := 5) (N := some 25) (v := ?_) (a' := ?_) #[true, true, true, true, true, true, false, false, false, false, false, false, false, false, false, false, false, false, false, false, false, false, false] rfl rfl (any_of HT_.out (by kernel_rfl)) (fun _ _ _ h => h) (Or.inl ⟨by rfl, ?_⟩) ?_ ?_
                            rotate_left
                            · intro w'
                              go_simp
                              with_reducible rfl
                            rotate_left
                            · simp only [Act.put, List.setIfInBounds_toArray, List.set_cons_zero, List.set_cons_succ, i64_w, i32_w]
                              rfl
                            refine take_ (i := 6) (N := some 26) (v := ?_) (a' := ?_) #[true, true, true, true, true, true, true, false, false, false, false, false, false, false, false, false, false, false, false, false, false, false, false] rfl rfl (take_ofW HT_.out HW_.out (by kernel_rfl)) (fun _ _ _ h => h) (Or.inl ⟨by rfl, ?_⟩) hHeld ?_ ?_
                            rotate_left
                            · rintro w' ⟨s0, s1⟩
                              go_simp
                              with_reducible rfl
                            rotate_left
                            · simp only [Act.put, List.setIfInBounds_toArray, List.set_cons_zero, List.set_cons_succ, i64_w, i32_w]
                              rfl
                            refine pure_ (i := 7) (N := some 27) (v := ?_) (a' := ?_) #[true, true, true, true, true, true, true, true, false, false, false, false, false, false, false, false, false, false, false, false, false, false, false] rfl rfl (any_of HT_.out (by kernel_rfl)) (fun _ _ _ h => h) (Or.inl ⟨by rfl, ?_⟩) ?_ ?_
                            rotate_left
                            · intro w'
                              go_simp
                              with_reducible rfl
                            rotate_left
                            · simp only [Act.put, List.setIfInBounds_toArray, List.set_cons_zero, List.set_cons_succ, i64_w, i32_w]
                              rfl
                            refine pure_ (i := 8) (N := some 28) (v := ?_) (a' := ?_) #[true, true, true, true, true, true, true, true, true, false, false, false, false, false, false, false, false, false, false, false, false, false, false] rfl rfl (any_of HT_.out (by kernel_rfl)) (fun _ _ _ h => h) (Or.inl ⟨by rfl, ?_⟩) ?_ ?_
                            rotate_left
                            · intro w'
                              go_simp
                              with_reducible rfl
                            rotate_left
                            · simp only [Act.put, List.setIfInBounds_toArray, List.set_cons_zero, List.set_cons_succ, i64_w, i32_w]
                              rfl
                            refine pure_ (i := 9) (N := some 29) (v := ?_) (a' := ?_) #[true, true, true, true, true, true, true, true, true, true, false, false, false, false, false, false, false, false, false, false, false, false, false] rfl rfl (any_of HT_.out (by kernel_rfl)) (fun _ _ _ h => h) (Or.inl ⟨by rfl, ?_⟩) ?_ ?_
                            rotate_left
                            · intro w'
                              go_simp
                              with_reducible rfl
                            rotate_left
                            · simp only [Act.put, List.setIfInBounds_toArray, List.set_cons_zero, List.set_cons_succ, i64_w, i32_w]
                              rfl
                            refine pure_ (i := 10) (N := some 30) (v := ?_) (a' := ?_) #[true, true, true, true, true, true, true, true, true, true, true, false, false, false, false, false, false, false, false, false, false, false, false] rfl rfl (any_of HT_.out (by kernel_rfl)) (fun _ _ _ h => h) (Or.inl ⟨by rfl, ?_⟩) ?_ ?_
                            rotate_left
                            · intro w'
                              go_simp
                              with_reducible rfl
                            rotate_left
                            · simp only [Act.put, List.setIfInBounds_toArray, List.set_cons_zero, List.set_cons_succ, i64_w, i32_w]
                              rfl
                            refine pure_ (i := 11) (N := some 31) (v := ?_) (a' := ?_) #[true, true, true, true, true, true, true, true, true, true, true, true, false, false, false, false, false, false, false, false, false, false, false] rfl rfl (any_of HT_.out (by kernel_rfl)) (fun _ _ _ h => h) (Or.inl ⟨by rfl, ?_⟩) ?_ ?_
                            rotate_left
                            · intro w'
                              go_simp
                              with_reducible rfl
                            rotate_left
                            · simp only [Act.put, List.setIfInBounds_toArray, List.set_cons_zero, List.set_cons_succ, i64_w, i32_w]
                              rfl
                            refine take_ (i := 12) (N := some 32) (v := ?_) (a' := ?_) #[true, true, true, true, true, true, true, true, true, true, true, true, true, false, false, false, false, false, false, false, false, false, false] rfl rfl (take_ofW HT_.out HW_.out (by kernel_rfl)) (fun _ _ _ h => h) (Or.inl ⟨by rfl, ?_⟩) hHeld ?_ ?_
                            rotate_left
                            · rintro w' ⟨s0, s1⟩
                              go_simp
                              with_reducible rfl
                            rotate_left
                            · simp only [Act.put, List.setIfInBounds_toArray, List.set_cons_zero, List.set_cons_succ, i64_w, i32_w]
                              rfl
                            refine one_ (i := 13) (N := some 33) #[true, true, true, true, true, true, true, true, true, true, true, true, true, true, false, false, false, false, false, false, false, false, false] rfl rfl (one_of HT_.out (by kernel_rfl)) (by decide) (fun K hK => ?_)
                            refine goes_ Tryd.func90 (by kernel_rfl) rfl #[.string ((rd_T56 l0 x15_2).f1), .string (⟨#[65, 66, 67, 68, 69, 97, 98, 99, 100]⟩ : ByteArray)] (by rfl) rfl rfl (by (try simp only [List.map_toArray, List.map_cons, List.map_nil]); first | done | rfl | (simp only [List.length_drop, List.length_take]; rfl)) ?_
                            with_reducible refine (strings_Trim.calls ((rd_T56 l0 x15_2).f1) (⟨#[65, 66, 67, 68, 69, 97, 98, 99, 100]⟩ : ByteArray) t109 _ A15.out).mono ?_
                            rintro e w32 ⟨rfl, hb⟩
                            refine ⟨_, rfl, ?_⟩
                            have n0_ := Aside0.mk (blk_below (g := gb107) (o := .cells #[.int .u8 ((rd_T56 l0 x15_2).f0), .string ((rd_T56 l0 x15_2).f1)] 56 (0, 0)) (by (with_reducible repeat (first | refine blk_drewN ?_ _ | refine blk_drew ?_ | refine blk_alloc ?_ _)); exact BK107.out) hb)
                            have n1_ := Aside0.mk (below_step (by repeat (first | (with_reducible first | exact HB.out | apply below_alloc | apply pw_below_drewN | apply below_drew1 | refine below_set ?_ GE107.out) | exact HB.out)) hb)
                            clear BK107
                            clear HB
                            have BK107 := n0_
                            have HB := n1_
                            clear n0_ n1_
                            (try clear hb)
                            (try clear hb2)
                            (try clear hk)
                            (try clear hi)
                            have q33 : (x15_2 : Int) ≤ ((l0.length : Int) : Int) := of_decide_eq_true (by first | (with_reducible assumption) | assumption)
                            obtain ⟨i033, hi033, _, hsz33, _⟩ := info_parts info56
                            have hroom33 : l0.length ≤ c0 := HC0.out
                            have hC33 : Kd.C k56 _ (some ad106) l0.length l0 := HR0.out
                            have hcut33 := cut_to (P := Tryd.prog) 82 56 .i64 Tryd.underlying82 hi033 (some ad106) l0.length c0 x15_2 (of_decide_eq_true (by first | (with_reducible assumption) | assumption)) q33 hroom33
                            have hr33 := Kd.C_take (m := (x15_2 : Int).toNat) hC33 (by omega)
                            have hy33 : y110.length = (x15_2 : Int).toNat := (by rw [Ny110.out, List.length_take]; omega)
                            rw [← Ny110.out] at hr33
                            rw [← hy33] at hcut33
                            have HR113 := Aside0.mk hr33
                            have HC113 := Aside0.mk (show y110.length ≤ c0 from by omega)
                            clear hr33 hC33 hroom33 hi033 hsz33
                            have KY33 := Aside0.mk hy33
                            clear hy33
                            replace q33 := eq_true q33
                            refine hK.out _ _ ⟨(blk_cell BK107.out 0).trans rfl, (blk_cell BK107.out 1).trans rfl⟩ (fun hHeld => ?_)
                            clear hK K
                            refine norm_ (a' := ?_) ?_ ?_
                            rotate_left
                            · show Act.put _ (some 33) _ = _
                              simp only [Act.put, List.setIfInBounds_toArray, List.set_cons_zero, List.set_cons_succ, i64_w, i32_w]
                              rfl
                            refine pure_ (i := 14) (N := some 34) (v := ?_) (a' := ?_) #[true, true, true, true, true, true, true, true, true, true, true, true, true, true, true, false, false, false, false, false, false, false, false] rfl rfl (any_of HT_.out (by kernel_rfl)) (fun _ _ _ h => h) (Or.inl ⟨by rfl, ?_⟩) ?_ ?_
                            rotate_left
                            · intro w'
                              go_simp
                              with_reducible rfl
                            rotate_left
                            · simp only [Act.put, List.setIfInBounds_toArray, List.set_cons_zero, List.set_cons_succ, i64_w, i32_w]
                              rfl
                            refine pure_ (i := 15) (N := some 35) (v := ?_) (a' := ?_) #[true, true, true, true, true, true, true, true, true, true, true, true, true, true, true, true, false, false, false, false, false, false, false] rfl rfl (any_of HT_.out (by kernel_rfl)) (fun _ _ _ h => h) (Or.inl ⟨by rfl, ?_⟩) ?_ ?_
                            rotate_left
                            · intro w'
                              go_simp
                              with_reducible rfl
                            rotate_left
                            · simp only [Act.put, List.setIfInBounds_toArray, List.set_cons_zero, List.set_cons_succ, i64_w, i32_w]
                              rfl
                            refine pure_ (i := 16) (N := some 36) (v := ?_) (a' := ?_) #[true, true, true, true, true, true, true, true, true, true, true, true, true, true, true, true, true, false, false, false, false, false, false] rfl rfl (any_of HT_.out (by kernel_rfl)) (fun _ _ _ h => h) (Or.inl ⟨by rfl, ?_⟩) ?_ ?_
                            rotate_left
                            · intro w'
                              go_simp
                              with_reducible rfl
                            rotate_left
                            · simp only [Act.put, List.setIfInBounds_toArray, List.set_cons_zero, List.set_cons_succ, i64_w, i32_w]
                              rfl
                            refine pure_ (i := 17) (N := some 37) (v := ?_) (a' := ?_) #[true, true, true, true, true, true, true, true, true, true, true, true, true, true, true, true, true, true, false, false, false, false, false] rfl rfl (any_of HT_.out (by kernel_rfl)) (fun _ _ _ h => h) (Or.inl ⟨by rfl, ?_⟩) ?_ ?_
                            rotate_left
                            · intro w'
                              go_simp
                              with_reducible rfl
                            rotate_left
                            · simp only [Act.put, List.setIfInBounds_toArray, List.set_cons_zero, List.set_cons_succ, i64_w, i32_w]
                              rfl
                            refine pure_ (i := 18) (N := some 38) (v := ?_) (a' := ?_) #[true, true, true, true, true, true, true, true, true, true, true, true, true, true, true, true, true, true, true, false, false, false, false] rfl rfl (any_of HT_.out (by kernel_rfl)) (fun _ _ _ h => h) (Or.inl ⟨by rfl, ?_⟩) ?_ ?_
                            rotate_left
                            · intro w'
                              go_simp
                              with_reducible rfl
                            rotate_left
                            · simp only [Act.put, List.setIfInBounds_toArray, List.set_cons_zero, List.set_cons_succ, i64_w, i32_w]
                              rfl
                            refine pure_ (i := 19) (N := some 39) (v := ?_) (a' := ?_) #[true, true, true, true, true, true, true, true, true, true, true, true, true, true, true, true, true, true, true, true, false, false, false] rfl rfl (any_of HT_.out (by kernel_rfl)) (fun _ _ _ h => h) (Or.inl ⟨by rfl, ?_⟩) ?_ ?_
                            rotate_left
                            · intro w'
                              go_simp
                              with_reducible rfl
                            rotate_left
                            · simp only [Act.put, List.setIfInBounds_toArray, List.set_cons_zero, List.set_cons_succ, i64_w, i32_w]
                              rfl
                            refine take_ (i := 20) (N := some 40) (v := ?_) (a' := ?_) #[true, true, true, true, true, true, true, true, true, true, true, true, true, true, true, true, true, true, true, true, true, false, false] rfl rfl (take_ofW HT_.out HW_.out (by kernel_rfl)) (fun _ _ _ h => h) (Or.inl ⟨by rfl, ?_⟩) hHeld ?_ ?_
                            rotate_left
                            · rintro w' ⟨s0, s1⟩
                              go_simp
                              with_reducible rfl
                            rotate_left
                            · simp only [Act.put, List.setIfInBounds_toArray, List.set_cons_zero, List.set_cons_succ, i64_w, i32_w]
                              rfl
                            refine one_ (i := 21) (N := some 41) #[true, true, true, true, true, true, true, true, true, true, true, true, true, true, true, true, true, true, true, true, true, true, false] rfl rfl (one_of HT_.out (by kernel_rfl)) (by decide) (fun K hK => ?_)
                            refine goes_ Tryd.func91 (by kernel_rfl) rfl #[.slice (some ad106) y110.length c0, .agg #[.int .u8 ((rd_T56 l0 x15_2).f0), .string ((rd_T56 l0 x15_2).f1)]] (by rfl) rfl rfl (by (try simp only [List.map_toArray, List.map_cons, List.map_nil]); first | done | rfl | (simp only [List.length_drop, List.length_take]; rfl)) ?_
                            with_reducible refine (tables_Rule_91.calls k2 _ _ y110 ((rd_T56 l0 x15_2).f0) ((rd_T56 l0 x15_2).f1) false _ ?side1 ?side2 A19.out).mono ?_
                            (case side1 => repeat (first | exact (Kd.C_below HR113.out HB.out) | (with_reducible refine Kd.C_alloc ?_ _) | (with_reducible refine Kd.C_drewN ?_ _) | (with_reducible refine Kd.C_drew ?_)))
                            (case side2 => exact HC113.out)
                            rintro e w34 ⟨rfl, hb⟩
                            refine ⟨_, rfl, ?_⟩
                            have n0_ := Aside0.mk (blk_below (g := gb107) (o := .cells #[.int .u8 ((rd_T56 l0 x15_2).f0), .string ((rd_T56 l0 x15_2).f1)] 56 (0, 0)) (by (with_reducible repeat (first | refine blk_drewN ?_ _ | refine blk_drew ?_ | refine blk_alloc ?_ _)); exact BK107.out) hb)
                            have n1_ := Aside0.mk (below_step (by repeat (first | (with_reducible first | exact HB.out | apply below_alloc | apply pw_below_drewN | apply below_drew1 | refine below_set ?_ GE107.out) | exact HB.out)) hb)
                            clear BK107
                            clear HB
                            have BK107 := n0_
                            have HB := n1_
                            clear n0_ n1_
                            (try clear hb)
                            (try clear hb2)
                            (try clear hk)
                            (try clear hi)
                            refine hK.out _ _ ⟨(blk_cell BK107.out 0).trans rfl, (blk_cell BK107.out 1).trans rfl⟩ (fun hHeld => ?_)
                            clear hK K
                            refine norm_ (a' := ?_) ?_ ?_
                            rotate_left
                            · show Act.put _ (some 41) _ = _
                              simp only [Act.put, List.setIfInBounds_toArray, List.set_cons_zero, List.set_cons_succ, i64_w, i32_w]
                              rfl
                            refine pure_ (i := 22) (N := some 42) (v := ?_) (a' := ?_) #[true, true, true, true, true, true, true, true, true, true, true, true, true, true, true, true, true, true, true, true, true, true, true] rfl rfl (any_of HT_.out (by kernel_rfl)) (fun _ _ _ h => h) (Or.inl ⟨by rfl, ?_⟩) ?_ ?_
                            rotate_left
                            · intro w'
                              go_simp
                              with_reducible rfl
                            rotate_left
                            · simp only [Act.put, List.setIfInBounds_toArray, List.set_cons_zero, List.set_cons_succ, i64_w, i32_w]
                              rfl
                            refine done_ (done_of HT_.out (by kernel_rfl)) ?_
                            try go_wp2
                            go_roundg k2
                            case measure => have := HJ1.out; have := HK2.out; omega
                            case rel => exact ⟨(wrap64 (x15_2 + 1)), (by first | rfl | (simp; done) | (simp [*]; done)), H', ⟨by have := HJ1.out; have := HK2.out; omega⟩, ⟨by repeat (first | (with_reducible first | exact HB.out | apply below_alloc | apply pw_below_drewN | apply below_drew1 | refine below_set ?_ GE107.out) | exact HB.out)⟩⟩
                        · rw [if_neg c18] at H
                          exact absurd H (by simp)
                      · rw [if_neg c16] at H
                        have c16b0 : (t109.toList == ([] : List UInt8)) = false := beq_eq_false_iff_ne.mpr c16
                        have c16b1 : (t109.toList != ([] : List UInt8)) = true := bne_iff_ne.mpr c16
                        obtain rfl := Option.some.inj H
                        have p106 : 0 ≤ (x15_2 : Int) := of_decide_eq_true (by first | (with_reducible assumption) | assumption)
                        have q106 : x15_2 < (l0.length : Int) := of_decide_eq_true (by first | (with_reducible assumption) | assumption)
                        obtain ⟨ad106, e106, hx106_0, hx106_1⟩ := at_T56 HR0.out x15_2 p106 q106
                        cases e106
                        replace hx106_0 := (HB.out.cell (World.block_lt_of_cell? w _ hx106_0)).trans hx106_0
                        replace hx106_1 := (HB.out.cell (World.block_lt_of_cell? w _ hx106_1)).trans hx106_1
                        replace p106 := eq_true p106
                        replace q106 := eq_true q106
                        try go_wp2_with (first | ((with_reducible refine gate_dst (N := 4) rfl ?_); (try (refine gate_guard (by rfl) ?_; dsimp only)); refine box_event ?hg (N := 4) ?hd (cs := #[.int .u8 0, .string (⟨#[]⟩ : ByteArray)]) (t := 56) ?hr ?_; (case hd => rfl); (case hg => rfl); (case hr => first | (go_simp; done) | (go_simp; rfl)); intro gb107 hg w35 hbox hb; have n0_ := Aside0.mk (below_step (by repeat (first | (with_reducible first | exact HB.out | apply below_alloc | apply pw_below_drewN | apply below_drew1) | exact HB.out)) hb); have n1_ := Aside0.mk (hbox); have n2_ := Aside0.mk ((by rw [hg]; exact (below_size (by repeat (first | (with_reducible first | exact HB.out | apply below_alloc | apply pw_below_drewN | apply below_drew1) | exact HB.out))) : w.heap.size ≤ gb107)); have n3_ := Aside0.mk ((by rw [hg]; exact (below_size (by repeat (first | (with_reducible first | exact HB.out | apply below_alloc | apply pw_below_drewN | apply below_drew1) | exact HB.out))) : w.heap.size ≤ gb107)); clear HB; have HB := n0_; have BK107 := n1_; have GW107 := n2_; have GE107 := n3_; clear n0_ n1_ n2_ n3_; clear hb hbox hg; have hcz36_0 : w35.cell? ⟨gb107, 0, none⟩ = some (.int .u8 0) := (blk_cell BK107.out 0).trans rfl; have hcz36_1 : w35.cell? ⟨gb107, 1, none⟩ = some (.string (⟨#[]⟩ : ByteArray)) := (blk_cell BK107.out 1).trans rfl; have hfz36_0 := blk_frozen BK107.out 0; have hfz36_1 := blk_frozen BK107.out 1))
                        have n0_ : Aside0 (((w35.setCell ⟨gb107, 0, none⟩ (.int .u8 ((rd_T56 l0 x15_2).f0))).setCell ⟨gb107, 1, none⟩ (.string ((rd_T56 l0 x15_2).f1))).heap[gb107]? = some (.cells #[.int .u8 ((rd_T56 l0 x15_2).f0), .string ((rd_T56 l0 x15_2).f1)] 56 (0, 0))) := ⟨by (with_reducible repeat (first | refine blk_drewN ?_ _ | refine blk_drew ?_ | refine blk_alloc ?_ _)); refine blk_put (cs := #[.int .u8 ((rd_T56 l0 x15_2).f0), .string (⟨#[]⟩ : ByteArray)]) ?_ 1 _ rfl; (with_reducible repeat (first | refine blk_drewN ?_ _ | refine blk_drew ?_ | refine blk_alloc ?_ _)); refine blk_put (cs := #[.int .u8 0, .string (⟨#[]⟩ : ByteArray)]) ?_ 0 _ rfl; (with_reducible repeat (first | refine blk_drewN ?_ _ | refine blk_drew ?_ | refine blk_alloc ?_ _)); exact BK107.out⟩
                        have n1_ : Aside0 (Below w.heap.size w ((w35.setCell ⟨gb107, 0, none⟩ (.int .u8 ((rd_T56 l0 x15_2).f0))).setCell ⟨gb107, 1, none⟩ (.string ((rd_T56 l0 x15_2).f1)))) := ⟨by repeat (first | (with_reducible first | exact HB.out | apply below_alloc | apply pw_below_drewN | apply below_drew1 | refine below_set ?_ GE107.out) | exact HB.out)⟩
                        (try clear BK107)
                        (try clear HB)
                        generalize ((w35.setCell ⟨gb107, 0, none⟩ (.int .u8 ((rd_T56 l0 x15_2).f0))).setCell ⟨gb107, 1, none⟩ (.string ((rd_T56 l0 x15_2).f1))) = w37 at n0_ n1_ ⊢
                        have BK107 := n0_
                        have HB := n1_
                        clear n0_ n1_
                        have n0_ := Aside0.mk (blk_drew BK107.out)
                        have n1_ := Aside0.mk (below_drew1 HB.out)
                        clear BK107
                        clear HB
                        have BK107 := n0_
                        have HB := n1_
                        clear n0_ n1_
                        refine start_ (n := 23) (S := fun w' => w'.cell? ⟨gb107, 0, none⟩ = some (.int .u8 ((rd_T56 l0 x15_2).f0)) ∧ w'.cell? ⟨gb107, 1, none⟩ = some (.string ((rd_T56 l0 x15_2).f1))) (ds := []) #[false, false, false, false, false, false, false, false, false, false, false, false, false, false, false, false, false, false, false, false, false, false, false] (by kernel_rfl) rfl rfl ⟨(blk_cell BK107.out 0).trans rfl, (blk_cell BK107.out 1).trans rfl⟩ (fun hHeld => ?_); refine with_tabW tables_grammar_valid.tab6 tables_grammar_valid.bits6 (fun HT_ HW_ => ?_)
                        generalize w37.drew = w38 at BK107 HB hHeld ⊢
                        refine pure_ (i := 0) (N := some 20) (v := ?_) (a' := ?_) #[true, false, false, false, false, false, false, false, false, false, false, false, false, false, false, false, false, false, false, false, false, false, false] rfl rfl (any_of HT_.out (by kernel_rfl)) (fun _ _ _ h => h) (Or.inl ⟨by rfl, ?_⟩) ?_ ?_
                        rotate_left
                        · intro w'
                          go_simp
                          with_reducible rfl
                        rotate_left
                        · simp only [Act.put, List.setIfInBounds_toArray, List.set_cons_zero, List.set_cons_succ, i64_w, i32_w]
                          rfl
                        refine take_ (i := 1) (N := some 21) (v := ?_) (a' := ?_) #[true, true, false, false, false, false, false, false, false, false, false, false, false, false, false, false, false, false, false, false, false, false, false] rfl rfl (take_ofW HT_.out HW_.out (by kernel_rfl)) (fun _ _ _ h => h) (Or.inl ⟨by rfl, ?_⟩) hHeld ?_ ?_
                        rotate_left
                        · rintro w' ⟨s0, s1⟩
                          go_simp
                          with_reducible rfl
                        rotate_left
                        · simp only [Act.put, List.setIfInBounds_toArray, List.set_cons_zero, List.set_cons_succ, i64_w, i32_w]
                          rfl
                        refine one_ (i := 2) (N := some 22) #[true, true, true, false, false, false, false, false, false, false, false, false, false, false, false, false, false, false, false, false, false, false, false] rfl rfl (one_of HT_.out (by kernel_rfl)) (by decide) (fun K hK => ?_)
                        refine goes_ Tryd.func89 (by kernel_rfl) rfl #[.int .u8 ((rd_T56 l0 x15_2).f0)] (by rfl) rfl rfl (by (try simp only [List.map_toArray, List.map_cons, List.map_nil]); first | done | rfl | (simp only [List.length_drop, List.length_take]; rfl)) ?_
                        with_reducible refine (tables_isPart.calls ((rd_T56 l0 x15_2).f0) true _ A8.out).mono ?_
                        rintro e w' ⟨rfl, ⟨nd, rfl⟩⟩
                        refine ⟨_, rfl, ?_⟩
                        refine hK.out _ _ ⟨(blk_cell BK107.out 0).trans rfl, (blk_cell BK107.out 1).trans rfl⟩ (fun hHeld => ?_)
                        clear hK K
                        refine norm_ (a' := ?_) ?_ ?_
                        rotate_left
                        · show Act.put _ (some 22) _ = _
                          simp only [Act.put, List.setIfInBounds_toArray, List.set_cons_zero, List.set_cons_succ, i64_w, i32_w]
                          rfl
                        refine pure_ (i := 3) (N := some 23) (v := ?_) (a' := ?_) #[true, true, true, true, false, false, false, false, false, false, false, false, false, false, false, false, false, false, false, false, false, false, false] rfl rfl (any_of HT_.out (by kernel_rfl)) (fun _ _ _ h => h) (Or.inl ⟨by rfl, ?_⟩) ?_ ?_
                        rotate_left
                        · intro w'
                          go_simp
                          with_reducible rfl
                        rotate_left
                        · simp only [Act.put, List.setIfInBounds_toArray, List.set_cons_zero, List.set_cons_succ, i64_w, i32_w]
                          rfl
                        refine pure_ (i := 4) (N := some 24) (v := ?_) (a' := ?_) #[true, true, true, true, true, false, false, false, false, false, false, false, false, false, false, false, false, false, false, false, false, false, false] rfl rfl (any_of HT_.out (by kernel_rfl)) (fun _ _ _ h => h) (Or.inl ⟨by rfl, ?_⟩) ?_ ?_
                        rotate_left
                        · intro w'
                          go_simp
                          with_reducible rfl
                        rotate_left
                        · simp only [Act.put, List.setIfInBounds_toArray, List.set_cons_zero, List.set_cons_succ, i64_w, i32_w]
                          rfl
                        refine pure_ (i := 5) (N := some 25) (v := ?_) (a' := ?_) #[true, true, true, true, true, true, false, false, false, false, false, false, false, false, false, false, false, false, false, false, false, false, false] rfl rfl (any_of HT_.out (by kernel_rfl)) (fun _ _ _ h => h) (Or.inl ⟨by rfl, ?_⟩) ?_ ?_
                        rotate_left
                        · intro w'
                          go_simp
                          with_reducible rfl
                        rotate_left
                        · simp only [Act.put, List.setIfInBounds_toArray, List.set_cons_zero, List.set_cons_succ, i64_w, i32_w]
                          rfl
                        refine take_ (i := 6) (N := some 26) (v := ?_) (a' := ?_) #[true, true, true, true, true, true, true, false, false, false, false, false, false, false, false, false, false, false, false, false, false, false, false] rfl rfl (take_ofW HT_.out HW_.out (by kernel_rfl)) (fun _ _ _ h => h) (Or.inl ⟨by rfl, ?_⟩) hHeld ?_ ?_
                        rotate_left
                        · rintro w' ⟨s0, s1⟩
                          go_simp
                          with_reducible rfl
                        rotate_left
                        · simp only [Act.put, List.setIfInBounds_toArray, List.set_cons_zero, List.set_cons_succ, i64_w, i32_w]
                          rfl
                        refine pure_ (i := 7) (N := some 27) (v := ?_) (a' := ?_) #[true, true, true, true, true, true, true, true, false, false, false, false, false, false, false, false, false, false, false, false, false, false, false] rfl rfl (any_of HT_.out (by kernel_rfl)) (fun _ _ _ h => h) (Or.inl ⟨by rfl, ?_⟩) ?_ ?_
                        rotate_left
                        · intro w'
                          go_simp
                          with_reducible rfl
                        rotate_left
                        · simp only [Act.put, List.setIfInBounds_toArray, List.set_cons_zero, List.set_cons_succ, i64_w, i32_w]
                          rfl
                        refine pure_ (i := 8) (N := some 28) (v := ?_) (a' := ?_) #[true, true, true, true, true, true, true, true, true, false, false, false, false, false, false, false, false, false, false, false, false, false, false] rfl rfl (any_of HT_.out (by kernel_rfl)) (fun _ _ _ h => h) (Or.inl ⟨by rfl, ?_⟩) ?_ ?_
                        rotate_left
                        · intro w'
                          go_simp
                          with_reducible rfl
                        rotate_left
                        · simp only [Act.put, List.setIfInBounds_toArray, List.set_cons_zero, List.set_cons_succ, i64_w, i32_w]
                          rfl
                        refine pure_ (i := 9) (N := some 29) (v := ?_) (a' := ?_) #[true, true, true, true, true, true, true, true, true, true, false, false, false, false, false, false, false, false, false, false, false, false, false] rfl rfl (any_of HT_.out (by kernel_rfl)) (fun _ _ _ h => h) (Or.inl ⟨by rfl, ?_⟩) ?_ ?_
                        rotate_left
                        · intro w'
                          go_simp
                          with_reducible rfl
                        rotate_left
                        · simp only [Act.put, List.setIfInBounds_toArray, List.set_cons_zero, List.set_cons_succ, i64_w, i32_w]
                          rfl
                        refine pure_ (i := 10) (N := some 30) (v := ?_) (a' := ?_) #[true, true, true, true, true, true, true, true, true, true, true, false, false, false, false, false, false, false, false, false, false, false, false] rfl rfl (any_of HT_.out (by kernel_rfl)) (fun _ _ _ h => h) (Or.inl ⟨by rfl, ?_⟩) ?_ ?_
                        rotate_left
                        · intro w'
                          go_simp
                          with_reducible rfl
                        rotate_left
                        · simp only [Act.put, List.setIfInBounds_toArray, List.set_cons_zero, List.set_cons_succ, i64_w, i32_w]
                          rfl
                        refine pure_ (i := 11) (N := some 31) (v := ?_) (a' := ?_) #[true, true, true, true, true, true, true, true, true, true, true, true, false, false, false, false, false, false, false, false, false, false, false] rfl rfl (any_of HT_.out (by kernel_rfl)) (fun _ _ _ h => h) (Or.inl ⟨by rfl, ?_⟩) ?_ ?_
                        rotate_left
                        · intro w'
                          go_simp
                          with_reducible rfl
                        rotate_left
                        · simp only [Act.put, List.setIfInBounds_toArray, List.set_cons_zero, List.set_cons_succ, i64_w, i32_w]
                          rfl
                        refine take_ (i := 12) (N := some 32) (v := ?_) (a' := ?_) #[true, true, true, true, true, true, true, true, true, true, true, true, true, false, false, false, false, false, false, false, false, false, false] rfl rfl (take_ofW HT_.out HW_.out (by kernel_rfl)) (fun _ _ _ h => h) (Or.inl ⟨by rfl, ?_⟩) hHeld ?_ ?_
                        rotate_left
                        · rintro w' ⟨s0, s1⟩
                          go_simp
                          with_reducible rfl
                        rotate_left
                        · simp only [Act.put, List.setIfInBounds_toArray, List.set_cons_zero, List.set_cons_succ, i64_w, i32_w]
                          rfl
                        refine one_ (i := 13) (N := some 33) #[true, true, true, true, true, true, true, true, true, true, true, true, true, true, false, false, false, false, false, false, false, false, false] rfl rfl (one_of HT_.out (by kernel_rfl)) (by decide) (fun K hK => ?_)
                        refine goes_ Tryd.func90 (by kernel_rfl) rfl #[.string ((rd_T56 l0 x15_2).f1), .string (⟨#[65, 66, 67, 68, 69, 97, 98, 99, 100]⟩ : ByteArray)] (by rfl) rfl rfl (by (try simp only [List.map_toArray, List.map_cons, List.map_nil]); first | done | rfl | (simp only [List.length_drop, List.length_take]; rfl)) ?_
                        with_reducible refine (strings_Trim.calls ((rd_T56 l0 x15_2).f1) (⟨#[65, 66, 67, 68, 69, 97, 98, 99, 100]⟩ : ByteArray) t109 _ A15.out).mono ?_
                        rintro e w39 ⟨rfl, hb⟩
                        refine ⟨_, rfl, ?_⟩
                        have n0_ := Aside0.mk (blk_below (g := gb107) (o := .cells #[.int .u8 ((rd_T56 l0 x15_2).f0), .string ((rd_T56 l0 x15_2).f1)] 56 (0, 0)) (by (with_reducible repeat (first | refine blk_drewN ?_ _ | refine blk_drew ?_ | refine blk_alloc ?_ _)); exact BK107.out) hb)
                        have n1_ := Aside0.mk (below_step (by repeat (first | (with_reducible first | exact HB.out | apply below_alloc | apply pw_below_drewN | apply below_drew1 | refine below_set ?_ GE107.out) | exact HB.out)) hb)
                        clear BK107
                        clear HB
                        have BK107 := n0_
                        have HB := n1_
                        clear n0_ n1_
                        (try clear hb)
                        (try clear hb2)
                        (try clear hk)
                        (try clear hi)
                        refine hK.out _ _ ⟨(blk_cell BK107.out 0).trans rfl, (blk_cell BK107.out 1).trans rfl⟩ (fun hHeld => ?_)
                        clear hK K
                        refine norm_ (a' := ?_) ?_ ?_
                        rotate_left
                        · show Act.put _ (some 33) _ = _
                          simp only [Act.put, List.setIfInBounds_toArray, List.set_cons_zero, List.set_cons_succ, i64_w, i32_w]
                          rfl
                        refine pure_ (i := 14) (N := some 34) (v := ?_) (a' := ?_) #[true, true, true, true, true, true, true, true, true, true, true, true, true, true, true, false, false, false, false, false, false, false, false] rfl rfl (any_of HT_.out (by kernel_rfl)) (fun _ _ _ h => h) (Or.inl ⟨by rfl, ?_⟩) ?_ ?_
                        rotate_left
                        · intro w'
                          go_simp
                          with_reducible rfl
                        rotate_left
                        · simp only [Act.put, List.setIfInBounds_toArray, List.set_cons_zero, List.set_cons_succ, i64_w, i32_w]
                          rfl
                        refine pure_ (i := 15) (N := some 35) (v := ?_) (a' := ?_) #[true, true, true, true, true, true, true, true, true, true, true, true, true, true, true, true, false, false, false, false, false, false, false] rfl rfl (any_of HT_.out (by kernel_rfl)) (fun _ _ _ h => h) (Or.inl ⟨by rfl, ?_⟩) ?_ ?_
                        rotate_left
                        · intro w'
                          go_simp
                          with_reducible rfl
                        rotate_left
                        · simp only [Act.put, List.setIfInBounds_toArray, List.set_cons_zero, List.set_cons_succ, i64_w, i32_w]
                          rfl
                        refine pure_ (i := 16) (N := some 36) (v := ?_) (a' := ?_) #[true, true, true, true, true, true, true, true, true, true, true, true, true, true, true, true, true, false, false, false, false, false, false] rfl rfl (any_of HT_.out (by kernel_rfl)) (fun _ _ _ h => h) (Or.inl ⟨by rfl, ?_⟩) ?_ ?_
                        rotate_left
                        · intro w'
                          go_simp
                          with_reducible rfl
                        rotate_left
                        · simp only [Act.put, List.setIfInBounds_toArray, List.set_cons_zero, List.set_cons_succ, i64_w, i32_w]
                          rfl
                        refine pure_ (i := 17) (N := some 37) (v := undef) (a' := ?_) #[true, true, true, true, true, true, true, true, true, true, true, true, true, true, true, true, true, true, false, false, false, false, false] rfl rfl (any_of HT_.out (by kernel_rfl)) (fun _ _ _ h => h) (Or.inr ⟨by rfl, rfl⟩) ?_ ?_
                        rotate_left
                        · simp only [Act.put, List.setIfInBounds_toArray, List.set_cons_zero, List.set_cons_succ, i64_w, i32_w]
                          rfl
                        refine pure_ (i := 18) (N := some 38) (v := undef) (a' := ?_) #[true, true, true, true, true, true, true, true, true, true, true, true, true, true, true, true, true, true, true, false, false, false, false] rfl rfl (any_of HT_.out (by kernel_rfl)) (fun _ _ _ h => h) (Or.inr ⟨by rfl, rfl⟩) ?_ ?_
                        rotate_left
                        · simp only [Act.put, List.setIfInBounds_toArray, List.set_cons_zero, List.set_cons_succ, i64_w, i32_w]
                          rfl
                        refine pure_ (i := 19) (N := some 39) (v := undef) (a' := ?_) #[true, true, true, true, true, true, true, true, true, true, true, true, true, true, true, true, true, true, true, true, false, false, false] rfl rfl (any_of HT_.out (by kernel_rfl)) (fun _ _ _ h => h) (Or.inr ⟨by rfl, rfl⟩) ?_ ?_
                        rotate_left
                        · simp only [Act.put, List.setIfInBounds_toArray, List.set_cons_zero, List.set_cons_succ, i64_w, i32_w]
                          rfl
                        refine pure_ (i := 20) (N := some 40) (v := undef) (a' := ?_) #[true, true, true, true, true, true, true, true, true, true, true, true, true, true, true, true, true, true, true, true, true, false, false] rfl rfl (any_of HT_.out (by kernel_rfl)) (fun _ _ _ h => h) (Or.inr ⟨by rfl, rfl⟩) ?_ ?_
                        rotate_left
                        · simp only [Act.put, List.setIfInBounds_toArray, List.set_cons_zero, List.set_cons_succ, i64_w, i32_w]
                          rfl
                        refine pure_ (i := 21) (N := some 41) (v := undef) (a' := ?_) #[true, true, true, true, true, true, true, true, true, true, true, true, true, true, true, true, true, true, true, true, true, true, false] rfl rfl (any_of HT_.out (by kernel_rfl)) (fun _ _ _ h => h) (Or.inr ⟨by rfl, rfl⟩) ?_ ?_
                        rotate_left
                        · simp only [Act.put, List.setIfInBounds_toArray, List.set_cons_zero, List.set_cons_succ, i64_w, i32_w]
                          rfl
                        refine pure_ (i := 22) (N := some 42) (v := ?_) (a' := ?_) #[true, true, true, true, true, true, true, true, true, true, true, true, true, true, true, true, true, true, true, true, true, true, true] rfl rfl (any_of HT_.out (by kernel_rfl)) (fun _ _ _ h => h) (Or.inl ⟨by rfl, ?_⟩) ?_ ?_
                        rotate_left
                        · intro w'
                          go_simp
                          with_reducible rfl
                        rotate_left
                        · simp only [Act.put, List.setIfInBounds_toArray, List.set_cons_zero, List.set_cons_succ, i64_w, i32_w]
                          rfl
                        refine done_ (done_of HT_.out (by kernel_rfl)) ?_
                        try go_wp2
                        go_ret
                        exact ⟨by first | rfl | (simp [errW_none, errW_some] <;> rfl) | (simp [*, errW_none, errW_some] <;> rfl), by repeat (first | (with_reducible first | exact HB.out | apply below_alloc | apply pw_below_drewN | apply below_drew1 | refine below_set ?_ GE107.out) | exact HB.out)⟩
                  · replace c9 := Bool.eq_false_iff.mpr c9
                    subst c9
                    have H1 : (some false) = some r := by rw [if_neg (show ¬ (false = true) by decide)] at H; exact H
                    clear H
                    have H := H1
                    clear H1
                    obtain rfl := Option.some.inj H
                    have p106 : 0 ≤ (x15_2 : Int) := of_decide_eq_true (by first | (with_reducible assumption) | assumption)
                    have q106 : x15_2 < (l0.length : Int) := of_decide_eq_true (by first | (with_reducible assumption) | assumption)
                    obtain ⟨ad106, e106, hx106_0, hx106_1⟩ := at_T56 HR0.out x15_2 p106 q106
                    cases e106
                    replace hx106_0 := (HB.out.cell (World.block_lt_of_cell? w _ hx106_0)).trans hx106_0
                    replace hx106_1 := (HB.out.cell (World.block_lt_of_cell? w _ hx106_1)).trans hx106_1
                    replace p106 := eq_true p106
                    replace q106 := eq_true q106
                    try go_wp2_with (first | ((with_reducible refine gate_dst (N := 4) rfl ?_); (try (refine gate_guard (by rfl) ?_; dsimp only)); refine box_event ?hg (N := 4) ?hd (cs := #[.int .u8 0, .string (⟨#[]⟩ : ByteArray)]) (t := 56) ?hr ?_; (case hd => rfl); (case hg => rfl); (case hr => first | (go_simp; done) | (go_simp; rfl)); intro gb107 hg w40 hbox hb; have n0_ := Aside0.mk (below_step (by repeat (first | (with_reducible first | exact HB.out | apply below_alloc | apply pw_below_drewN | apply below_drew1) | exact HB.out)) hb); have n1_ := Aside0.mk (hbox); have n2_ := Aside0.mk ((by rw [hg]; exact (below_size (by repeat (first | (with_reducible first | exact HB.out | apply below_alloc | apply pw_below_drewN | apply below_drew1) | exact HB.out))) : w.heap.size ≤ gb107)); have n3_ := Aside0.mk ((by rw [hg]; exact (below_size (by repeat (first | (with_reducible first | exact HB.out | apply below_alloc | apply pw_below_drewN | apply below_drew1) | exact HB.out))) : w.heap.size ≤ gb107)); clear HB; have HB := n0_; have BK107 := n1_; have GW107 := n2_; have GE107 := n3_; clear n0_ n1_ n2_ n3_; clear hb hbox hg; have hcz41_0 : w40.cell? ⟨gb107, 0, none⟩ = some (.int .u8 0) := (blk_cell BK107.out 0).trans rfl; have hcz41_1 : w40.cell? ⟨gb107, 1, none⟩ = some (.string (⟨#[]⟩ : ByteArray)) := (blk_cell BK107.out 1).trans rfl; have hfz41_0 := blk_frozen BK107.out 0; have hfz41_1 := blk_frozen BK107.out 1))
                    have n0_ : Aside0 (((w40.setCell ⟨gb107, 0, none⟩ (.int .u8 ((rd_T56 l0 x15_2).f0))).setCell ⟨gb107, 1, none⟩ (.string ((rd_T56 l0 x15_2).f1))).heap[gb107]? = some (.cells #[.int .u8 ((rd_T56 l0 x15_2).f0), .string ((rd_T56 l0 x15_2).f1)] 56 (0, 0))) := ⟨by (with_reducible repeat (first | refine blk_drewN ?_ _ | refine blk_drew ?_ | refine blk_alloc ?_ _)); refine blk_put (cs := #[.int .u8 ((rd_T56 l0 x15_2).f0), .string (⟨#[]⟩ : ByteArray)]) ?_ 1 _ rfl; (with_reducible repeat (first | refine blk_drewN ?_ _ | refine blk_drew ?_ | refine blk_alloc ?_ _)); refine blk_put (cs := #[.int .u8 0, .string (⟨#[]⟩ : ByteArray)]) ?_ 0 _ rfl; (with_reducible repeat (first | refine blk_drewN ?_ _ | refine blk_drew ?_ | refine blk_alloc ?_ _)); exact BK107.out⟩
                    have n1_ : Aside0 (Below w.heap.size w ((w40.setCell ⟨gb107, 0, none⟩ (.int .u8 ((rd_T56 l0 x15_2).f0))).setCell ⟨gb107, 1, none⟩ (.string ((rd_T56 l0 x15_2).f1)))) := ⟨by repeat (first | (with_reducible first | exact HB.out | apply below_alloc | apply pw_below_drewN | apply below_drew1 | refine below_set ?_ GE107.out) | exact HB.out)⟩
                    (try clear BK107)
                    (try clear HB)
                    generalize ((w40.setCell ⟨gb107, 0, none⟩ (.int .u8 ((rd_T56 l0 x15_2).f0))).setCell ⟨gb107, 1, none⟩ (.string ((rd_T56 l0 x15_2).f1))) = w42 at n0_ n1_ ⊢
                    have BK107 := n0_
                    have HB := n1_
                    clear n0_ n1_
                    have n0_ := Aside0.mk (blk_drew BK107.out)
                    have n1_ := Aside0.mk (below_drew1 HB.out)
                    clear BK107
                    clear HB
                    have BK107 := n0_
                    have HB := n1_
                    clear n0_ n1_
                    refine start_ (n := 23) (S := fun w' => w'.cell? ⟨gb107, 0, none⟩ = some (.int .u8 ((rd_T56 l0 x15_2).f0)) ∧ w'.cell? ⟨gb107, 1, none⟩ = some (.string ((rd_T56 l0 x15_2).f1))) (ds := []) #[false, false, false, false, false, false, false, false, false, false, false, false, false, false, false, false, false, false, false, false, false, false, false] (by kernel_rfl) rfl rfl ⟨(blk_cell BK107.out 0).trans rfl, (blk_cell BK107.out 1).trans rfl⟩ (fun hHeld => ?_); refine with_tabW tables_grammar_valid.tab6 tables_grammar_valid.bits6 (fun HT_ HW_ => ?_)
                    generalize w42.drew = w43 at BK107 HB hHeld ⊢
                    refine pure_ (i := 0) (N := some 20) (v := ?_) (a' := ?_) #[true, false, false, false, false, false, false, false, false, false, false, false, false, false, false, false, false, false, false, false, false, false, false] rfl rfl (any_of HT_.out (by kernel_rfl)) (fun _ _ _ h => h) (Or.inl ⟨by rfl, ?_⟩) ?_ ?_
                    rotate_left
                    · intro w'
                      go_simp
                      with_reducible rfl
                    rotate_left
                    · simp only [Act.put, List.setIfInBounds_toArray, List.set_cons_zero, List.set_cons_succ, i64_w, i32_w]
                      rfl
                    refine take_ (i := 1) (N := some 21) (v := ?_) (a' := ?_) #[true, true, false, false, false, false, false, false, false, false, false, false, false, false, false, false, false, false, false, false, false, false, false] rfl rfl (take_ofW HT_.out HW_.out (by kernel_rfl)) (fun _ _ _ h => h) (Or.inl ⟨by rfl, ?_⟩) hHeld ?_ ?_
                    rotate_left
                    · rintro w' ⟨s0, s1⟩
                      go_simp
                      with_reducible rfl
                    rotate_left
                    · simp only [Act.put, List.setIfInBounds_toArray, List.set_cons_zero, List.set_cons_succ, i64_w, i32_w]
                      rfl
                    refine one_ (i := 2) (N := some 22) #[true, true, true, false, false, false, false, false, false, false, false, false, false, false, false, false, false, false, false, false, false, false, false] rfl rfl (one_of HT_.out (by kernel_rfl)) (by decide) (fun K hK => ?_)
                    refine goes_ Tryd.func89 (by kernel_rfl) rfl #[.int .u8 ((rd_T56 l0 x15_2).f0)] (by rfl) rfl rfl (by (try simp only [List.map_toArray, List.map_cons, List.map_nil]); first | done | rfl | (simp only [List.length_drop, List.length_take]; rfl)) ?_
                    with_reducible refine (tables_isPart.calls ((rd_T56 l0 x15_2).f0) false _ A8.out).mono ?_
                    rintro e w' ⟨rfl, ⟨nd, rfl⟩⟩
                    refine ⟨_, rfl, ?_⟩
                    refine hK.out _ _ ⟨(blk_cell BK107.out 0).trans rfl, (blk_cell BK107.out 1).trans rfl⟩ (fun hHeld => ?_)
                    clear hK K
                    refine norm_ (a' := ?_) ?_ ?_
                    rotate_left
                    · show Act.put _ (some 22) _ = _
                      simp only [Act.put, List.setIfInBounds_toArray, List.set_cons_zero, List.set_cons_succ, i64_w, i32_w]
                      rfl
                    refine pure_ (i := 3) (N := some 23) (v := ?_) (a' := ?_) #[true, true, true, true, false, false, false, false, false, false, false, false, false, false, false, false, false, false, false, false, false, false, false] rfl rfl (any_of HT_.out (by kernel_rfl)) (fun _ _ _ h => h) (Or.inl ⟨by rfl, ?_⟩) ?_ ?_
                    rotate_left
                    · intro w'
                      go_simp
                      with_reducible rfl
                    rotate_left
                    · simp only [Act.put, List.setIfInBounds_toArray, List.set_cons_zero, List.set_cons_succ, i64_w, i32_w]
                      rfl
                    refine pure_ (i := 4) (N := some 24) (v := ?_) (a' := ?_) #[true, true, true, true, true, false, false, false, false, false, false, false, false, false, false, false, false, false, false, false, false, false, false] rfl rfl (any_of HT_.out (by kernel_rfl)) (fun _ _ _ h => h) (Or.inl ⟨by rfl, ?_⟩) ?_ ?_
                    rotate_left
                    · intro w'
                      go_simp
                      with_reducible rfl
                    rotate_left
                    · simp only [Act.put, List.setIfInBounds_toArray, List.set_cons_zero, List.set_cons_succ, i64_w, i32_w]
                      rfl
                    refine pure_ (i := 5) (N := some 25) (v := undef) (a' := ?_) #[true, true, true, true, true, true, false, false, false, false, false, false, false, false, false, false, false, false, false, false, false, false, false] rfl rfl (any_of HT_.out (by kernel_rfl)) (fun _ _ _ h => h) (Or.inr ⟨by rfl, rfl⟩) ?_ ?_
                    rotate_left
                    · simp only [Act.put, List.setIfInBounds_toArray, List.set_cons_zero, List.set_cons_succ, i64_w, i32_w]
                      rfl
                    refine pure_ (i := 6) (N := some 26) (v := undef) (a' := ?_) #[true, true, true, true, true, true, true, false, false, false, false, false, false, false, false, false, false, false, false, false, false, false, false] rfl rfl (any_of HT_.out (by kernel_rfl)) (fun _ _ _ h => h) (Or.inr ⟨by rfl, rfl⟩) ?_ ?_
                    rotate_left
                    · simp only [Act.put, List.setIfInBounds_toArray, List.set_cons_zero, List.set_cons_succ, i64_w, i32_w]
                      rfl
                    refine pure_ (i := 7) (N := some 27) (v := undef) (a' := ?_) #[true, true, true, true, true, true, true, true, false, false, false, false, false, false, false, false, false, false, false, false, false, false, false] rfl rfl (any_of HT_.out (by kernel_rfl)) (fun _ _ _ h => h) (Or.inr ⟨by rfl, rfl⟩) ?_ ?_
                    rotate_left
                    · simp only [Act.put, List.setIfInBounds_toArray, List.set_cons_zero, List.set_cons_succ, i64_w, i32_w]
                      rfl
                    refine pure_ (i := 8) (N := some 28) (v := undef) (a' := ?_) #[true, true, true, true, true, true, true, true, true, false, false, false, false, false, false, false, false, false, false, false, false, false, false] rfl rfl (any_of HT_.out (by kernel_rfl)) (fun _ _ _ h => h) (Or.inr ⟨by rfl, rfl⟩) ?_ ?_
                    rotate_left
                    · simp only [Act.put, List.setIfInBounds_toArray, List.set_cons_zero, List.set_cons_succ, i64_w, i32_w]
                      rfl
                    refine pure_ (i := 9) (N := some 29) (v := ?_) (a' := ?_) #[true, true, true, true, true, true, true, true, true, true, false, false, false, false, false, false, false, false, false, false, false, false, false] rfl rfl (any_of HT_.out (by kernel_rfl)) (fun _ _ _ h => h) (Or.inl ⟨by rfl, ?_⟩) ?_ ?_
                    rotate_left
                    · intro w'
                      go_simp
                      with_reducible rfl
                    rotate_left
                    · simp only [Act.put, List.setIfInBounds_toArray, List.set_cons_zero, List.set_cons_succ, i64_w, i32_w]
                      rfl
                    refine pure_ (i := 10) (N := some 30) (v := ?_) (a' := ?_) #[true, true, true, true, true, true, true, true, true, true, true, false, false, false, false, false, false, false, false, false, false, false, false] rfl rfl (any_of HT_.out (by kernel_rfl)) (fun _ _ _ h => h) (Or.inl ⟨by rfl, ?_⟩) ?_ ?_
                    rotate_left
                    · intro w'
                      go_simp
                      with_reducible rfl
                    rotate_left
                    · simp only [Act.put, List.setIfInBounds_toArray, List.set_cons_zero, List.set_cons_succ, i64_w, i32_w]
                      rfl
                    refine pure_ (i := 11) (N := some 31) (v := undef) (a' := ?_) #[true, true, true, true, true, true, true, true, true, true, true, true, false, false, false, false, false, false, false, false, false, false, false] rfl rfl (any_of HT_.out (by kernel_rfl)) (fun _ _ _ h => h) (Or.inr ⟨by rfl, rfl⟩) ?_ ?_
                    rotate_left
                    · simp only [Act.put, List.setIfInBounds_toArray, List.set_cons_zero, List.set_cons_succ, i64_w, i32_w]
                      rfl
                    refine pure_ (i := 12) (N := some 32) (v := undef) (a' := ?_) #[true, true, true, true, true, true, true, true, true, true, true, true, true, false, false, false, false, false, false, false, false, false, false] rfl rfl (any_of HT_.out (by kernel_rfl)) (fun _ _ _ h => h) (Or.inr ⟨by rfl, rfl⟩) ?_ ?_
                    rotate_left
                    · simp only [Act.put, List.setIfInBounds_toArray, List.set_cons_zero, List.set_cons_succ, i64_w, i32_w]
                      rfl
                    refine pure_ (i := 13) (N := some 33) (v := undef) (a' := ?_) #[true, true, true, true, true, true, true, true, true, true, true, true, true, true, false, false, false, false, false, false, false, false, false] rfl rfl (any_of HT_.out (by kernel_rfl)) (fun _ _ _ h => h) (Or.inr ⟨by rfl, rfl⟩) ?_ ?_
                    rotate_left
                    · simp only [Act.put, List.setIfInBounds_toArray, List.set_cons_zero, List.set_cons_succ, i64_w, i32_w]
                      rfl
                    refine pure_ (i := 14) (N := some 34) (v := undef) (a' := ?_) #[true, true, true, true, true, true, true, true, true, true, true, true, true, true, true, false, false, false, false, false, false, false, false] rfl rfl (any_of HT_.out (by kernel_rfl)) (fun _ _ _ h => h) (Or.inr ⟨by rfl, rfl⟩) ?_ ?_
                    rotate_left
                    · simp only [Act.put, List.setIfInBounds_toArray, List.set_cons_zero, List.set_cons_succ, i64_w, i32_w]
                      rfl
                    refine pure_ (i := 15) (N := some 35) (v := ?_) (a' := ?_) #[true, true, true, true, true, true, true, true, true, true, true, true, true, true, true, true, false, false, false, false, false, false, false] rfl rfl (any_of HT_.out (by kernel_rfl)) (fun _ _ _ h => h) (Or.inl ⟨by rfl, ?_⟩) ?_ ?_
                    rotate_left
                    · intro w'
                      go_simp
                      with_reducible rfl
                    rotate_left
                    · simp only [Act.put, List.setIfInBounds_toArray, List.set_cons_zero, List.set_cons_succ, i64_w, i32_w]
                      rfl
                    refine pure_ (i := 16) (N := some 36) (v := ?_) (a' := ?_) #[true, true, true, true, true, true, true, true, true, true, true, true, true, true, true, true, true, false, false, false, false, false, false] rfl rfl (any_of HT_.out (by kernel_rfl)) (fun _ _ _ h => h) (Or.inl ⟨by rfl, ?_⟩) ?_ ?_
                    rotate_left
                    · intro w'
                      go_simp
                      with_reducible rfl
                    rotate_left
                    · simp only [Act.put, List.setIfInBounds_toArray, List.set_cons_zero, List.set_cons_succ, i64_w, i32_w]
                      rfl
                    refine pure_ (i := 17) (N := some 37) (v := undef) (a' := ?_) #[true, true, true, true, true, true, true, true, true, true, true, true, true, true, true, true, true, true, false, false, false, false, false] rfl rfl (any_of HT_.out (by kernel_rfl)) (fun _ _ _ h => h) (Or.inr ⟨by rfl, rfl⟩) ?_ ?_
                    rotate_left
                    · simp only [Act.put, List.setIfInBounds_toArray, List.set_cons_zero, List.set_cons_succ, i64_w, i32_w]
                      rfl
                    refine pure_ (i := 18) (N := some 38) (v := undef) (a' := ?_) #[true, true, true, true, true, true, true, true, true, true, true, true, true, true, true, true, true, true, true, false, false, false, false] rfl rfl (any_of HT_.out (by kernel_rfl)) (fun _ _ _ h => h) (Or.inr ⟨by rfl, rfl⟩) ?_ ?_
                    rotate_left
                    · simp only [Act.put, List.setIfInBounds_toArray, List.set_cons_zero, List.set_cons_succ, i64_w, i32_w]
                      rfl
                    refine pure_ (i := 19) (N := some 39) (v := undef) (a' := ?_) #[true, true, true, true, true, true, true, true, true, true, true, true, true, true, true, true, true, true, true, true, false, false, false] rfl rfl (any_of HT_.out (by kernel_rfl)) (fun _ _ _ h => h) (Or.inr ⟨by rfl, rfl⟩) ?_ ?_
                    rotate_left
                    · simp only [Act.put, List.setIfInBounds_toArray, List.set_cons_zero, List.set_cons_succ, i64_w, i32_w]
                      rfl
                    refine pure_ (i := 20) (N := some 40) (v := undef) (a' := ?_) #[true, true, true, true, true, true, true, true, true, true, true, true, true, true, true, true, true, true, true, true, true, false, false] rfl rfl (any_of HT_.out (by kernel_rfl)) (fun _ _ _ h => h) (Or.inr ⟨by rfl, rfl⟩) ?_ ?_
                    rotate_left
                    · simp only [Act.put, List.setIfInBounds_toArray, List.set_cons_zero, List.set_cons_succ, i64_w, i32_w]
                      rfl
                    refine pure_ (i := 21) (N := some 41) (v := undef) (a' := ?_) #[true, true, true, true, true, true, true, true, true, true, true, true, true, true, true, true, true, true, true, true, true, true, false] rfl rfl (any_of HT_.out (by kernel_rfl)) (fun _ _ _ h => h) (Or.inr ⟨by rfl, rfl⟩) ?_ ?_
                    rotate_left
                    · simp only [Act.put, List.setIfInBounds_toArray, List.set_cons_zero, List.set_cons_succ, i64_w, i32_w]
                      rfl
                    refine pure_ (i := 22) (N := some 42) (v := ?_) (a' := ?_) #[true, true, true, true, true, true, true, true, true, true, true, true, true, true, true, true, true, true, true, true, true, true, true] rfl rfl (any_of HT_.out (by kernel_rfl)) (fun _ _ _ h => h) (Or.inl ⟨by rfl, ?_⟩) ?_ ?_
                    rotate_left
                    · intro w'
                      go_simp
                      with_reducible rfl
                    rotate_left
                    · simp only [Act.put, List.setIfInBounds_toArray, List.set_cons_zero, List.set_cons_succ, i64_w, i32_w]
                      rfl
                    refine done_ (done_of HT_.out (by kernel_rfl)) ?_
                    try go_wp2
                    go_ret
                    exact ⟨by first | rfl | (simp [errW_none, errW_some] <;> rfl) | (simp [*, errW_none, errW_some] <;> rfl), by repeat (first | (with_reducible first | exact HB.out | apply below_alloc | apply pw_below_drewN | apply below_drew1 | refine below_set ?_ GE107.out) | exact HB.out)⟩
                · rw [if_neg c7] at H
                  exact absurd H (by simp)
              · rw [if_neg c6] at H
                exact absurd H (by simp)
            · rw [if_neg c5] at H
              have c5b0 : decide (x15_2 < (l0.length : Int)) = false := decide_eq_false c5
              clear c5
              obtain rfl := Option.some.inj H
              go_wp2
              go_ret
              exact ⟨by first | rfl | (simp [errW_none, errW_some] <;> rfl) | (simp [*, errW_none, errW_some] <;> rfl), by repeat (first | (with_reducible first | exact HB.out | apply below_alloc | apply pw_below_drewN | apply below_drew1) | exact HB.out)⟩

end Go.Proofs.YtpmmfckgfbdboaaDoor.G
end

section
namespace Go.Proofs.YtpmmfckgfbdboaaDoor.G
open Go.RowKit Go.Proofs.YtpmmfckgfbdboaaDoorW.PrintWords Go.Proofs.YtpmmfckgfbdboaaDoorW.PrintLast Go.Proofs.YtpmmfckgfbdboaaDoorW.PrintMore
attribute [local go_sem] max2_int min2_int max_two min_two max_three min_three max_four min_four   -- for this text's walks alone
set_option linter.unusedVariables false
set_option linter.unusedSimpArgs false

/-! ### comfitref05_part: function 46 -/
def comfitref05_part.f (a0 : Int) : Option (Bool) := if a0 ≥ 65 then (some (decide (a0 ≤ 69))) else (some false)
set_option maxHeartbeats 8000000 in
set_option maxRecDepth 100000 in
theorem comfitref05_part.calls (a0 : Int) (r : Bool) (w : World) (h : comfitref05_part.f a0 = some r) :
    Calls Tryd.prog 46 #[.int .u8 a0] w fun e w' => e = .returned (.bool r) ∧ Drawn0 w w' := by
  have H : (if a0 ≥ 65 then (some (decide (a0 ≤ 69))) else (some false)) = some r := h
  clear h
  by_cases c2 : a0 ≥ 65
  · rw [if_pos c2] at H
    have c2b0 : decide (65 ≤ a0) = true := decide_eq_true c2
    clear c2
    obtain rfl := Option.some.inj H
    go_enter Tryd.func46, Tryd.ntmps46
    go_wp2
    go_ret
    exact ⟨by first | rfl | (simp; done) | (simp [*]; done), by repeat (first | exact Drawn0.refl _ | apply Drawn0.step)⟩
  · rw [if_neg c2] at H
    have c2b0 : decide (65 ≤ a0) = false := decide_eq_false c2
    clear c2
    obtain rfl := Option.some.inj H
    go_enter Tryd.func46, Tryd.ntmps46
    go_wp2
    go_ret
    exact ⟨by first | rfl | (simp; done) | (simp [*]; done), by repeat (first | exact Drawn0.refl _ | apply Drawn0.step)⟩

end Go.Proofs.YtpmmfckgfbdboaaDoor.G
end

section
namespace Go.Proofs.YtpmmfckgfbdboaaDoor.G
open Go.RowKit Go.Proofs.YtpmmfckgfbdboaaDoorW.PrintWords Go.Proofs.YtpmmfckgfbdboaaDoorW.PrintLast Go.Proofs.YtpmmfckgfbdboaaDoorW.PrintMore
attribute [local go_sem] max2_int min2_int max_two min_two max_three min_three max_four min_four   -- for this text's walks alone
set_option linter.unusedVariables false
set_option linter.unusedSimpArgs false

/-! ### comfitref05_word: function 47 -/
def comfitref05_word.f (a0 : Int) : Option (Bool) := if a0 ≥ 97 then (some (decide (a0 ≤ 100))) else (some false)
set_option maxHeartbeats 8000000 in
set_option maxRecDepth 100000 in
theorem comfitref05_word.calls (a0 : Int) (r : Bool) (w : World) (h : comfitref05_word.f a0 = some r) :
    Calls Tryd.prog 47 #[.int .u8 a0] w fun e w' => e = .returned (.bool r) ∧ Drawn0 w w' := by
  have H : (if a0 ≥ 97 then (some (decide (a0 ≤ 100))) else (some false)) = some r := h
  clear h
  by_cases c2 : a0 ≥ 97
  · rw [if_pos c2] at H
    have c2b0 : decide (97 ≤ a0) = true := decide_eq_true c2
    clear c2
    obtain rfl := Option.some.inj H
    go_enter Tryd.func47, Tryd.ntmps47
    go_wp2
    go_ret
    exact ⟨by first | rfl | (simp; done) | (simp [*]; done), by repeat (first | exact Drawn0.refl _ | apply Drawn0.step)⟩
  · rw [if_neg c2] at H
    have c2b0 : decide (97 ≤ a0) = false := decide_eq_false c2
    clear c2
    obtain rfl := Option.some.inj H
    go_enter Tryd.func47, Tryd.ntmps47
    go_wp2
    go_ret
    exact ⟨by first | rfl | (simp; done) | (simp [*]; done), by repeat (first | exact Drawn0.refl _ | apply Drawn0.step)⟩

end Go.Proofs.YtpmmfckgfbdboaaDoor.G
end

section
namespace Go.Proofs.YtpmmfckgfbdboaaDoor.G
open Go.RowKit Go.Proofs.YtpmmfckgfbdboaaDoorW.PrintWords Go.Proofs.YtpmmfckgfbdboaaDoorW.PrintLast Go.Proofs.YtpmmfckgfbdboaaDoorW.PrintMore
attribute [local go_sem] max2_int min2_int max_two min_two max_three min_three max_four min_four   -- for this text's walks alone
set_option linter.unusedVariables false
set_option linter.unusedSimpArgs false

attribute [local go_sem high] eqA41
/-! ### comfitref05_Grammar: function 15 -/
mutual
def comfitref05_Grammar.l0 : Nat → List (S41) → List (S41) → Int → Int → Option (Bool)
  | 0, _, _, _, _ => none
  | k + 1, x0, x8, x9, x10 => if x10 < x9 then (if 0 ≤ x10 then (if x10 < (x8.length : Int) then ((comfitref05_part.f ((rd_T41 x8 x10).f0)).bind fun t142 => (if t142 = true then (comfitref05_Grammar.j1 k x0 x10 x8 x9 x10 (decide ((((rd_T41 x8 x10).f1).size : Int) > 4)) ((rd_T41 x8 x10).f0) ((rd_T41 x8 x10).f1)) else (comfitref05_Grammar.j1 k x0 x10 x8 x9 x10 true ((rd_T41 x8 x10).f0) ((rd_T41 x8 x10).f1)))) else (none)) else (none)) else (if (x0.length : Int) ≥ 1 then (some (decide ((x0.length : Int) ≤ 8))) else (some false))
def comfitref05_Grammar.j1 : Nat → List (S41) → Int → List (S41) → Int → Int → Bool → Int → ByteArray → Option (Bool)
  | 0, _, _, _, _, _, _, _, _ => none
  | k + 1, x0, x3, x8, x9, x10, x24, x142000, x142001 => if x24 = true then (some false) else (comfitref05_Grammar.l1 k x0 x3 x8 x9 x10 (x142001.size : Int) 0 x142000 x142001)
def comfitref05_Grammar.l1 : Nat → List (S41) → Int → List (S41) → Int → Int → Int → Int → Int → ByteArray → Option (Bool)
  | 0, _, _, _, _, _, _, _, _, _ => none
  | k + 1, x0, x3, x8, x9, x10, x27, x28, x142000, x142001 => if x28 < x27 then (if 0 ≤ x28 then (if x28 < (x142001.size : Int) then ((comfitref05_part.f (bt x142001 x28)).bind fun t143 => (if t143 = true then (comfitref05_Grammar.l1 k x0 x3 x8 x9 x10 x27 (wrap64 (x28 + 1)) x142000 x142001) else ((comfitref05_word.f (bt x142001 x28)).bind fun t144 => (if t144 = true then (comfitref05_Grammar.l1 k x0 x3 x8 x9 x10 x27 (wrap64 (x28 + 1)) x142000 x142001) else (some false))))) else (none)) else (none)) else (if 0 ≤ x3 then (if x3 ≤ (x0.length : Int) then ((some (x0.take (x3 : Int).toNat : List (S41))).bind fun y145 => (comfitref05_Grammar.l2 k x0 x8 x9 x10 y145 (y145.length : Int) 0 x142000 x142001)) else (none)) else (none))
def comfitref05_Grammar.l2 : Nat → List (S41) → List (S41) → Int → Int → List (S41) → Int → Int → Int → ByteArray → Option (Bool)
  | 0, _, _, _, _, _, _, _, _, _ => none
  | k + 1, x0, x8, x9, x10, x48, x49, x50, x142000, x142001 => if x50 < x49 then (if 0 ≤ x50 then (if x50 < (x48.length : Int) then (if (x142000 == ((rd_T41 x48 x50).f0) && (x142001.toList == (((rd_T41 x48 x50).f1).toList))) = true then (some false) else (comfitref05_Grammar.l2 k x0 x8 x9 x10 x48 x49 (wrap64 (x50 + 1)) x142000 x142001)) else (none)) else (none)) else (comfitref05_Grammar.l0 k x0 x8 x9 (wrap64 (x10 + 1)))
end
def comfitref05_Grammar.f (k : Nat) (l0 : List (S41)) : Option (Bool) := comfitref05_Grammar.l0 k l0 l0 (l0.length : Int) 0
theorem comfitref05_Grammar.mono_l : ∀ k, (∀ y0 y1 y2 y3, LeO (comfitref05_Grammar.l0 k y0 y1 y2 y3) (comfitref05_Grammar.l0 (k + 1) y0 y1 y2 y3)) ∧ (∀ y0 y1 y2 y3 y4 y5 y6 y7, LeO (comfitref05_Grammar.j1 k y0 y1 y2 y3 y4 y5 y6 y7) (comfitref05_Grammar.j1 (k + 1) y0 y1 y2 y3 y4 y5 y6 y7)) ∧ (∀ y0 y1 y2 y3 y4 y5 y6 y7 y8, LeO (comfitref05_Grammar.l1 k y0 y1 y2 y3 y4 y5 y6 y7 y8) (comfitref05_Grammar.l1 (k + 1) y0 y1 y2 y3 y4 y5 y6 y7 y8)) ∧ (∀ y0 y1 y2 y3 y4 y5 y6 y7 y8, LeO (comfitref05_Grammar.l2 k y0 y1 y2 y3 y4 y5 y6 y7 y8) (comfitref05_Grammar.l2 (k + 1) y0 y1 y2 y3 y4 y5 y6 y7 y8))
  | 0 => ⟨fun _ _ _ _ r h => by simp [comfitref05_Grammar.l0] at h, fun _ _ _ _ _ _ _ _ r h => by simp [comfitref05_Grammar.j1] at h, fun _ _ _ _ _ _ _ _ _ r h => by simp [comfitref05_Grammar.l1] at h, fun _ _ _ _ _ _ _ _ _ r h => by simp [comfitref05_Grammar.l2] at h⟩
  | k + 1 => by
    obtain ⟨ih0, ih1, ih2, ih3⟩ := comfitref05_Grammar.mono_l k
    refine ⟨?_, ?_, ?_, ?_⟩
    · intro y0 y1 y2 y3
      unfold comfitref05_Grammar.l0
      repeat' first
      | (with_reducible exact ih0 _ _ _ _)
      | (with_reducible exact ih1 _ _ _ _ _ _ _ _)
      | (with_reducible exact ih2 _ _ _ _ _ _ _ _ _)
      | (with_reducible exact ih3 _ _ _ _ _ _ _ _ _)
      | (with_reducible exact LeO.refl _)
      | (with_reducible exact LeO.none _)
      | (with_reducible refine LeO.ite ?_ ?_)
      | (with_reducible refine LeO.bind ?_ (fun _ => ?_))
      | exact ih0 _ _ _ _
      | exact ih1 _ _ _ _ _ _ _ _
      | exact ih2 _ _ _ _ _ _ _ _ _
      | exact ih3 _ _ _ _ _ _ _ _ _
      | exact LeO.none _
      | refine LeO.ite ?_ ?_
      | refine LeO.bind ?_ (fun _ => ?_)
    · intro y0 y1 y2 y3 y4 y5 y6 y7
      unfold comfitref05_Grammar.j1
      repeat' first
      | (with_reducible exact ih0 _ _ _ _)
      | (with_reducible exact ih1 _ _ _ _ _ _ _ _)
      | (with_reducible exact ih2 _ _ _ _ _ _ _ _ _)
      | (with_reducible exact ih3 _ _ _ _ _ _ _ _ _)
      | (with_reducible exact LeO.refl _)
      | (with_reducible exact LeO.none _)
      | (with_reducible refine LeO.ite ?_ ?_)
      | (with_reducible refine LeO.bind ?_ (fun _ => ?_))
      | exact ih0 _ _ _ _
      | exact ih1 _ _ _ _ _ _ _ _
      | exact ih2 _ _ _ _ _ _ _ _ _
      | exact ih3 _ _ _ _ _ _ _ _ _
      | exact LeO.none _
      | refine LeO.ite ?_ ?_
      | refine LeO.bind ?_ (fun _ => ?_)
    · intro y0 y1 y2 y3 y4 y5 y6 y7 y8
      unfold comfitref05_Grammar.l1
      repeat' first
      | (with_reducible exact ih0 _ _ _ _)
      | (with_reducible exact ih1 _ _ _ _ _ _ _ _)
      | (with_reducible exact ih2 _ _ _ _ _ _ _ _ _)
      | (with_reducible exact ih3 _ _ _ _ _ _ _ _ _)
      | (with_reducible exact LeO.refl _)
      | (with_reducible exact LeO.none _)
      | (with_reducible refine LeO.ite ?_ ?_)
      | (with_reducible refine LeO.bind ?_ (fun _ => ?_))
      | exact ih0 _ _ _ _
      | exact ih1 _ _ _ _ _ _ _ _
      | exact ih2 _ _ _ _ _ _ _ _ _
      | exact ih3 _ _ _ _ _ _ _ _ _
      | exact LeO.none _
      | refine LeO.ite ?_ ?_
      | refine LeO.bind ?_ (fun _ => ?_)
    · intro y0 y1 y2 y3 y4 y5 y6 y7 y8
      unfold comfitref05_Grammar.l2
      repeat' first
      | (with_reducible exact ih0 _ _ _ _)
      | (with_reducible exact ih1 _ _ _ _ _ _ _ _)
      | (with_reducible exact ih2 _ _ _ _ _ _ _ _ _)
      | (with_reducible exact ih3 _ _ _ _ _ _ _ _ _)
      | (with_reducible exact LeO.refl _)
      | (with_reducible exact LeO.none _)
      | (with_reducible refine LeO.ite ?_ ?_)
      | (with_reducible refine LeO.bind ?_ (fun _ => ?_))
      | exact ih0 _ _ _ _
      | exact ih1 _ _ _ _ _ _ _ _
      | exact ih2 _ _ _ _ _ _ _ _ _
      | exact ih3 _ _ _ _ _ _ _ _ _
      | exact LeO.none _
      | refine LeO.ite ?_ ?_
      | refine LeO.bind ?_ (fun _ => ?_)
theorem comfitref05_Grammar.mono : ∀ a0 k, LeO (comfitref05_Grammar.f k a0) (comfitref05_Grammar.f (k + 1) a0) := by
  intro a0 k
  obtain ⟨ih0, ih1, ih2, ih3⟩ := comfitref05_Grammar.mono_l k
  unfold comfitref05_Grammar.f
  repeat' first
      | (with_reducible exact ih0 _ _ _ _)
      | (with_reducible exact ih1 _ _ _ _ _ _ _ _)
      | (with_reducible exact ih2 _ _ _ _ _ _ _ _ _)
      | (with_reducible exact ih3 _ _ _ _ _ _ _ _ _)
      | (with_reducible exact LeO.refl _)
      | (with_reducible exact LeO.none _)
      | (with_reducible refine LeO.ite ?_ ?_)
      | (with_reducible refine LeO.bind ?_ (fun _ => ?_))
      | exact ih0 _ _ _ _
      | exact ih1 _ _ _ _ _ _ _ _
      | exact ih2 _ _ _ _ _ _ _ _ _
      | exact ih3 _ _ _ _ _ _ _ _ _
      | exact LeO.none _
      | refine LeO.ite ?_ ?_
      | refine LeO.bind ?_ (fun _ => ?_)
set_option maxHeartbeats 8000000 in
set_option maxRecDepth 100000 in
theorem comfitref05_Grammar.calls (k : Nat) (A0 : Option Addr) (c0 : Nat) (l0 : List (S41)) (r : Bool) (w : World) (hr0 : Kd.C k41 w A0 l0.length l0) (hc0 : l0.length ≤ c0) (h : comfitref05_Grammar.f k l0 = some r) :
    Calls Tryd.prog 15 #[.slice A0 l0.length c0] w fun e w' => e = .returned (.bool r) ∧ Below w.heap.size w w' := by
  have hu41 := Tryd.underlying41
  have HR0 := Aside0.mk hr0
  have HC0 := Aside0.mk hc0
  clear hr0 hc0
  have HB := Aside0.mk (Below.refl w.heap.size w)
  have H : (comfitref05_Grammar.l0 k l0 l0 (l0.length : Int) 0) = some r := h
  clear h
  have H' := Aside0.mk H
  clear H
  go_enter Tryd.func15, Tryd.ntmps15
  go_wp2
  go_loopg [10] k (fun kq v10 w' => ∃ (x10_1 : Int), v10 = .int .i64 x10_1 ∧ Aside0 (comfitref05_Grammar.l0 kq l0 l0 (l0.length : Int) x10_1 = some r) ∧ Aside0 (kq ≤ k) ∧ Aside0 (Below w.heap.size w w'))
  case atStart => exact ⟨(0), (by first | rfl | (simp; done) | (simp [*]; done)), H', ⟨Nat.le_refl _⟩, ⟨by repeat (first | (with_reducible first | exact HB.out | apply below_alloc | apply pw_below_drewN | apply below_drew1) | exact HB.out)⟩⟩
  case round =>
    clear H'
    try clear c1
    obtain ⟨x10_1, rfl, HA, HK1, HB⟩ := hrel
    cases gk with
    | zero => exact absurd HA.out (by simp [comfitref05_Grammar.l0])
    | succ k1 =>
      have H := HA.out
      clear HA
      simp only [comfitref05_Grammar.l0] at H
      by_cases c2 : x10_1 < (l0.length : Int)
      · rw [if_pos c2] at H
        have c2b0 : decide (x10_1 < (l0.length : Int)) = true := decide_eq_true c2
        clear c2
        by_cases c3 : 0 ≤ x10_1
        · rw [if_pos c3] at H
          have c3b0 : decide (0 ≤ x10_1) = true := decide_eq_true c3
          clear c3
          by_cases c4 : x10_1 < (l0.length : Int)
          · rw [if_pos c4] at H
            have c4b0 : decide (x10_1 < (l0.length : Int)) = true := decide_eq_true c4
            clear c4
            have HC5 := Aside0.mk H
            clear H
            have p140 : 0 ≤ (x10_1 : Int) := of_decide_eq_true (by first | (with_reducible assumption) | assumption)
            have q140 : x10_1 < (l0.length : Int) := of_decide_eq_true (by first | (with_reducible assumption) | assumption)
            obtain ⟨ad140, e140, hx140_0, hx140_1⟩ := at_T41 HR0.out x10_1 p140 q140
            cases e140
            replace hx140_0 := (HB.out.cell (World.block_lt_of_cell? w _ hx140_0)).trans hx140_0
            replace hx140_1 := (HB.out.cell (World.block_lt_of_cell? w _ hx140_1)).trans hx140_1
            replace p140 := eq_true p140
            replace q140 := eq_true q140
            go_upto_region 4 with (first | ((with_reducible refine gate_dst (N := 4) rfl ?_); (try (refine gate_guard (by rfl) ?_; dsimp only)); refine box_event ?hg (N := 4) ?hd (cs := #[.int .u8 0, .string (⟨#[]⟩ : ByteArray)]) (t := 41) ?hr ?_; (case hd => rfl); (case hg => rfl); (case hr => first | (go_simp; done) | (go_simp; rfl)); intro gb141 hg w6 hbox hb; have n0_ := Aside0.mk (below_step (by repeat (first | (with_reducible first | exact HB.out | apply below_alloc | apply pw_below_drewN | apply below_drew1) | exact HB.out)) hb); have n1_ := Aside0.mk (hbox); have n2_ := Aside0.mk ((by rw [hg]; exact (below_size (by repeat (first | (with_reducible first | exact HB.out | apply below_alloc | apply pw_below_drewN | apply below_drew1) | exact HB.out))) : w.heap.size ≤ gb141)); have n3_ := Aside0.mk ((by rw [hg]; exact (below_size (by repeat (first | (with_reducible first | exact HB.out | apply below_alloc | apply pw_below_drewN | apply below_drew1) | exact HB.out))) : w.heap.size ≤ gb141)); clear HB; have HB := n0_; have BK141 := n1_; have GW141 := n2_; have GE141 := n3_; clear n0_ n1_ n2_ n3_; clear hb hbox hg; have hcz7_0 : w6.cell? ⟨gb141, 0, none⟩ = some (.int .u8 0) := (blk_cell BK141.out 0).trans rfl; have hcz7_1 : w6.cell? ⟨gb141, 1, none⟩ = some (.string (⟨#[]⟩ : ByteArray)) := (blk_cell BK141.out 1).trans rfl; have hfz7_0 := blk_frozen BK141.out 0; have hfz7_1 := blk_frozen BK141.out 1))
            (try simp only [Act.put, List.setIfInBounds_toArray, List.set_cons_zero, List.set_cons_succ])
            go_cut [24] (fun v24 wc => ∃ (kq : Nat) (x24_4 : Bool), v24 = .bool x24_4 ∧ Aside0 (comfitref05_Grammar.j1 kq l0 x10_1 l0 (l0.length : Int) x10_1 x24_4 ((rd_T41 l0 x10_1).f0) ((rd_T41 l0 x10_1).f1) = some r) ∧ Aside0 (kq ≤ k1) ∧ Aside0 (wc.heap[gb141]? = some (.cells #[.int .u8 ((rd_T41 l0 x10_1).f0), .string ((rd_T41 l0 x10_1).f1)] 41 (0, 0))) ∧ Aside0 (Below w.heap.size w wc))
            case first =>
              have H := HC5.out
              clear HC5
              replace H := Option.bind_eq_some_iff.mp H
              obtain ⟨t142, A80, H⟩ := H
              replace H : (if t142 = true then (comfitref05_Grammar.j1 k1 l0 x10_1 l0 (l0.length : Int) x10_1 (decide ((((rd_T41 l0 x10_1).f1).size : Int) > 4)) ((rd_T41 l0 x10_1).f0) ((rd_T41 l0 x10_1).f1)) else (comfitref05_Grammar.j1 k1 l0 x10_1 l0 (l0.length : Int) x10_1 true ((rd_T41 l0 x10_1).f0) ((rd_T41 l0 x10_1).f1))) = some r := H
              have A8 := Aside0.mk A80
              clear A80
              by_cases c9 : t142 = true
              · subst c9
                have H1 : (comfitref05_Grammar.j1 k1 l0 x10_1 l0 (l0.length : Int) x10_1 (decide ((((rd_T41 l0 x10_1).f1).size : Int) > 4)) ((rd_T41 l0 x10_1).f0) ((rd_T41 l0 x10_1).f1)) = some r := by rw [if_pos rfl] at H; exact H
                clear H
                have H := H1
                clear H1
                have H' := Aside0.mk H
                clear H
                have hcz10_0 : w6.cell? ⟨gb141, 0, none⟩ = some (.int .u8 0) := (blk_cell BK141.out 0).trans rfl
                have hcz10_1 : w6.cell? ⟨gb141, 1, none⟩ = some (.string (⟨#[]⟩ : ByteArray)) := (blk_cell BK141.out 1).trans rfl
                have hfz10_0 := blk_frozen BK141.out 0
                have hfz10_1 := blk_frozen BK141.out 1
                go_wp2_with (first | ((with_reducible refine gate_callee (f := 46) rfl ?_); refine goesL_ (some 17) rfl rfl Tryd.func46 (by kernel_rfl) rfl #[.int .u8 ((rd_T41 l0 x10_1).f0)] rfl (by (try simp only [List.map_toArray, List.map_cons, List.map_nil]); first | done | rfl | (simp only [List.length_drop, List.length_take]; rfl)) ?_; (with_reducible refine (comfitref05_part.calls ((rd_T41 l0 x10_1).f0) true _ A8.out).mono ?_); rintro e w' ⟨rfl, ⟨nd, rfl⟩⟩; refine ⟨_, rfl, ?_⟩))
                go_meet
                case rel => exact ⟨_, (decide ((((rd_T41 l0 x10_1).f1).size : Int) > 4)), (by first | rfl | (simp; done) | (simp [*]; done)), H', ⟨by have := HK1.out; first | omega | exact Nat.le_refl _⟩, ⟨by (with_reducible repeat (first | refine blk_drewN ?_ _ | refine blk_drew ?_ | refine blk_alloc ?_ _)); refine blk_put (cs := #[.int .u8 ((rd_T41 l0 x10_1).f0), .string (⟨#[]⟩ : ByteArray)]) ?_ 1 _ rfl; (with_reducible repeat (first | refine blk_drewN ?_ _ | refine blk_drew ?_ | refine blk_alloc ?_ _)); refine blk_put (cs := #[.int .u8 0, .string (⟨#[]⟩ : ByteArray)]) ?_ 0 _ rfl; (with_reducible repeat (first | refine blk_drewN ?_ _ | refine blk_drew ?_ | refine blk_alloc ?_ _)); exact BK141.out⟩, ⟨by repeat (first | (with_reducible first | exact HB.out | apply below_alloc | apply pw_below_drewN | apply below_drew1 | refine below_set ?_ GE141.out) | exact HB.out)⟩⟩
              · replace c9 := Bool.eq_false_iff.mpr c9
                subst c9
                have H1 : (comfitref05_Grammar.j1 k1 l0 x10_1 l0 (l0.length : Int) x10_1 true ((rd_T41 l0 x10_1).f0) ((rd_T41 l0 x10_1).f1)) = some r := by rw [if_neg (show ¬ (false = true) by decide)] at H; exact H
                clear H
                have H := H1
                clear H1
                have H' := Aside0.mk H
                clear H
                have hcz11_0 : w6.cell? ⟨gb141, 0, none⟩ = some (.int .u8 0) := (blk_cell BK141.out 0).trans rfl
                have hcz11_1 : w6.cell? ⟨gb141, 1, none⟩ = some (.string (⟨#[]⟩ : ByteArray)) := (blk_cell BK141.out 1).trans rfl
                have hfz11_0 := blk_frozen BK141.out 0
                have hfz11_1 := blk_frozen BK141.out 1
                go_wp2_with (first | ((with_reducible refine gate_callee (f := 46) rfl ?_); refine goesL_ (some 17) rfl rfl Tryd.func46 (by kernel_rfl) rfl #[.int .u8 ((rd_T41 l0 x10_1).f0)] rfl (by (try simp only [List.map_toArray, List.map_cons, List.map_nil]); first | done | rfl | (simp only [List.length_drop, List.length_take]; rfl)) ?_; (with_reducible refine (comfitref05_part.calls ((rd_T41 l0 x10_1).f0) false _ A8.out).mono ?_); rintro e w' ⟨rfl, ⟨nd, rfl⟩⟩; refine ⟨_, rfl, ?_⟩))
                go_meet
                case rel => exact ⟨_, (true), (by first | rfl | (simp; done) | (simp [*]; done)), H', ⟨by have := HK1.out; first | omega | exact Nat.le_refl _⟩, ⟨by (with_reducible repeat (first | refine blk_drewN ?_ _ | refine blk_drew ?_ | refine blk_alloc ?_ _)); refine blk_put (cs := #[.int .u8 ((rd_T41 l0 x10_1).f0), .string (⟨#[]⟩ : ByteArray)]) ?_ 1 _ rfl; (with_reducible repeat (first | refine blk_drewN ?_ _ | refine blk_drew ?_ | refine blk_alloc ?_ _)); refine blk_put (cs := #[.int .u8 0, .string (⟨#[]⟩ : ByteArray)]) ?_ 0 _ rfl; (with_reducible repeat (first | refine blk_drewN ?_ _ | refine blk_drew ?_ | refine blk_alloc ?_ _)); exact BK141.out⟩, ⟨by repeat (first | (with_reducible first | exact HB.out | apply below_alloc | apply pw_below_drewN | apply below_drew1 | refine below_set ?_ GE141.out) | exact HB.out)⟩⟩
            case rest =>
              clear HC5
              try clear c1
              try clear p1
              try clear q1
              try clear hx1
              try clear c2
              try clear c2b0
              try clear p2
              try clear c3
              try clear c3b0
              try clear c4
              try clear c4b0
              try clear c9
              try clear hcz10_0
              try clear hcz10_1
              try clear hcz11_0
              try clear hcz11_1
              try clear hcz7_0
              try clear hcz7_1
              try clear hfz10_0
              try clear hfz10_1
              try clear hfz11_0
              try clear hfz11_1
              try clear hfz7_0
              try clear hfz7_1
              try clear hx140_0
              try clear hx140_1
              try clear p140
              try clear q140
              obtain ⟨kq, x24_4, rfl, HA, HJ4, BK141, HB⟩ := hcut
              cases kq with
              | zero => exact absurd HA.out (by simp [comfitref05_Grammar.j1])
              | succ kj4 =>
                have H := HA.out
                clear HA
                simp only [comfitref05_Grammar.j1] at H
                by_cases c12 : x24_4 = true
                · subst c12
                  have H1 : (some false) = some r := by rw [if_pos rfl] at H; exact H
                  clear H
                  have H := H1
                  clear H1
                  obtain rfl := Option.some.inj H
                  go_wp2
                  go_ret
                  exact ⟨by first | rfl | (simp [errW_none, errW_some] <;> rfl) | (simp [*, errW_none, errW_some] <;> rfl), by repeat (first | (with_reducible first | exact HB.out | apply below_alloc | apply pw_below_drewN | apply below_drew1 | refine below_set ?_ GE141.out) | exact HB.out)⟩
                · replace c12 := Bool.eq_false_iff.mpr c12
                  subst c12
                  have H1 : (comfitref05_Grammar.l1 kj4 l0 x10_1 l0 (l0.length : Int) x10_1 (((rd_T41 l0 x10_1).f1).size : Int) 0 ((rd_T41 l0 x10_1).f0) ((rd_T41 l0 x10_1).f1)) = some r := by rw [if_neg (show ¬ (false = true) by decide)] at H; exact H
                  clear H
                  have H := H1
                  clear H1
                  have H' := Aside0.mk H
                  clear H
                  have hcz13_0 : wc.cell? ⟨gb141, 0, none⟩ = some (.int .u8 ((rd_T41 l0 x10_1).f0)) := (blk_cell BK141.out 0).trans rfl
                  have hcz13_1 : wc.cell? ⟨gb141, 1, none⟩ = some (.string ((rd_T41 l0 x10_1).f1)) := (blk_cell BK141.out 1).trans rfl
                  have hfz13_0 := blk_frozen BK141.out 0
                  have hfz13_1 := blk_frozen BK141.out 1
                  go_wp2
                  go_loopg [28] kj4 (fun kq v28 w' => ∃ (x28_3 : Int), v28 = .int .i64 x28_3 ∧ Aside0 (comfitref05_Grammar.l1 kq l0 x10_1 l0 (l0.length : Int) x10_1 (((rd_T41 l0 x10_1).f1).size : Int) x28_3 ((rd_T41 l0 x10_1).f0) ((rd_T41 l0 x10_1).f1) = some r) ∧ Aside0 (kq ≤ kj4) ∧ Aside0 (w'.heap[gb141]? = some (.cells #[.int .u8 ((rd_T41 l0 x10_1).f0), .string ((rd_T41 l0 x10_1).f1)] 41 (0, 0))) ∧ Aside0 (Below w.heap.size w w'))
                  case atStart => exact ⟨(0), (by first | rfl | (simp; done) | (simp [*]; done)), H', ⟨Nat.le_refl _⟩, ⟨by (with_reducible repeat (first | refine blk_drewN ?_ _ | refine blk_drew ?_ | refine blk_alloc ?_ _)); exact BK141.out⟩, ⟨by repeat (first | (with_reducible first | exact HB.out | apply below_alloc | apply pw_below_drewN | apply below_drew1 | refine below_set ?_ GE141.out) | exact HB.out)⟩⟩
                  case round =>
                    clear H'
                    try clear c1
                    try clear p1
                    try clear q1
                    try clear hx1
                    try clear c2
                    try clear c2b0
                    try clear p2
                    try clear c3
                    try clear c3b0
                    try clear c4
                    try clear c4b0
                    try clear c9
                    try clear c12
                    try clear hcz10_0
                    try clear hcz10_1
                    try clear hcz11_0
                    try clear hcz11_1
                    try clear hcz13_0
                    try clear hcz13_1
                    try clear hcz7_0
                    try clear hcz7_1
                    try clear hfz10_0
                    try clear hfz10_1
                    try clear hfz11_0
                    try clear hfz11_1
                    try clear hfz13_0
                    try clear hfz13_1
                    try clear hfz7_0
                    try clear hfz7_1
                    try clear hx140_0
                    try clear hx140_1
                    try clear p1
                    try clear p140
                    try clear p2
                    try clear q1
                    try clear q140
                    obtain ⟨x28_3, rfl, HA, HK3, BK141, HB⟩ := hrel
                    cases gk with
                    | zero => exact absurd HA.out (by simp [comfitref05_Grammar.l1])
                    | succ k3 =>
                      have H := HA.out
                      clear HA
                      simp only [comfitref05_Grammar.l1] at H
                      by_cases c14 : x28_3 < (((rd_T41 l0 x10_1).f1).size : Int)
                      · rw [if_pos c14] at H
                        have c14b0 : decide (x28_3 < (((rd_T41 l0 x10_1).f1).size : Int)) = true := decide_eq_true c14
                        clear c14
                        by_cases c15 : 0 ≤ x28_3
                        · rw [if_pos c15] at H
                          have c15b0 : decide (0 ≤ x28_3) = true := decide_eq_true c15
                          clear c15
                          by_cases c16 : x28_3 < (((rd_T41 l0 x10_1).f1).size : Int)
                          · rw [if_pos c16] at H
                            have c16b0 : decide (x28_3 < (((rd_T41 l0 x10_1).f1).size : Int)) = true := decide_eq_true c16
                            clear c16
                            replace H := Option.bind_eq_some_iff.mp H
                            obtain ⟨t143, A180, H⟩ := H
                            replace H : (if t143 = true then (comfitref05_Grammar.l1 k3 l0 x10_1 l0 (l0.length : Int) x10_1 (((rd_T41 l0 x10_1).f1).size : Int) (wrap64 (x28_3 + 1)) ((rd_T41 l0 x10_1).f0) ((rd_T41 l0 x10_1).f1)) else ((comfitref05_word.f (bt ((rd_T41 l0 x10_1).f1) x28_3)).bind fun t144 => (if t144 = true then (comfitref05_Grammar.l1 k3 l0 x10_1 l0 (l0.length : Int) x10_1 (((rd_T41 l0 x10_1).f1).size : Int) (wrap64 (x28_3 + 1)) ((rd_T41 l0 x10_1).f0) ((rd_T41 l0 x10_1).f1)) else (some false)))) = some r := H
                            have A18 := Aside0.mk A180
                            clear A180
                            by_cases c19 : t143 = true
                            · subst c19
                              have H1 : (comfitref05_Grammar.l1 k3 l0 x10_1 l0 (l0.length : Int) x10_1 (((rd_T41 l0 x10_1).f1).size : Int) (wrap64 (x28_3 + 1)) ((rd_T41 l0 x10_1).f0) ((rd_T41 l0 x10_1).f1)) = some r := by rw [if_pos rfl] at H; exact H
                              clear H
                              have H := H1
                              clear H1
                              have H' := Aside0.mk H
                              clear H
                              have hcz20_0 : wr.cell? ⟨gb141, 0, none⟩ = some (.int .u8 ((rd_T41 l0 x10_1).f0)) := (blk_cell BK141.out 0).trans rfl
                              have hcz20_1 : wr.cell? ⟨gb141, 1, none⟩ = some (.string ((rd_T41 l0 x10_1).f1)) := (blk_cell BK141.out 1).trans rfl
                              have hfz20_0 := blk_frozen BK141.out 0
                              have hfz20_1 := blk_frozen BK141.out 1
                              have p17 : 0 ≤ (x28_3 : Int) := of_decide_eq_true (by first | (with_reducible assumption) | assumption)
                              have q17 : x28_3 < (((rd_T41 l0 x10_1).f1).size : Int) := of_decide_eq_true (by first | (with_reducible assumption) | assumption)
                              have hx17 := bt_at ((rd_T41 l0 x10_1).f1) x28_3
                              replace p17 := eq_true p17
                              replace q17 := eq_true q17
                              go_wp2_with (first | ((with_reducible refine gate_callee (f := 46) rfl ?_); refine goesL_ (some 35) rfl rfl Tryd.func46 (by kernel_rfl) rfl #[.int .u8 (bt ((rd_T41 l0 x10_1).f1) x28_3)] rfl (by (try simp only [List.map_toArray, List.map_cons, List.map_nil]); first | done | rfl | (simp only [List.length_drop, List.length_take]; rfl)) ?_; (with_reducible refine (comfitref05_part.calls (bt ((rd_T41 l0 x10_1).f1) x28_3) true _ A18.out).mono ?_); rintro e w' ⟨rfl, ⟨nd, rfl⟩⟩; refine ⟨_, rfl, ?_⟩))
                              go_roundg k3
                              case measure => have := HK1.out; have := HJ4.out; have := HK3.out; omega
                              case rel => exact ⟨(wrap64 (x28_3 + 1)), (by first | rfl | (simp; done) | (simp [*]; done)), H', ⟨by have := HK1.out; have := HJ4.out; have := HK3.out; omega⟩, ⟨by (with_reducible repeat (first | refine blk_drewN ?_ _ | refine blk_drew ?_ | refine blk_alloc ?_ _)); exact BK141.out⟩, ⟨by repeat (first | (with_reducible first | exact HB.out | apply below_alloc | apply pw_below_drewN | apply below_drew1 | refine below_set ?_ GE141.out) | exact HB.out)⟩⟩
                            · replace c19 := Bool.eq_false_iff.mpr c19
                              subst c19
                              have H1 : ((comfitref05_word.f (bt ((rd_T41 l0 x10_1).f1) x28_3)).bind fun t144 => (if t144 = true then (comfitref05_Grammar.l1 k3 l0 x10_1 l0 (l0.length : Int) x10_1 (((rd_T41 l0 x10_1).f1).size : Int) (wrap64 (x28_3 + 1)) ((rd_T41 l0 x10_1).f0) ((rd_T41 l0 x10_1).f1)) else (some false))) = some r := by rw [if_neg (show ¬ (false = true) by decide)] at H; exact H
                              clear H
                              have H := H1
                              clear H1
                              replace H := Option.bind_eq_some_iff.mp H
                              obtain ⟨t144, A220, H⟩ := H
                              replace H : (if t144 = true then (comfitref05_Grammar.l1 k3 l0 x10_1 l0 (l0.length : Int) x10_1 (((rd_T41 l0 x10_1).f1).size : Int) (wrap64 (x28_3 + 1)) ((rd_T41 l0 x10_1).f0) ((rd_T41 l0 x10_1).f1)) else (some false)) = some r := H
                              have A22 := Aside0.mk A220
                              clear A220
                              by_cases c23 : t144 = true
                              · subst c23
                                have H1 : (comfitref05_Grammar.l1 k3 l0 x10_1 l0 (l0.length : Int) x10_1 (((rd_T41 l0 x10_1).f1).size : Int) (wrap64 (x28_3 + 1)) ((rd_T41 l0 x10_1).f0) ((rd_T41 l0 x10_1).f1)) = some r := by rw [if_pos rfl] at H; exact H
                                clear H
                                have H := H1
                                clear H1
                                have H' := Aside0.mk H
                                clear H
                                have hcz24_0 : wr.cell? ⟨gb141, 0, none⟩ = some (.int .u8 ((rd_T41 l0 x10_1).f0)) := (blk_cell BK141.out 0).trans rfl
                                have hcz24_1 : wr.cell? ⟨gb141, 1, none⟩ = some (.string ((rd_T41 l0 x10_1).f1)) := (blk_cell BK141.out 1).trans rfl
                                have hfz24_0 := blk_frozen BK141.out 0
                                have hfz24_1 := blk_frozen BK141.out 1
                                have p17 : 0 ≤ (x28_3 : Int) := of_decide_eq_true (by first | (with_reducible assumption) | assumption)
                                have q17 : x28_3 < (((rd_T41 l0 x10_1).f1).size : Int) := of_decide_eq_true (by first | (with_reducible assumption) | assumption)
                                have hx17 := bt_at ((rd_T41 l0 x10_1).f1) x28_3
                                replace p17 := eq_true p17
                                replace q17 := eq_true q17
                                go_wp2_with (first | ((with_reducible refine gate_callee (f := 46) rfl ?_); refine goesL_ (some 35) rfl rfl Tryd.func46 (by kernel_rfl) rfl #[.int .u8 (bt ((rd_T41 l0 x10_1).f1) x28_3)] rfl (by (try simp only [List.map_toArray, List.map_cons, List.map_nil]); first | done | rfl | (simp only [List.length_drop, List.length_take]; rfl)) ?_; (with_reducible refine (comfitref05_part.calls (bt ((rd_T41 l0 x10_1).f1) x28_3) false _ A18.out).mono ?_); rintro e w' ⟨rfl, ⟨nd, rfl⟩⟩; refine ⟨_, rfl, ?_⟩; have p21 : 0 ≤ (x28_3 : Int) := of_decide_eq_true (by first | (with_reducible assumption) | assumption); have q21 : x28_3 < (((rd_T41 l0 x10_1).f1).size : Int) := of_decide_eq_true (by first | (with_reducible assumption) | assumption); have hx21 := bt_at ((rd_T41 l0 x10_1).f1) x28_3; replace p21 := eq_true p21; replace q21 := eq_true q21) | (go_at_call 47; (with_reducible refine (comfitref05_word.calls (bt ((rd_T41 l0 x10_1).f1) x28_3) true _ A22.out).mono ?_); rintro e w' ⟨rfl, ⟨nd, rfl⟩⟩))
                                go_roundg k3
                                case measure => have := HK1.out; have := HJ4.out; have := HK3.out; omega
                                case rel => exact ⟨(wrap64 (x28_3 + 1)), (by first | rfl | (simp; done) | (simp [*]; done)), H', ⟨by have := HK1.out; have := HJ4.out; have := HK3.out; omega⟩, ⟨by (with_reducible repeat (first | refine blk_drewN ?_ _ | refine blk_drew ?_ | refine blk_alloc ?_ _)); exact BK141.out⟩, ⟨by repeat (first | (with_reducible first | exact HB.out | apply below_alloc | apply pw_below_drewN | apply below_drew1 | refine below_set ?_ GE141.out) | exact HB.out)⟩⟩
                              · replace c23 := Bool.eq_false_iff.mpr c23
                                subst c23
                                have H1 : (some false) = some r := by rw [if_neg (show ¬ (false = true) by decide)] at H; exact H
                                clear H
                                have H := H1
                                clear H1
                                obtain rfl := Option.some.inj H
                                have hcz25_0 : wr.cell? ⟨gb141, 0, none⟩ = some (.int .u8 ((rd_T41 l0 x10_1).f0)) := (blk_cell BK141.out 0).trans rfl
                                have hcz25_1 : wr.cell? ⟨gb141, 1, none⟩ = some (.string ((rd_T41 l0 x10_1).f1)) := (blk_cell BK141.out 1).trans rfl
                                have hfz25_0 := blk_frozen BK141.out 0
                                have hfz25_1 := blk_frozen BK141.out 1
                                have p17 : 0 ≤ (x28_3 : Int) := of_decide_eq_true (by first | (with_reducible assumption) | assumption)
                                have q17 : x28_3 < (((rd_T41 l0 x10_1).f1).size : Int) := of_decide_eq_true (by first | (with_reducible assumption) | assumption)
                                have hx17 := bt_at ((rd_T41 l0 x10_1).f1) x28_3
                                replace p17 := eq_true p17
                                replace q17 := eq_true q17
                                go_wp2_with (first | ((with_reducible refine gate_callee (f := 46) rfl ?_); refine goesL_ (some 35) rfl rfl Tryd.func46 (by kernel_rfl) rfl #[.int .u8 (bt ((rd_T41 l0 x10_1).f1) x28_3)] rfl (by (try simp only [List.map_toArray, List.map_cons, List.map_nil]); first | done | rfl | (simp only [List.length_drop, List.length_take]; rfl)) ?_; (with_reducible refine (comfitref05_part.calls (bt ((rd_T41 l0 x10_1).f1) x28_3) false _ A18.out).mono ?_); rintro e w' ⟨rfl, ⟨nd, rfl⟩⟩; refine ⟨_, rfl, ?_⟩; have p21 : 0 ≤ (x28_3 : Int) := of_decide_eq_true (by first | (with_reducible assumption) | assumption); have q21 : x28_3 < (((rd_T41 l0 x10_1).f1).size : Int) := of_decide_eq_true (by first | (with_reducible assumption) | assumption); have hx21 := bt_at ((rd_T41 l0 x10_1).f1) x28_3; replace p21 := eq_true p21; replace q21 := eq_true q21) | (go_at_call 47; (with_reducible refine (comfitref05_word.calls (bt ((rd_T41 l0 x10_1).f1) x28_3) false _ A22.out).mono ?_); rintro e w' ⟨rfl, ⟨nd, rfl⟩⟩))
                                go_ret
                                exact ⟨by first | rfl | (simp [errW_none, errW_some] <;> rfl) | (simp [*, errW_none, errW_some] <;> rfl), by repeat (first | (with_reducible first | exact HB.out | apply below_alloc | apply pw_below_drewN | apply below_drew1 | refine below_set ?_ GE141.out) | exact HB.out)⟩
                          · rw [if_neg c16] at H
                            exact absurd H (by simp)
                        · rw [if_neg c15] at H
                          exact absurd H (by simp)
                      · rw [if_neg c14] at H
                        have c14b0 : decide (x28_3 < (((rd_T41 l0 x10_1).f1).size : Int)) = false := decide_eq_false c14
                        clear c14
                        by_cases c26 : 0 ≤ x10_1
                        · rw [if_pos c26] at H
                          have c26b0 := eq_true c26
                          have c26b1 : decide (0 ≤ x10_1) = true := decide_eq_true c26
                          clear c26
                          by_cases c27 : x10_1 ≤ (l0.length : Int)
                          · rw [if_pos c27] at H
                            have c27b0 := eq_true c27
                            have c27b1 : decide (x10_1 ≤ (l0.length : Int)) = true := decide_eq_true c27
                            clear c27
                            obtain ⟨y145, hy145⟩ : ∃ y_ : List (S41), y_ = (l0.take (x10_1 : Int).toNat) := ⟨_, rfl⟩
                            replace H : (comfitref05_Grammar.l2 k3 l0 l0 (l0.length : Int) x10_1 y145 (y145.length : Int) 0 ((rd_T41 l0 x10_1).f0) ((rd_T41 l0 x10_1).f1)) = some r := by first | (rw [hy145]; with_reducible exact H) | (have H2_ := (Option.bind_some _ _).symm.trans H; rw [hy145]; with_reducible exact H2_) | (have H2_ := (Option.bind_some _ _).symm.trans H; with_reducible exact H2_) | with_reducible exact H | (rw [hy145]; exact H) | exact H
                            have Ny145 := Aside0.mk hy145
                            clear hy145
                            have H' := Aside0.mk H
                            clear H
                            have q28 : (x10_1 : Int) ≤ ((l0.length : Int) : Int) := of_decide_eq_true (by first | (with_reducible assumption) | assumption)
                            obtain ⟨i028, hi028, _, hsz28, _⟩ := info_parts info41
                            have hroom28 : l0.length ≤ c0 := HC0.out
                            have hC28 : Kd.C k41 _ (some ad140) l0.length l0 := HR0.out
                            have hcut28 := cut_to (P := Tryd.prog) 22 41 .i64 Tryd.underlying22 hi028 (some ad140) l0.length c0 x10_1 (of_decide_eq_true (by first | (with_reducible assumption) | assumption)) q28 hroom28
                            have hr28 := Kd.C_take (m := (x10_1 : Int).toNat) hC28 (by omega)
                            have hy28 : y145.length = (x10_1 : Int).toNat := (by rw [Ny145.out, List.length_take]; omega)
                            rw [← Ny145.out] at hr28
                            rw [← hy28] at hcut28
                            have HR148 := Aside0.mk hr28
                            have HC148 := Aside0.mk (show y145.length ≤ c0 from by omega)
                            clear hr28 hC28 hroom28 hi028 hsz28
                            have KY28 := Aside0.mk hy28
                            clear hy28
                            replace q28 := eq_true q28
                            go_wp2
                            go_loopg [50] k3 (fun kq v50 w' => ∃ (x50_4 : Int), v50 = .int .i64 x50_4 ∧ Aside0 (comfitref05_Grammar.l2 kq l0 l0 (l0.length : Int) x10_1 y145 (y145.length : Int) x50_4 ((rd_T41 l0 x10_1).f0) ((rd_T41 l0 x10_1).f1) = some r) ∧ Aside0 (kq ≤ k3) ∧ Aside0 (w'.heap[gb141]? = some (.cells #[.int .u8 ((rd_T41 l0 x10_1).f0), .string ((rd_T41 l0 x10_1).f1)] 41 (0, 0))) ∧ Aside0 (Below w.heap.size w w'))
                            case atStart => exact ⟨(0), (by first | rfl | (simp; done) | (simp [*]; done)), H', ⟨Nat.le_refl _⟩, ⟨by (with_reducible repeat (first | refine blk_drewN ?_ _ | refine blk_drew ?_ | refine blk_alloc ?_ _)); exact BK141.out⟩, ⟨by repeat (first | (with_reducible first | exact HB.out | apply below_alloc | apply pw_below_drewN | apply below_drew1 | refine below_set ?_ GE141.out) | exact HB.out)⟩⟩
                            case round =>
                              clear H'
                              try clear c1
                              try clear p1
                              try clear q1
                              try clear hx1
                              try clear c2
                              try clear c2b0
                              try clear p2
                              try clear q2
                              try clear hx2
                              try clear c3
                              try clear c3b0
                              try clear c4
                              try clear c4b0
                              try clear p6
                              try clear c9
                              try clear c12
                              try clear c14
                              try clear c14b0
                              try clear p14
                              try clear q14
                              try clear hx14
                              try clear c15
                              try clear c15b0
                              try clear c16
                              try clear c16b0
                              try clear p17
                              try clear q17
                              try clear hx17
                              try clear c19
                              try clear p21
                              try clear q21
                              try clear hx21
                              try clear c23
                              try clear c26
                              try clear c26b0
                              try clear c26b1
                              try clear c27
                              try clear c27b0
                              try clear c27b1
                              try clear q28
                              try clear hcz10_0
                              try clear hcz10_1
                              try clear hcz11_0
                              try clear hcz11_1
                              try clear hcz13_0
                              try clear hcz13_1
                              try clear hcz20_0
                              try clear hcz20_1
                              try clear hcz24_0
                              try clear hcz24_1
                              try clear hcz25_0
                              try clear hcz25_1
                              try clear hcz7_0
                              try clear hcz7_1
                              try clear hfz10_0
                              try clear hfz10_1
                              try clear hfz11_0
                              try clear hfz11_1
                              try clear hfz13_0
                              try clear hfz13_1
                              try clear hfz20_0
                              try clear hfz20_1
                              try clear hfz24_0
                              try clear hfz24_1
                              try clear hfz25_0
                              try clear hfz25_1
                              try clear hfz7_0
                              try clear hfz7_1
                              try clear hx140_0
                              try clear hx140_1
                              try clear p1
                              try clear p140
                              try clear p17
                              try clear p2
                              try clear p21
                              try clear q1
                              try clear q140
                              try clear q17
                              try clear q21
                              try clear q28
                              obtain ⟨x50_4, rfl, HA, HK4, BK141, HB⟩ := hrel
                              cases gk with
                              | zero => exact absurd HA.out (by simp [comfitref05_Grammar.l2])
                              | succ k4 =>
                                have H := HA.out
                                clear HA
                                simp only [comfitref05_Grammar.l2] at H
                                by_cases c29 : x50_4 < (y145.length : Int)
                                · rw [if_pos c29] at H
                                  have c29b0 : decide (x50_4 < (y145.length : Int)) = true := decide_eq_true c29
                                  clear c29
                                  by_cases c30 : 0 ≤ x50_4
                                  · rw [if_pos c30] at H
                                    have c30b0 : decide (0 ≤ x50_4) = true := decide_eq_true c30
                                    clear c30
                                    by_cases c31 : x50_4 < (y145.length : Int)
                                    · rw [if_pos c31] at H
                                      have c31b0 : decide (x50_4 < (y145.length : Int)) = true := decide_eq_true c31
                                      clear c31
                                      by_cases c32 : (((rd_T41 l0 x10_1).f0) == ((rd_T41 y145 x50_4).f0) && (((rd_T41 l0 x10_1).f1).toList == (((rd_T41 y145 x50_4).f1).toList))) = true
                                      · rw [if_pos c32] at H
                                        have c32b0 : (((rd_T41 l0 x10_1).f0) == ((rd_T41 y145 x50_4).f0) && (((rd_T41 l0 x10_1).f1).toList == (((rd_T41 y145 x50_4).f1).toList))) = true := c32
                                        (try (have c32b1 : decide (((rd_T41 l0 x10_1).f0) = ((rd_T41 y145 x50_4).f0) && (((rd_T41 l0 x10_1).f1).toList == (((rd_T41 y145 x50_4).f1).toList))) = true := by simpa using c32))
                                        (try (have c32b2 : (((rd_T41 l0 x10_1).f0) == ((rd_T41 y145 x50_4).f0) && (((rd_T41 l0 x10_1).f1).toList == (((rd_T41 y145 x50_4).f1).toList))) = true := by simpa using c32))
                                        clear c32
                                        obtain rfl := Option.some.inj H
                                        have p149 : 0 ≤ (x50_4 : Int) := of_decide_eq_true (by first | (with_reducible assumption) | assumption)
                                        have q149 : x50_4 < (y145.length : Int) := of_decide_eq_true (by first | (with_reducible assumption) | assumption)
                                        obtain ⟨ad149, e149, hx149_0, hx149_1⟩ := at_T41 HR148.out x50_4 p149 q149
                                        obtain rfl : ad140 = ad149 := (by injection e149)
                                        replace hx149_0 := (HB.out.cell (World.block_lt_of_cell? w _ hx149_0)).trans hx149_0
                                        replace hx149_1 := (HB.out.cell (World.block_lt_of_cell? w _ hx149_1)).trans hx149_1
                                        replace p149 := eq_true p149
                                        replace q149 := eq_true q149
                                        go_wp2_with (first | ((with_reducible refine gate_dst (N := 7) rfl ?_); (try (refine gate_guard (by rfl) ?_; dsimp only)); refine box_event ?hg (N := 7) ?hd (cs := #[.int .u8 0, .string (⟨#[]⟩ : ByteArray)]) (t := 41) ?hr ?_; (case hd => rfl); (case hg => rfl); (case hr => first | (go_simp; done) | (go_simp; rfl)); intro gb150 hg w33 hbox hb; have n0_ := Aside0.mk (blk_below (g := gb141) (o := .cells #[.int .u8 ((rd_T41 l0 x10_1).f0), .string ((rd_T41 l0 x10_1).f1)] 41 (0, 0)) (by (with_reducible repeat (first | refine blk_drewN ?_ _ | refine blk_drew ?_ | refine blk_alloc ?_ _)); exact BK141.out) hb); have n1_ := Aside0.mk (below_step (by repeat (first | (with_reducible first | exact HB.out | apply below_alloc | apply pw_below_drewN | apply below_drew1 | refine below_set ?_ GE141.out) | exact HB.out)) hb); have n2_ := Aside0.mk (hbox); have n3_ := Aside0.mk ((by rw [hg]; exact (below_size (by repeat (first | (with_reducible first | exact HB.out | apply below_alloc | apply pw_below_drewN | apply below_drew1 | refine below_set ?_ GE141.out) | exact HB.out))) : w.heap.size ≤ gb150)); have n4_ := Aside0.mk ((by rw [hg]; exact (below_size (by repeat (first | (with_reducible first | exact HB.out | apply below_alloc | apply pw_below_drewN | apply below_drew1 | refine below_set ?_ GE141.out) | exact HB.out))) : w.heap.size ≤ gb150)); have n5_ := Aside0.mk ((by rw [hg]; exact Nat.ne_of_lt (blk_lt (g := gb141) (o := .cells #[.int .u8 ((rd_T41 l0 x10_1).f0), .string ((rd_T41 l0 x10_1).f1)] 41 (0, 0)) (by (with_reducible repeat (first | refine blk_drewN ?_ _ | refine blk_drew ?_ | refine blk_alloc ?_ _)); exact BK141.out)) : gb141 ≠ gb150)); have n6_ := Aside0.mk ((by rw [hg]; exact Nat.ne_of_gt (blk_lt (g := gb141) (o := .cells #[.int .u8 ((rd_T41 l0 x10_1).f0), .string ((rd_T41 l0 x10_1).f1)] 41 (0, 0)) (by (with_reducible repeat (first | refine blk_drewN ?_ _ | refine blk_drew ?_ | refine blk_alloc ?_ _)); exact BK141.out)) : gb150 ≠ gb141)); clear BK141; clear HB; have BK141 := n0_; have HB := n1_; have BK150 := n2_; have GW150 := n3_; have GE150 := n4_; have NB141_150 := n5_; have NB150_141 := n6_; clear n0_ n1_ n2_ n3_ n4_ n5_ n6_; clear hb hbox hg; have hnb34 := NB150_141.out; have hnc34 := NB141_150.out; have hcz35_0 : w33.cell? ⟨gb150, 0, none⟩ = some (.int .u8 0) := (blk_cell BK150.out 0).trans rfl; have hcz35_1 : w33.cell? ⟨gb150, 1, none⟩ = some (.string (⟨#[]⟩ : ByteArray)) := (blk_cell BK150.out 1).trans rfl; have hfz35_0 := blk_frozen BK150.out 0; have hfz35_1 := blk_frozen BK150.out 1; have hcz36_0 : w33.cell? ⟨gb141, 0, none⟩ = some (.int .u8 ((rd_T41 l0 x10_1).f0)) := (blk_cell BK141.out 0).trans rfl; have hcz36_1 : w33.cell? ⟨gb141, 1, none⟩ = some (.string ((rd_T41 l0 x10_1).f1)) := (blk_cell BK141.out 1).trans rfl; have hfz36_0 := blk_frozen BK141.out 0; have hfz36_1 := blk_frozen BK141.out 1))
                                        go_ret
                                        exact ⟨by first | rfl | (simp [errW_none, errW_some] <;> rfl) | (simp [*, errW_none, errW_some] <;> rfl), by repeat (first | (with_reducible first | exact HB.out | apply below_alloc | apply pw_below_drewN | apply below_drew1 | refine below_set ?_ GE141.out | refine below_set ?_ GE150.out) | exact HB.out)⟩
                                      · rw [if_neg c32] at H
                                        have c32b0 : (((rd_T41 l0 x10_1).f0) == ((rd_T41 y145 x50_4).f0) && (((rd_T41 l0 x10_1).f1).toList == (((rd_T41 y145 x50_4).f1).toList))) = false := by simpa using c32
                                        (try (have c32b1 : decide (((rd_T41 l0 x10_1).f0) = ((rd_T41 y145 x50_4).f0) && (((rd_T41 l0 x10_1).f1).toList == (((rd_T41 y145 x50_4).f1).toList))) = false := by simpa using c32))
                                        (try (have c32b2 : (((rd_T41 l0 x10_1).f0) == ((rd_T41 y145 x50_4).f0) && (((rd_T41 l0 x10_1).f1).toList == (((rd_T41 y145 x50_4).f1).toList))) = false := by simpa using c32))
                                        (try (have c32b3 : ¬ (((rd_T41 l0 x10_1).f0) = ((rd_T41 y145 x50_4).f0) && (((rd_T41 l0 x10_1).f1).toList == (((rd_T41 y145 x50_4).f1).toList))) := by simpa using c32))
                                        clear c32
                                        have H' := Aside0.mk H
                                        clear H
                                        have p149 : 0 ≤ (x50_4 : Int) := of_decide_eq_true (by first | (with_reducible assumption) | assumption)
                                        have q149 : x50_4 < (y145.length : Int) := of_decide_eq_true (by first | (with_reducible assumption) | assumption)
                                        obtain ⟨ad149, e149, hx149_0, hx149_1⟩ := at_T41 HR148.out x50_4 p149 q149
                                        obtain rfl : ad140 = ad149 := (by injection e149)
                                        replace hx149_0 := (HB.out.cell (World.block_lt_of_cell? w _ hx149_0)).trans hx149_0
                                        replace hx149_1 := (HB.out.cell (World.block_lt_of_cell? w _ hx149_1)).trans hx149_1
                                        replace p149 := eq_true p149
                                        replace q149 := eq_true q149
                                        go_wp2_with (first | ((with_reducible refine gate_dst (N := 7) rfl ?_); (try (refine gate_guard (by rfl) ?_; dsimp only)); refine box_event ?hg (N := 7) ?hd (cs := #[.int .u8 0, .string (⟨#[]⟩ : ByteArray)]) (t := 41) ?hr ?_; (case hd => rfl); (case hg => rfl); (case hr => first | (go_simp; done) | (go_simp; rfl)); intro gb150 hg w37 hbox hb; have n0_ := Aside0.mk (blk_below (g := gb141) (o := .cells #[.int .u8 ((rd_T41 l0 x10_1).f0), .string ((rd_T41 l0 x10_1).f1)] 41 (0, 0)) (by (with_reducible repeat (first | refine blk_drewN ?_ _ | refine blk_drew ?_ | refine blk_alloc ?_ _)); exact BK141.out) hb); have n1_ := Aside0.mk (below_step (by repeat (first | (with_reducible first | exact HB.out | apply below_alloc | apply pw_below_drewN | apply below_drew1 | refine below_set ?_ GE141.out) | exact HB.out)) hb); have n2_ := Aside0.mk (hbox); have n3_ := Aside0.mk ((by rw [hg]; exact (below_size (by repeat (first | (with_reducible first | exact HB.out | apply below_alloc | apply pw_below_drewN | apply below_drew1 | refine below_set ?_ GE141.out) | exact HB.out))) : w.heap.size ≤ gb150)); have n4_ := Aside0.mk ((by rw [hg]; exact (below_size (by repeat (first | (with_reducible first | exact HB.out | apply below_alloc | apply pw_below_drewN | apply below_drew1 | refine below_set ?_ GE141.out) | exact HB.out))) : w.heap.size ≤ gb150)); have n5_ := Aside0.mk ((by rw [hg]; exact Nat.ne_of_lt (blk_lt (g := gb141) (o := .cells #[.int .u8 ((rd_T41 l0 x10_1).f0), .string ((rd_T41 l0 x10_1).f1)] 41 (0, 0)) (by (with_reducible repeat (first | refine blk_drewN ?_ _ | refine blk_drew ?_ | refine blk_alloc ?_ _)); exact BK141.out)) : gb141 ≠ gb150)); have n6_ := Aside0.mk ((by rw [hg]; exact Nat.ne_of_gt (blk_lt (g := gb141) (o := .cells #[.int .u8 ((rd_T41 l0 x10_1).f0), .string ((rd_T41 l0 x10_1).f1)] 41 (0, 0)) (by (with_reducible repeat (first | refine blk_drewN ?_ _ | refine blk_drew ?_ | refine blk_alloc ?_ _)); exact BK141.out)) : gb150 ≠ gb141)); clear BK141; clear HB; have BK141 := n0_; have HB := n1_; have BK150 := n2_; have GW150 := n3_; have GE150 := n4_; have NB141_150 := n5_; have NB150_141 := n6_; clear n0_ n1_ n2_ n3_ n4_ n5_ n6_; clear hb hbox hg; have hnb38 := NB150_141.out; have hnc38 := NB141_150.out; have hcz39_0 : w37.cell? ⟨gb150, 0, none⟩ = some (.int .u8 0) := (blk_cell BK150.out 0).trans rfl; have hcz39_1 : w37.cell? ⟨gb150, 1, none⟩ = some (.string (⟨#[]⟩ : ByteArray)) := (blk_cell BK150.out 1).trans rfl; have hfz39_0 := blk_frozen BK150.out 0; have hfz39_1 := blk_frozen BK150.out 1; have hcz40_0 : w37.cell? ⟨gb141, 0, none⟩ = some (.int .u8 ((rd_T41 l0 x10_1).f0)) := (blk_cell BK141.out 0).trans rfl; have hcz40_1 : w37.cell? ⟨gb141, 1, none⟩ = some (.string ((rd_T41 l0 x10_1).f1)) := (blk_cell BK141.out 1).trans rfl; have hfz40_0 := blk_frozen BK141.out 0; have hfz40_1 := blk_frozen BK141.out 1))
                                        go_roundg k4
                                        case measure => have := HK1.out; have := HJ4.out; have := HK3.out; have := HK4.out; omega
                                        case rel => exact ⟨(wrap64 (x50_4 + 1)), (by first | rfl | (simp; done) | (simp [*]; done)), H', ⟨by have := HK1.out; have := HJ4.out; have := HK3.out; have := HK4.out; omega⟩, ⟨by (with_reducible repeat (first | refine blk_drewN ?_ _ | refine blk_drew ?_ | refine blk_alloc ?_ _)); refine blk_far ?_ NB141_150.out _; (with_reducible repeat (first | refine blk_drewN ?_ _ | refine blk_drew ?_ | refine blk_alloc ?_ _)); refine blk_far ?_ NB141_150.out _; (with_reducible repeat (first | refine blk_drewN ?_ _ | refine blk_drew ?_ | refine blk_alloc ?_ _)); exact BK141.out⟩, ⟨by repeat (first | (with_reducible first | exact HB.out | apply below_alloc | apply pw_below_drewN | apply below_drew1 | refine below_set ?_ GE141.out | refine below_set ?_ GE150.out) | exact HB.out)⟩⟩
                                    · rw [if_neg c31] at H
                                      exact absurd H (by simp)
                                  · rw [if_neg c30] at H
                                    exact absurd H (by simp)
                                · rw [if_neg c29] at H
                                  have c29b0 : decide (x50_4 < (y145.length : Int)) = false := decide_eq_false c29
                                  clear c29
                                  have H' := Aside0.mk H
                                  clear H
                                  go_wp2
                                  go_roundg k4
                                  case measure => have := HK1.out; have := HJ4.out; have := HK3.out; have := HK4.out; omega
                                  case rel => exact ⟨(wrap64 (x10_1 + 1)), (by first | rfl | (simp; done) | (simp [*]; done)), H', ⟨by have := HK1.out; have := HJ4.out; have := HK3.out; have := HK4.out; omega⟩, ⟨by repeat (first | (with_reducible first | exact HB.out | apply below_alloc | apply pw_below_drewN | apply below_drew1 | refine below_set ?_ GE141.out) | exact HB.out)⟩⟩
                          · rw [if_neg c27] at H
                            exact absurd H (by simp)
                        · rw [if_neg c26] at H
                          exact absurd H (by simp)
          · rw [if_neg c4] at H
            exact absurd H (by simp)
        · rw [if_neg c3] at H
          exact absurd H (by simp)
      · rw [if_neg c2] at H
        have c2b0 : decide (x10_1 < (l0.length : Int)) = false := decide_eq_false c2
        clear c2
        by_cases c41 : (l0.length : Int) ≥ 1
        · rw [if_pos c41] at H
          have c41b0 : decide (1 ≤ (l0.length : Int)) = true := decide_eq_true c41
          have c41b1 : decide (1 ≤ l0.length) = true := decide_eq_true (by omega)
          clear c41
          obtain rfl := Option.some.inj H
          go_wp2
          go_ret
          exact ⟨by first | rfl | (simp [errW_none, errW_some] <;> rfl) | (simp [*, errW_none, errW_some] <;> rfl), by repeat (first | (with_reducible first | exact HB.out | apply below_alloc | apply pw_below_drewN | apply below_drew1) | exact HB.out)⟩
        · rw [if_neg c41] at H
          have c41b0 : decide (1 ≤ (l0.length : Int)) = false := decide_eq_false c41
          have c41b1 : decide (1 ≤ l0.length) = false := decide_eq_false (by omega)
          clear c41
          obtain rfl := Option.some.inj H
          go_wp2
          go_ret
          exact ⟨by first | rfl | (simp [errW_none, errW_some] <;> rfl) | (simp [*, errW_none, errW_some] <;> rfl), by repeat (first | (with_reducible first | exact HB.out | apply below_alloc | apply pw_below_drewN | apply below_drew1) | exact HB.out)⟩

end Go.Proofs.YtpmmfckgfbdboaaDoor.G
end

section
namespace Go.Proofs.YtpmmfckgfbdboaaDoor.G
open Go.RowKit Go.Proofs.YtpmmfckgfbdboaaDoorW.PrintWords Go.Proofs.YtpmmfckgfbdboaaDoorW.PrintLast Go.Proofs.YtpmmfckgfbdboaaDoorW.PrintMore
attribute [local go_sem] max2_int min2_int max_two min_two max_three min_three max_four min_four   -- for this text's walks alone
set_option linter.unusedVariables false
set_option linter.unusedSimpArgs false

/-! ### comfitlaw05_text: function 32 -/
def comfitlaw05_text.f (a0 : ByteArray) : Option (ByteArray) := if 0 ≤ (mn (a0.size : Int) 12) then (if (mn (a0.size : Int) 12) ≤ (a0.size : Int) then (some (a0.extract 0 ((mn (a0.size : Int) 12) : Int).toNat)) else (none)) else (none)
set_option maxHeartbeats 8000000 in
set_option maxRecDepth 100000 in
theorem comfitlaw05_text.calls (a0 : ByteArray) (r : ByteArray) (w : World) (h : comfitlaw05_text.f a0 = some r) :
    Calls Tryd.prog 32 #[.string a0] w fun e w' => e = .returned (.string r) ∧ Below w.heap.size w w' := by
  have HB := Aside0.mk (Below.refl w.heap.size w)
  have H : (if 0 ≤ (mn (a0.size : Int) 12) then (if (mn (a0.size : Int) 12) ≤ (a0.size : Int) then (some (a0.extract 0 ((mn (a0.size : Int) 12) : Int).toNat)) else (none)) else (none)) = some r := h
  clear h
  obtain ⟨ji2, hji2⟩ : ∃ j_ : Int, (mn (a0.size : Int) 12) = j_ := ⟨_, rfl⟩
  replace H : (if 0 ≤ (ji2) then (if (ji2) ≤ (a0.size : Int) then (some (a0.extract 0 ((ji2) : Int).toNat)) else (none)) else (none)) = some r := by first | (rw [hji2] at H; exact H) | (simp only [hji2] at H ⊢; exact H)
  (try (have hji2h : ji2 ≤ 12 := by (rw [← hji2]; unfold mn; (repeat' split) <;> omega)))
  (try (have hji2g : ji2 ≤ 64 := by omega))
  (try (have hji2l : 0 ≤ ji2 := by (rw [← hji2]; unfold mn; (repeat' split) <;> omega)))
  (try (have hji2m : 0 ≤ ji2 := by omega))
  have hji2_ : (if 12 < (a0.size : Int) then 12 else (a0.size : Int)) = ji2 := hji2
  by_cases c3 : 0 ≤ (ji2)
  · rw [if_pos c3] at H
    have c3b0 := eq_true c3
    have c3b1 : decide (0 ≤ (ji2)) = true := decide_eq_true c3
    clear c3
    by_cases c4 : (ji2) ≤ (a0.size : Int)
    · rw [if_pos c4] at H
      have c4b0 := eq_true c4
      have c4b1 : decide ((ji2) ≤ (a0.size : Int)) = true := decide_eq_true c4
      clear c4
      obtain rfl := Option.some.inj H
      go_enter Tryd.func32, Tryd.ntmps32
      go_wp2
      go_ret
      exact ⟨by first | rfl | (simp [errW_none, errW_some] <;> rfl) | (simp only [← hji2]; first | rfl | (simp [errW_none, errW_some] <;> rfl)) | (simp [*, errW_none, errW_some] <;> rfl), by repeat (first | (with_reducible first | exact HB.out | apply below_alloc | apply pw_below_drewN | apply below_drew1) | exact HB.out)⟩
    · rw [if_neg c4] at H
      exact absurd H (by simp)
  · rw [if_neg c3] at H
    exact absurd H (by simp)

end Go.Proofs.YtpmmfckgfbdboaaDoor.G
end

section
namespace Go.Proofs.YtpmmfckgfbdboaaDoor.G
open Go.RowKit Go.Proofs.YtpmmfckgfbdboaaDoorW.PrintWords Go.Proofs.YtpmmfckgfbdboaaDoorW.PrintLast Go.Proofs.YtpmmfckgfbdboaaDoorW.PrintMore
attribute [local go_sem] max2_int min2_int max_two min_two max_three min_three max_four min_four   -- for this text's walks alone
set_option linter.unusedVariables false
set_option linter.unusedSimpArgs false

/-! ### comfitlaw05_Of: function 14 -/
def comfitlaw05_Of.l0 : Nat → List (S56) → List (S41) → Int → Int → Option ((List (S56)))
  | 0, _, _, _, _ => none
  | k + 1, x3, x6, x7, x8 => if x8 < x7 then (if 0 ≤ x8 then (if x8 < (x6.length : Int) then (if x8 < 11 then ((comfitlaw05_text.f ((rd_T41 x6 x8).f1)).bind fun t136 => (if x3.length < 5864062014805 then (comfitlaw05_Of.l0 k (x3 ++ [(⟨(rd_T41 x6 x8).f0, t136⟩ : S56)]) x6 x7 (wrap64 (x8 + 1))) else (none))) else (comfitlaw05_Of.l0 k x3 x6 x7 (wrap64 (x8 + 1)))) else (none)) else (none)) else (some x3)
def comfitlaw05_Of.f (k : Nat) (l0 : List (S41)) : Option ((List (S56))) := comfitlaw05_Of.l0 k ([] : List (S56)) l0 (l0.length : Int) 0
theorem comfitlaw05_Of.mono_l : ∀ k, (∀ y0 y1 y2 y3, LeO (comfitlaw05_Of.l0 k y0 y1 y2 y3) (comfitlaw05_Of.l0 (k + 1) y0 y1 y2 y3))
  | 0 => fun _ _ _ _ r h => by simp [comfitlaw05_Of.l0] at h
  | k + 1 => by
    have ih0 := comfitlaw05_Of.mono_l k
    · intro y0 y1 y2 y3
      unfold comfitlaw05_Of.l0
      repeat' first
      | (with_reducible exact ih0 _ _ _ _)
      | (with_reducible exact LeO.refl _)
      | (with_reducible exact LeO.none _)
      | (with_reducible refine LeO.ite ?_ ?_)
      | (with_reducible refine LeO.bind ?_ (fun _ => ?_))
      | exact ih0 _ _ _ _
      | exact LeO.none _
      | refine LeO.ite ?_ ?_
      | refine LeO.bind ?_ (fun _ => ?_)
theorem comfitlaw05_Of.mono : ∀ a0 k, LeO (comfitlaw05_Of.f k a0) (comfitlaw05_Of.f (k + 1) a0) := by
  intro a0 k
  have ih0 := comfitlaw05_Of.mono_l k
  unfold comfitlaw05_Of.f
  repeat' first
      | (with_reducible exact ih0 _ _ _ _)
      | (with_reducible exact LeO.refl _)
      | (with_reducible exact LeO.none _)
      | (with_reducible refine LeO.ite ?_ ?_)
      | (with_reducible refine LeO.bind ?_ (fun _ => ?_))
      | exact ih0 _ _ _ _
      | exact LeO.none _
      | refine LeO.ite ?_ ?_
      | refine LeO.bind ?_ (fun _ => ?_)
def comfitlaw05_Of.T6 : Bool × List (List Nat × List Nat) := (true, [([], []), ([], []), ([1], [1]), ([], []), ([3], [3]), ([4], [4]), ([2, 5], [2, 5]), ([6], [6]), ([0, 7, 5], [0, 7]), ([8, 8, 0, 1, 2, 3, 4, 5, 6, 7, 8], [0, 8])])
def comfitlaw05_Of.B6 : List Nat := [0, 0, 2, 0, 8, 24, 62, 126, 255, 511]
theorem comfitlaw05_Of.tab6 : rtab .any (opsOf Tryd.f14 6) = comfitlaw05_Of.T6 := by kernel_rfl
theorem comfitlaw05_Of.bits6 : waitsOk comfitlaw05_Of.T6.2 comfitlaw05_Of.B6 = true := by kernel_rfl
set_option maxHeartbeats 8000000 in
set_option maxRecDepth 100000 in
theorem comfitlaw05_Of.calls (k : Nat) (A0 : Option Addr) (c0 : Nat) (l0 : List (S41)) (r : List (S56)) (w : World) (hr0 : Kd.C k41 w A0 l0.length l0) (hc0 : l0.length ≤ c0) (h : comfitlaw05_Of.f k l0 = some r) :
    Calls Tryd.prog 14 #[.slice A0 l0.length c0] w fun e w' => ∃ v0_ : Value, e = .returned (v0_) ∧ Kd.R k56 56 w' w.heap.size (fun _ => True) v0_ r ∧ Below w.heap.size w w' := by
  have hu41 := Tryd.underlying41
  have hu56 := Tryd.underlying56
  have HR0 := Aside0.mk hr0
  have HC0 := Aside0.mk hc0
  clear hr0 hc0
  have HB := Aside0.mk (Below.refl w.heap.size w)
  have H : (comfitlaw05_Of.l0 k ([] : List (S56)) l0 (l0.length : Int) 0) = some r := h
  clear h
  have H' := Aside0.mk H
  clear H
  go_enter Tryd.func14, Tryd.ntmps14
  go_wp2
  go_loopg [3, 8] k (fun kq v3 v8 w' => ∃ (x3_1 : List (S56)) (x8_1 : Int), v8 = .int .i64 x8_1 ∧ Aside0 (comfitlaw05_Of.l0 kq x3_1 l0 (l0.length : Int) x8_1 = some r) ∧ Aside0 (kq ≤ k) ∧ Aside0 (Kd.R k56 56 w' w.heap.size (fun _ => True) v3 x3_1) ∧ Aside0 (Below w.heap.size w w'))
  case atStart => exact ⟨(([] : List (S56))), (0), (by first | rfl | (simp; done) | (simp [*]; done)), H', ⟨Nat.le_refl _⟩, ⟨by first | exact Kd.R_nil _ _ _ _ _ | exact Kd.N_nil _ _ _ _ _ | exact Kd.V_nil _ _ _ _ _ | exact Kd.Q_nil _ _ _ _ _ | exact Kd.S_nil _ _ _ _ _⟩, ⟨by repeat (first | (with_reducible first | exact HB.out | apply below_alloc | apply pw_below_drewN | apply below_drew1) | exact HB.out)⟩⟩
  case round =>
    clear H'
    try clear c1
    obtain ⟨x3_1, x8_1, rfl, HA, HK1, HO_3, HB⟩ := hrel
    cases gk with
    | zero => exact absurd HA.out (by simp [comfitlaw05_Of.l0])
    | succ k1 =>
      have H := HA.out
      clear HA
      simp only [comfitlaw05_Of.l0] at H
      by_cases c2 : x8_1 < (l0.length : Int)
      · rw [if_pos c2] at H
        have c2b0 : decide (x8_1 < (l0.length : Int)) = true := decide_eq_true c2
        clear c2
        by_cases c3 : 0 ≤ x8_1
        · rw [if_pos c3] at H
          have c3b0 : decide (0 ≤ x8_1) = true := decide_eq_true c3
          clear c3
          by_cases c4 : x8_1 < (l0.length : Int)
          · rw [if_pos c4] at H
            have c4b0 : decide (x8_1 < (l0.length : Int)) = true := decide_eq_true c4
            clear c4
            by_cases c5 : x8_1 < 11
            · rw [if_pos c5] at H
              have c5b0 : decide (x8_1 < 11) = true := decide_eq_true c5
              clear c5
              replace H := Option.bind_eq_some_iff.mp H
              obtain ⟨t136, A60, H⟩ := H
              replace H : (if x3_1.length < 5864062014805 then (comfitlaw05_Of.l0 k1 (x3_1 ++ [(⟨(rd_T41 l0 x8_1).f0, t136⟩ : S56)]) l0 (l0.length : Int) (wrap64 (x8_1 + 1))) else (none)) = some r := H
              have A6 := Aside0.mk A60
              clear A60
              by_cases c7 : x3_1.length < 5864062014805
              · rw [if_pos c7] at H
                have LMc7 := Aside0.mk c7
                clear c7
                obtain ⟨y137, hy137⟩ : ∃ y_ : List (S56), y_ = (x3_1 ++ [(⟨(rd_T41 l0 x8_1).f0, t136⟩ : S56)]) := ⟨_, rfl⟩
                replace H : (comfitlaw05_Of.l0 k1 y137 l0 (l0.length : Int) (wrap64 (x8_1 + 1))) = some r := by first | (rw [hy137]; with_reducible exact H) | (have H2_ := (Option.bind_some _ _).symm.trans H; rw [hy137]; with_reducible exact H2_) | (have H2_ := (Option.bind_some _ _).symm.trans H; with_reducible exact H2_) | with_reducible exact H | (rw [hy137]; exact H) | exact H
                have Ny137 := Aside0.mk hy137
                clear hy137
                have H' := Aside0.mk H
                clear H
                have p134 : 0 ≤ (x8_1 : Int) := of_decide_eq_true (by first | (with_reducible assumption) | assumption)
                have q134 : x8_1 < (l0.length : Int) := of_decide_eq_true (by first | (with_reducible assumption) | assumption)
                obtain ⟨ad134, e134, hx134_0, hx134_1⟩ := at_T41 HR0.out x8_1 p134 q134
                cases e134
                replace hx134_0 := (HB.out.cell (World.block_lt_of_cell? w _ hx134_0)).trans hx134_0
                replace hx134_1 := (HB.out.cell (World.block_lt_of_cell? w _ hx134_1)).trans hx134_1
                replace p134 := eq_true p134
                replace q134 := eq_true q134
                try go_wp2_with (first | ((with_reducible refine gate_dst (N := 5) rfl ?_); refine box_event ?hg (N := 5) ?hd (cs := #[.int .u8 0, .string (⟨#[]⟩ : ByteArray)]) (t := 41) ?hr ?_; (case hd => rfl); (case hg => rfl); (case hr => first | (go_simp; done) | (go_simp; rfl)); intro gb135 hg w8 hbox hb; have n0_ := Aside0.mk (Kd.R_below (by (with_reducible repeat (first | apply Kd.R_alloc | apply Kd.R_drewN | apply Kd.R_drew)); exact HO_3.out) hb); have n1_ := Aside0.mk (below_step (by repeat (first | (with_reducible first | exact HB.out | apply below_alloc | apply pw_below_drewN | apply below_drew1) | exact HB.out)) hb); have n2_ := Aside0.mk (hbox); have n3_ := Aside0.mk ((by rw [hg]; exact (below_size (by repeat (first | (with_reducible first | exact HB.out | apply below_alloc | apply pw_below_drewN | apply below_drew1) | exact HB.out))) : w.heap.size ≤ gb135)); have n4_ := Aside0.mk ((by rw [hg]; exact (below_size (by repeat (first | (with_reducible first | exact HB.out | apply below_alloc | apply pw_below_drewN | apply below_drew1) | exact HB.out))) : w.heap.size ≤ gb135)); clear HO_3; clear HB; have HO_3 := n0_; have HB := n1_; have BK135 := n2_; have GW135 := n3_; have GE135 := n4_; clear n0_ n1_ n2_ n3_ n4_; clear hb hbox hg; have hcz9_0 : w8.cell? ⟨gb135, 0, none⟩ = some (.int .u8 0) := (blk_cell BK135.out 0).trans rfl; have hcz9_1 : w8.cell? ⟨gb135, 1, none⟩ = some (.string (⟨#[]⟩ : ByteArray)) := (blk_cell BK135.out 1).trans rfl; have hfz9_0 := blk_frozen BK135.out 0; have hfz9_1 := blk_frozen BK135.out 1))
                have n0_ : Aside0 (Kd.R k56 56 ((w8.setCell ⟨gb135, 0, none⟩ (.int .u8 ((rd_T41 l0 x8_1).f0))).setCell ⟨gb135, 1, none⟩ (.string ((rd_T41 l0 x8_1).f1))) w.heap.size (fun _ => True) u3 x3_1) := ⟨by (with_reducible repeat (first | apply Kd.R_alloc | apply Kd.R_drewN | apply Kd.R_drew)); exact Kd.R_mono (Kd.R_far (p := ⟨gb135, 1, none⟩) (Kd.R_far (p := ⟨gb135, 0, none⟩) (Kd.R_types HO_3.out BK135.out (by decide)) (fun _ hk => hk.2) (.int .u8 ((rd_T41 l0 x8_1).f0))) (fun _ hk => hk.2) (.string ((rd_T41 l0 x8_1).f1))) (fun _ hk => trivial)⟩
                have n1_ : Aside0 (((w8.setCell ⟨gb135, 0, none⟩ (.int .u8 ((rd_T41 l0 x8_1).f0))).setCell ⟨gb135, 1, none⟩ (.string ((rd_T41 l0 x8_1).f1))).heap[gb135]? = some (.cells #[.int .u8 ((rd_T41 l0 x8_1).f0), .string ((rd_T41 l0 x8_1).f1)] 41 (0, 0))) := ⟨by (with_reducible repeat (first | refine blk_drewN ?_ _ | refine blk_drew ?_ | refine blk_alloc ?_ _)); refine blk_put (cs := #[.int .u8 ((rd_T41 l0 x8_1).f0), .string (⟨#[]⟩ : ByteArray)]) ?_ 1 _ rfl; (with_reducible repeat (first | refine blk_drewN ?_ _ | refine blk_drew ?_ | refine blk_alloc ?_ _)); refine blk_put (cs := #[.int .u8 0, .string (⟨#[]⟩ : ByteArray)]) ?_ 0 _ rfl; (with_reducible repeat (first | refine blk_drewN ?_ _ | refine blk_drew ?_ | refine blk_alloc ?_ _)); exact BK135.out⟩
                have n2_ : Aside0 (Below w.heap.size w ((w8.setCell ⟨gb135, 0, none⟩ (.int .u8 ((rd_T41 l0 x8_1).f0))).setCell ⟨gb135, 1, none⟩ (.string ((rd_T41 l0 x8_1).f1)))) := ⟨by repeat (first | (with_reducible first | exact HB.out | apply below_alloc | apply pw_below_drewN | apply below_drew1 | refine below_set ?_ GE135.out) | exact HB.out)⟩
                (try clear HO_3)
                (try clear BK135)
                (try clear HB)
                generalize ((w8.setCell ⟨gb135, 0, none⟩ (.int .u8 ((rd_T41 l0 x8_1).f0))).setCell ⟨gb135, 1, none⟩ (.string ((rd_T41 l0 x8_1).f1))) = w10 at n0_ n1_ n2_ ⊢
                have HO_3 := n0_
                have BK135 := n1_
                have HB := n2_
                clear n0_ n1_ n2_
                have n0_ := Aside0.mk (Kd.R_drew HO_3.out)
                have n1_ := Aside0.mk (blk_drew BK135.out)
                have n2_ := Aside0.mk (below_drew1 HB.out)
                clear HO_3
                clear BK135
                clear HB
                have HO_3 := n0_
                have BK135 := n1_
                have HB := n2_
                clear n0_ n1_ n2_
                refine start_ (n := 10) (S := fun w' => w'.cell? ⟨gb135, 0, none⟩ = some (.int .u8 ((rd_T41 l0 x8_1).f0)) ∧ w'.cell? ⟨gb135, 1, none⟩ = some (.string ((rd_T41 l0 x8_1).f1))) (ds := []) #[false, false, false, false, false, false, false, false, false, false] (by kernel_rfl) rfl rfl ⟨(blk_cell BK135.out 0).trans rfl, (blk_cell BK135.out 1).trans rfl⟩ (fun hHeld => ?_); refine with_tabW comfitlaw05_Of.tab6 comfitlaw05_Of.bits6 (fun HT_ HW_ => ?_)
                generalize w10.drew = w11 at HO_3 BK135 HB hHeld ⊢
                refine pure_ (i := 0) (N := some 15) (v := ?_) (a' := ?_) #[true, false, false, false, false, false, false, false, false, false] rfl rfl (any_of HT_.out (by kernel_rfl)) (fun _ _ _ h => h) (Or.inl ⟨by rfl, ?_⟩) ?_ ?_
                rotate_left
                · intro w'
                  go_simp
                  with_reducible rfl
                rotate_left
                · simp only [Act.put, List.setIfInBounds_toArray, List.set_cons_zero, List.set_cons_succ, i64_w, i32_w]
                  rfl
                refine pure_ (i := 1) (N := some 16) (v := ?_) (a' := ?_) #[true, true, false, false, false, false, false, false, false, false] rfl rfl (any_of HT_.out (by kernel_rfl)) (fun _ _ _ h => h) (Or.inl ⟨by rfl, ?_⟩) ?_ ?_
                rotate_left
                · intro w'
                  go_simp
                  with_reducible rfl
                rotate_left
                · simp only [Act.put, List.setIfInBounds_toArray, List.set_cons_zero, List.set_cons_succ, i64_w, i32_w]
                  rfl
                refine pure_ (i := 3) (N := some 18) (v := ?_) (a' := ?_) #[true, true, false, true, false, false, false, false, false, false] rfl rfl (any_of HT_.out (by kernel_rfl)) (fun _ _ _ h => h) (Or.inl ⟨by rfl, ?_⟩) ?_ ?_
                rotate_left
                · intro w'
                  go_simp
                  with_reducible rfl
                rotate_left
                · simp only [Act.put, List.setIfInBounds_toArray, List.set_cons_zero, List.set_cons_succ, i64_w, i32_w]
                  rfl
                refine take_ (i := 2) (N := some 17) (v := ?_) (a' := ?_) #[true, true, true, true, false, false, false, false, false, false] rfl rfl (take_ofW HT_.out HW_.out (by kernel_rfl)) (fun _ _ _ h => h) (Or.inl ⟨by rfl, ?_⟩) hHeld ?_ ?_
                rotate_left
                · rintro w' ⟨s0, s1⟩
                  go_simp
                  with_reducible rfl
                rotate_left
                · simp only [Act.put, List.setIfInBounds_toArray, List.set_cons_zero, List.set_cons_succ, i64_w, i32_w]
                  rfl
                refine take_ (i := 4) (N := some 19) (v := ?_) (a' := ?_) #[true, true, true, true, true, false, false, false, false, false] rfl rfl (take_ofW HT_.out HW_.out (by kernel_rfl)) (fun _ _ _ h => h) (Or.inl ⟨by rfl, ?_⟩) hHeld ?_ ?_
                rotate_left
                · rintro w' ⟨s0, s1⟩
                  go_simp
                  with_reducible rfl
                rotate_left
                · simp only [Act.put, List.setIfInBounds_toArray, List.set_cons_zero, List.set_cons_succ, i64_w, i32_w]
                  rfl
                refine one_ (i := 5) (N := some 20) #[true, true, true, true, true, true, false, false, false, false] rfl rfl (one_of HT_.out (by kernel_rfl)) (by decide) (fun K hK => ?_)
                refine goes_ Tryd.func32 (by kernel_rfl) rfl #[.string ((rd_T41 l0 x8_1).f1)] (by rfl) rfl rfl (by (try simp only [List.map_toArray, List.map_cons, List.map_nil]); first | done | rfl | (simp only [List.length_drop, List.length_take]; rfl)) ?_
                with_reducible refine (comfitlaw05_text.calls ((rd_T41 l0 x8_1).f1) t136 _ A6.out).mono ?_
                rintro e w12 ⟨rfl, hb⟩
                refine ⟨_, rfl, ?_⟩
                have n0_ := Aside0.mk (Kd.R_below (by (with_reducible repeat (first | apply Kd.R_alloc | apply Kd.R_drewN | apply Kd.R_drew)); exact HO_3.out) hb)
                have n1_ := Aside0.mk (blk_below (g := gb135) (o := .cells #[.int .u8 ((rd_T41 l0 x8_1).f0), .string ((rd_T41 l0 x8_1).f1)] 41 (0, 0)) (by (with_reducible repeat (first | refine blk_drewN ?_ _ | refine blk_drew ?_ | refine blk_alloc ?_ _)); exact BK135.out) hb)
                have n2_ := Aside0.mk (below_step (by repeat (first | (with_reducible first | exact HB.out | apply below_alloc | apply pw_below_drewN | apply below_drew1 | refine below_set ?_ GE135.out) | exact HB.out)) hb)
                clear HO_3
                clear BK135
                clear HB
                have HO_3 := n0_
                have BK135 := n1_
                have HB := n2_
                clear n0_ n1_ n2_
                (try clear hb)
                (try clear hb2)
                (try clear hk)
                (try clear hi)
                refine hK.out _ _ ⟨(blk_cell BK135.out 0).trans rfl, (blk_cell BK135.out 1).trans rfl⟩ (fun hHeld => ?_)
                clear hK K
                refine norm_ (a' := ?_) ?_ ?_
                rotate_left
                · show Act.put _ (some 20) _ = _
                  simp only [Act.put, List.setIfInBounds_toArray, List.set_cons_zero, List.set_cons_succ, i64_w, i32_w]
                  rfl
                refine pure_ (i := 6) (N := some 21) (v := ?_) (a' := ?_) #[true, true, true, true, true, true, true, false, false, false] rfl rfl (any_of HT_.out (by kernel_rfl)) (fun _ _ _ h => h) (Or.inl ⟨by rfl, ?_⟩) ?_ ?_
                rotate_left
                · intro w'
                  go_simp
                  with_reducible rfl
                rotate_left
                · simp only [Act.put, List.setIfInBounds_toArray, List.set_cons_zero, List.set_cons_succ, i64_w, i32_w]
                  rfl
                refine one_ (i := 7) (N := some 22) #[true, true, true, true, true, true, true, true, false, false] rfl rfl (one_of HT_.out (by kernel_rfl)) (by decide) (fun K hK => ?_)
                refine value_ (w1 := ?_) (v := ?_) (by rfl) rfl ?_ ?_
                rotate_left 2
                · go_simp
                  constructor
                  · rfl
                  · rfl
                refine hK.out _ _ ⟨(blk_cell (blk_alloc BK135.out _) 0).trans rfl, (blk_cell (blk_alloc BK135.out _) 1).trans rfl⟩ (fun hHeld => ?_)
                clear hK K
                refine norm_ (a' := ?_) ?_ ?_
                rotate_left
                · show Act.put _ (some 22) _ = _
                  simp only [Act.put, List.setIfInBounds_toArray, List.set_cons_zero, List.set_cons_succ, i64_w, i32_w]
                  rfl
                refine one_ (i := 8) (N := some 23) #[true, true, true, true, true, true, true, true, true, false] rfl rfl (one_of HT_.out (by kernel_rfl)) (by decide) (fun K hK => ?_)
                refine Kd.R_append_step k56 (w0 := w) w.heap.size (by rfl) (.tmp 15) (.tmp 22) 27 56 (.agg #[(.int .u8 0), (.string ⟨#[]⟩)]) 24 rfl Tryd.underlying27 info56 rfl (by decide) (by omega) u3 x3_1 (⟨(rd_T41 l0 x8_1).f0, t136⟩ : S56) [.int .u8 ((rd_T41 l0 x8_1).f0), .string t136] (fun _ => True) (fun _ => False) rfl rfl ?aP (fun _ hk => hk.elim) ?aF ?aO ?aB ?aS ?aL ?_
                (case aP => exact k56_mkM _ _ _ (⟨(rd_T41 l0 x8_1).f0, t136⟩ : S56))
                (case aB => exact (by repeat (first | (with_reducible first | exact HB.out | apply below_alloc | apply pw_below_drewN | apply below_drew1 | refine below_set ?_ GE135.out) | exact HB.out)))
                (case aF => exact (fun _ _ => trivial))
                (case aO => exact (by (with_reducible repeat (first | apply Kd.R_alloc | apply Kd.R_drewN | apply Kd.R_drew)); exact HO_3.out))
                (case aS => exact (below_size (by repeat (first | (with_reducible first | exact HB.out | apply below_alloc | apply pw_below_drewN | apply below_drew1 | refine below_set ?_ GE135.out) | exact HB.out))))
                (case aL => have := LMc7.out; omega)
                intro v138 w13 ho hb hg hat
                rw [← Ny137.out] at ho
                have n0_ := Aside0.mk (blk_grown (g := gb135) (o := .cells #[.int .u8 ((rd_T41 l0 x8_1).f0), .string ((rd_T41 l0 x8_1).f1)] 41 (0, 0)) (by (with_reducible repeat (first | refine blk_drewN ?_ _ | refine blk_drew ?_ | refine blk_alloc ?_ _)); exact BK135.out) hg (Kd.R_ne HO_3.out BK135.out (by decide)))
                have n1_ := Aside0.mk (hb)
                have n2_ := Aside0.mk (ho)
                clear BK135
                clear HB
                clear HO_3
                have BK135 := n0_
                have HB := n1_
                have HO139 := n2_
                clear n0_ n1_ n2_
                clear ho hb hg hat
                refine hK.out _ _ ⟨(blk_cell BK135.out 0).trans rfl, (blk_cell BK135.out 1).trans rfl⟩ (fun hHeld => ?_)
                clear hK K
                refine norm_ (a' := ?_) ?_ ?_
                rotate_left
                · show Act.put _ (some 23) _ = _
                  simp only [Act.put, List.setIfInBounds_toArray, List.set_cons_zero, List.set_cons_succ, i64_w, i32_w]
                  rfl
                refine pure_ (i := 9) (N := some 3) (v := ?_) (a' := ?_) #[true, true, true, true, true, true, true, true, true, true] rfl rfl (any_of HT_.out (by kernel_rfl)) (fun _ _ _ h => h) (Or.inl ⟨by rfl, ?_⟩) ?_ ?_
                rotate_left
                · intro w'
                  go_simp
                  with_reducible rfl
                rotate_left
                · simp only [Act.put, List.setIfInBounds_toArray, List.set_cons_zero, List.set_cons_succ, i64_w, i32_w]
                  rfl
                refine done_ (done_of HT_.out (by kernel_rfl)) ?_
                try go_wp2
                go_roundg k1
                case measure => have := HK1.out; omega
                case rel => exact ⟨(y137), (wrap64 (x8_1 + 1)), (by first | rfl | (simp; done) | (simp [*]; done)), H', ⟨by have := HK1.out; omega⟩, ⟨by (with_reducible repeat (first | apply Kd.R_alloc | apply Kd.R_drewN | apply Kd.R_drew)); exact HO139.out⟩, ⟨by repeat (first | (with_reducible first | exact HB.out | apply below_alloc | apply pw_below_drewN | apply below_drew1 | refine below_set ?_ GE135.out) | exact HB.out)⟩⟩
              · rw [if_neg c7] at H
                exact absurd H (by simp)
            · rw [if_neg c5] at H
              have c5b0 : decide (x8_1 < 11) = false := decide_eq_false c5
              clear c5
              have H' := Aside0.mk H
              clear H
              have p134 : 0 ≤ (x8_1 : Int) := of_decide_eq_true (by first | (with_reducible assumption) | assumption)
              have q134 : x8_1 < (l0.length : Int) := of_decide_eq_true (by first | (with_reducible assumption) | assumption)
              obtain ⟨ad134, e134, hx134_0, hx134_1⟩ := at_T41 HR0.out x8_1 p134 q134
              cases e134
              replace hx134_0 := (HB.out.cell (World.block_lt_of_cell? w _ hx134_0)).trans hx134_0
              replace hx134_1 := (HB.out.cell (World.block_lt_of_cell? w _ hx134_1)).trans hx134_1
              replace p134 := eq_true p134
              replace q134 := eq_true q134
              go_wp2_with (first | ((with_reducible refine gate_dst (N := 5) rfl ?_); refine box_event ?hg (N := 5) ?hd (cs := #[.int .u8 0, .string (⟨#[]⟩ : ByteArray)]) (t := 41) ?hr ?_; (case hd => rfl); (case hg => rfl); (case hr => first | (go_simp; done) | (go_simp; rfl)); intro gb135 hg w14 hbox hb; have n0_ := Aside0.mk (Kd.R_below (by (with_reducible repeat (first | apply Kd.R_alloc | apply Kd.R_drewN | apply Kd.R_drew)); exact HO_3.out) hb); have n1_ := Aside0.mk (below_step (by repeat (first | (with_reducible first | exact HB.out | apply below_alloc | apply pw_below_drewN | apply below_drew1) | exact HB.out)) hb); have n2_ := Aside0.mk (hbox); have n3_ := Aside0.mk ((by rw [hg]; exact (below_size (by repeat (first | (with_reducible first | exact HB.out | apply below_alloc | apply pw_below_drewN | apply below_drew1) | exact HB.out))) : w.heap.size ≤ gb135)); have n4_ := Aside0.mk ((by rw [hg]; exact (below_size (by repeat (first | (with_reducible first | exact HB.out | apply below_alloc | apply pw_below_drewN | apply below_drew1) | exact HB.out))) : w.heap.size ≤ gb135)); clear HO_3; clear HB; have HO_3 := n0_; have HB := n1_; have BK135 := n2_; have GW135 := n3_; have GE135 := n4_; clear n0_ n1_ n2_ n3_ n4_; clear hb hbox hg; have hcz15_0 : w14.cell? ⟨gb135, 0, none⟩ = some (.int .u8 0) := (blk_cell BK135.out 0).trans rfl; have hcz15_1 : w14.cell? ⟨gb135, 1, none⟩ = some (.string (⟨#[]⟩ : ByteArray)) := (blk_cell BK135.out 1).trans rfl; have hfz15_0 := blk_frozen BK135.out 0; have hfz15_1 := blk_frozen BK135.out 1))
              go_roundg k1
              case measure => have := HK1.out; omega
              case rel => exact ⟨(x3_1), (wrap64 (x8_1 + 1)), (by first | rfl | (simp; done) | (simp [*]; done)), H', ⟨by have := HK1.out; omega⟩, ⟨by (with_reducible repeat (first | apply Kd.R_alloc | apply Kd.R_drewN | apply Kd.R_drew)); exact Kd.R_mono (Kd.R_far (p := ⟨gb135, 1, none⟩) (Kd.R_far (p := ⟨gb135, 0, none⟩) (Kd.R_types HO_3.out BK135.out (by decide)) (fun _ hk => hk.2) (.int .u8 ((rd_T41 l0 x8_1).f0))) (fun _ hk => hk.2) (.string ((rd_T41 l0 x8_1).f1))) (fun _ hk => trivial)⟩, ⟨by repeat (first | (with_reducible first | exact HB.out | apply below_alloc | apply pw_below_drewN | apply below_drew1 | refine below_set ?_ GE135.out) | exact HB.out)⟩⟩
          · rw [if_neg c4] at H
            exact absurd H (by simp)
        · rw [if_neg c3] at H
          exact absurd H (by simp)
      · rw [if_neg c2] at H
        have c2b0 : decide (x8_1 < (l0.length : Int)) = false := decide_eq_false c2
        clear c2
        obtain rfl := Option.some.inj H
        go_wp2
        go_ret
        exact ⟨_, by first | rfl | (simp [errW_none, errW_some] <;> rfl) | (simp [*, errW_none, errW_some] <;> rfl), by (with_reducible repeat (first | apply Kd.R_alloc | apply Kd.R_drewN | apply Kd.R_drew)); exact HO_3.out, by repeat (first | (with_reducible first | exact HB.out | apply below_alloc | apply pw_below_drewN | apply below_drew1) | exact HB.out)⟩

end Go.Proofs.YtpmmfckgfbdboaaDoor.G
end

section
namespace Go.Proofs.YtpmmfckgfbdboaaDoor.G
open Go.RowKit Go.Proofs.YtpmmfckgfbdboaaDoorW.PrintWords Go.Proofs.YtpmmfckgfbdboaaDoorW.PrintLast Go.Proofs.YtpmmfckgfbdboaaDoorW.PrintMore
open Go.Shelf Go.Lib
set_option linter.unusedVariables false
set_option linter.unusedSimpArgs false
/-! Valid grammars: the program's valid and the reference's Grammar. -/
def ruleB (r : Int × List Int) : Bool := isPartB r.1 && (decide (r.2.length ≤ 4) && r.2.all letterB)
def dupB (pre : List (Int × List Int)) (r : Int × List Int) : Bool := pre.any fun p => p.1 == r.1 && p.2 == r.2
def rulesB : List (Int × List Int) → List (Int × List Int) → Bool
  | _, [] => true
  | pre, r :: rs => ruleB r && (!dupB pre r && rulesB (pre ++ [r]) rs)
def validB (g : List (Int × List Int)) : Bool := decide (1 ≤ g.length) && (decide (g.length ≤ 8) && rulesB [] g)
def ofG (g : List (Int × List Int)) : List (Int × List Int) := (g.take 11).map fun r => (r.1, r.2.take 12)
theorem rulesB_all : ∀ (rs pre : List (Int × List Int)), rulesB pre rs = true → ∀ r ∈ rs, ruleB r = true
  | [], _, _, r, hr => by simp at hr
  | a :: rs, pre, h, r, hr => by
    simp only [rulesB, Bool.and_eq_true] at h
    rcases List.mem_cons.1 hr with h1 | h1
    · rw [h1]; exact h.1
    · exact rulesB_all rs _ h.2.2 r h1
theorem ruleB_iff {r : Int × List Int} : ruleB r = true ↔ isPartB r.1 = true ∧ r.2.length ≤ 4 ∧ ∀ c ∈ r.2, letterB c = true := by
  simp only [ruleB, Bool.and_eq_true, decide_eq_true_eq, List.all_eq_true]
theorem validB_ok {g : List (Int × List Int)} (h : validB g = true) : okG g ∧ g ≠ [] := by
  simp only [validB, Bool.and_eq_true, decide_eq_true_eq] at h
  exact ⟨⟨h.2.1, fun r hr => ruleB_iff.1 (rulesB_all g [] h.2.2 r hr)⟩, fun e => by rw [e] at h; simp at h⟩
theorem of_same {g : List (Int × List Int)} (h1 : g.length ≤ 8) (h2 : ∀ r ∈ g, r.2.length ≤ 12) : ofG g = g := by
  unfold ofG
  rw [List.take_of_length_le (by omega)]
  conv => rhs; rw [← List.map_id g]
  refine List.map_congr_left fun r hr => ?_
  rw [List.take_of_length_le (h2 r hr)]
  rfl
theorem validB_of (g : List (Int × List Int)) : validB (ofG g) = validB g := by
  rw [Bool.eq_iff_iff]
  constructor
  · intro h
    obtain ⟨⟨h1, h2⟩, h3⟩ := validB_ok h
    have hl : g.length ≤ 8 := by
      unfold ofG at h1
      simp only [List.length_map, List.length_take] at h1
      omega
    have : ofG g = g := of_same hl (fun r hr => by
      have := (h2 (r.1, r.2.take 12) (by unfold ofG; rw [List.take_of_length_le (by omega)]; exact List.mem_map.2 ⟨r, hr, rfl⟩)).2.1
      simp only [List.length_take] at this
      omega)
    rw [this] at h
    exact h
  · intro h
    obtain ⟨⟨h1, h2⟩, h3⟩ := validB_ok h
    rw [of_same h1 (fun r hr => by have := (h2 r hr).2.1; omega)]
    exact h
theorem valid_same {g : List (Int × List Int)} (h : validB g = true) : ofG g = g := by
  obtain ⟨⟨h1, h2⟩, h3⟩ := validB_ok h
  exact of_same h1 (fun r hr => by have := (h2 r hr).2.1; omega)
/-! The program's valid. -/
theorem isPart_f (c : Int) : tables_isPart.f c = some (isPartB c) := by
  unfold tables_isPart.f isPartB
  by_cases h : c ≥ 65
  · rw [if_pos h]
    congr 1
    rw [decide_eq_decide]
    omega
  · rw [if_neg h]
    congr 1
    symm
    rw [decide_eq_false_iff_not]
    omega
theorem toList_data (a : ByteArray) : a.toList = a.data.toList := by rw [ByteArray.toList_eq]
theorem dropWhile_nil {α : Type} (p : α → Bool) : ∀ (l : List α), l.dropWhile p = [] ↔ ∀ x ∈ l, p x = true
  | [] => by simp
  | x :: l => by
    rw [List.dropWhile_cons]
    by_cases h : p x = true
    · rw [if_pos h, dropWhile_nil p l]
      simp [h]
    · rw [if_neg h]
      simp [h]
theorem trim_nil (l cs : List UInt8) : Lib.trimS l cs = [] ↔ ∀ x ∈ l, cs.contains x = true := by
  unfold Lib.trimS Lib.trimLeftS Lib.trimRightS
  rw [dropWhile_nil]
  constructor
  · intro h
    have h2 : l.reverse.dropWhile (cs.contains ·) = [] := by
      cases hd : l.reverse.dropWhile (cs.contains ·) with
      | nil => rfl
      | cons a t =>
        exfalso
        have h3 := h a (by rw [hd]; simp)
        have h4 := List.head?_dropWhile_not (cs.contains ·) l.reverse
        rw [hd] at h4
        simp at h4
        simp at h3
        exact h4 h3
    rw [dropWhile_nil] at h2
    exact fun x hx => h2 x (List.mem_reverse.2 hx)
  · intro h x hx
    exact h x (List.mem_reverse.1 ((List.dropWhile_sublist _).subset (List.mem_reverse.1 hx)))
set_option maxRecDepth 100000 in
theorem letter_u8 (x : UInt8) : ([65, 66, 67, 68, 69, 97, 98, 99, 100] : List UInt8).contains x = letterB (x.toNat : Int) := by
  have : ∀ n : Fin 256, ([65, 66, 67, 68, 69, 97, 98, 99, 100] : List UInt8).contains (UInt8.ofFin n) = letterB (((UInt8.ofFin n).toNat : Nat) : Int) := by decide
  exact this x.toFin
theorem trim_f (t : ByteArray) (h : t.size ≤ 4) : ∃ u, strings_Trim.f t (⟨#[65, 66, 67, 68, 69, 97, 98, 99, 100]⟩ : ByteArray) = some u ∧ (u.toList = ([] : List UInt8) ↔ (bytesOf t).all letterB = true) := by
  unfold strings_Trim.f
  rw [if_pos ⟨by omega, by decide, by decide⟩]
  refine ⟨_, rfl, ?_⟩
  rw [toList_data]
  simp only
  rw [trim_nil]
  unfold bytesOf
  rw [List.all_map, List.all_eq_true]
  constructor
  · intro h x hx
    have := h x hx
    rw [letter_u8] at this
    exact this
  · intro h x hx
    rw [letter_u8]
    exact h x hx
theorem bytes_eq (a b : ByteArray) : (a.toList == b.toList) = (bytesOf a == bytesOf b) := by
  rw [Bool.eq_iff_iff, beq_iff_eq, beq_iff_eq, toList_data, toList_data]
  unfold bytesOf
  constructor
  · intro h; rw [h]
  · intro h
    refine List.map_inj_right ?_ |>.1 h
    intro x y hxy
    exact UInt8.toNat.inj (by omega)
def dup56 (xs : List S56) (a : Int) (b : ByteArray) : Bool := xs.any fun y => y.f0 == a && bytesOf y.f1 == bytesOf b
theorem drop56 (xs : List S56) (i : Int) (h0 : 0 ≤ i) (h1 : i < xs.length) : xs.drop i.toNat = rd_T56 xs i :: xs.drop (i + 1).toNat := by
  have hl2 : i.toNat < xs.length := by omega
  rw [List.drop_eq_getElem_cons hl2, show (i + 1).toNat = i.toNat + 1 by omega]
  congr 1
  simp [rd_T56, List.getD_eq_getElem?_getD, hl2]
theorem index56 (xs : List S56) (a : Int) (b : ByteArray) (hl : xs.length < 2 ^ 62) : ∀ (n : Nat) (i : Int), 0 ≤ i → i ≤ xs.length → xs.length < i.toNat + n → ∃ r, tables_Rule_120.l0 n xs (xs.length : Int) i a b = some r ∧ decide (r ≥ 0) = dup56 (xs.drop i.toNat) a b
  | 0, i, h0, h1, h => by omega
  | n + 1, i, h0, h1, h => by
    unfold tables_Rule_120.l0
    by_cases hlt : i < xs.length
    · obtain ⟨r, hr, hb⟩ := index56 xs a b hl n (i + 1) (by omega) (by omega) (by omega)
      rw [if_pos hlt, if_pos h0, if_pos hlt, wrap64_succ h0 ⟨hlt, hl⟩, hr, drop56 xs i h0 hlt, bytes_eq]
      simp only [dup56, List.any_cons]
      by_cases he : (a == (rd_T56 xs i).f0 && (bytesOf b == bytesOf (rd_T56 xs i).f1)) = true
      · rw [if_pos he]
        refine ⟨i, rfl, ?_⟩
        simp only [Bool.and_eq_true, beq_iff_eq] at he
        simp [he.1, he.2, h0]
      · rw [if_neg he]
        refine ⟨r, rfl, ?_⟩
        rw [hb]
        simp only [dup56]
        have : ((rd_T56 xs i).f0 == a && bytesOf (rd_T56 xs i).f1 == bytesOf b) = false := by
          rw [Bool.eq_false_iff]
          intro h2
          apply he
          simp only [Bool.and_eq_true, beq_iff_eq] at h2 ⊢
          exact ⟨h2.1.symm, h2.2.symm⟩
        rw [this, Bool.false_or]
    · rw [if_neg hlt, List.drop_of_length_le (by omega)]
      exact ⟨-1, rfl, rfl⟩
theorem dup56_f (xs : List S56) (a : Int) (b : ByteArray) (hl : xs.length < 2 ^ 62) (k : Nat) (hk : xs.length < k) : tables_Rule_91.f k xs a b = some (dup56 xs a b) := by
  obtain ⟨r, hr, hb⟩ := index56 xs a b hl k 0 (by decide) (by omega) (by simpa using hk)
  unfold tables_Rule_91.f tables_Rule_120.f
  rw [hr]
  simp only [Option.bind_some, hb]
  simp
theorem dup56_eq (xs : List S56) (a : Int) (b : ByteArray) : dup56 xs a b = dupB (gr56 xs) (a, bytesOf b) := by
  unfold dup56 dupB gr56
  rw [List.any_map]
  rfl
theorem gr56_take (xs : List S56) (n : Nat) : gr56 (xs.take n) = (gr56 xs).take n := by unfold gr56; rw [List.map_take]
theorem valid_loop (l : List S56) (hl : l.length ≤ 8) : ∀ (n : Nat) (i : Int), 0 ≤ i → i ≤ l.length → l.length < i.toNat + n → ∀ k, n + l.length + 2 ≤ k → tables_grammar_valid.l0 k l l (l.length : Int) i = some (rulesB ((gr56 l).take i.toNat) ((gr56 l).drop i.toNat))
  | 0, i, h0, h1, h, _, _ => by omega
  | n + 1, i, h0, h1, h, k, hk => by
    obtain ⟨k, rfl⟩ : ∃ m, k = m + 1 := ⟨k - 1, by omega⟩
    unfold tables_grammar_valid.l0
    by_cases hlt : i < l.length
    · have ih := valid_loop l hl n (i + 1) (by omega) (by omega) (by omega) k (by omega)
      have hd := drop_gr l i h0 hlt
      have htk : (gr56 l).take (i + 1).toNat = (gr56 l).take i.toNat ++ [((rd_T56 l i).f0, bytesOf (rd_T56 l i).f1)] := by
        have h2 : i.toNat < (gr56 l).length := by rw [gr_len]; omega
        rw [show (i + 1).toNat = i.toNat + 1 by omega, List.take_succ_eq_append_getElem h2]
        rw [List.drop_eq_getElem_cons h2] at hd
        rw [(List.cons.inj hd).1]
      rw [if_pos hlt, if_pos h0, if_pos hlt, isPart_f, hd]
      simp only [Option.bind_some, rulesB, ruleB]
      cases hp : isPartB (rd_T56 l i).f0
      · rw [if_neg (by simp)]
        simp
      · rw [if_pos rfl]
        simp only [Bool.true_and]
        by_cases h4 : ((rd_T56 l i).f1.size : Int) > 4
        · rw [if_pos h4]
          have : decide ((bytesOf (rd_T56 l i).f1).length ≤ 4) = false := by rw [bytesOf_length, decide_eq_false_iff_not]; omega
          rw [this]
          simp
        · rw [if_neg h4]
          have h44 : decide ((bytesOf (rd_T56 l i).f1).length ≤ 4) = true := by rw [bytesOf_length, decide_eq_true_eq]; omega
          obtain ⟨u, hu, hiff⟩ := trim_f (rd_T56 l i).f1 (by omega)
          rw [hu, h44]
          simp only [Option.bind_some, Bool.true_and]
          by_cases hun : u.toList = ([] : List UInt8)
          · rw [if_pos hun, if_pos (by omega), hiff.1 hun, dup56_f _ _ _ (by rw [List.length_take]; omega) k (by rw [List.length_take]; omega), dup56_eq, gr56_take]
            simp only [Option.bind_some, Bool.true_and]
            cases hdp : dupB ((gr56 l).take i.toNat) ((rd_T56 l i).f0, bytesOf (rd_T56 l i).f1)
            · rw [if_neg (by simp), wrap64_succ h0 ⟨hlt, by omega⟩, ih, htk]
              simp
            · rw [if_pos rfl]
              simp
          · rw [if_neg hun]
            have : (bytesOf (rd_T56 l i).f1).all letterB = false := by
              rw [Bool.eq_false_iff]
              exact fun h => hun (hiff.2 h)
            rw [this]
            simp
    · rw [if_neg hlt, List.drop_of_length_le (by rw [gr_len]; omega)]
      rfl
theorem valid_f (l : List S56) (k : Nat) (hk : 40 ≤ k) : tables_grammar_valid.f k l = some (validB (gr56 l)) := by
  obtain ⟨k, rfl⟩ : ∃ m, k = m + 1 := ⟨k - 1, by omega⟩
  unfold tables_grammar_valid.f validB
  rw [gr_len]
  by_cases h1 : (l.length : Int) < 1
  · rw [if_pos h1]
    simp only [tables_grammar_valid.j0, if_true]
    have : decide (1 ≤ l.length) = false := by rw [decide_eq_false_iff_not]; omega
    rw [this]
    rfl
  · rw [if_neg h1]
    simp only [tables_grammar_valid.j0]
    have e1 : decide (1 ≤ l.length) = true := by rw [decide_eq_true_eq]; omega
    rw [e1]
    by_cases h8 : (l.length : Int) > 8
    · have : decide (l.length ≤ 8) = false := by rw [decide_eq_false_iff_not]; omega
      rw [this, if_pos (by simpa using h8)]
      rfl
    · have e2 : decide (l.length ≤ 8) = true := by rw [decide_eq_true_eq]; omega
      rw [e2, if_neg (by simpa using h8), valid_loop l (by omega) (l.length + 1) 0 (by decide) (by omega) (by simp) k (by omega)]
      simp
end Go.Proofs.YtpmmfckgfbdboaaDoor.G
end

section
namespace Go.Proofs.YtpmmfckgfbdboaaDoor.G
open Go.RowKit Go.Proofs.YtpmmfckgfbdboaaDoorW.PrintWords Go.Proofs.YtpmmfckgfbdboaaDoorW.PrintLast Go.Proofs.YtpmmfckgfbdboaaDoorW.PrintMore
open Go.Shelf Go.Lib
set_option linter.unusedVariables false
set_option linter.unusedSimpArgs false
theorem BI.lower {base base' : Nat} {w0 w1 W : World} {T : Nat} {GR SV GV : Value} {nx : List Nat} {sts : List (List S95)} {gos : List (List (Int × Int))} {bs : List Nat} (h : BI base w1 W T GR nx sts SV GV gos bs) (hb : base' ≤ base) (hB : Below base' w0 W) : BI base' w0 W T GR nx sts SV GV gos bs where
  tb := h.tb
  tbase := Nat.le_trans hb h.tbase
  srow := by
    obtain ⟨vs, h1, h2⟩ := h.srow
    exact ⟨vs, own_weaken h1 hb, fun i s hs => by
      obtain ⟨v, hv, hr⟩ := h2 i s hs
      exact ⟨v, hv, hr.lower hb⟩⟩
  grow := own_weaken h.grow hb
  blen := h.blen
  bnd := h.bnd
  maps := fun i b ms h1 h2 => ⟨(h.maps i b ms h1 h2).1, Nat.le_trans hb (h.maps i b ms h1 h2).2⟩
  below := hB
/-- What read leaves. -/
def ReadPost (l : List S56) (A : Option Addr) (c0 : Nat) (w : World) (e : Ending) (w' : World) : Prop :=
  (validB (gr56 l) = false ∧ e = .returned (.tuple #[.pointer none, .int .i64 2]) ∧ Below w.heap.size w w') ∨
  (validB (gr56 l) = true ∧ refStates (gr56 l) = none ∧ e = .returned (.tuple #[.pointer none, .int .i64 6]) ∧ Below w.heap.size w w') ∨
  (validB (gr56 l) = true ∧ ∃ F T SV GV bs, refStates (gr56 l) = some F ∧ e = .returned (.tuple #[.pointer (some ⟨T, 0, none⟩), .int .i64 0]) ∧ BI w.heap.size w w' T (.slice A l.length c0) (nextP (gr56 l)) F SV GV (gosOf (gr56 l) F F) bs ∧ F ≠ [])
theorem read_no {l : List S56} {A : Option Addr} {c0 : Nat} {w w' : World} (h : validB (gr56 l) = false) (hb : Below w.heap.size w w') : ReadPost l A c0 w (.returned (.tuple #[.pointer none, .int .i64 2])) w' := .inl ⟨h, rfl, hb⟩
theorem read_of {l : List S56} {A : Option Addr} {c0 : Nat} {w w1 w' : World} {e : Ending} (h : validB (gr56 l) = true) (hb : Below w.heap.size w w1) (hp : BuildPost l A c0 w1 ((refStates (gr56 l)).map fun F => (F, gosOf (gr56 l) F F)) e w') : ReadPost l A c0 w e w' := by
  cases hr : refStates (gr56 l) with
  | none =>
    rw [hr] at hp
    obtain ⟨h1, h2⟩ := hp.1 rfl
    exact .inr (.inl ⟨h, hr, h1, below_step hb h2⟩)
  | some F =>
    rw [hr] at hp
    obtain ⟨T, SV, GV, bs, h1, h2, h3, h4, h5⟩ := hp.2 F (gosOf (gr56 l) F F) rfl
    exact .inr (.inr ⟨h, F, T, SV, GV, bs, hr, h1, h2.lower hb.size (below_step hb h2.below), h4⟩)
theorem build_ref (l : List S56) (A : Option Addr) (c0 : Nat) (w : World) (hr0 : Kd.C k56 w A l.length l) (hc0 : l.length ≤ c0) (hv : validB (gr56 l) = true) :
    Calls Tryd.prog 59 #[.slice A l.length c0] w (BuildPost l A c0 w ((refStates (gr56 l)).map fun F => (F, gosOf (gr56 l) F F))) := by
  obtain ⟨hg, hne⟩ := validB_ok hv
  have hne' : 0 < l.length := by
    rcases Nat.eq_zero_or_pos l.length with h | h
    · rw [List.length_eq_zero_iff] at h
      subst h
      exact absurd rfl hne
    · exact h
  exact build_any l A c0 w hr0 hc0 hg hne' _ (buildP_ref hg)
set_option maxHeartbeats 1000000 in
theorem read_any (l : List S56) (A : Option Addr) (c0 : Nat) (w : World) (hr0 : Kd.C k56 w A l.length l) (hc0 : l.length ≤ c0) :
    Calls Tryd.prog 45 #[.slice A l.length c0] w (ReadPost l A c0 w) := by
  have hv := tables_grammar_valid.calls 40 A c0 l _ w hr0 hc0 (valid_f l 40 (Nat.le_refl _))
  have HBD := Lib.hid (fun (h : validB (gr56 l) = true) W (hb : Below w.heap.size w W) => build_ref l A c0 W (Kd.C_below hr0 hb) hc0 h)
  obtain ⟨b, hb⟩ : ∃ b, validB (gr56 l) = b := ⟨_, rfl⟩
  rw [hb] at hv
  have HV := Lib.hid hv
  have HBV := Lib.hid hb
  clear hv hr0 hb
  cases b
  · go_enter Tryd.func45, Tryd.ntmps45
    go_wp2_with (go_at_call 56; refine HV.out.mono ?_; rintro e w1 ⟨rfl, hbw⟩; have HB1 := Lib.hid hbw; clear hbw)
    go_ret2
    exact read_no HBV.out HB1.out
  · go_enter Tryd.func45, Tryd.ntmps45
    go_wp2_with (first | (go_at_call 56; refine HV.out.mono ?_; rintro e w1 ⟨rfl, hbw⟩; have HB1 := Lib.hid hbw; clear hbw) | (go_at_call 59; go_must (refine (HBD.out HBV.out _ HB1.out).mono ?_); intro e w2 hp; have hq := read_of HBV.out HB1.out hp; have HQ := Lib.hid hq; clear hp; rcases hq with ⟨h1, h2, h3⟩ | ⟨h1, h2, rfl, h3⟩ | ⟨h1, F, T, SV, GV, bs, h2, rfl, h3, h4⟩; exact absurd (HBV.out.symm.trans h1) (by decide); all_goals clear h1 h2 h3))
    all_goals (go_ret2; exact HQ.out)
theorem read_bad (l : List S56) (A : Option Addr) (c0 : Nat) (w : World) (hr0 : Kd.C k56 w A l.length l) (hc0 : l.length ≤ c0) (hv : validB (gr56 l) = false) :
    Calls Tryd.prog 45 #[.slice A l.length c0] w fun e w' => e = .returned (.tuple #[.pointer none, .int .i64 2]) ∧ Below w.heap.size w w' := by
  refine (read_any l A c0 w hr0 hc0).mono ?_
  rintro e w' (⟨h1, h2, h3⟩ | ⟨h1, _⟩ | ⟨h1, _⟩)
  · exact ⟨h2, h3⟩
  · exact absurd (hv.symm.trans h1) (by decide)
  · exact absurd (hv.symm.trans h1) (by decide)
theorem read_big (l : List S56) (A : Option Addr) (c0 : Nat) (w : World) (hr0 : Kd.C k56 w A l.length l) (hc0 : l.length ≤ c0) (hv : validB (gr56 l) = true) (hr : refStates (gr56 l) = none) :
    Calls Tryd.prog 45 #[.slice A l.length c0] w fun e w' => e = .returned (.tuple #[.pointer none, .int .i64 6]) ∧ Below w.heap.size w w' := by
  refine (read_any l A c0 w hr0 hc0).mono ?_
  rintro e w' (⟨h1, h2, h3⟩ | ⟨h1, h2, h3, h4⟩ | ⟨h1, F, T, SV, GV, bs, h2, _⟩)
  · exact absurd (hv.symm.trans h1) (by decide)
  · exact ⟨h3, h4⟩
  · exact absurd (hr.symm.trans h2) (fun h => by cases h)
theorem read_ok (l : List S56) (A : Option Addr) (c0 : Nat) (w : World) (hr0 : Kd.C k56 w A l.length l) (hc0 : l.length ≤ c0) (hv : validB (gr56 l) = true) {F : List (List S95)} (hr : refStates (gr56 l) = some F) :
    Calls Tryd.prog 45 #[.slice A l.length c0] w fun e w' => ∃ T SV GV bs, e = .returned (.tuple #[.pointer (some ⟨T, 0, none⟩), .int .i64 0]) ∧ BI w.heap.size w w' T (.slice A l.length c0) (nextP (gr56 l)) F SV GV (gosOf (gr56 l) F F) bs ∧ F ≠ [] := by
  refine (read_any l A c0 w hr0 hc0).mono ?_
  rintro e w' (⟨h1, h2, h3⟩ | ⟨h1, h2, h3, h4⟩ | ⟨h1, F', T, SV, GV, bs, h2, h3, h4, h5⟩)
  · exact absurd (hv.symm.trans h1) (by decide)
  · exact absurd (hr.symm.trans h2) (fun h => by cases h)
  · cases hr.symm.trans h2
    exact ⟨T, SV, GV, bs, h3, h4, h5⟩
/-- A row of states, as what is read. -/
theorem states_N {base : Nat} {w0 W : World} {T : Nat} {GR SV GV : Value} {nx : List Nat} {sts : List (List S95)} {gos : List (List (Int × Int))} {bs : List Nat} (h : BI base w0 W T GR nx sts SV GV gos bs) : Kd.N (Kd.slice 95 k95) 94 W base (fun k => base ≤ k) SV sts := by
  obtain ⟨vs, h1, h2⟩ := h.srow
  have hl : vs.length = sts.length := by have := h1.1; omega
  have hone : ∀ (j : Nat) v, vs[j]? = some v → (vs.drop (j * 1)).take 1 = [v] ∧ v.oneCell' = true := fun j v hv => by
    obtain ⟨hj, hv'⟩ := List.getElem?_eq_some_iff.1 hv
    obtain ⟨v2, hv2, hr⟩ := h2 j (sts[j]'(by omega)) (List.getElem?_eq_getElem (by omega))
    rw [hv] at hv2
    cases hv2
    obtain ⟨g, cap, cells, rfl, _⟩ := hr
    rw [Nat.mul_one, List.drop_eq_getElem_cons hj, hv']
    exact ⟨rfl, rfl⟩
  have hmap : ∀ (j : Nat) (p : List Value), (vs.map fun v => [v])[j]? = some p → ∃ v, vs[j]? = some v ∧ p = [v] := fun j p hp => by
    rw [List.getElem?_map] at hp
    obtain ⟨v, hv, e⟩ := Option.map_eq_some_iff.1 hp
    exact ⟨v, hv, e.symm⟩
  refine ⟨fun k hk => own_base h1 k hk, vs.map fun v => [v], by simp [hl], ⟨fun k hk => hk.symm, vs, ?_, ?_⟩, fun j x c hx hc => ?_⟩
  · rw [List.length_map, hl]; exact h1
  · refine ⟨by rw [List.length_map]; exact (Nat.mul_one _).symm, fun j p hp => ?_⟩
    obtain ⟨v, hv, rfl⟩ := hmap j p hp
    obtain ⟨e1, e2⟩ := hone j v hv
    show (vs.drop (j * 1)).take 1 = [v] ∧ ((vs.drop (j * 1)).take 1).length = 1 ∧ ∀ u ∈ (vs.drop (j * 1)).take 1, u.oneCell' = true
    rw [e1]
    exact ⟨rfl, rfl, fun u hu => by rw [List.mem_singleton.1 hu]; exact e2⟩
  · obtain ⟨v, hv, rfl⟩ := hmap j c hc
    obtain ⟨v2, hv2, hr⟩ := h2 j x hx
    rw [hv] at hv2
    cases hv2
    intro W' hW'
    have hr' : StRow W' base v x := hr.keep (fun g cells hg hgb => hW' g ⟨hgb, fun e => by
      obtain ⟨cells', hc'⟩ := own_typed h1 g e.symm
      exact blk_ne hg hc' (by decide) rfl⟩ (blk_lt hg))
    obtain ⟨g, cap, cells, rfl, q1, q2, q3, q4⟩ := hr'
    exact ⟨_, cap, rfl, q1, q4⟩
/-- What States returns. -/
def tables_States.f (l : List S56) : Option (List (List S95) × Int) :=
  if validB (gr56 l) = true then (match refStates (gr56 l) with | none => some ([], 6) | some F => some (F, 0)) else some ([], 2)
/-- What States leaves. -/
def StatesPost (w : World) (r1 : List (List S95)) (r2 : Int) (e : Ending) (w' : World) : Prop := ∃ v0_ : Value, e = .returned (.tuple #[v0_, .int .i64 r2]) ∧ Kd.N (Kd.slice 95 k95) 94 w' w.heap.size (fun k_ => (w.heap.size ≤ k_)) v0_ r1 ∧ Below w.heap.size w w'
theorem states_no {w w' : World} (r2 : Int) (h : Below w.heap.size w w') : StatesPost w [] r2 (.returned (.tuple #[.slice none 0 0, .int .i64 r2])) w' := ⟨_, rfl, Kd.N_nil _ _ _ _ _, h⟩
theorem states_yes {w w' : World} {T : Nat} {GR SV GV : Value} {nx : List Nat} {sts : List (List S95)} {gos : List (List (Int × Int))} {bs : List Nat} (h : BI w.heap.size w w' T GR nx sts SV GV gos bs) : StatesPost w sts 0 (.returned (.tuple #[SV, .int .i64 0])) w' := ⟨_, rfl, states_N h, h.below⟩
set_option maxHeartbeats 1000000 in
theorem states_any (A0 : Option Addr) (c0 : Nat) (l0 : List S56) (r1 : List (List S95)) (r2 : Int) (w : World) (hr0 : Kd.C k56 w A0 l0.length l0) (hc0 : l0.length ≤ c0) (h : tables_States.f l0 = some (r1, r2)) :
    Calls Tryd.prog 13 #[.slice A0 l0.length c0] w (StatesPost w r1 r2) := by
  unfold tables_States.f at h
  by_cases hv : validB (gr56 l0) = true
  · rw [if_pos hv] at h
    cases hr : refStates (gr56 l0) with
    | none =>
      rw [hr] at h
      cases h
      have HRD := Lib.hid (read_big l0 A0 c0 w hr0 hc0 hv hr)
      clear hr0 hv hr
      go_enter Tryd.func13, Tryd.ntmps13
      go_wp2_with (go_at_call 45; go_must (refine HRD.out.mono ?_); rintro e w1 ⟨rfl, hb⟩; have HB := Lib.hid hb; clear hb)
      go_ret2
      exact states_no 6 HB.out
    | some F =>
      rw [hr] at h
      cases h
      have HRD := Lib.hid (read_ok l0 A0 c0 w hr0 hc0 hv hr)
      clear hr0 hv hr
      go_enter Tryd.func13, Tryd.ntmps13
      go_wp2_with (go_at_call 45; go_must (refine HRD.out.mono ?_); rintro e w1 ⟨T, SV, GV, bs, rfl, hb, _⟩; have hd1 := BI.c1 hb; have HB := Lib.hid hb; clear hb)
      go_ret2
      exact states_yes HB.out
  · rw [if_neg hv] at h
    cases h
    have HRD := Lib.hid (read_bad l0 A0 c0 w hr0 hc0 (Bool.eq_false_iff.2 hv))
    clear hr0 hv
    go_enter Tryd.func13, Tryd.ntmps13
    go_wp2_with (go_at_call 45; go_must (refine HRD.out.mono ?_); rintro e w1 ⟨rfl, hb⟩; have HB := Lib.hid hb; clear hb)
    go_ret2
    exact states_no 2 HB.out
theorem tables_States.calls (A0 : Option Addr) (c0 : Nat) (l0 : List S56) (r1 : List (List S95)) (r2 : Int) (w : World) (hr0 : Kd.C k56 w A0 l0.length l0) (hc0 : l0.length ≤ c0) (h : tables_States.f l0 = some (r1, r2)) :
    Calls Tryd.prog 13 #[.slice A0 l0.length c0] w fun e w' => ∃ v0_ : Value, e = .returned (.tuple #[v0_, .int .i64 r2]) ∧ Kd.N (Kd.slice 95 k95) 94 w' w.heap.size (fun k_ => (w.heap.size ≤ k_)) v0_ r1 ∧ Below w.heap.size w w' :=
  states_any A0 c0 l0 r1 r2 w hr0 hc0 h
end Go.Proofs.YtpmmfckgfbdboaaDoor.G
end

section
namespace Go.Proofs.YtpmmfckgfbdboaaDoor.G
set_option linter.unusedVariables false
set_option linter.unusedSimpArgs false
/-- Each state but the first comes from one before it. -/
def Comes (g : List (Int × List Int)) (sts : List (List S95)) : Prop :=
  sts.Nodup ∧ ∀ (k : Nat) (t : List S95), 0 < k → sts[k]? = some t → ∃ (j : Nat) (s : List S95) (c : Int), j < k ∧ sts[j]? = some s ∧ c ∈ lettersP ∧ movedP g c s ≠ [] ∧ t = refClo g (movedP g c s)
theorem Comes.snoc {g : List (Int × List Int)} {sts : List (List S95)} (h : Comes g sts) {i : Nat} {s : List S95} {c : Int} (hi : sts[i]? = some s) (hc : c ∈ lettersP) (hm : movedP g c s ≠ []) (hn : refClo g (movedP g c s) ∉ sts) :
    Comes g (sts ++ [refClo g (movedP g c s)]) := by
  refine ⟨?_, fun k t hk ht => ?_⟩
  · rw [List.nodup_append]
    refine ⟨h.1, by simp, fun a ha b hb e => ?_⟩
    rw [List.mem_singleton.1 hb] at e
    exact hn (e ▸ ha)
  · by_cases hlt : k < sts.length
    · rw [List.getElem?_append_left hlt] at ht
      obtain ⟨j, s', c', h1, h2, h3, h4, h5⟩ := h.2 k t hk ht
      exact ⟨j, s', c', h1, getElem?_pre (List.prefix_append _ _) h2, h3, h4, h5⟩
    · rw [List.getElem?_append_right (by omega)] at ht
      have hk0 : k - sts.length = 0 := by
        have := (List.getElem?_eq_some_iff.1 ht).1
        simp at this; omega
      rw [hk0] at ht
      simp only [List.length_singleton, Nat.zero_lt_succ, List.getElem?_cons_zero, Option.some.injEq] at ht
      have hil := (List.getElem?_eq_some_iff.1 hi).1
      exact ⟨i, s, c, by omega, getElem?_pre (List.prefix_append _ _) hi, hc, hm, ht.symm⟩
theorem refRowS_comes {g : List (Int × List Int)} {i : Nat} {s : List S95} : ∀ (cs : List Int) (sts F : List (List S95)), (∀ c ∈ cs, c ∈ lettersP) → sts[i]? = some s → Comes g sts → refRowS g s cs sts = some F → Comes g F
  | [], sts, F, _, _, h, hF => by
    simp only [refRowS, Option.some.injEq] at hF
    subst hF; exact h
  | c :: cs, sts, F, hcs, hi, h, hF => by
    have hcs' : ∀ c ∈ cs, c ∈ lettersP := fun c' h => hcs c' (by simp [h])
    simp only [refRowS] at hF
    split at hF
    · rename_i hc
      split at hF
      · cases hF
      · refine refRowS_comes cs _ F hcs' (getElem?_pre (List.prefix_append _ _) hi) (h.snoc hi (hcs c (by simp)) hc.1 ?_) hF
        exact (findI_ge _ sts 0 (Int.le_refl _)).1.1 hc.2
    · split at hF
      · cases hF
      · exact refRowS_comes cs sts F hcs' hi h hF
theorem refStatesO_comes {g : List (Int × List Int)} : ∀ (n i : Nat) (sts F : List (List S95)), Comes g sts → refStatesO g n i sts = some (some F) → Comes g F
  | 0, i, sts, F, h, hF => by cases hF
  | n + 1, i, sts, F, h, hF => by
    simp only [refStatesO] at hF
    split at hF
    · rename_i hlt
      split at hF
      · cases hF
      · rename_i sts' hR
        refine refStatesO_comes n (i + 1) sts' F (refRowS_comes (i := i) lettersP sts sts' (fun c h => h) ?_ h hR) hF
        simp [hlt]
    · simp only [Option.some.injEq] at hF
      subst hF; exact h
theorem refStates_comes {g : List (Int × List Int)} (hg : okG g) {F : List (List S95)} (h : refStates g = some F) : Comes g F := by
  unfold refStates at h
  obtain ⟨r, hr⟩ := refStatesO_some hg 66 0 [startS g] (start_good hg) (by simp) (by omega)
  rw [hr] at h
  simp only [Option.getD_some] at h
  subst h
  refine refStatesO_comes 66 0 [startS g] F ⟨by simp, fun k t hk ht => ?_⟩ hr
  have := (List.getElem?_eq_some_iff.1 ht).1
  simp at this; omega
theorem der_dot {g : List (Int × List Int)} {xs : List S95} {x : S95} (h : Der g xs x) (h0 : x.f1 ≠ 0) : x ∈ xs := by
  cases h with
  | base h => exact h
  | step => exact absurd rfl h0
theorem mem_moved {g : List (Int × List Int)} {c : Int} {s : List S95} {x : S95} : x ∈ movedP g c s ↔ ∃ y ∈ s, behindP g y = c ∧ x = ⟨y.f0, y.f1 + 1⟩ := by
  unfold movedP
  simp only [List.mem_map, List.mem_filter, beq_iff_eq]
  constructor
  · rintro ⟨y, ⟨h1, h2⟩, rfl⟩; exact ⟨y, h1, h2, rfl⟩
  · rintro ⟨y, h1, h2, rfl⟩; exact ⟨y, ⟨h1, h2⟩, rfl⟩
theorem behind_dot {g : List (Int × List Int)} {y : S95} {c : Int} (h : behindP g y = c) (hc : c ≠ 0) : y.f1.toNat < (rightP g y.f0).length := by
  unfold behindP at h
  rcases Nat.lt_or_ge y.f1.toNat (rightP g y.f0).length with h1 | h1
  · exact h1
  · rw [List.getD_eq_getElem?_getD, List.getElem?_eq_none h1] at h
    exact absurd h.symm hc
/-- The letter ahead of a dot. -/
def aheadP (g : List (Int × List Int)) (x : S95) : Int := (rightP g x.f0).getD (x.f1.toNat - 1) 0
theorem ahead_moved {g : List (Int × List Int)} {c : Int} {s : List S95} {x : S95} (hs : ∀ y ∈ s, 0 ≤ y.f1) (h : x ∈ movedP g c s) (hc : c ≠ 0) : 0 < x.f1 ∧ x.f1 ≤ ((rightP g x.f0).length : Int) ∧ aheadP g x = c := by
  obtain ⟨y, hy, hb, rfl⟩ := mem_moved.1 h
  have h0 := hs y hy
  have h1 := behind_dot hb hc
  refine ⟨by simp only; omega, by simp only; omega, ?_⟩
  unfold aheadP
  unfold behindP at hb
  simp only
  rw [show (y.f1 + 1).toNat - 1 = y.f1.toNat by omega]
  exact hb
theorem state_nonneg {g : List (Int × List Int)} {s : List S95} (h : goodSt g s) : ∀ y ∈ s, 0 ≤ y.f1 := fun y hy => (h.2 y hy).1.2.1
/-- What is told of a state that comes from another one. -/
theorem comes_dots {g : List (Int × List Int)} (hg : okG g) {s : List S95} (hs : goodSt g s) {c : Int} (hc : c ∈ lettersP) (x : S95) (hx : x ∈ refClo g (movedP g c s)) : (x.f1 = 0 ∨ 0 < x.f1 ∧ aheadP g x = c) ∧ x.f1 ≤ ((rightP g x.f0).length : Int) := by
  have hc0 := letters_ne0 c hc
  obtain ⟨h1, _, _⟩ := moved_good hg hs hc0
  have hd := (refClo_mem hg h1 x).1 hx
  by_cases h0 : x.f1 = 0
  · exact ⟨.inl h0, by omega⟩
  · obtain ⟨a, b, d⟩ := ahead_moved (state_nonneg hs) (der_dot hd h0) hc0
    exact ⟨.inr ⟨a, d⟩, b⟩
theorem start_dots {g : List (Int × List Int)} (hg : okG g) (x : S95) (hx : x ∈ startS g) : x.f1 = 0 := by
  have hd := (refClo_mem hg (start_ok g) x).1 hx
  cases hd with
  | base h => rw [List.mem_singleton.1 h]
  | step => rfl
theorem comes_some {g : List (Int × List Int)} (hg : okG g) {s : List S95} (hs : goodSt g s) {c : Int} (hc : c ∈ lettersP) (hm : movedP g c s ≠ []) : ∃ x ∈ refClo g (movedP g c s), 0 < x.f1 ∧ aheadP g x = c := by
  have hc0 := letters_ne0 c hc
  obtain ⟨h1, _, _⟩ := moved_good hg hs hc0
  cases hl : movedP g c s with
  | nil => exact absurd hl hm
  | cons x l =>
    have hx : x ∈ movedP g c s := by rw [hl]; simp
    obtain ⟨a, b, d⟩ := ahead_moved (state_nonneg hs) hx hc0
    exact ⟨x, by rw [← hl]; exact (refClo_mem hg h1 x).2 (.base hx), a, d⟩
def lookM (ms : List (Int × Int)) (c : Int) : Option Int := (ms.find? fun p => p.1 == c).map (·.2)
theorem lookM_goRow {g : List (Int × List Int)} {s : List S95} {F : List (List S95)} {c : Int} : ∀ {cs : List Int}, c ∈ cs → lookM (goRow g s cs F) c = if movedP g c s = [] then none else some (findI F (refClo g (movedP g c s)) 0)
  | [], h => by simp at h
  | a :: cs, h => by
    unfold goRow at *
    rw [List.flatMap_cons]
    by_cases hca : a = c
    · subst hca
      by_cases hm : movedP g a s = []
      · rw [if_pos hm, if_pos hm, List.nil_append]
        by_cases hin : a ∈ cs
        · have := lookM_goRow (g := g) (s := s) (F := F) hin
          unfold goRow at this
          rw [this, if_pos hm]
        · unfold lookM
          rw [List.find?_eq_none.2]
          · rfl
          · intro p hp
            obtain ⟨b, hb, hp2⟩ := List.mem_flatMap.1 hp
            split at hp2
            · simp at hp2
            · rw [List.mem_singleton.1 hp2]
              simp only [beq_iff_eq]
              intro e
              exact hin (e ▸ hb)
      · rw [if_neg hm, if_neg hm]
        simp [lookM]
    · have hin : c ∈ cs := by
        rcases List.mem_cons.1 h with h1 | h1
        · exact absurd h1.symm hca
        · exact h1
      have ih := lookM_goRow (g := g) (s := s) (F := F) hin
      unfold goRow at ih
      rw [← ih]
      split
      · rfl
      · unfold lookM
        rw [List.singleton_append, List.find?_cons_of_neg (by simp [hca])]
/-- In a list without repeats the place that is found is the one at which it stands. -/
theorem findI_at {F : List (List S95)} (hn : F.Nodup) {k : Nat} {t : List S95} (h : F[k]? = some t) : findI F t 0 = (k : Int) := by
  have hm : t ∈ F := List.mem_of_getElem? h
  obtain ⟨h1, h2, h3⟩ := (findI_ge t F 0 (Int.le_refl _)).2 hm
  rw [Int.sub_zero] at h3
  obtain ⟨a, ha⟩ := List.getElem?_eq_some_iff.1 h
  obtain ⟨b, hb⟩ := List.getElem?_eq_some_iff.1 h3
  have := (List.getElem_inj hn).1 (ha.trans hb.symm)
  omega
theorem two_states {g : List (Int × List Int)} (hg : okG g) (hne : g ≠ []) {F : List (List S95)} (h : refStates g = some F) : 2 ≤ F.length := by
  obtain ⟨hp, hG, hC⟩ := refStates_good hg h
  have h0 : F[0]? = some (startS g) := getElem?_pre hp (by simp)
  cases g with
  | nil => exact absurd rfl hne
  | cons r g' =>
    have hpart := (hg.2 r (by simp)).1
    have hin : r.1 ∈ lettersP := by
      have : r.1 = 65 ∨ r.1 = 66 ∨ r.1 = 67 ∨ r.1 = 68 ∨ r.1 = 69 := by
        unfold isPartB at hpart
        simp only [decide_eq_true_eq] at hpart
        omega
      rcases this with h | h | h | h | h <;> rw [h] <;> decide
    have hs0 : (⟨((r :: g').length : Int), 0⟩ : S95) ∈ startS (r :: g') := (refClo_mem hg (start_ok _) _).2 (.base (by simp))
    have hb : behindP (r :: g') ⟨((r :: g').length : Int), 0⟩ = r.1 := by
      unfold behindP rightP
      rw [if_pos rfl]
      simp
    have hgs : goodSt (r :: g') (startS (r :: g')) := hG.2 _ (List.mem_of_getElem? h0)
    have hmem : (⟨((r :: g').length : Int), 0 + 1⟩ : S95) ∈ movedP (r :: g') r.1 (startS (r :: g')) := mem_moved.2 ⟨_, hs0, hb, rfl⟩
    have hm : movedP (r :: g') r.1 (startS (r :: g')) ≠ [] := fun e => by rw [e] at hmem; simp at hmem
    have hcl := hC _ (List.mem_of_getElem? h0) r.1 hin hm
    obtain ⟨j, hj, he⟩ := List.getElem_of_mem hcl
    have hj0 : j ≠ 0 := by
      intro e
      subst e
      obtain ⟨x, hx, hx1, _⟩ := comes_some hg hgs hin hm
      rw [← he] at hx
      rw [List.getElem?_eq_getElem hj] at h0
      rw [Option.some.inj h0] at hx
      have := start_dots hg x hx
      omega
    omega
end Go.Proofs.YtpmmfckgfbdboaaDoor.G
end

section
namespace Go.Proofs.YtpmmfckgfbdboaaDoor.G
open Go.RowKit Go.Proofs.YtpmmfckgfbdboaaDoorW.PrintWords Go.Proofs.YtpmmfckgfbdboaaDoorW.PrintLast Go.Proofs.YtpmmfckgfbdboaaDoorW.PrintMore
attribute [local go_sem] max2_int min2_int max_two min_two max_three min_three max_four min_four   -- for this text's walks alone
set_option linter.unusedVariables false
set_option linter.unusedSimpArgs false

/-! ### slices_Index_byte_byte: function 84 -/
def slices_Index_byte_byte.l0 : Nat → List Int → Int → Int → Int → Option (Int)
  | 0, _, _, _, _ => none
  | k + 1, x0, x1, x7, x8 => if x8 < x7 then (if 0 ≤ x8 then (if x8 < (x0.length : Int) then (if x1 = (rd x0 x8) then (some x8) else (slices_Index_byte_byte.l0 k x0 x1 x7 (wrap64 (x8 + 1)))) else (none)) else (none)) else (some (-1))
def slices_Index_byte_byte.f (k : Nat) (l0 : List Int) (a1 : Int) : Option (Int) := slices_Index_byte_byte.l0 k l0 a1 (l0.length : Int) 0
theorem slices_Index_byte_byte.mono_l : ∀ k, (∀ y0 y1 y2 y3, LeO (slices_Index_byte_byte.l0 k y0 y1 y2 y3) (slices_Index_byte_byte.l0 (k + 1) y0 y1 y2 y3))
  | 0 => fun _ _ _ _ r h => by simp [slices_Index_byte_byte.l0] at h
  | k + 1 => by
    have ih0 := slices_Index_byte_byte.mono_l k
    · intro y0 y1 y2 y3
      unfold slices_Index_byte_byte.l0
      repeat' first
      | (with_reducible exact ih0 _ _ _ _)
      | (with_reducible exact LeO.refl _)
      | (with_reducible exact LeO.none _)
      | (with_reducible refine LeO.ite ?_ ?_)
      | (with_reducible refine LeO.bind ?_ (fun _ => ?_))
      | exact ih0 _ _ _ _
      | exact LeO.none _
      | refine LeO.ite ?_ ?_
      | refine LeO.bind ?_ (fun _ => ?_)
theorem slices_Index_byte_byte.mono : ∀ a0 a1 k, LeO (slices_Index_byte_byte.f k a0 a1) (slices_Index_byte_byte.f (k + 1) a0 a1) := by
  intro a0 a1 k
  have ih0 := slices_Index_byte_byte.mono_l k
  unfold slices_Index_byte_byte.f
  repeat' first
      | (with_reducible exact ih0 _ _ _ _)
      | (with_reducible exact LeO.refl _)
      | (with_reducible exact LeO.none _)
      | (with_reducible refine LeO.ite ?_ ?_)
      | (with_reducible refine LeO.bind ?_ (fun _ => ?_))
      | exact ih0 _ _ _ _
      | exact LeO.none _
      | refine LeO.ite ?_ ?_
      | refine LeO.bind ?_ (fun _ => ?_)
set_option maxHeartbeats 8000000 in
set_option maxRecDepth 100000 in
theorem slices_Index_byte_byte.calls (k : Nat) (A0 : Option Addr) (c0 : Nat) (l0 : List Int) (a1 : Int) (r : Int) (w : World) (hr0 : Kd.C (Kd.int .u8) w A0 l0.length l0) (hc0 : l0.length ≤ c0) (h : slices_Index_byte_byte.f k l0 a1 = some r) :
    Calls Tryd.prog 84 #[.slice A0 l0.length c0, .int .u8 a1] w fun e w' => e = .returned (.int .i64 r) ∧ Drawn0 w w' := by
  have HR0 := Aside0.mk hr0
  have HC0 := Aside0.mk hc0
  clear hr0 hc0
  have H : (slices_Index_byte_byte.l0 k l0 a1 (l0.length : Int) 0) = some r := h
  clear h
  have H' := Aside0.mk H
  clear H
  go_enter Tryd.func84, Tryd.ntmps84
  go_wp2
  go_loopg [8] k (fun kq v8 w' => ∃ (x8_1 : Int), v8 = .int .i64 x8_1 ∧ Aside0 (slices_Index_byte_byte.l0 kq l0 a1 (l0.length : Int) x8_1 = some r) ∧ Aside0 (kq ≤ k) ∧ Drawn0 w w')
  case atStart => exact ⟨(0), (by first | rfl | (simp; done) | (simp [*]; done)), H', ⟨Nat.le_refl _⟩, by repeat (first | exact Drawn0.refl _ | apply Drawn0.step)⟩
  case round =>
    clear H'
    try clear p2
    obtain ⟨x8_1, rfl, HA, HK1, ⟨m1, rfl⟩⟩ := hrel
    cases gk with
    | zero => exact absurd HA.out (by simp [slices_Index_byte_byte.l0])
    | succ k1 =>
      have H := HA.out
      clear HA
      simp only [slices_Index_byte_byte.l0] at H
      by_cases c3 : x8_1 < (l0.length : Int)
      · rw [if_pos c3] at H
        have c3b0 : decide (x8_1 < (l0.length : Int)) = true := decide_eq_true c3
        clear c3
        by_cases c4 : 0 ≤ x8_1
        · rw [if_pos c4] at H
          have c4b0 : decide (0 ≤ x8_1) = true := decide_eq_true c4
          clear c4
          by_cases c5 : x8_1 < (l0.length : Int)
          · rw [if_pos c5] at H
            have c5b0 : decide (x8_1 < (l0.length : Int)) = true := decide_eq_true c5
            clear c5
            by_cases c6 : a1 = (rd l0 x8_1)
            · rw [if_pos c6] at H
              have c6b0 : (a1 == (rd l0 x8_1)) = true := beq_iff_eq.mpr c6
              have c6b1 : (a1 != (rd l0 x8_1)) = false := bne_eq_false_iff_eq.mpr c6
              clear c6
              obtain rfl := Option.some.inj H
              have p217 : 0 ≤ (x8_1 : Int) := of_decide_eq_true (by first | (with_reducible assumption) | assumption)
              have q217 : x8_1 < (l0.length : Int) := of_decide_eq_true (by first | (with_reducible assumption) | assumption)
              obtain ⟨ad217, e217, hx217_0⟩ := Kd.at_int HR0.out x8_1 p217 q217
              cases e217
              replace p217 := eq_true p217
              replace q217 := eq_true q217
              go_wp2
              go_ret
              exact ⟨by first | rfl | (simp; done) | (simp [*]; done), by repeat (first | exact Drawn0.refl _ | apply Drawn0.step)⟩
            · rw [if_neg c6] at H
              have c6b0 : (a1 == (rd l0 x8_1)) = false := beq_eq_false_iff_ne.mpr c6
              have c6b1 : (a1 != (rd l0 x8_1)) = true := bne_iff_ne.mpr c6
              have H' := Aside0.mk H
              clear H
              have p217 : 0 ≤ (x8_1 : Int) := of_decide_eq_true (by first | (with_reducible assumption) | assumption)
              have q217 : x8_1 < (l0.length : Int) := of_decide_eq_true (by first | (with_reducible assumption) | assumption)
              obtain ⟨ad217, e217, hx217_0⟩ := Kd.at_int HR0.out x8_1 p217 q217
              cases e217
              replace p217 := eq_true p217
              replace q217 := eq_true q217
              go_wp2
              go_roundg k1
              case measure => have := HK1.out; omega
              case rel => exact ⟨(wrap64 (x8_1 + 1)), (by first | rfl | (simp; done) | (simp [*]; done)), H', ⟨by have := HK1.out; omega⟩, by repeat (first | exact Drawn0.refl _ | apply Drawn0.step)⟩
          · rw [if_neg c5] at H
            exact absurd H (by simp)
        · rw [if_neg c4] at H
          exact absurd H (by simp)
      · rw [if_neg c3] at H
        have c3b0 : decide (x8_1 < (l0.length : Int)) = false := decide_eq_false c3
        clear c3
        obtain rfl := Option.some.inj H
        go_wp2
        go_ret
        exact ⟨by first | rfl | (simp; done) | (simp [*]; done), by repeat (first | exact Drawn0.refl _ | apply Drawn0.step)⟩

end Go.Proofs.YtpmmfckgfbdboaaDoor.G
end

section
namespace Go.Proofs.YtpmmfckgfbdboaaDoor.G
open Go.RowKit Go.Proofs.YtpmmfckgfbdboaaDoorW.PrintWords Go.Proofs.YtpmmfckgfbdboaaDoorW.PrintLast Go.Proofs.YtpmmfckgfbdboaaDoorW.PrintMore
attribute [local go_sem] max2_int min2_int max_two min_two max_three min_three max_four min_four   -- for this text's walks alone
set_option linter.unusedVariables false
set_option linter.unusedSimpArgs false

/-! ### slices_Contains_byte_byte: function 52 -/
def slices_Contains_byte_byte.f (k : Nat) (l0 : List Int) (a1 : Int) : Option (Bool) := (slices_Index_byte_byte.f k l0 a1).bind fun t218 => (some (decide (t218 ≥ 0)))
theorem slices_Contains_byte_byte.mono : ∀ a0 a1 k, LeO (slices_Contains_byte_byte.f k a0 a1) (slices_Contains_byte_byte.f (k + 1) a0 a1) := by
  intro a0 a1 k
  unfold slices_Contains_byte_byte.f
  repeat' first
      | (with_reducible exact slices_Index_byte_byte.mono _ _ _)
      | (with_reducible exact LeO.refl _)
      | (with_reducible exact LeO.none _)
      | (with_reducible refine LeO.ite ?_ ?_)
      | (with_reducible refine LeO.bind ?_ (fun _ => ?_))
      | exact slices_Index_byte_byte.mono _ _ _
      | exact LeO.none _
      | refine LeO.ite ?_ ?_
      | refine LeO.bind ?_ (fun _ => ?_)
set_option maxHeartbeats 8000000 in
set_option maxRecDepth 100000 in
theorem slices_Contains_byte_byte.calls (k : Nat) (A0 : Option Addr) (c0 : Nat) (l0 : List Int) (a1 : Int) (r : Bool) (w : World) (hr0 : Kd.C (Kd.int .u8) w A0 l0.length l0) (hc0 : l0.length ≤ c0) (h : slices_Contains_byte_byte.f k l0 a1 = some r) :
    Calls Tryd.prog 52 #[.slice A0 l0.length c0, .int .u8 a1] w fun e w' => e = .returned (.bool r) ∧ Drawn0 w w' := by
  have HR0 := Aside0.mk hr0
  have HC0 := Aside0.mk hc0
  clear hr0 hc0
  have H : ((slices_Index_byte_byte.f k l0 a1).bind fun t218 => (some (decide (t218 ≥ 0)))) = some r := h
  clear h
  replace H := Option.bind_eq_some_iff.mp H
  obtain ⟨t218, A30, H⟩ := H
  replace H : (some (decide (t218 ≥ 0))) = some r := H
  have A3 := Aside0.mk A30
  clear A30
  obtain rfl := Option.some.inj H
  go_enter Tryd.func52, Tryd.ntmps52
  go_wp2_with (first | ((with_reducible refine gate_callee (f := 84) rfl ?_); refine goesL_ (some 7) rfl rfl Tryd.func84 (by kernel_rfl) rfl #[.slice A0 l0.length c0, .int .u8 a1] rfl (by (try simp only [List.map_toArray, List.map_cons, List.map_nil]); first | done | rfl | (simp only [List.length_drop, List.length_take]; rfl)) ?_; (with_reducible refine (slices_Index_byte_byte.calls k _ _ l0 a1 t218 _ ?side1 ?side2 A3.out).mono ?_); (case side1 => repeat (first | exact HR0.out | (with_reducible refine Kd.C_alloc ?_ _) | (with_reducible refine Kd.C_drewN ?_ _) | (with_reducible refine Kd.C_drew ?_))); (case side2 => exact HC0.out); rintro e w' ⟨rfl, ⟨nd, rfl⟩⟩; refine ⟨_, rfl, ?_⟩))
  go_ret
  exact ⟨by first | rfl | (simp; done) | (simp [*]; done), by repeat (first | exact Drawn0.refl _ | apply Drawn0.step)⟩

end Go.Proofs.YtpmmfckgfbdboaaDoor.G
end
