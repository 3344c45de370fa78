import Derived.Test.YtpmmfckgfbdboaaDoorM1x0
import Derived.Shelf.Lay
import Derived.Shelf.Strings.SlTrimAscii
section
namespace Go.Proofs.YtpmmfckgfbdboaaDoor.G
open Go.RowKit Go.Proofs.YtpmmfckgfbdboaaDoorW.PrintWords Go.Proofs.YtpmmfckgfbdboaaDoorW.PrintLast Go.Proofs.YtpmmfckgfbdboaaDoorW.PrintMore
open Go.Shelf Go.Lib
set_option linter.unusedVariables false
set_option linter.unusedSimpArgs false
def arrB (m : List Bool) : Array Value := (m.map Value.bool).toArray
theorem arrB_get (m : List Bool) (j : Nat) (h : j < m.length) : (arrB m)[j]? = some (.bool (m.getD j false)) := by
  simp [arrB, List.getD_eq_getElem?_getD, h]
theorem arrB_set (m : List Bool) (j : Nat) : (arrB m).setIfInBounds j (.bool true) = arrB (m.set j true) := by
  simp [arrB, List.map_set]
def gr41 (l : List S41) : List (Int × List Int) := l.map fun r => (r.f0, bytesOf r.f1)
def to95 (x : S39) : S95 := ⟨x.f0, x.f1⟩
def to39 (x : S95) : S39 := ⟨x.f0, x.f1⟩
theorem gr41_len (l : List S41) : (gr41 l).length = l.length := by simp [gr41]
theorem rd39_mem (zs : List S39) (i : Int) (h0 : 0 ≤ i) (h1 : i < zs.length) : rd_T39 zs i ∈ zs := by
  have h2 : i.toNat < zs.length := by omega
  simp [rd_T39, List.getD_eq_getElem?_getD, h2]
theorem drop39 (xs : List S39) (i : Nat) (h1 : i < xs.length) : xs.drop i = rd_T39 xs (i : Int) :: xs.drop (i + 1) := by
  rw [List.drop_eq_getElem_cons h1]
  congr 1
  simp [rd_T39, List.getD_eq_getElem?_getD, h1]
theorem idx45 {a b n : Nat} (ha : a ≤ n) (hn : n ≤ 8) (hb : b < 5) : a * 5 + b < 45 := by omega
theorem lt_sub {i n k : Nat} (h : i < n) (hk : k = n - i) : n - (i + 1) < k := by omega
theorem big45 {a r n d : Nat} (h : a ≤ r * 5 + d) (hr : r < n + 1) (hn : n ≤ 8) (hd : d < 5) : (a + 1) * 16 ≤ 140737488355328 := by omega
theorem sub_succ {n j : Nat} (h : j < n) : n - j = (n - (j + 1)) + 1 := by omega
theorem wrap_len {n : Nat} (h : n ≤ 8) : wrap64 ((n : Int) + 1) = (n : Int) + 1 := by unfold wrap64; omega
theorem drop41 (xs : List S41) (i : Nat) (h1 : i < xs.length) : (gr41 xs).drop i = ((rd_T41 xs (i : Int)).f0, bytesOf (rd_T41 xs (i : Int)).f1) :: (gr41 xs).drop (i + 1) := by
  rw [List.drop_eq_getElem_cons (by rw [gr41_len]; exact h1)]
  congr 1
  simp [gr41, rd_T41, List.getD_eq_getElem?_getD, h1]
theorem right_small {g : List (Int × List Int)} (hg : okG g) (rule : Int) : (rightP g rule).length ≤ 4 := by
  unfold rightP
  split
  · simp
  · cases h : g[rule.toNat]? with
    | none => simp
    | some p => exact (hg.2 p (List.mem_of_getElem? h)).2.1
theorem part_str {c : Int} (h : isPartB c = true) : bytesOf (strOfNums [c]) = [c] := by
  rcases isPartB_cases h with rfl | rfl | rfl | rfl | rfl <;> decide
theorem right41_f (l : List S41) (hg : okG (gr41 l)) (hne : 0 < l.length) (rule : Int) (h0 : 0 ≤ rule) (h1 : rule ≤ l.length) : ∃ t, comfitref05_right.f l rule = some t ∧ bytesOf t = rightP (gr41 l) rule := by
  unfold comfitref05_right.f rightP
  rw [gr41_len]
  by_cases h : rule = l.length
  · rw [if_pos h, if_pos (by omega : (0 : Int) < l.length), if_pos h]
    cases l with
    | nil => simp at hne
    | cons a l =>
      have hp := (hg.2 (a.f0, bytesOf a.f1) (by simp [gr41])).1
      exact ⟨_, rfl, part_str hp⟩
  · rw [if_neg h, if_pos h0, if_pos (by omega), if_neg h]
    refine ⟨_, rfl, ?_⟩
    have h2 : rule.toNat < l.length := by omega
    simp [gr41, rd_T41, List.getD_eq_getElem?_getD, h2]
def reg49.T5 : Bool × List (List Nat × List Nat) := (true, [([], []), ([0], [0]), ([], []), ([2], [2]), ([1], [1]), ([4, 3, 0, 1, 2, 3], [3, 4]), ([5, 0, 1, 2, 3], [5])])
def reg49.B5 : List Nat := [0, 1, 0, 4, 3, 31, 63]
theorem reg49.tab5 : rtab .any (opsOf Tryd.f49 5) = reg49.T5 := by kernel_rfl
theorem reg49.bits5 : waitsOk reg49.T5.2 reg49.B5 = true := by kernel_rfl
def reg49.T19 : Bool × List (List Nat × List Nat) := (true, [([], []), ([], []), ([0], [0]), ([2, 1], [1, 2]), ([3], [3]), ([4], [4]), ([5], [5]), ([5], [5]), ([6, 7, 5], [5, 6, 7]), ([5], [5]), ([9, 5], [5, 9]), ([8, 10, 5], [5, 8, 10]), ([5, 11], [5, 11])])
def reg49.B19 : List Nat := [0, 0, 1, 7, 15, 31, 63, 63, 255, 63, 575, 2047, 4095]
theorem reg49.tab19 : rtab .any (opsOf Tryd.f49 19) = reg49.T19 := by kernel_rfl
theorem reg49.bits19 : waitsOk reg49.T19.2 reg49.B19 = true := by kernel_rfl
set_option maxHeartbeats 4000000 in
set_option maxRecDepth 100000 in
theorem clo49_any (l : List S41) (A0 : Option Addr) (c0 : Nat) (xs : List S39) (A1 : Option Addr) (c1 : Nat) (w : World) (hr0 : Kd.C k41 w A0 l.length l) (hc0 : l.length ≤ c0) (hr1 : Kd.C k39 w A1 xs.length xs) (hc1 : xs.length ≤ c1)
    (hg : okG (gr41 l)) (hne : 0 < l.length) (hx : ∀ x ∈ xs, inM (to95 x) ∧ x.f0 ≤ l.length) (hl1 : xs.length < 2 ^ 62) :
    Calls Tryd.prog 49 #[.slice A0 l.length c0, .slice A1 xs.length c1] w fun e w' => ∃ v, e = .returned v ∧ Kd.R k39 39 w' w.heap.size (fun _ => True) v ((refClo (gr41 l) (xs.map to95)).map to39) ∧ Below w.heap.size w w' := by
  have HR0 := Lib.hid hr0
  have HR1 := Lib.hid hr1
  have HG := Lib.hid hg
  have HNE := Lib.hid hne
  have HX := Lib.hid hx
  have hlen := Lib.hid (show l.length ≤ 8 by have := hg.1; rwa [gr41_len] at this)
  clear hr0 hr1 hg hne hx
  have HT := Lib.hid (blk_new w (.cells (arrB (List.replicate 45 false)) 137))
  have HB0 := Lib.hid (below_alloc (Below.refl w.heap.size w) (.cells (arrB (List.replicate 45 false)) 137))
  go_enter Tryd.func49, Tryd.ntmps49
  go_wp2
  go_loopg [18] xs.length (fun kq v18 w' => ∃ (j : Nat) (m : List Bool), v18 = .int .i64 (j : Int) ∧ j ≤ xs.length ∧ kq = xs.length - j ∧ Hid (w'.heap[w.heap.size]? = some (.cells (arrB m) 137 (0, 0))) ∧ Hid (m.length = 45 ∧ refInit ((xs.drop j).map to95) m = refInit (xs.map to95) (List.replicate 45 false)) ∧ Hid (Below w.heap.size w w'))
  case atStart => exact ⟨0, List.replicate 45 false, rfl, Nat.zero_le _, rfl, HT, Lib.hid ⟨List.length_replicate, rfl⟩, HB0⟩
  case round =>
    clear HT HB0
    obtain ⟨j, m, rfl, hj, hkq, HT, HM, HB⟩ := hrel
    by_cases hjl : j < xs.length
    · have hjI : (j : Int) < (xs.length : Int) := Int.ofNat_lt.mpr hjl
      have hj0 : (0 : Int) ≤ (j : Int) := Int.natCast_nonneg j
      obtain ⟨ad, eA, hx0, hx1⟩ := at_T39 (Kd.C_below HR1.out HB.out) (j : Int) hj0 hjI
      cases eA
      obtain ⟨⟨hi0, hi1, hi2⟩, hi3⟩ := HX.out _ (rd39_mem xs (j : Int) hj0 hjI)
      have hM := HM.out
      rw [drop39 xs j hjl] at hM
      generalize rd_T39 xs (j : Int) = x at *
      obtain ⟨x0, x1⟩ := x
      simp only [to95] at hi0 hi1 hi2 hi3
      obtain ⟨a, rfl⟩ := Int.eq_ofNat_of_zero_le hi0
      obtain ⟨b, rfl⟩ := Int.eq_ofNat_of_zero_le hi1
      have hal := Int.ofNat_le.mp hi3
      have hbl := Int.ofNat_lt.mp hi2
      have ha9 : (a : Int) < 9 := Int.ofNat_lt.mpr (Nat.lt_succ_of_le (Nat.le_trans hal hlen.out))
      simp only [add_plain, Int.toNat_natCast] at hx0 hx1
      simp only [List.map_cons, refInit, to95, Int.toNat_natCast] at hM
      have HM2 := Lib.hid hM
      have HAB := Lib.hid (And.intro hal hbl)
      have hw : wrap64 ((j : Int) + 1) = (j : Int) + 1 := wrap64_succ (n := xs.length) hj0 ⟨hjI, hl1⟩
      have HT1 := Lib.hid (blk_alloc HT.out (.cells #[.int .i64 a, .int .i64 b] 39))
      have HB1 := Lib.hid (below_alloc HB.out (.cells #[.int .i64 a, .int .i64 b] 39))
      have HG1 := Lib.hid (blk_new wr (.cells #[.int .i64 a, .int .i64 b] 39))
      clear hM HM HT HB hi0 hi1 hi3 hal hbl
      go_wp2
      generalize hWA : wr.alloc (.cells #[.int .i64 a, .int .i64 b] 39) = WA at HT1 HB1 HG1 ⊢
      clear hx0 hx1
      have hg0 := (blk_cell HG1.out 0).trans (show _ = some (Value.int .i64 a) from rfl)
      have hg1 := (blk_cell HG1.out 1).trans (show _ = some (Value.int .i64 b) from rfl)
      refine start_ (n := 7) (S := fun w' => w'.cell? ⟨wr.heap.size, 0, none⟩ = some (.int .i64 a) ∧ w'.cell? ⟨wr.heap.size, 1, none⟩ = some (.int .i64 b)) (ds := [6]) #[false, false, false, false, false, false, false] (by kernel_rfl) rfl rfl ⟨hg0, hg1⟩ (fun hHeld => ?_); refine with_tabW reg49.tab5 reg49.bits5 (fun HT_ HW_ => ?_)
      clear hg0 hg1
      have HT2 := Lib.hid (blk_drew HT1.out)
      have HB2 := Lib.hid (below_drew1 HB1.out)
      generalize WA.drew = WD at hHeld HT2 HB2 ⊢
      refine pure_ (i := 0) (N := some 22) (v := ?_) (a' := ?_) #[true, false, false, false, false, false, false] rfl rfl (any_of HT_.out (by kernel_rfl)) (fun _ _ _ h => h) (Or.inl ⟨by rfl, ?_⟩) ?_ ?_
      rotate_left
      · intro w'
        go_simp
        with_reducible rfl
      rotate_left
      · simp only [Act.put, List.setIfInBounds_toArray, List.set_cons_zero, List.set_cons_succ, i64_w, i32_w]
        rfl
      refine pure_ (i := 2) (N := some 24) (v := ?_) (a' := ?_) #[true, false, true, false, false, false, false] rfl rfl (any_of HT_.out (by kernel_rfl)) (fun _ _ _ h => h) (Or.inl ⟨by rfl, ?_⟩) ?_ ?_
      rotate_left
      · intro w'
        go_simp
        with_reducible rfl
      rotate_left
      · simp only [Act.put, List.setIfInBounds_toArray, List.set_cons_zero, List.set_cons_succ, i64_w, i32_w]
        rfl
      refine take_ (i := 1) (N := some 23) (v := ?_) (a' := ?_) #[true, true, true, false, false, false, false] rfl rfl (take_ofW HT_.out HW_.out (by kernel_rfl)) (fun _ _ _ h => h) (Or.inl ⟨by rfl, ?_⟩) hHeld ?_ ?_
      rotate_left
      · rintro w' ⟨s0, s1⟩
        go_simp
        with_reducible rfl
      rotate_left
      · simp only [Act.put, List.setIfInBounds_toArray, List.set_cons_zero, List.set_cons_succ, i64_w, i32_w]
        rfl
      refine pure_ (i := 4) (N := some 26) (v := ?_) (a' := ?_) #[true, true, true, false, true, false, false] rfl rfl (any_of HT_.out (by kernel_rfl)) (fun _ _ _ h => h) (Or.inl ⟨by rfl, ?_⟩) ?_ ?_
      rotate_left
      · intro w'
        go_simp
        with_reducible rfl
      rotate_left
      · simp only [Act.put, List.setIfInBounds_toArray, List.set_cons_zero, List.set_cons_succ, i64_w, i32_w]
        rfl
      refine take_ (i := 3) (N := some 25) (v := ?_) (a' := ?_) #[true, true, true, true, true, false, false] rfl rfl (take_ofW HT_.out HW_.out (by kernel_rfl)) (fun _ _ _ h => h) (Or.inl ⟨by rfl, ?_⟩) hHeld ?_ ?_
      rotate_left
      · rintro w' ⟨s0, s1⟩
        go_simp
        with_reducible rfl
      rotate_left
      · simp only [Act.put, List.setIfInBounds_toArray, List.set_cons_zero, List.set_cons_succ, i64_w, i32_w]
        rfl
      refine pure_ (i := 5) (N := some 27) (v := ?_) (a' := ?_) #[true, true, true, true, true, true, false] rfl rfl (any_of HT_.out (by kernel_rfl)) (fun _ _ _ h => h) (Or.inl ⟨by rfl, ?_⟩) ?_ ?_
      rotate_left
      · intro w'
        go_simp
        with_reducible rfl
      rotate_left
      · simp only [Act.put, List.setIfInBounds_toArray, List.set_cons_zero, List.set_cons_succ, i64_w, i32_w]
        rfl
      refine last_ (i := 6) (N := none) #[true, true, true, true, true, true, true] rfl rfl (one_of HT_.out (by kernel_rfl)) (by decide) (fun K hK => ?_)
      have hz1 := (blk_cell HT2.out (a * 5 + b)).trans (arrB_get m (a * 5 + b) (by rw [HM2.out.1]; exact idx45 HAB.out.1 hlen.out HAB.out.2))
      have hz2 := blk_frozen HT2.out (a * 5 + b)
      refine skip_ (w1 := ?_) (by rfl) rfl ?_ ?_
      rotate_left
      · go_simp
        rfl
      refine hK.out _ _ ?_
      clear hK K
      refine done_ (done_of HT_.out (by kernel_rfl)) ?_

      have HT3 := Lib.hid (blk_put HT2.out (a * 5 + b) (.bool true) (arrB_set m (a * 5 + b)))
      have HB3 := Lib.hid (below_set (j := a * 5 + b) (v := .bool true) HB2.out (Nat.le_refl _))
      clear hHeld hz1 hz2 HT2 HB2 HT1 HB1 HG1 hWA
      go_wp2
      go_roundg (xs.length - (j + 1))
      case measure => exact lt_sub hjl hkq
      case rel => exact ⟨j + 1, m.set (a * 5 + b) true, rfl, hjl, rfl, HT3, Lib.hid ⟨by rw [List.length_set]; exact HM2.out.1, HM2.out.2⟩, HB3⟩
    · have hjn : ¬ (j : Int) < (xs.length : Int) := fun h => hjl (Int.ofNat_lt.mp h)
      have hM := HM.out
      rw [List.drop_of_length_le (Nat.not_lt.1 hjl)] at hM
      simp only [List.map_nil, refInit] at hM
      have HM2 := Lib.hid hM
      clear hM HM
      go_wp2
      obtain ⟨MF, hMF⟩ : ∃ MF, refN (gr41 l) 45 (refInit (xs.map to95) (List.replicate 45 false)) = MF := ⟨_, rfl⟩
      have HMF := Lib.hid hMF
      clear hMF
      go_loopg [29] 45 (fun kq v29 w' => ∃ (j : Nat) (m : List Bool), v29 = .int .i64 (j : Int) ∧ j ≤ 45 ∧ kq = 45 - j ∧ Hid (w'.heap[w.heap.size]? = some (.cells (arrB m) 137 (0, 0))) ∧ Hid (m.length = 45 ∧ refN (gr41 l) (45 - j) m = MF) ∧ Hid (Below w.heap.size w w'))
      case atStart => exact ⟨0, m, rfl, Nat.zero_le _, rfl, HT, Lib.hid ⟨HM2.out.1, by rw [HM2.out.2]; exact HMF.out⟩, HB⟩
      case round =>
        clear HT HM2 HB hjn hkq hjl hj
        obtain ⟨j, m, rfl, hj, hkq, HT, HM, HB⟩ := hrel
        by_cases hjl : j < 45
        · have hjI : (j : Int) < 45 := Int.ofNat_lt.mpr hjl
          have hj0 : (0 : Int) ≤ (j : Int) := Int.natCast_nonneg j
          have hw : wrap64 ((j : Int) + 1) = (j : Int) + 1 := wrap64_succ (n := 45) hj0 ⟨hjI, by decide⟩
          have hM := HM.out
          rw [show 45 - j = (45 - (j + 1)) + 1 from sub_succ hjl] at hM
          simp only [refN] at hM
          have HM2 := Lib.hid hM
          have HJ := Lib.hid (And.intro hjl (And.intro hkq hw))
          have hwl : (l.length : Int) ≤ 8 := Int.ofNat_le.mpr hlen.out
          clear hM HM hw hkq hjl hj
          go_wp2
          clear hwl hj0 hjI
          go_loopg [34] (l.length + 1) (fun kq v34 w' => ∃ (r : Nat) (m2 : List Bool), v34 = .int .i64 (r : Int) ∧ r ≤ l.length + 1 ∧ kq = l.length + 1 - r ∧ Hid (w'.heap[w.heap.size]? = some (.cells (arrB m2) 137 (0, 0))) ∧ Hid (m2.length = 45 ∧ refI (gr41 l) (l.length + 1 - r) r m2 = refI (gr41 l) (l.length + 1) 0 m) ∧ Hid (Below w.heap.size w w'))
          case atStart => exact ⟨0, m, rfl, Nat.zero_le _, rfl, HT, Lib.hid ⟨HM2.out.1, rfl⟩, HB⟩
          case round =>
            clear HT HB
            obtain ⟨r, m2, rfl, hr, hkq, HT, HMI, HB⟩ := hrel
            by_cases hrl : r < l.length + 1
            · have hrI : (r : Int) < (l.length : Int) + 1 := Int.ofNat_lt.mpr hrl
              have hr0 : (0 : Int) ≤ (r : Int) := Int.natCast_nonneg r
              have hw : wrap64 ((r : Int) + 1) = (r : Int) + 1 := wrap64_succ (n := l.length + 1) hr0 ⟨hrI, Nat.lt_of_le_of_lt (Nat.succ_le_succ hlen.out) (by decide)⟩
              have hM := HMI.out
              rw [show l.length + 1 - r = (l.length + 1 - (r + 1)) + 1 from sub_succ hrl] at hM
              simp only [refI] at hM
              obtain ⟨q, hq, hqb⟩ := right41_f l HG.out HNE.out (r : Int) hr0 (Int.ofNat_le.mpr (Nat.le_of_lt_succ hrl))
              have HQ := Lib.hid (And.intro hqb (right_small HG.out (r : Int)))
              have HCR := Lib.hid (comfitref05_right.calls A0 c0 l (r : Int) q wr (Kd.C_below HR0.out HB.out) hc0 hq)
              rw [← hqb] at hM
              have HM3 := Lib.hid hM
              have HJ2 := Lib.hid (And.intro hrl (And.intro hkq hw))
              have hr9 : (r : Int) < 9 := Int.ofNat_lt.mpr (Nat.lt_of_lt_of_le hrl (Nat.succ_le_succ hlen.out))
              have HR9 := Lib.hid hr9
              clear hM HMI hw hkq hrl hr hq hqb hr9
              go_wp2_with (go_at_call 83; refine HCR.out.mono ?_; rintro e w2 ⟨rfl, hbw⟩)
              have HT2 := Lib.hid (blk_below HT.out hbw)
              have HB2 := Lib.hid (below_step HB.out hbw)
              clear hbw HT HB HCR
              go_loopg [42] q.size (fun kq v42 w' => ∃ (d : Nat) (m3 : List Bool), v42 = .int .i64 (d : Int) ∧ d ≤ q.size ∧ kq = q.size - d ∧ Hid (w'.heap[w.heap.size]? = some (.cells (arrB m3) 137 (0, 0))) ∧ Hid (m3.length = 45 ∧ refD (gr41 l) r ((bytesOf q).drop d) d m3 = refD (gr41 l) r (bytesOf q) 0 m2) ∧ Hid (Below w.heap.size w w'))
              case atStart => exact ⟨0, m2, rfl, Nat.zero_le _, rfl, HT2, Lib.hid ⟨HM3.out.1, rfl⟩, HB2⟩
              case round =>
                clear HT2 HB2
                obtain ⟨d, m3, rfl, hd, hkq, HT, HMD, HB⟩ := hrel
                by_cases hdl : d < q.size
                · have hdI : (d : Int) < (q.size : Int) := Int.ofNat_lt.mpr hdl
                  have hd0 : (0 : Int) ≤ (d : Int) := Int.natCast_nonneg d
                  have hd4 : d < 5 := Nat.lt_of_lt_of_le hdl (by have := HQ.out.2; rw [← HQ.out.1, bytesOf_length] at this; exact Nat.le_succ_of_le this)
                  have hw : wrap64 ((d : Int) + 1) = (d : Int) + 1 := wrap64_succ (n := 5) hd0 ⟨Int.ofNat_lt.mpr hd4, by decide⟩
                  have hM := HMD.out
                  rw [drop_bytes q d hdl] at hM
                  simp only [refD] at hM
                  obtain ⟨c, hc⟩ : ∃ c, bt q d = c := ⟨_, rfl⟩
                  rw [hc] at hM
                  have HM4 := Lib.hid hM
                  have HC := Lib.hid hc
                  have HJ3 := Lib.hid (And.intro hdl (And.intro hkq (And.intro hw hd4)))
                  clear hM HMD hw hkq hdl hd hd4 hc
                  go_wp2
                  go_loopg [47] l.length (fun kq v47 w' => ∃ (k : Nat) (m4 : List Bool), v47 = .int .i64 (k : Int) ∧ k ≤ l.length ∧ kq = l.length - k ∧ Hid (w'.heap[w.heap.size]? = some (.cells (arrB m4) 137 (0, 0))) ∧ Hid (m4.length = 45 ∧ refK (r * 5 + d) c ((gr41 l).drop k) k m4 = refK (r * 5 + d) c (gr41 l) 0 m3) ∧ Hid (Below w.heap.size w w'))
                  case atStart => exact ⟨0, m3, rfl, Nat.zero_le _, rfl, HT, Lib.hid ⟨HM4.out.1, rfl⟩, HB⟩
                  case round =>
                    clear HT HB
                    obtain ⟨k, m4, rfl, hk, hkq, HT, HMK, HB⟩ := hrel
                    by_cases hkl : k < l.length
                    · have hkI : (k : Int) < (l.length : Int) := Int.ofNat_lt.mpr hkl
                      have hk0 : (0 : Int) ≤ (k : Int) := Int.natCast_nonneg k
                      obtain ⟨ad, eA, hx0, hx1⟩ := at_T41 (Kd.C_below HR0.out HB.out) (k : Int) hk0 hkI
                      cases eA
                      have hM := HMK.out
                      rw [drop41 l k hkl] at hM
                      generalize rd_T41 l (k : Int) = x at *
                      obtain ⟨x, y⟩ := x
                      simp only [refK] at hM
                      simp only [add_plain, Int.toNat_natCast] at hx0 hx1
                      have hw : wrap64 ((k : Int) + 1) = (k : Int) + 1 := wrap64_succ (n := l.length) hk0 ⟨hkI, Nat.lt_of_le_of_lt hlen.out (by decide)⟩
                      have hr9 := HR9.out
                      have hr0 : (0 : Int) ≤ (r : Int) := Int.natCast_nonneg r
                      have hd5 : (d : Int) < 5 := Int.ofNat_lt.mpr HJ3.out.2.2.2
                      have hk9 : (k : Int) < 9 := Int.lt_of_lt_of_le hkI (Int.ofNat_le.mpr (Nat.le_succ_of_le hlen.out))
                      have HT1 := Lib.hid (blk_alloc HT.out (.cells #[.int .u8 x, .string y] 41))
                      have HB1 := Lib.hid (below_alloc HB.out (.cells #[.int .u8 x, .string y] 41))
                      have HG1 := Lib.hid (blk_new wr (.cells #[.int .u8 x, .string y] 41))
                      obtain ⟨bb, hbb⟩ : ∃ bb, m4.getD (r * 5 + d) false = bb := ⟨_, rfl⟩
                      have HBB := Lib.hid hbb
                      rw [hbb] at hM
                      have HM5 := Lib.hid hM
                      have HJ4 := Lib.hid (And.intro hkl (And.intro hkq hw))
                      clear hM HMK hw hkq hk hkl hbb HT HB
                      go_wp2
                      generalize hWA : wr.alloc (.cells #[.int .u8 x, .string y] 41) = WA at HT1 HB1 HG1 ⊢
                      clear hx0 hx1
                      have hg0 := (blk_cell HG1.out 0).trans (show _ = some (Value.int .u8 x) from rfl)
                      have hg1 := (blk_cell HT1.out (r * 5 + d)).trans ((arrB_get m4 (r * 5 + d) (by rw [HM5.out.1]; exact idx45 (Nat.le_of_lt_succ HJ2.out.1) hlen.out HJ3.out.2.2.2)).trans (show _ = some (Value.bool bb) by rw [HBB.out]))
                      cases bb
                      · simp only [Bool.false_and, Bool.false_eq_true, if_false] at HM5
                        refine start_ (n := 13) (S := fun w' => w'.cell? ⟨w.heap.size, r * 5 + d, none⟩ = some (.bool false)) (ds := []) #[false, false, false, false, false, false, false, false, false, false, false, false, false] (by kernel_rfl) rfl rfl (hg1) (fun hHeld => ?_); refine with_tabW reg49.tab19 reg49.bits19 (fun HT_ HW_ => ?_)
                        clear hg0 hg1
                        have HT2 := Lib.hid (blk_drew HT1.out)
                        have HB2 := Lib.hid (below_drew1 HB1.out)
                        generalize WA.drew = WD at hHeld HT2 HB2 ⊢
                        refine pure_ (i := 0) (N := some 52) (v := ?_) (a' := ?_) #[true, false, false, false, false, false, false, false, false, false, false, false, false] rfl rfl (any_of HT_.out (by kernel_rfl)) (fun _ _ _ h => h) (Or.inl ⟨by rfl, ?_⟩) ?_ ?_
                        rotate_left
                        · intro w'
                          go_simp
                          with_reducible rfl
                        rotate_left
                        · simp only [Act.put, List.setIfInBounds_toArray, List.set_cons_zero, List.set_cons_succ, i64_w, i32_w]
                          rfl
                        refine pure_ (i := 1) (N := some 53) (v := ?_) (a' := ?_) #[true, true, false, false, false, false, false, false, false, false, false, false, false] rfl rfl (any_of HT_.out (by kernel_rfl)) (fun _ _ _ h => h) (Or.inl ⟨by rfl, ?_⟩) ?_ ?_
                        rotate_left
                        · intro w'
                          go_simp
                          with_reducible rfl
                        rotate_left
                        · simp only [Act.put, List.setIfInBounds_toArray, List.set_cons_zero, List.set_cons_succ, i64_w, i32_w]
                          rfl
                        refine pure_ (i := 2) (N := some 54) (v := ?_) (a' := ?_) #[true, true, true, false, false, false, false, false, false, false, false, false, false] rfl rfl (any_of HT_.out (by kernel_rfl)) (fun _ _ _ h => h) (Or.inl ⟨by rfl, ?_⟩) ?_ ?_
                        rotate_left
                        · intro w'
                          go_simp
                          with_reducible rfl
                        rotate_left
                        · simp only [Act.put, List.setIfInBounds_toArray, List.set_cons_zero, List.set_cons_succ, i64_w, i32_w]
                          rfl
                        refine pure_ (i := 3) (N := some 55) (v := ?_) (a' := ?_) #[true, true, true, true, false, false, false, false, false, false, false, false, false] rfl rfl (any_of HT_.out (by kernel_rfl)) (fun _ _ _ h => h) (Or.inl ⟨by rfl, ?_⟩) ?_ ?_
                        rotate_left
                        · intro w'
                          go_simp
                          with_reducible rfl
                        rotate_left
                        · simp only [Act.put, List.setIfInBounds_toArray, List.set_cons_zero, List.set_cons_succ, i64_w, i32_w]
                          rfl
                        refine take_ (i := 4) (N := some 56) (v := ?_) (a' := ?_) #[true, true, true, true, true, false, false, false, false, false, false, false, false] rfl rfl (take_ofW HT_.out HW_.out (by kernel_rfl)) (fun _ _ _ h => h) (Or.inl ⟨by rfl, ?_⟩) hHeld ?_ ?_
                        rotate_left
                        · intro w' s0
                          go_simp
                          with_reducible rfl
                        rotate_left
                        · simp only [Act.put, List.setIfInBounds_toArray, List.set_cons_zero, List.set_cons_succ, i64_w, i32_w]
                          rfl
                        refine pure_ (i := 5) (N := some 57) (v := ?_) (a' := ?_) #[true, true, true, true, true, true, false, false, false, false, false, false, false] rfl rfl (any_of HT_.out (by kernel_rfl)) (fun _ _ _ h => h) (Or.inl ⟨by rfl, ?_⟩) ?_ ?_
                        rotate_left
                        · intro w'
                          go_simp
                          with_reducible rfl
                        rotate_left
                        · simp only [Act.put, List.setIfInBounds_toArray, List.set_cons_zero, List.set_cons_succ, i64_w, i32_w]
                          rfl
                        refine pure_ (i := 6) (N := some 58) (v := undef) (a' := ?_) #[true, true, true, true, true, true, true, false, false, false, false, false, false] rfl rfl (any_of HT_.out (by kernel_rfl)) (fun _ _ _ h => h) (Or.inr ⟨by rfl, rfl⟩) ?_ ?_
                        rotate_left
                        · simp only [Act.put, List.setIfInBounds_toArray, List.set_cons_zero, List.set_cons_succ, i64_w, i32_w]
                          rfl
                        refine pure_ (i := 7) (N := some 59) (v := undef) (a' := ?_) #[true, true, true, true, true, true, true, true, false, false, false, false, false] rfl rfl (any_of HT_.out (by kernel_rfl)) (fun _ _ _ h => h) (Or.inr ⟨by rfl, rfl⟩) ?_ ?_
                        rotate_left
                        · simp only [Act.put, List.setIfInBounds_toArray, List.set_cons_zero, List.set_cons_succ, i64_w, i32_w]
                          rfl
                        refine pure_ (i := 8) (N := some 60) (v := undef) (a' := ?_) #[true, true, true, true, true, true, true, true, true, false, false, false, false] rfl rfl (any_of HT_.out (by kernel_rfl)) (fun _ _ _ h => h) (Or.inr ⟨by rfl, rfl⟩) ?_ ?_
                        rotate_left
                        · simp only [Act.put, List.setIfInBounds_toArray, List.set_cons_zero, List.set_cons_succ, i64_w, i32_w]
                          rfl
                        refine pure_ (i := 9) (N := some 61) (v := undef) (a' := ?_) #[true, true, true, true, true, true, true, true, true, true, false, false, false] rfl rfl (any_of HT_.out (by kernel_rfl)) (fun _ _ _ h => h) (Or.inr ⟨by rfl, rfl⟩) ?_ ?_
                        rotate_left
                        · simp only [Act.put, List.setIfInBounds_toArray, List.set_cons_zero, List.set_cons_succ, i64_w, i32_w]
                          rfl
                        refine pure_ (i := 10) (N := some 62) (v := undef) (a' := ?_) #[true, true, true, true, true, true, true, true, true, true, true, false, false] rfl rfl (any_of HT_.out (by kernel_rfl)) (fun _ _ _ h => h) (Or.inr ⟨by rfl, rfl⟩) ?_ ?_
                        rotate_left
                        · simp only [Act.put, List.setIfInBounds_toArray, List.set_cons_zero, List.set_cons_succ, i64_w, i32_w]
                          rfl
                        refine pure_ (i := 11) (N := some 63) (v := undef) (a' := ?_) #[true, true, true, true, true, true, true, true, true, true, true, true, false] rfl rfl (any_of HT_.out (by kernel_rfl)) (fun _ _ _ h => h) (Or.inr ⟨by rfl, rfl⟩) ?_ ?_
                        rotate_left
                        · simp only [Act.put, List.setIfInBounds_toArray, List.set_cons_zero, List.set_cons_succ, i64_w, i32_w]
                          rfl
                        refine pure_ (i := 12) (N := some 64) (v := ?_) (a' := ?_) #[true, true, true, true, true, true, true, true, true, true, true, true, true] rfl rfl (any_of HT_.out (by kernel_rfl)) (fun _ _ _ h => h) (Or.inl ⟨by rfl, ?_⟩) ?_ ?_
                        rotate_left
                        · intro w'
                          go_simp
                          with_reducible rfl
                        rotate_left
                        · simp only [Act.put, List.setIfInBounds_toArray, List.set_cons_zero, List.set_cons_succ, i64_w, i32_w]
                          rfl
                        refine done_ (done_of HT_.out (by kernel_rfl)) ?_

                        clear hHeld HT1 HB1 HG1 hWA
                        go_wp2
                        go_roundg (l.length - (k + 1))
                        case measure => exact lt_sub HJ4.out.1 HJ4.out.2.1
                        case rel => exact ⟨k + 1, m4, rfl, HJ4.out.1, rfl, HT2, HM5, HB2⟩
                      · simp only [Bool.true_and, beq_iff_eq] at HM5
                        have hcd : ((q[d]'HJ3.out.1).toNat : Int) = c := by rw [← bt_nat q d HJ3.out.1]; exact HC.out
                        have hdq := HJ3.out.1
                        have hdqI : (d : Int) < (q.size : Int) := Int.ofNat_lt.mpr hdq
                        have hdn : (0 : Int) ≤ (d : Int) := Int.natCast_nonneg d
                        cases hxb : c == x
                        · have hcx : ¬ c = x := beq_eq_false_iff_ne.mp hxb
                          simp only [if_neg hcx] at HM5
                          clear hcx
                          refine start_ (n := 13) (S := fun w' => w'.cell? ⟨w.heap.size, r * 5 + d, none⟩ = some (.bool true) ∧ w'.cell? ⟨wr.heap.size, 0, none⟩ = some (.int .u8 x)) (ds := []) #[false, false, false, false, false, false, false, false, false, false, false, false, false] (by kernel_rfl) rfl rfl ⟨hg1, hg0⟩ (fun hHeld => ?_); refine with_tabW reg49.tab19 reg49.bits19 (fun HT_ HW_ => ?_)
                          clear hg0 hg1
                          have HT2 := Lib.hid (blk_drew HT1.out)
                          have HB2 := Lib.hid (below_drew1 HB1.out)
                          generalize WA.drew = WD at hHeld HT2 HB2 ⊢
                          refine pure_ (i := 0) (N := some 52) (v := ?_) (a' := ?_) #[true, false, false, false, false, false, false, false, false, false, false, false, false] rfl rfl (any_of HT_.out (by kernel_rfl)) (fun _ _ _ h => h) (Or.inl ⟨by rfl, ?_⟩) ?_ ?_
                          rotate_left
                          · intro w'
                            go_simp
                            with_reducible rfl
                          rotate_left
                          · simp only [Act.put, List.setIfInBounds_toArray, List.set_cons_zero, List.set_cons_succ, i64_w, i32_w]
                            rfl
                          refine pure_ (i := 1) (N := some 53) (v := ?_) (a' := ?_) #[true, true, false, false, false, false, false, false, false, false, false, false, false] rfl rfl (any_of HT_.out (by kernel_rfl)) (fun _ _ _ h => h) (Or.inl ⟨by rfl, ?_⟩) ?_ ?_
                          rotate_left
                          · intro w'
                            go_simp
                            with_reducible rfl
                          rotate_left
                          · simp only [Act.put, List.setIfInBounds_toArray, List.set_cons_zero, List.set_cons_succ, i64_w, i32_w]
                            rfl
                          refine pure_ (i := 2) (N := some 54) (v := ?_) (a' := ?_) #[true, true, true, false, false, false, false, false, false, false, false, false, false] rfl rfl (any_of HT_.out (by kernel_rfl)) (fun _ _ _ h => h) (Or.inl ⟨by rfl, ?_⟩) ?_ ?_
                          rotate_left
                          · intro w'
                            go_simp
                            with_reducible rfl
                          rotate_left
                          · simp only [Act.put, List.setIfInBounds_toArray, List.set_cons_zero, List.set_cons_succ, i64_w, i32_w]
                            rfl
                          refine pure_ (i := 3) (N := some 55) (v := ?_) (a' := ?_) #[true, true, true, true, false, false, false, false, false, false, false, false, false] rfl rfl (any_of HT_.out (by kernel_rfl)) (fun _ _ _ h => h) (Or.inl ⟨by rfl, ?_⟩) ?_ ?_
                          rotate_left
                          · intro w'
                            go_simp
                            with_reducible rfl
                          rotate_left
                          · simp only [Act.put, List.setIfInBounds_toArray, List.set_cons_zero, List.set_cons_succ, i64_w, i32_w]
                            rfl
                          refine take_ (i := 4) (N := some 56) (v := ?_) (a' := ?_) #[true, true, true, true, true, false, false, false, false, false, false, false, false] rfl rfl (take_ofW HT_.out HW_.out (by kernel_rfl)) (fun _ _ _ h => h) (Or.inl ⟨by rfl, ?_⟩) hHeld ?_ ?_
                          rotate_left
                          · rintro w' ⟨s0, s1⟩
                            go_simp
                            with_reducible rfl
                          rotate_left
                          · simp only [Act.put, List.setIfInBounds_toArray, List.set_cons_zero, List.set_cons_succ, i64_w, i32_w]
                            rfl
                          refine pure_ (i := 5) (N := some 57) (v := ?_) (a' := ?_) #[true, true, true, true, true, true, false, false, false, false, false, false, false] rfl rfl (any_of HT_.out (by kernel_rfl)) (fun _ _ _ h => h) (Or.inl ⟨by rfl, ?_⟩) ?_ ?_
                          rotate_left
                          · intro w'
                            go_simp
                            with_reducible rfl
                          rotate_left
                          · simp only [Act.put, List.setIfInBounds_toArray, List.set_cons_zero, List.set_cons_succ, i64_w, i32_w]
                            rfl
                          refine pure_ (i := 6) (N := some 58) (v := ?_) (a' := ?_) #[true, true, true, true, true, true, true, false, false, false, false, false, false] rfl rfl (any_of HT_.out (by kernel_rfl)) (fun _ _ _ h => h) (Or.inl ⟨by rfl, ?_⟩) ?_ ?_
                          rotate_left
                          · intro w'
                            go_simp
                            with_reducible rfl
                          rotate_left
                          · simp only [Act.put, List.setIfInBounds_toArray, List.set_cons_zero, List.set_cons_succ, i64_w, i32_w]
                            rfl
                          refine pure_ (i := 7) (N := some 59) (v := ?_) (a' := ?_) #[true, true, true, true, true, true, true, true, false, false, false, false, false] rfl rfl (any_of HT_.out (by kernel_rfl)) (fun _ _ _ h => h) (Or.inl ⟨by rfl, ?_⟩) ?_ ?_
                          rotate_left
                          · intro w'
                            go_simp
                            with_reducible rfl
                          rotate_left
                          · simp only [Act.put, List.setIfInBounds_toArray, List.set_cons_zero, List.set_cons_succ, i64_w, i32_w]
                            rfl
                          refine pure_ (i := 9) (N := some 61) (v := ?_) (a' := ?_) #[true, true, true, true, true, true, true, true, false, true, false, false, false] rfl rfl (any_of HT_.out (by kernel_rfl)) (fun _ _ _ h => h) (Or.inl ⟨by rfl, ?_⟩) ?_ ?_
                          rotate_left
                          · intro w'
                            go_simp
                            with_reducible rfl
                          rotate_left
                          · simp only [Act.put, List.setIfInBounds_toArray, List.set_cons_zero, List.set_cons_succ, i64_w, i32_w]
                            rfl
                          refine take_ (i := 8) (N := some 60) (v := ?_) (a' := ?_) #[true, true, true, true, true, true, true, true, true, true, false, false, false] rfl rfl (take_ofW HT_.out HW_.out (by kernel_rfl)) (fun _ _ _ h => h) (Or.inl ⟨by rfl, ?_⟩) hHeld ?_ ?_
                          rotate_left
                          · rintro w' ⟨s0, s1⟩
                            go_simp
                            with_reducible rfl
                          rotate_left
                          · simp only [Act.put, List.setIfInBounds_toArray, List.set_cons_zero, List.set_cons_succ, i64_w, i32_w]
                            rfl
                          refine take_ (i := 10) (N := some 62) (v := ?_) (a' := ?_) #[true, true, true, true, true, true, true, true, true, true, true, false, false] rfl rfl (take_ofW HT_.out HW_.out (by kernel_rfl)) (fun _ _ _ h => h) (Or.inl ⟨by rfl, ?_⟩) hHeld ?_ ?_
                          rotate_left
                          · rintro w' ⟨s0, s1⟩
                            go_simp
                            with_reducible rfl
                          rotate_left
                          · simp only [Act.put, List.setIfInBounds_toArray, List.set_cons_zero, List.set_cons_succ, i64_w, i32_w]
                            rfl
                          refine pure_ (i := 11) (N := some 63) (v := ?_) (a' := ?_) #[true, true, true, true, true, true, true, true, true, true, true, true, false] rfl rfl (any_of HT_.out (by kernel_rfl)) (fun _ _ _ h => h) (Or.inl ⟨by rfl, ?_⟩) ?_ ?_
                          rotate_left
                          · intro w'
                            go_simp
                            with_reducible rfl
                          rotate_left
                          · simp only [Act.put, List.setIfInBounds_toArray, List.set_cons_zero, List.set_cons_succ, i64_w, i32_w]
                            rfl
                          refine pure_ (i := 12) (N := some 64) (v := ?_) (a' := ?_) #[true, true, true, true, true, true, true, true, true, true, true, true, true] rfl rfl (any_of HT_.out (by kernel_rfl)) (fun _ _ _ h => h) (Or.inl ⟨by rfl, ?_⟩) ?_ ?_
                          rotate_left
                          · intro w'
                            go_simp
                            with_reducible rfl
                          rotate_left
                          · simp only [Act.put, List.setIfInBounds_toArray, List.set_cons_zero, List.set_cons_succ, i64_w, i32_w]
                            rfl
                          refine done_ (done_of HT_.out (by kernel_rfl)) ?_

                          clear hHeld HT1 HB1 HG1 hWA
                          go_wp2
                          go_roundg (l.length - (k + 1))
                          case measure => exact lt_sub HJ4.out.1 HJ4.out.2.1
                          case rel => exact ⟨k + 1, m4, rfl, HJ4.out.1, rfl, HT2, HM5, HB2⟩
                        · have hcx : c = x := eq_of_beq hxb
                          simp only [if_pos hcx] at HM5
                          clear hcx
                          refine start_ (n := 13) (S := fun w' => w'.cell? ⟨w.heap.size, r * 5 + d, none⟩ = some (.bool true) ∧ w'.cell? ⟨wr.heap.size, 0, none⟩ = some (.int .u8 x)) (ds := []) #[false, false, false, false, false, false, false, false, false, false, false, false, false] (by kernel_rfl) rfl rfl ⟨hg1, hg0⟩ (fun hHeld => ?_); refine with_tabW reg49.tab19 reg49.bits19 (fun HT_ HW_ => ?_)
                          clear hg0 hg1
                          have HT2 := Lib.hid (blk_drew HT1.out)
                          have HB2 := Lib.hid (below_drew1 HB1.out)
                          generalize WA.drew = WD at hHeld HT2 HB2 ⊢
                          refine pure_ (i := 0) (N := some 52) (v := ?_) (a' := ?_) #[true, false, false, false, false, false, false, false, false, false, false, false, false] rfl rfl (any_of HT_.out (by kernel_rfl)) (fun _ _ _ h => h) (Or.inl ⟨by rfl, ?_⟩) ?_ ?_
                          rotate_left
                          · intro w'
                            go_simp
                            with_reducible rfl
                          rotate_left
                          · simp only [Act.put, List.setIfInBounds_toArray, List.set_cons_zero, List.set_cons_succ, i64_w, i32_w]
                            rfl
                          refine pure_ (i := 1) (N := some 53) (v := ?_) (a' := ?_) #[true, true, false, false, false, false, false, false, false, false, false, false, false] rfl rfl (any_of HT_.out (by kernel_rfl)) (fun _ _ _ h => h) (Or.inl ⟨by rfl, ?_⟩) ?_ ?_
                          rotate_left
                          · intro w'
                            go_simp
                            with_reducible rfl
                          rotate_left
                          · simp only [Act.put, List.setIfInBounds_toArray, List.set_cons_zero, List.set_cons_succ, i64_w, i32_w]
                            rfl
                          refine pure_ (i := 2) (N := some 54) (v := ?_) (a' := ?_) #[true, true, true, false, false, false, false, false, false, false, false, false, false] rfl rfl (any_of HT_.out (by kernel_rfl)) (fun _ _ _ h => h) (Or.inl ⟨by rfl, ?_⟩) ?_ ?_
                          rotate_left
                          · intro w'
                            go_simp
                            with_reducible rfl
                          rotate_left
                          · simp only [Act.put, List.setIfInBounds_toArray, List.set_cons_zero, List.set_cons_succ, i64_w, i32_w]
                            rfl
                          refine pure_ (i := 3) (N := some 55) (v := ?_) (a' := ?_) #[true, true, true, true, false, false, false, false, false, false, false, false, false] rfl rfl (any_of HT_.out (by kernel_rfl)) (fun _ _ _ h => h) (Or.inl ⟨by rfl, ?_⟩) ?_ ?_
                          rotate_left
                          · intro w'
                            go_simp
                            with_reducible rfl
                          rotate_left
                          · simp only [Act.put, List.setIfInBounds_toArray, List.set_cons_zero, List.set_cons_succ, i64_w, i32_w]
                            rfl
                          refine take_ (i := 4) (N := some 56) (v := ?_) (a' := ?_) #[true, true, true, true, true, false, false, false, false, false, false, false, false] rfl rfl (take_ofW HT_.out HW_.out (by kernel_rfl)) (fun _ _ _ h => h) (Or.inl ⟨by rfl, ?_⟩) hHeld ?_ ?_
                          rotate_left
                          · rintro w' ⟨s0, s1⟩
                            go_simp
                            with_reducible rfl
                          rotate_left
                          · simp only [Act.put, List.setIfInBounds_toArray, List.set_cons_zero, List.set_cons_succ, i64_w, i32_w]
                            rfl
                          refine pure_ (i := 5) (N := some 57) (v := ?_) (a' := ?_) #[true, true, true, true, true, true, false, false, false, false, false, false, false] rfl rfl (any_of HT_.out (by kernel_rfl)) (fun _ _ _ h => h) (Or.inl ⟨by rfl, ?_⟩) ?_ ?_
                          rotate_left
                          · intro w'
                            go_simp
                            with_reducible rfl
                          rotate_left
                          · simp only [Act.put, List.setIfInBounds_toArray, List.set_cons_zero, List.set_cons_succ, i64_w, i32_w]
                            rfl
                          refine pure_ (i := 6) (N := some 58) (v := ?_) (a' := ?_) #[true, true, true, true, true, true, true, false, false, false, false, false, false] rfl rfl (any_of HT_.out (by kernel_rfl)) (fun _ _ _ h => h) (Or.inl ⟨by rfl, ?_⟩) ?_ ?_
                          rotate_left
                          · intro w'
                            go_simp
                            with_reducible rfl
                          rotate_left
                          · simp only [Act.put, List.setIfInBounds_toArray, List.set_cons_zero, List.set_cons_succ, i64_w, i32_w]
                            rfl
                          refine pure_ (i := 7) (N := some 59) (v := ?_) (a' := ?_) #[true, true, true, true, true, true, true, true, false, false, false, false, false] rfl rfl (any_of HT_.out (by kernel_rfl)) (fun _ _ _ h => h) (Or.inl ⟨by rfl, ?_⟩) ?_ ?_
                          rotate_left
                          · intro w'
                            go_simp
                            with_reducible rfl
                          rotate_left
                          · simp only [Act.put, List.setIfInBounds_toArray, List.set_cons_zero, List.set_cons_succ, i64_w, i32_w]
                            rfl
                          refine pure_ (i := 9) (N := some 61) (v := ?_) (a' := ?_) #[true, true, true, true, true, true, true, true, false, true, false, false, false] rfl rfl (any_of HT_.out (by kernel_rfl)) (fun _ _ _ h => h) (Or.inl ⟨by rfl, ?_⟩) ?_ ?_
                          rotate_left
                          · intro w'
                            go_simp
                            with_reducible rfl
                          rotate_left
                          · simp only [Act.put, List.setIfInBounds_toArray, List.set_cons_zero, List.set_cons_succ, i64_w, i32_w]
                            rfl
                          refine take_ (i := 8) (N := some 60) (v := ?_) (a' := ?_) #[true, true, true, true, true, true, true, true, true, true, false, false, false] rfl rfl (take_ofW HT_.out HW_.out (by kernel_rfl)) (fun _ _ _ h => h) (Or.inl ⟨by rfl, ?_⟩) hHeld ?_ ?_
                          rotate_left
                          · rintro w' ⟨s0, s1⟩
                            go_simp
                            with_reducible rfl
                          rotate_left
                          · simp only [Act.put, List.setIfInBounds_toArray, List.set_cons_zero, List.set_cons_succ, i64_w, i32_w]
                            rfl
                          refine take_ (i := 10) (N := some 62) (v := ?_) (a' := ?_) #[true, true, true, true, true, true, true, true, true, true, true, false, false] rfl rfl (take_ofW HT_.out HW_.out (by kernel_rfl)) (fun _ _ _ h => h) (Or.inl ⟨by rfl, ?_⟩) hHeld ?_ ?_
                          rotate_left
                          · rintro w' ⟨s0, s1⟩
                            go_simp
                            with_reducible rfl
                          rotate_left
                          · simp only [Act.put, List.setIfInBounds_toArray, List.set_cons_zero, List.set_cons_succ, i64_w, i32_w]
                            rfl
                          refine pure_ (i := 11) (N := some 63) (v := ?_) (a' := ?_) #[true, true, true, true, true, true, true, true, true, true, true, true, false] rfl rfl (any_of HT_.out (by kernel_rfl)) (fun _ _ _ h => h) (Or.inl ⟨by rfl, ?_⟩) ?_ ?_
                          rotate_left
                          · intro w'
                            go_simp
                            with_reducible rfl
                          rotate_left
                          · simp only [Act.put, List.setIfInBounds_toArray, List.set_cons_zero, List.set_cons_succ, i64_w, i32_w]
                            rfl
                          refine pure_ (i := 12) (N := some 64) (v := ?_) (a' := ?_) #[true, true, true, true, true, true, true, true, true, true, true, true, true] rfl rfl (any_of HT_.out (by kernel_rfl)) (fun _ _ _ h => h) (Or.inl ⟨by rfl, ?_⟩) ?_ ?_
                          rotate_left
                          · intro w'
                            go_simp
                            with_reducible rfl
                          rotate_left
                          · simp only [Act.put, List.setIfInBounds_toArray, List.set_cons_zero, List.set_cons_succ, i64_w, i32_w]
                            rfl
                          refine done_ (done_of HT_.out (by kernel_rfl)) ?_

                          have hz1 := (blk_cell HT2.out (k * 5)).trans (arrB_get m4 (k * 5) (by rw [HM5.out.1]; exact idx45 (b := 0) (Nat.le_of_lt HJ4.out.1) hlen.out (by decide)))
                          have hz2 := blk_frozen HT2.out (k * 5)
                          have HT3 := Lib.hid (blk_put HT2.out (k * 5) (.bool true) (arrB_set m4 (k * 5)))
                          have HB3 := Lib.hid (below_set (j := k * 5) (v := .bool true) HB2.out (Nat.le_refl _))
                          clear hHeld HT1 HB1 HG1 hWA
                          go_wp2
                          go_roundg (l.length - (k + 1))
                          case measure => exact lt_sub HJ4.out.1 HJ4.out.2.1
                          case rel => exact ⟨k + 1, m4.set (k * 5) true, rfl, HJ4.out.1, rfl, HT3, Lib.hid ⟨by rw [List.length_set]; exact HM5.out.1, HM5.out.2⟩, HB3⟩
                    · have hkn : ¬ (k : Int) < (l.length : Int) := fun h => hkl (Int.ofNat_lt.mp h)
                      have hM := HMK.out
                      rw [List.drop_of_length_le (by rw [gr41_len]; exact Nat.not_lt.1 hkl)] at hM
                      simp only [refK] at hM
                      have HM5 := Lib.hid hM
                      have hw := HJ3.out.2.2.1
                      clear hM HMK
                      go_wp2
                      go_roundg (q.size - (d + 1))
                      case measure => exact lt_sub HJ3.out.1 HJ3.out.2.1
                      case rel => exact ⟨d + 1, m4, rfl, HJ3.out.1, rfl, HT, Lib.hid ⟨HM5.out.1, by rw [HM5.out.2]; exact HM4.out.2⟩, HB⟩
                · have hdn : ¬ (d : Int) < (q.size : Int) := fun h => hdl (Int.ofNat_lt.mp h)
                  have hM := HMD.out
                  rw [List.drop_of_length_le (by rw [bytesOf_length]; exact Nat.not_lt.1 hdl)] at hM
                  simp only [refD] at hM
                  have HM5 := Lib.hid hM
                  have hw := HJ2.out.2.2
                  clear hM HMD
                  go_wp2
                  go_roundg (l.length + 1 - (r + 1))
                  case measure => exact lt_sub HJ2.out.1 HJ2.out.2.1
                  case rel => exact ⟨r + 1, m3, rfl, HJ2.out.1, rfl, HT, Lib.hid ⟨HM5.out.1, by rw [HM5.out.2]; exact HM3.out.2⟩, HB⟩
            · have hrn : ¬ (r : Int) < (l.length : Int) + 1 := fun h => hrl (Int.ofNat_lt.mp h)
              have hM := HMI.out
              rw [show l.length + 1 - r = 0 from Nat.sub_eq_zero_of_le (Nat.not_lt.1 hrl)] at hM
              simp only [refI] at hM
              have HM5 := Lib.hid hM
              have hw := HJ.out.2.2
              clear hM HMI
              go_wp2
              go_roundg (45 - (j + 1))
              case measure => exact lt_sub HJ.out.1 HJ.out.2.1
              case rel => exact ⟨j + 1, m2, rfl, HJ.out.1, rfl, HT, Lib.hid ⟨HM5.out.1, by rw [HM5.out.2, ← gr41_len]; exact HM2.out.2⟩, HB⟩
        · have hjn : ¬ (j : Int) < 45 := fun h => hjl (Int.ofNat_lt.mp h)
          have hM := HM.out
          rw [show 45 - j = 0 from Nat.sub_eq_zero_of_le (Nat.not_lt.1 hjl)] at hM
          simp only [refN] at hM
          have HM2 := Lib.hid hM
          have hwl : (l.length : Int) ≤ 8 := Int.ofNat_le.mpr hlen.out
          clear hM HM
          go_wp2
          clear hwl
          obtain ⟨RO, hRO⟩ : ∃ RO, (refOut m (l.length + 1) 0).map to39 = RO := ⟨_, rfl⟩
          have HRO := Lib.hid hRO
          clear hRO
          go_loopg [13, 75] (l.length + 1) (fun kq v13 v75 w' => ∃ (r : Nat) (zs : List S39), v75 = .int .i64 (r : Int) ∧ r ≤ l.length + 1 ∧ kq = l.length + 1 - r ∧ Hid (w'.heap[w.heap.size]? = some (.cells (arrB m) 137 (0, 0))) ∧ Hid (Kd.R k39 39 w' w.heap.size (fun _ => True) v13 zs) ∧ Hid (zs ++ (refOut m (l.length + 1 - r) r).map to39 = RO ∧ zs.length ≤ r * 5) ∧ Hid (Below w.heap.size w w'))
          case atStart => exact ⟨0, [], rfl, Nat.zero_le _, rfl, HT, Lib.hid (Kd.R_nil _ _ _ _ _), Lib.hid ⟨HRO.out, Nat.zero_le _⟩, HB⟩
          case round =>
            clear HT HB hjn hkq hjl hj
            obtain ⟨r, zs, rfl, hr, hkq, HT, HO, HZ, HB⟩ := hrel
            by_cases hrl : r < l.length + 1
            · have hrI : (r : Int) < (l.length : Int) + 1 := Int.ofNat_lt.mpr hrl
              have hr0 : (0 : Int) ≤ (r : Int) := Int.natCast_nonneg r
              have hr9 : (r : Int) < 9 := Int.ofNat_lt.mpr (Nat.lt_of_lt_of_le hrl (Nat.succ_le_succ hlen.out))
              have hM := HZ.out
              rw [show l.length + 1 - r = (l.length + 1 - (r + 1)) + 1 from sub_succ hrl] at hM
              simp only [refOut, List.map_append] at hM
              have HM3 := Lib.hid hM
              have HJ2 := Lib.hid (And.intro hrl hkq)
              clear hM HZ hkq hrl hr
              go_wp2
              obtain ⟨RW, hRW⟩ : ∃ RW, (refRow m r 5 0).map to39 = RW := ⟨_, rfl⟩
              rw [hRW] at HM3
              have HRW := Lib.hid hRW
              clear hRW
              go_loopg [13, 78] 5 (fun kq v13 v78 w' => ∃ (d : Nat) (ys : List S39), v78 = .int .i64 (d : Int) ∧ d ≤ 5 ∧ kq = 5 - d ∧ Hid (w'.heap[w.heap.size]? = some (.cells (arrB m) 137 (0, 0))) ∧ Hid (Kd.R k39 39 w' w.heap.size (fun _ => True) v13 ys) ∧ Hid (ys ++ (refRow m r (5 - d) d).map to39 = zs ++ RW ∧ ys.length ≤ r * 5 + d) ∧ Hid (Below w.heap.size w w'))
              case atStart => exact ⟨0, zs, rfl, Nat.zero_le _, rfl, HT, HO, Lib.hid ⟨by rw [← HRW.out], HM3.out.2⟩, HB⟩
              case round =>
                clear HT HB HO
                obtain ⟨d, ys, rfl, hd, hkq, HT, HO, HY, HB⟩ := hrel
                by_cases hdl : d < 5
                · have hdI : (d : Int) < 5 := Int.ofNat_lt.mpr hdl
                  have hd0 : (0 : Int) ≤ (d : Int) := Int.natCast_nonneg d
                  obtain ⟨bb, hbb⟩ : ∃ bb, m.getD (r * 5 + d) false = bb := ⟨_, rfl⟩
                  have hg1 := (blk_cell HT.out (r * 5 + d)).trans ((arrB_get m (r * 5 + d) (by rw [HM2.out.1]; exact idx45 (Nat.le_of_lt_succ HJ2.out.1) hlen.out hdl)).trans (show _ = some (Value.bool bb) by rw [hbb]))
                  have hM := HY.out
                  rw [show 5 - d = (5 - (d + 1)) + 1 from sub_succ hdl] at hM
                  simp only [refRow] at hM
                  rw [hbb] at hM
                  have HM6 := Lib.hid hM
                  have HJ3 := Lib.hid (And.intro hdl hkq)
                  clear hM HY hbb hkq hdl hd
                  cases bb
                  · simp only [Bool.false_eq_true, if_false] at HM6
                    go_wp2
                    go_roundg (5 - (d + 1))
                    case measure => exact lt_sub HJ3.out.1 HJ3.out.2
                    case rel => exact ⟨d + 1, ys, rfl, HJ3.out.1, rfl, HT, HO, Lib.hid ⟨HM6.out.1, Nat.le_succ_of_le HM6.out.2⟩, HB⟩
                  · simp only [if_true, List.map_cons] at HM6
                    obtain ⟨AZ, cz, hvz, hcz, hCz⟩ := Kd.R_reads HO.out
                    subst hvz
                    clear hCz hcz
                    have hbig : (ys.length + 1) * 16 ≤ 140737488355328 := big45 HM6.out.2 HJ2.out.1 hlen.out HJ3.out.1
                    go_wp2_with ((with_reducible refine gate_builtin (b := .append) (xs := #[.tmp 86, .tmp 90]) rfl ?_); at_builtin; go_must (refine Kd.R_append k39 (w0 := w) w.heap.size rfl (.tmp 86) (.tmp 90) 35 39 (.agg #[(.int .i64 0), (.int .i64 0)]) 16 rfl Tryd.underlying35 info39 rfl (by decide) (by decide) (.slice AZ ys.length cz) ys (⟨(r : Int), (d : Int)⟩ : S39) [.int .i64 r, .int .i64 d] (fun _ => True) (fun _ => False) rfl rfl (k39_mkM _ _ _ (⟨(r : Int), (d : Int)⟩ : S39)) (fun _ hk => hk.elim) (fun _ _ => trivial) HO.out HB.out (below_size HB.out) hbig ?_); intro v4 w4 ho hb hgg hat; have HO4 := Lib.hid ho; have HB4 := Lib.hid hb; have HT4 := Lib.hid (blk_grown HT.out hgg (Kd.R_ne HO.out HT.out (by decide))); clear ho hb hgg hat hbig hg1)
                    go_roundg (5 - (d + 1))
                    case measure => exact lt_sub HJ3.out.1 HJ3.out.2
                    case rel => exact ⟨d + 1, ys ++ [⟨(r : Int), (d : Int)⟩], rfl, HJ3.out.1, rfl, HT4, HO4, Lib.hid ⟨by rw [List.append_assoc]; exact HM6.out.1, by rw [List.length_append]; exact Nat.succ_le_succ HM6.out.2⟩, HB4⟩
                · have hdn : ¬ (d : Int) < 5 := fun h => hdl (Int.ofNat_lt.mp h)
                  have hd5 : d = 5 := Nat.le_antisymm hd (Nat.not_lt.1 hdl)
                  have hM := HY.out
                  rw [hd5] at hM
                  simp only [Nat.sub_self, refRow, List.map_nil, List.append_nil] at hM
                  have HM6 := Lib.hid hM
                  have hw : wrap64 ((r : Int) + 1) = (r : Int) + 1 := wrap64_succ (n := l.length + 1) hr0 ⟨hrI, Nat.lt_of_le_of_lt (Nat.succ_le_succ hlen.out) (by decide)⟩
                  clear hM HY hd5 hkq hd hdl
                  go_wp2
                  go_roundg (l.length + 1 - (r + 1))
                  case measure => exact lt_sub HJ2.out.1 HJ2.out.2
                  case rel => exact ⟨r + 1, ys, rfl, HJ2.out.1, rfl, HT, HO, Lib.hid ⟨by rw [HM6.out.1, List.append_assoc]; exact HM3.out.1, by rw [Nat.add_mul]; exact HM6.out.2⟩, HB⟩
            · have hrn : ¬ (r : Int) < (l.length : Int) + 1 := fun h => hrl (Int.ofNat_lt.mp h)
              have hM := HZ.out
              rw [show l.length + 1 - r = 0 from Nat.sub_eq_zero_of_le (Nat.not_lt.1 hrl)] at hM
              simp only [refOut, List.map_nil, List.append_nil] at hM
              have HM5 := Lib.hid hM
              clear hM HZ
              go_wp2
              go_ret
              exact ⟨_, rfl, by unfold refClo; rw [HMF.out, ← HM2.out.2, gr41_len, HRO.out, ← HM5.out.1]; exact HO.out, HB.out⟩
def okGB (g : List (Int × List Int)) : Bool := decide (g.length ≤ 8) && g.all fun r => isPartB r.1 && (decide (r.2.length ≤ 4) && r.2.all letterB)
theorem okGB_iff {g : List (Int × List Int)} : okGB g = true ↔ okG g := by
  simp only [okGB, okG, Bool.and_eq_true, decide_eq_true_eq, List.all_eq_true]
def itB (n : Nat) (x : S39) : Bool := decide (0 ≤ x.f0 ∧ 0 ≤ x.f1 ∧ x.f1 < 5 ∧ x.f0 ≤ n)
theorem itB_iff {n : Nat} {x : S39} : itB n x = true ↔ inM (to95 x) ∧ x.f0 ≤ n := by
  simp only [itB, inM, to95, decide_eq_true_eq, and_assoc]
/-- What the reference's closure returns; 'none': not told. -/
def comfitref05_closure.f (l : List S41) (xs : List S39) : Option (List S39) :=
  if (okGB (gr41 l) && (decide (0 < l.length) && (xs.all (itB l.length) && decide (xs.length < 4611686018427387904)))) = true then some ((refClo (gr41 l) (xs.map to95)).map to39) else none
theorem closure_f {l : List S41} {xs : List S39} (h1 : okG (gr41 l)) (h2 : 0 < l.length) (h3 : ∀ x ∈ xs, inM (to95 x) ∧ x.f0 ≤ l.length) (h4 : xs.length < 4611686018427387904) : comfitref05_closure.f l xs = some ((refClo (gr41 l) (xs.map to95)).map to39) := by
  unfold comfitref05_closure.f
  rw [if_pos]
  simp only [Bool.and_eq_true, decide_eq_true_eq, List.all_eq_true]
  exact ⟨okGB_iff.2 h1, h2, fun x hx => itB_iff.2 (h3 x hx), h4⟩
theorem comfitref05_closure.calls (A0 : Option Addr) (c0 : Nat) (l : List S41) (A1 : Option Addr) (c1 : Nat) (xs : List S39) (r : List S39) (w : World) (hr0 : Kd.C k41 w A0 l.length l) (hc0 : l.length ≤ c0) (hr1 : Kd.C k39 w A1 xs.length xs) (hc1 : xs.length ≤ c1) (h : comfitref05_closure.f l xs = some r) :
    Calls Tryd.prog 49 #[.slice A0 l.length c0, .slice A1 xs.length c1] w fun e w' => ∃ v0_ : Value, e = .returned v0_ ∧ Kd.R k39 39 w' w.heap.size (fun _ => True) v0_ r ∧ Below w.heap.size w w' := by
  unfold comfitref05_closure.f at h
  split at h
  · rename_i hc
    simp only [Bool.and_eq_true, decide_eq_true_eq, List.all_eq_true] at hc
    obtain ⟨h1, h2, h3, h4⟩ := hc
    obtain rfl := Option.some.inj h
    exact clo49_any l A0 c0 xs A1 c1 w hr0 hc0 hr1 hc1 (okGB_iff.1 h1) h2 (fun x hx => itB_iff.1 (h3 x hx)) h4
  · cases h
end Go.Proofs.YtpmmfckgfbdboaaDoor.G
end

section
namespace Go.Proofs.YtpmmfckgfbdboaaDoor.G
set_option linter.unusedVariables false
set_option linter.unusedSimpArgs false
def refRowS (g : List (Int × List Int)) (s : List S95) : List Int → List (List S95) → Option (List (List S95))
  | [], sts => some sts
  | c :: cs, sts =>
    if movedP g c s ≠ [] ∧ findI sts (refClo g (movedP g c s)) 0 < 0 then
      (if sts.length + 1 > 64 then none else refRowS g s cs (sts ++ [refClo g (movedP g c s)]))
    else (if sts.length > 64 then none else refRowS g s cs sts)
def refStatesO (g : List (Int × List Int)) : Nat → Nat → List (List S95) → Option (Option (List (List S95)))
  | 0, _, _ => none
  | n + 1, i, sts => if i < sts.length then
      (match refRowS g (sts.getD i []) lettersP sts with
      | none => some none
      | some sts' => refStatesO g n (i + 1) sts')
    else some (some sts)
def goRow (g : List (Int × List Int)) (s : List S95) (cs : List Int) (F : List (List S95)) : List (Int × Int) :=
  cs.flatMap fun c => if movedP g c s = [] then [] else [(c, findI F (refClo g (movedP g c s)) 0)]
/-- A state as it should be. -/
def goodSt (g : List (Int × List Int)) (s : List S95) : Prop := Srt s ∧ ∀ x ∈ s, inM x ∧ x.f0 ≤ g.length
theorem srt_len (g : List (Int × List Int)) (hg : g.length ≤ 8) : ∀ (s : List S95) (a : Int), Srt s → (∀ x ∈ s, inM x ∧ x.f0 ≤ g.length ∧ a ≤ x.f0 * 5 + x.f1) → (s.length : Int) ≤ 45 - a ∨ s = []
  | [], a, _, _ => .inr rfl
  | x :: s, a, hs, h => by
    left
    obtain ⟨h1, h2, h3⟩ := h x (by simp)
    have hs' := List.pairwise_cons.1 hs
    have ih := srt_len g hg s (x.f0 * 5 + x.f1 + 1) hs'.2 (fun y hy => by
      obtain ⟨g1, g2, g3⟩ := h y (by simp [hy])
      refine ⟨g1, g2, ?_⟩
      have := hs'.1 y hy
      rw [ltItem_iff] at this
      obtain ⟨a1, a2, a3⟩ := h1
      obtain ⟨b1, b2, b3⟩ := g1
      omega)
    obtain ⟨a1, a2, a3⟩ := h1
    rcases ih with ih | ih
    · simp only [List.length_cons]; omega
    · subst ih; simp only [List.length_cons, List.length_nil]; omega
theorem goodSt_len {g : List (Int × List Int)} (hg : okG g) {s : List S95} (h : goodSt g s) : s.length ≤ 45 := by
  rcases srt_len g hg.1 s 0 h.1 (fun x hx => ⟨(h.2 x hx).1, (h.2 x hx).2, by obtain ⟨⟨a, b, c⟩, d⟩ := h.2 x hx; omega⟩) with h1 | h1
  · omega
  · subst h1; simp
theorem srt_nodup {s : List S95} (h : Srt s) : s.Nodup := by
  refine h.imp ?_
  rintro a b h rfl
  rw [lt_irrefl] at h; cases h
theorem letters_ne0 : ∀ c ∈ lettersP, c ≠ 0 := by decide
theorem moved_good {g : List (Int × List Int)} (hg : okG g) {s : List S95} (h : goodSt g s) {c : Int} (hc : c ≠ 0) : (∀ x ∈ movedP g c s, inM x ∧ x.f0 ≤ g.length) ∧ (movedP g c s).length ≤ 900 ∧ (movedP g c s).Nodup := by
  unfold movedP
  refine ⟨fun x hx => ?_, ?_, ?_⟩
  · obtain ⟨y, hy, rfl⟩ := List.mem_map.1 hx
    obtain ⟨hy1, hy2⟩ := List.mem_filter.1 hy
    obtain ⟨⟨a, b, d⟩, e⟩ := h.2 y hy1
    refine ⟨⟨a, by simp only; omega, ?_⟩, e⟩
    have hb : behindP g y = c := by simpa using hy2
    have hr := right_len' hg y.f0
    unfold behindP at hb
    rcases Nat.lt_or_ge y.f1.toNat (rightP g y.f0).length with h3 | h3
    · simp only; omega
    · rw [List.getD_eq_getElem?_getD, List.getElem?_eq_none h3] at hb
      exact absurd hb.symm hc
  · rw [List.length_map]
    have := List.length_filter_le (fun x => behindP g x == c) s
    have := goodSt_len hg h
    omega
  · have hn : (s.filter fun x => behindP g x == c).Nodup := (srt_nodup h.1).filter _
    refine List.Pairwise.map _ ?_ hn
    rintro ⟨a, b⟩ ⟨c', d⟩ hne he
    simp only [S95.mk.injEq] at he
    exact hne (by rw [S95.mk.injEq]; omega)
theorem clo_good {g : List (Int × List Int)} (hg : okG g) {s : List S95} (h : goodSt g s) {c : Int} (hc : c ≠ 0) : closF g (movedP g c s) = some (refClo g (movedP g c s)) ∧ goodSt g (refClo g (movedP g c s)) := by
  obtain ⟨h1, h2, h3⟩ := moved_good hg h hc
  exact ⟨closF_ref hg h1 h2 h3, refClo_srt _ _, fun x hx => der_in h1 x ((refClo_mem hg h1 x).1 hx)⟩
theorem findI_ge (y : List S95) : ∀ (l : List (List S95)) (i : Int), 0 ≤ i → (findI l y i < 0 ↔ y ∉ l) ∧ (y ∈ l → i ≤ findI l y i ∧ findI l y i < i + l.length ∧ l[(findI l y i - i).toNat]? = some y)
  | [], i, h => by simp [findI]
  | s :: l, i, h => by
    obtain ⟨ih1, ih2⟩ := findI_ge y l (i + 1) (by omega)
    simp only [findI]
    split
    · rename_i he
      rw [eqI_iff] at he
      subst he
      refine ⟨by simp; omega, fun _ => ⟨Int.le_refl _, by simp; omega, by simp⟩⟩
    · rename_i he
      have hne : y ≠ s := fun e => he ((eqI_iff s y).2 e.symm)
      refine ⟨ih1.trans (by simp [hne]), fun hm => ?_⟩
      have hm2 : y ∈ l := by simpa [hne] using hm
      obtain ⟨h1, h2, h3⟩ := ih2 hm2
      refine ⟨by omega, by simp; omega, ?_⟩
      rw [show (findI l y (i + 1) - i).toNat = (findI l y (i + 1) - (i + 1)).toNat + 1 by omega]
      simpa using h3
theorem findI_app (y : List S95) (t : List (List S95)) : ∀ (l : List (List S95)) (i : Int), y ∈ l → findI (l ++ t) y i = findI l y i
  | [], i, h => by simp at h
  | s :: l, i, h => by
    simp only [List.cons_append, findI]
    split
    · rfl
    · rename_i he
      have hne : y ≠ s := fun e => he ((eqI_iff s y).2 e.symm)
      exact findI_app y t l (i + 1) (by simpa [hne] using h)
theorem findI_new (y : List S95) : ∀ (l : List (List S95)) (i : Int), y ∉ l → findI (l ++ [y]) y i = i + l.length
  | [], i, h => by
    have : eqI y y = true := (eqI_iff y y).2 rfl
    simp [findI, this]
  | s :: l, i, h => by
    simp only [List.mem_cons, not_or] at h
    have hf : ¬ eqI s y = true := fun e => h.1 ((eqI_iff s y).1 e).symm
    simp only [List.cons_append, findI, if_neg hf]
    rw [findI_new y l (i + 1) h.2]
    simp only [List.length_cons]
    omega
theorem findI_pre {y : List S95} {l F : List (List S95)} (hp : l <+: F) (h : y ∈ l) (i : Int) : findI F y i = findI l y i := by
  obtain ⟨t, rfl⟩ := hp
  exact findI_app y t l i h
def Cov (g : List (Int × List Int)) (s : List S95) (cs : List Int) (sts : List (List S95)) : Prop := ∀ c ∈ cs, movedP g c s ≠ [] → refClo g (movedP g c s) ∈ sts
theorem Cov.mono {g : List (Int × List Int)} {s : List S95} {cs : List Int} {sts F : List (List S95)} (h : Cov g s cs sts) (hp : sts <+: F) : Cov g s cs F := fun c hc hm => hp.subset (h c hc hm)
theorem goRow_stable {g : List (Int × List Int)} {s : List S95} {sts F : List (List S95)} (hp : sts <+: F) : ∀ {cs : List Int}, Cov g s cs sts → goRow g s cs F = goRow g s cs sts
  | [], _ => rfl
  | c :: cs, h => by
    have ih := goRow_stable (g := g) (s := s) hp (cs := cs) (fun c' hc' => h c' (by simp [hc']))
    unfold goRow at *
    rw [List.flatMap_cons, List.flatMap_cons, ih]
    congr 1
    split
    · rfl
    · rename_i hm
      rw [findI_pre hp (h c (by simp) hm)]
def GoodS (g : List (Int × List Int)) (sts : List (List S95)) : Prop := sts.length ≤ 64 ∧ ∀ s ∈ sts, goodSt g s
theorem rowO_ref {g : List (Int × List Int)} (hg : okG g) {s : List S95} (hs : goodSt g s) : ∀ (cs : List Int) (sts : List (List S95)) (ms : List (Int × Int)), (∀ c ∈ cs, c ≠ 0) → GoodS g sts →
    rowO g s cs sts ms = some ((refRowS g s cs sts).map fun F => (F, ms ++ goRow g s cs F)) ∧ ∀ F, refRowS g s cs sts = some F → sts <+: F ∧ GoodS g F ∧ Cov g s cs F
  | [], sts, ms, _, hG => by
    refine ⟨by simp [rowO, refRowS, goRow], fun F hF => ?_⟩
    simp only [refRowS, Option.some.injEq] at hF
    subst hF
    exact ⟨List.prefix_refl _, hG, fun c hc => by simp at hc⟩
  | c :: cs, sts, ms, hcs, hG => by
    have hc0 := hcs c (by simp)
    have hcs' : ∀ c ∈ cs, c ≠ 0 := fun c' h => hcs c' (by simp [h])
    simp only [rowO, refRowS, letterO]
    by_cases hm : movedP g c s = []
    · rw [if_pos hm]
      have : ¬ (movedP g c s ≠ [] ∧ findI sts (refClo g (movedP g c s)) 0 < 0) := fun h => h.1 hm
      rw [if_neg this, if_neg (by have := hG.1; omega)]
      obtain ⟨ih1, ih2⟩ := rowO_ref hg hs cs sts ms hcs' hG
      refine ⟨?_, fun F hF => ?_⟩
      · simp only [Option.bind_some]
        rw [ih1]
        congr 2
        funext F
        simp [goRow, hm]
      · obtain ⟨h1, h2, h3⟩ := ih2 F hF
        refine ⟨h1, h2, fun c' hc' hm' => ?_⟩
        rcases List.mem_cons.1 hc' with rfl | h4
        · exact absurd hm hm'
        · exact h3 c' h4 hm'
    · obtain ⟨hcl, hgd⟩ := clo_good hg hs hc0
      rw [if_neg hm, hcl]
      simp only [Option.bind_some]
      generalize hys : refClo g (movedP g c s) = ys at *
      have hf := findI_ge ys sts 0 (Int.le_refl _)
      by_cases hn : findI sts ys 0 < 0
      · have hcond : movedP g c s ≠ [] ∧ findI sts ys 0 < 0 := ⟨hm, hn⟩
        rw [if_pos hcond, if_pos hn]
        have hni := hf.1.1 hn
        by_cases h64 : sts.length + 1 > 64
        · simp only [if_pos h64]
          exact ⟨rfl, fun F hF => by cases hF⟩
        · simp only [if_neg h64]
          have hG' : GoodS g (sts ++ [ys]) := ⟨by simp; omega, fun t ht => by
            rcases List.mem_append.1 ht with h | h
            · exact hG.2 t h
            · rw [List.mem_singleton.1 h]; exact hgd⟩
          obtain ⟨ih1, ih2⟩ := rowO_ref hg hs cs (sts ++ [ys]) (ms ++ [(c, (sts.length : Int))]) hcs' hG'
          simp only [Option.bind_some]
          rw [ih1]
          refine ⟨?_, fun F hF => ?_⟩
          · cases hR : refRowS g s cs (sts ++ [ys]) with
            | none => rfl
            | some F =>
              obtain ⟨h1, h2, h3⟩ := ih2 F hR
              have : findI F ys 0 = (sts.length : Int) := by rw [findI_pre h1 (by simp), findI_new ys sts 0 hni, Int.zero_add]
              simp [goRow, hm, hys, this]
          · obtain ⟨h1, h2, h3⟩ := ih2 F hF
            refine ⟨(List.prefix_append _ _).trans h1, h2, fun c' hc' hm' => ?_⟩
            rcases List.mem_cons.1 hc' with rfl | h4
            · rw [hys]; exact h1.subset (by simp)
            · exact h3 c' h4 hm'
      · have hcond : ¬ (movedP g c s ≠ [] ∧ findI sts ys 0 < 0) := fun h => hn h.2
        rw [if_neg hcond, if_neg hn]
        have hin : ys ∈ sts := Classical.byContradiction fun h => hn (hf.1.2 h)
        have h65 : ¬ sts.length > 64 := by have := hG.1; omega
        simp only [if_neg h65]
        obtain ⟨ih1, ih2⟩ := rowO_ref hg hs cs sts (ms ++ [(c, findI sts ys 0)]) hcs' hG
        simp only [Option.bind_some]
        rw [ih1]
        refine ⟨?_, fun F hF => ?_⟩
        · cases hR : refRowS g s cs sts with
          | none => rfl
          | some F =>
            obtain ⟨h1, h2, h3⟩ := ih2 F hR
            have : findI F ys 0 = findI sts ys 0 := findI_pre h1 hin 0
            simp [goRow, hm, hys, this]
        · obtain ⟨h1, h2, h3⟩ := ih2 F hF
          refine ⟨h1, h2, fun c' hc' hm' => ?_⟩
          rcases List.mem_cons.1 hc' with rfl | h4
          · rw [hys]; exact h1.subset hin
          · exact h3 c' h4 hm'
theorem getD_good {g : List (Int × List Int)} {sts : List (List S95)} {i : Nat} (h : i < sts.length) (hG : GoodS g sts) : goodSt g (sts.getD i []) ∧ sts.getD i [] = sts[i] := by
  have : sts.getD i [] = sts[i] := by simp [h]
  exact ⟨by rw [this]; exact hG.2 _ (List.getElem_mem h), this⟩
def gosOf (g : List (Int × List Int)) (l F : List (List S95)) : List (List (Int × Int)) := l.map fun s => goRow g s lettersP F
theorem buildO_ref {g : List (Int × List Int)} (hg : okG g) : ∀ (n i : Nat) (sts : List (List S95)), GoodS g sts → i ≤ sts.length → (∀ s ∈ sts.take i, Cov g s lettersP sts) →
    buildO g n i sts (gosOf g (sts.take i) sts) = (refStatesO g n i sts).map (Option.map fun F => (F, gosOf g F F)) ∧ ∀ F, refStatesO g n i sts = some (some F) → sts <+: F ∧ GoodS g F ∧ ∀ s ∈ F, Cov g s lettersP F
  | 0, i, sts, _, _, _ => ⟨rfl, fun F hF => by cases hF⟩
  | n + 1, i, sts, hG, hi, hC => by
    simp only [buildO, refStatesO]
    by_cases hlt : i < sts.length
    · rw [if_pos hlt, if_pos hlt]
      obtain ⟨hs, hse⟩ := getD_good hlt hG
      obtain ⟨h1, h2⟩ := rowO_ref hg hs lettersP sts [] letters_ne0 hG
      rw [h1]
      cases hR : refRowS g (sts.getD i []) lettersP sts with
      | none => exact ⟨rfl, fun F hF => by cases hF⟩
      | some F =>
        obtain ⟨hp, hG', hCv⟩ := h2 F hR
        have htk : F.take (i + 1) = sts.take i ++ [sts.getD i []] := by
          obtain ⟨t, rfl⟩ := hp
          rw [List.take_append_of_le_length (by omega), List.take_succ_eq_append_getElem hlt, hse]
        have hC' : ∀ s ∈ F.take (i + 1), Cov g s lettersP F := fun s hs' => by
          rw [htk] at hs'
          rcases List.mem_append.1 hs' with h | h
          · exact (hC s h).mono hp
          · rw [List.mem_singleton.1 h]; exact hCv
        have hgos : gosOf g (sts.take i) sts ++ [goRow g (sts.getD i []) lettersP F] = gosOf g (F.take (i + 1)) F := by
          rw [htk]
          unfold gosOf
          rw [List.map_append, List.map_singleton]
          congr 1
          exact List.map_congr_left fun s hs' => (goRow_stable hp (hC s hs')).symm
        have hlF : i + 1 ≤ F.length := by have := hp.length_le; omega
        obtain ⟨ih1, ih2⟩ := buildO_ref hg n (i + 1) F hG' hlF hC'
        simp only [Option.map_some, Option.bind_some, List.nil_append]
        rw [hgos]
        refine ⟨ih1, fun F' hF' => ?_⟩
        obtain ⟨q1, q2, q3⟩ := ih2 F' hF'
        exact ⟨hp.trans q1, q2, q3⟩
    · rw [if_neg hlt, if_neg hlt]
      have hie : sts.take i = sts := List.take_of_length_le (by omega)
      rw [hie] at hC ⊢
      refine ⟨rfl, fun F hF => ?_⟩
      simp only [Option.some.injEq] at hF
      subst hF
      exact ⟨List.prefix_refl _, hG, hC⟩
theorem refStatesO_some {g : List (Int × List Int)} (hg : okG g) : ∀ (n i : Nat) (sts : List (List S95)), GoodS g sts → i ≤ sts.length → 65 < n + i → ∃ r, refStatesO g n i sts = some r
  | 0, i, sts, hG, hi, h => by have := hG.1; omega
  | n + 1, i, sts, hG, hi, h => by
    simp only [refStatesO]
    by_cases hlt : i < sts.length
    · rw [if_pos hlt]
      obtain ⟨hs, hse⟩ := getD_good hlt hG
      obtain ⟨h1, h2⟩ := rowO_ref hg hs lettersP sts [] letters_ne0 hG
      cases hR : refRowS g (sts.getD i []) lettersP sts with
      | none => exact ⟨none, rfl⟩
      | some F =>
        obtain ⟨hp, hG', hCv⟩ := h2 F hR
        exact refStatesO_some hg n (i + 1) F hG' (by have := hp.length_le; omega) (by omega)
    · rw [if_neg hlt]; exact ⟨_, rfl⟩
def startS (g : List (Int × List Int)) : List S95 := refClo g [⟨(g.length : Int), 0⟩]
def refStates (g : List (Int × List Int)) : Option (List (List S95)) := ((refStatesO g 66 0 [startS g]).getD none)
theorem start_ok (g : List (Int × List Int)) : ∀ x ∈ [(⟨(g.length : Int), 0⟩ : S95)], inM x ∧ x.f0 ≤ g.length := fun x hx => by
  rw [List.mem_singleton.1 hx]
  exact ⟨⟨by simp, by simp, by simp⟩, by simp⟩
theorem start_good {g : List (Int × List Int)} (hg : okG g) : GoodS g [startS g] := ⟨by simp, fun s hs => by
  rw [List.mem_singleton.1 hs]
  exact ⟨refClo_srt _ _, fun x hx => der_in (start_ok g) x ((refClo_mem hg (start_ok g) x).1 hx)⟩⟩
theorem getElem?_pre {α : Type} {l F : List α} (hp : l <+: F) {j : Nat} {x : α} (h : l[j]? = some x) : F[j]? = some x := by
  obtain ⟨t, rfl⟩ := hp
  rw [List.getElem?_append_left (List.getElem?_eq_some_iff.1 h).1]
  exact h
/-- The table, told by the reference's states. -/
theorem buildP_ref {g : List (Int × List Int)} (hg : okG g) : buildP g = some ((refStates g).map fun F => (F, gosOf g F F)) := by
  unfold buildP refStates
  rw [closF_ref hg (start_ok g) (by simp) (by simp)]
  simp only [Option.bind_some]
  obtain ⟨r, hr⟩ := refStatesO_some hg 66 0 [startS g] (start_good hg) (by simp) (by omega)
  have := (buildO_ref hg 66 0 [startS g] (start_good hg) (by simp) (fun s hs => by simp at hs)).1
  rw [show refClo g [⟨(g.length : Int), 0⟩] = startS g from rfl]
  simp only [List.take_zero, gosOf, List.map_nil] at this
  rw [this, hr]
  rfl
theorem refStates_good {g : List (Int × List Int)} (hg : okG g) {F : List (List S95)} (h : refStates g = some F) : [startS g] <+: F ∧ GoodS g F ∧ ∀ s ∈ F, Cov g s lettersP F := by
  unfold refStates at h
  obtain ⟨r, hr⟩ := refStatesO_some hg 66 0 [startS g] (start_good hg) (by simp) (by omega)
  rw [hr] at h
  simp only [Option.getD_some] at h
  subst h
  exact (buildO_ref hg 66 0 [startS g] (start_good hg) (by simp) (fun s hs => by simp at hs)).2 F hr
end Go.Proofs.YtpmmfckgfbdboaaDoor.G
end

section
namespace Go.Proofs.YtpmmfckgfbdboaaDoor.G
open Go.RowKit Go.Proofs.YtpmmfckgfbdboaaDoorW.PrintWords Go.Proofs.YtpmmfckgfbdboaaDoorW.PrintLast Go.Proofs.YtpmmfckgfbdboaaDoorW.PrintMore
attribute [local go_sem] max2_int min2_int max_two min_two max_three min_three max_four min_four   -- for this text's walks alone
set_option linter.unusedVariables false
set_option linter.unusedSimpArgs false

/-! ### comfitref05_over: function 50 -/
def comfitref05_over.l0 : Nat → List (S41) → Int → List (S39) → List (S39) → Int → Int → Option ((List (S39)) × Bool)
  | 0, _, _, _, _, _, _ => none
  | k + 1, x0, x2, x8, x12, x13, x14 => if x14 < x13 then (if 0 ≤ x14 then (if x14 < (x12.length : Int) then ((comfitref05_right.f x0 ((rd_T39 x12 x14).f0)).bind fun t160 => (if ((rd_T39 x12 x14).f1) < (t160.size : Int) then (if 0 ≤ ((rd_T39 x12 x14).f1) then (if (bt t160 ((rd_T39 x12 x14).f1)) = x2 then (if x8.length < 8796093022208 then (comfitref05_over.l0 k x0 x2 (x8 ++ [(⟨(rd_T39 x12 x14).f0, wrap64 (((rd_T39 x12 x14).f1) + 1)⟩ : S39)]) x12 x13 (wrap64 (x14 + 1))) else (none)) else (comfitref05_over.l0 k x0 x2 x8 x12 x13 (wrap64 (x14 + 1)))) else (none)) else (comfitref05_over.l0 k x0 x2 x8 x12 x13 (wrap64 (x14 + 1))))) else (none)) else (none)) else ((comfitref05_closure.f x0 x8).bind fun t164 => (some (t164, decide ((x8.length : Int) > 0))))
def comfitref05_over.f (k : Nat) (l0 : List (S41)) (l1 : List (S39)) (a2 : Int) : Option ((List (S39)) × Bool) := comfitref05_over.l0 k l0 a2 ([] : List (S39)) l1 (l1.length : Int) 0
theorem comfitref05_over.mono_l : ∀ k, (∀ y0 y1 y2 y3 y4 y5, LeO (comfitref05_over.l0 k y0 y1 y2 y3 y4 y5) (comfitref05_over.l0 (k + 1) y0 y1 y2 y3 y4 y5))
  | 0 => fun _ _ _ _ _ _ r h => by simp [comfitref05_over.l0] at h
  | k + 1 => by
    have ih0 := comfitref05_over.mono_l k
    · intro y0 y1 y2 y3 y4 y5
      unfold comfitref05_over.l0
      repeat' first
      | (with_reducible exact ih0 _ _ _ _ _ _)
      | (with_reducible exact LeO.refl _)
      | (with_reducible exact LeO.none _)
      | (with_reducible refine LeO.ite ?_ ?_)
      | (with_reducible refine LeO.bind ?_ (fun _ => ?_))
      | exact ih0 _ _ _ _ _ _
      | exact LeO.none _
      | refine LeO.ite ?_ ?_
      | refine LeO.bind ?_ (fun _ => ?_)
theorem comfitref05_over.mono : ∀ a0 a1 a2 k, LeO (comfitref05_over.f k a0 a1 a2) (comfitref05_over.f (k + 1) a0 a1 a2) := by
  intro a0 a1 a2 k
  have ih0 := comfitref05_over.mono_l k
  unfold comfitref05_over.f
  repeat' first
      | (with_reducible exact ih0 _ _ _ _ _ _)
      | (with_reducible exact LeO.refl _)
      | (with_reducible exact LeO.none _)
      | (with_reducible refine LeO.ite ?_ ?_)
      | (with_reducible refine LeO.bind ?_ (fun _ => ?_))
      | exact ih0 _ _ _ _ _ _
      | exact LeO.none _
      | refine LeO.ite ?_ ?_
      | refine LeO.bind ?_ (fun _ => ?_)
set_option maxHeartbeats 8000000 in
set_option maxRecDepth 100000 in
theorem comfitref05_over.calls (k : Nat) (A0 : Option Addr) (c0 : Nat) (l0 : List (S41)) (A1 : Option Addr) (c1 : Nat) (l1 : List (S39)) (a2 : Int) (r1 : List (S39)) (r2 : Bool) (w : World) (hr0 : Kd.C k41 w A0 l0.length l0) (hc0 : l0.length ≤ c0) (hr1 : Kd.C k39 w A1 l1.length l1) (hc1 : l1.length ≤ c1) (h : comfitref05_over.f k l0 l1 a2 = some (r1, r2)) :
    Calls Tryd.prog 50 #[.slice A0 l0.length c0, .slice A1 l1.length c1, .int .u8 a2] w fun e w' => ∃ v0_ : Value, e = .returned (.tuple #[v0_, .bool r2]) ∧ Kd.R k39 39 w' w.heap.size (fun _ => True) v0_ r1 ∧ Below w.heap.size w w' := by
  have hu39 := Tryd.underlying39
  have HR0 := Aside0.mk hr0
  have HC0 := Aside0.mk hc0
  clear hr0 hc0
  have HR1 := Aside0.mk hr1
  have HC1 := Aside0.mk hc1
  clear hr1 hc1
  have HB := Aside0.mk (Below.refl w.heap.size w)
  have H : (comfitref05_over.l0 k l0 a2 ([] : List (S39)) l1 (l1.length : Int) 0) = some (r1, r2) := h
  clear h
  have H' := Aside0.mk H
  clear H
  go_enter Tryd.func50, Tryd.ntmps50
  go_wp2
  go_loopg [8, 14] k (fun kq v8 v14 w' => ∃ (x8_1 : List (S39)) (x14_1 : Int), v14 = .int .i64 x14_1 ∧ Aside0 (comfitref05_over.l0 kq l0 a2 x8_1 l1 (l1.length : Int) x14_1 = some (r1, r2)) ∧ Aside0 (kq ≤ k) ∧ Aside0 (Kd.R k39 39 w' w.heap.size (fun _ => True) v8 x8_1) ∧ Aside0 (Below w.heap.size w w'))
  case atStart => exact ⟨(([] : List (S39))), (0), (by first | rfl | (simp; done) | (simp [*]; done)), H', ⟨Nat.le_refl _⟩, ⟨by first | exact Kd.R_nil _ _ _ _ _ | exact Kd.N_nil _ _ _ _ _ | exact Kd.V_nil _ _ _ _ _ | exact Kd.Q_nil _ _ _ _ _ | exact Kd.S_nil _ _ _ _ _⟩, ⟨by repeat (first | (with_reducible first | exact HB.out | apply below_alloc | apply pw_below_drewN | apply below_drew1) | exact HB.out)⟩⟩
  case round =>
    clear H'
    try clear c1
    try clear p2
    obtain ⟨x8_1, x14_1, rfl, HA, HK1, HO_8, HB⟩ := hrel
    cases gk with
    | zero => exact absurd HA.out (by simp [comfitref05_over.l0])
    | succ k1 =>
      have H := HA.out
      clear HA
      simp only [comfitref05_over.l0] at H
      by_cases c4 : x14_1 < (l1.length : Int)
      · rw [if_pos c4] at H
        have c4b0 : decide (x14_1 < (l1.length : Int)) = true := decide_eq_true c4
        clear c4
        by_cases c5 : 0 ≤ x14_1
        · rw [if_pos c5] at H
          have c5b0 : decide (0 ≤ x14_1) = true := decide_eq_true c5
          clear c5
          by_cases c6 : x14_1 < (l1.length : Int)
          · rw [if_pos c6] at H
            have c6b0 : decide (x14_1 < (l1.length : Int)) = true := decide_eq_true c6
            clear c6
            replace H := Option.bind_eq_some_iff.mp H
            obtain ⟨t160, A70, H⟩ := H
            replace H : (if ((rd_T39 l1 x14_1).f1) < (t160.size : Int) then (if 0 ≤ ((rd_T39 l1 x14_1).f1) then (if (bt t160 ((rd_T39 l1 x14_1).f1)) = a2 then (if x8_1.length < 8796093022208 then (comfitref05_over.l0 k1 l0 a2 (x8_1 ++ [(⟨(rd_T39 l1 x14_1).f0, wrap64 (((rd_T39 l1 x14_1).f1) + 1)⟩ : S39)]) l1 (l1.length : Int) (wrap64 (x14_1 + 1))) else (none)) else (comfitref05_over.l0 k1 l0 a2 x8_1 l1 (l1.length : Int) (wrap64 (x14_1 + 1)))) else (none)) else (comfitref05_over.l0 k1 l0 a2 x8_1 l1 (l1.length : Int) (wrap64 (x14_1 + 1)))) = some (r1, r2) := H
            have A7 := Aside0.mk A70
            clear A70
            by_cases c8 : ((rd_T39 l1 x14_1).f1) < (t160.size : Int)
            · rw [if_pos c8] at H
              have c8b0 : decide (((rd_T39 l1 x14_1).f1) < (t160.size : Int)) = true := decide_eq_true c8
              clear c8
              by_cases c9 : 0 ≤ ((rd_T39 l1 x14_1).f1)
              · rw [if_pos c9] at H
                have c9b0 : decide (0 ≤ ((rd_T39 l1 x14_1).f1)) = true := decide_eq_true c9
                clear c9
                by_cases c11 : (bt t160 ((rd_T39 l1 x14_1).f1)) = a2
                · rw [if_pos c11] at H
                  have c11b0 : ((bt t160 ((rd_T39 l1 x14_1).f1)) == a2) = true := beq_iff_eq.mpr c11
                  have c11b1 : ((bt t160 ((rd_T39 l1 x14_1).f1)) != a2) = false := bne_eq_false_iff_eq.mpr c11
                  clear c11
                  by_cases c12 : x8_1.length < 8796093022208
                  · rw [if_pos c12] at H
                    have LMc12 := Aside0.mk c12
                    clear c12
                    obtain ⟨y161, hy161⟩ : ∃ y_ : List (S39), y_ = (x8_1 ++ [(⟨(rd_T39 l1 x14_1).f0, wrap64 (((rd_T39 l1 x14_1).f1) + 1)⟩ : S39)]) := ⟨_, rfl⟩
                    replace H : (comfitref05_over.l0 k1 l0 a2 y161 l1 (l1.length : Int) (wrap64 (x14_1 + 1))) = some (r1, r2) := by first | (rw [hy161]; with_reducible exact H) | (have H2_ := (Option.bind_some _ _).symm.trans H; rw [hy161]; with_reducible exact H2_) | (have H2_ := (Option.bind_some _ _).symm.trans H; with_reducible exact H2_) | with_reducible exact H | (rw [hy161]; exact H) | exact H
                    have Ny161 := Aside0.mk hy161
                    clear hy161
                    have H' := Aside0.mk H
                    clear H
                    have p158 : 0 ≤ (x14_1 : Int) := of_decide_eq_true (by first | (with_reducible assumption) | assumption)
                    have q158 : x14_1 < (l1.length : Int) := of_decide_eq_true (by first | (with_reducible assumption) | assumption)
                    obtain ⟨ad158, e158, hx158_0, hx158_1⟩ := at_T39 HR1.out x14_1 p158 q158
                    cases e158
                    replace hx158_0 := (HB.out.cell (World.block_lt_of_cell? w _ hx158_0)).trans hx158_0
                    replace hx158_1 := (HB.out.cell (World.block_lt_of_cell? w _ hx158_1)).trans hx158_1
                    replace p158 := eq_true p158
                    replace q158 := eq_true q158
                    go_wp2_with (first | ((with_reducible refine gate_dst (N := 10) rfl ?_); refine box_event ?hg (N := 10) ?hd (cs := #[.int .i64 0, .int .i64 0]) (t := 39) ?hr ?_; (case hd => rfl); (case hg => rfl); (case hr => first | (go_simp; done) | (go_simp; rfl)); intro gb159 hg w13 hbox hb; have n0_ := Aside0.mk (Kd.R_below (Kd.R_elderB (by (with_reducible repeat (first | apply Kd.R_alloc | apply Kd.R_drewN | apply Kd.R_drew)); exact HO_8.out) gb159 (Nat.le_of_eq hg.symm)) hb); have n1_ := Aside0.mk (below_step (by repeat (first | (with_reducible first | exact HB.out | apply below_alloc | apply pw_below_drewN | apply below_drew1) | exact HB.out)) hb); have n2_ := Aside0.mk (hbox); have n3_ := Aside0.mk ((by rw [hg]; exact (below_size (by repeat (first | (with_reducible first | exact HB.out | apply below_alloc | apply pw_below_drewN | apply below_drew1) | exact HB.out))) : w.heap.size ≤ gb159)); have n4_ := Aside0.mk ((by rw [hg]; exact (below_size (by repeat (first | (with_reducible first | exact HB.out | apply below_alloc | apply pw_below_drewN | apply below_drew1) | exact HB.out))) : w.heap.size ≤ gb159)); clear HO_8; clear HB; have HO_8 := n0_; have HB := n1_; have BK159 := n2_; have GW159 := n3_; have GE159 := n4_; clear n0_ n1_ n2_ n3_ n4_; clear hb hbox hg; have hcz14_0 : w13.cell? ⟨gb159, 0, none⟩ = some (.int .i64 0) := (blk_cell BK159.out 0).trans rfl; have hcz14_1 : w13.cell? ⟨gb159, 1, none⟩ = some (.int .i64 0) := (blk_cell BK159.out 1).trans rfl; have hfz14_0 := blk_frozen BK159.out 0; have hfz14_1 := blk_frozen BK159.out 1) | ((with_reducible refine gate_callee (f := 83) rfl ?_); refine goesL_ (some 21) rfl rfl Tryd.func83 (by kernel_rfl) rfl #[.slice A0 l0.length c0, .int .i64 ((rd_T39 l1 x14_1).f0)] rfl (by (try simp only [List.map_toArray, List.map_cons, List.map_nil]); first | done | rfl | (simp only [List.length_drop, List.length_take]; rfl)) ?_; (with_reducible refine (comfitref05_right.calls _ _ l0 ((rd_T39 l1 x14_1).f0) t160 _ ?side1 ?side2 A7.out).mono ?_); (case side1 => exact Kd.C_below HR0.out (by repeat (first | (with_reducible first | exact HB.out | apply below_alloc | apply pw_below_drewN | apply below_drew1 | refine below_set ?_ GE159.out) | exact HB.out))); (case side2 => exact HC0.out); rintro e w15 ⟨rfl, hb⟩; refine ⟨_, rfl, ?_⟩; have n0_ := Aside0.mk (Kd.R_below (by (with_reducible repeat (first | apply Kd.R_alloc | apply Kd.R_drewN | apply Kd.R_drew)); exact (Kd.R_mono (Kd.R_far (p := ⟨gb159, 1, none⟩) (Kd.R_far (p := ⟨gb159, 0, none⟩) (Kd.R_mono HO_8.out (fun k_ hk => (⟨hk, hk.2⟩ : _ ∧ k_ ≠ gb159))) (fun _ hk => hk.2) (.int .i64 ((rd_T39 l1 x14_1).f0))) (fun _ hk => hk.2) (.int .i64 ((rd_T39 l1 x14_1).f1))) (fun _ h_ => h_.1))) hb); have n1_ := Aside0.mk (blk_below (g := gb159) (o := .cells #[.int .i64 ((rd_T39 l1 x14_1).f0), .int .i64 ((rd_T39 l1 x14_1).f1)] 39 (0, 0)) (by (with_reducible repeat (first | refine blk_drewN ?_ _ | refine blk_drew ?_ | refine blk_alloc ?_ _)); refine blk_put (cs := #[.int .i64 ((rd_T39 l1 x14_1).f0), .int .i64 0]) ?_ 1 _ rfl; (with_reducible repeat (first | refine blk_drewN ?_ _ | refine blk_drew ?_ | refine blk_alloc ?_ _)); refine blk_put (cs := #[.int .i64 0, .int .i64 0]) ?_ 0 _ rfl; (with_reducible repeat (first | refine blk_drewN ?_ _ | refine blk_drew ?_ | refine blk_alloc ?_ _)); exact BK159.out) hb); have n2_ := Aside0.mk (below_step (by repeat (first | (with_reducible first | exact HB.out | apply below_alloc | apply pw_below_drewN | apply below_drew1 | refine below_set ?_ GE159.out) | exact HB.out)) hb); clear HO_8; clear BK159; clear HB; have HO_8 := n0_; have BK159 := n1_; have HB := n2_; clear n0_ n1_ n2_; (try clear hb); (try clear hb2); (try clear hk); (try clear hi); have hcz16_0 : w15.cell? ⟨gb159, 0, none⟩ = some (.int .i64 ((rd_T39 l1 x14_1).f0)) := (blk_cell BK159.out 0).trans rfl; have hcz16_1 : w15.cell? ⟨gb159, 1, none⟩ = some (.int .i64 ((rd_T39 l1 x14_1).f1)) := (blk_cell BK159.out 1).trans rfl; have hfz16_0 := blk_frozen BK159.out 0; have hfz16_1 := blk_frozen BK159.out 1; have p10 : 0 ≤ (((rd_T39 l1 x14_1).f1) : Int) := of_decide_eq_true (by first | (with_reducible assumption) | assumption); have q10 : ((rd_T39 l1 x14_1).f1) < (t160.size : Int) := of_decide_eq_true (by first | (with_reducible assumption) | assumption); have hx10 := bt_at t160 ((rd_T39 l1 x14_1).f1); replace p10 := eq_true p10; replace q10 := eq_true q10) | ((with_reducible refine gate_builtin (b := .append) (xs := #[.tmp 35, .tmp 42]) rfl ?_); at_builtin; refine Kd.R_append k39 (w0 := w) w.heap.size rfl (.tmp 35) (.tmp 42) 35 39 (.agg #[(.int .i64 0), (.int .i64 0)]) 16 rfl Tryd.underlying35 info39 rfl (by decide) (by omega) u8 x8_1 (⟨(rd_T39 l1 x14_1).f0, wrap64 (((rd_T39 l1 x14_1).f1) + 1)⟩ : S39) [.int .i64 ((rd_T39 l1 x14_1).f0), .int .i64 (wrap64 (((rd_T39 l1 x14_1).f1) + 1))] (fun k_ => k_ ≠ gb159) (fun _ => False) rfl rfl ?aP (fun _ hk => hk.elim) ?aF ?aO ?aB ?aS ?aL ?_; (case aP => exact k39_mkM _ _ _ (⟨(rd_T39 l1 x14_1).f0, wrap64 (((rd_T39 l1 x14_1).f1) + 1)⟩ : S39)); (case aB => exact (by repeat (first | (with_reducible first | exact HB.out | apply below_alloc | apply pw_below_drewN | apply below_drew1 | refine below_set ?_ GE159.out) | exact HB.out))); (case aF => exact (fun k_ hk => Kd.freshB (g := gb159) (o := .cells #[.int .i64 ((rd_T39 l1 x14_1).f0), .int .i64 ((rd_T39 l1 x14_1).f1)] 39 (0, 0)) (by (with_reducible repeat (first | refine blk_drewN ?_ _ | refine blk_drew ?_ | refine blk_alloc ?_ _)); exact BK159.out) k_ hk)); (case aO => exact (by (with_reducible repeat (first | apply Kd.R_alloc | apply Kd.R_drewN | apply Kd.R_drew)); exact Kd.R_mono HO_8.out (fun _ hk => hk.2))); (case aS => exact (below_size (by repeat (first | (with_reducible first | exact HB.out | apply below_alloc | apply pw_below_drewN | apply below_drew1 | refine below_set ?_ GE159.out) | exact HB.out)))); (case aL => have := LMc12.out; omega); intro v162 w17 ho hb hg hat; rw [← Ny161.out] at ho; have n0_ := Aside0.mk (blk_grown (g := gb159) (o := .cells #[.int .i64 ((rd_T39 l1 x14_1).f0), .int .i64 ((rd_T39 l1 x14_1).f1)] 39 (0, 0)) (by (with_reducible repeat (first | refine blk_drewN ?_ _ | refine blk_drew ?_ | refine blk_alloc ?_ _)); exact BK159.out) hg (Kd.R_away HO_8.out (fun _ hk => hk.2))); have n1_ := Aside0.mk (hb); have n2_ := Aside0.mk (ho); clear BK159; clear HB; clear HO_8; have BK159 := n0_; have HB := n1_; have HO163 := n2_; clear n0_ n1_ n2_; clear ho hb hg hat))
                    go_roundg k1
                    case measure => have := HK1.out; omega
                    case rel => exact ⟨(y161), (wrap64 (x14_1 + 1)), (by first | rfl | (simp; done) | (simp [*]; done)), H', ⟨by have := HK1.out; omega⟩, ⟨by (with_reducible repeat (first | apply Kd.R_alloc | apply Kd.R_drewN | apply Kd.R_drew)); exact Kd.R_mono HO163.out (fun _ hk => trivial)⟩, ⟨by repeat (first | (with_reducible first | exact HB.out | apply below_alloc | apply pw_below_drewN | apply below_drew1 | refine below_set ?_ GE159.out) | exact HB.out)⟩⟩
                  · rw [if_neg c12] at H
                    exact absurd H (by simp)
                · rw [if_neg c11] at H
                  have c11b0 : ((bt t160 ((rd_T39 l1 x14_1).f1)) == a2) = false := beq_eq_false_iff_ne.mpr c11
                  have c11b1 : ((bt t160 ((rd_T39 l1 x14_1).f1)) != a2) = true := bne_iff_ne.mpr c11
                  have H' := Aside0.mk H
                  clear H
                  have p158 : 0 ≤ (x14_1 : Int) := of_decide_eq_true (by first | (with_reducible assumption) | assumption)
                  have q158 : x14_1 < (l1.length : Int) := of_decide_eq_true (by first | (with_reducible assumption) | assumption)
                  obtain ⟨ad158, e158, hx158_0, hx158_1⟩ := at_T39 HR1.out x14_1 p158 q158
                  cases e158
                  replace hx158_0 := (HB.out.cell (World.block_lt_of_cell? w _ hx158_0)).trans hx158_0
                  replace hx158_1 := (HB.out.cell (World.block_lt_of_cell? w _ hx158_1)).trans hx158_1
                  replace p158 := eq_true p158
                  replace q158 := eq_true q158
                  go_wp2_with (first | ((with_reducible refine gate_dst (N := 10) rfl ?_); refine box_event ?hg (N := 10) ?hd (cs := #[.int .i64 0, .int .i64 0]) (t := 39) ?hr ?_; (case hd => rfl); (case hg => rfl); (case hr => first | (go_simp; done) | (go_simp; rfl)); intro gb159 hg w18 hbox hb; have n0_ := Aside0.mk (Kd.R_below (Kd.R_elderB (by (with_reducible repeat (first | apply Kd.R_alloc | apply Kd.R_drewN | apply Kd.R_drew)); exact HO_8.out) gb159 (Nat.le_of_eq hg.symm)) hb); have n1_ := Aside0.mk (below_step (by repeat (first | (with_reducible first | exact HB.out | apply below_alloc | apply pw_below_drewN | apply below_drew1) | exact HB.out)) hb); have n2_ := Aside0.mk (hbox); have n3_ := Aside0.mk ((by rw [hg]; exact (below_size (by repeat (first | (with_reducible first | exact HB.out | apply below_alloc | apply pw_below_drewN | apply below_drew1) | exact HB.out))) : w.heap.size ≤ gb159)); have n4_ := Aside0.mk ((by rw [hg]; exact (below_size (by repeat (first | (with_reducible first | exact HB.out | apply below_alloc | apply pw_below_drewN | apply below_drew1) | exact HB.out))) : w.heap.size ≤ gb159)); clear HO_8; clear HB; have HO_8 := n0_; have HB := n1_; have BK159 := n2_; have GW159 := n3_; have GE159 := n4_; clear n0_ n1_ n2_ n3_ n4_; clear hb hbox hg; have hcz19_0 : w18.cell? ⟨gb159, 0, none⟩ = some (.int .i64 0) := (blk_cell BK159.out 0).trans rfl; have hcz19_1 : w18.cell? ⟨gb159, 1, none⟩ = some (.int .i64 0) := (blk_cell BK159.out 1).trans rfl; have hfz19_0 := blk_frozen BK159.out 0; have hfz19_1 := blk_frozen BK159.out 1) | ((with_reducible refine gate_callee (f := 83) rfl ?_); refine goesL_ (some 21) rfl rfl Tryd.func83 (by kernel_rfl) rfl #[.slice A0 l0.length c0, .int .i64 ((rd_T39 l1 x14_1).f0)] rfl (by (try simp only [List.map_toArray, List.map_cons, List.map_nil]); first | done | rfl | (simp only [List.length_drop, List.length_take]; rfl)) ?_; (with_reducible refine (comfitref05_right.calls _ _ l0 ((rd_T39 l1 x14_1).f0) t160 _ ?side1 ?side2 A7.out).mono ?_); (case side1 => exact Kd.C_below HR0.out (by repeat (first | (with_reducible first | exact HB.out | apply below_alloc | apply pw_below_drewN | apply below_drew1 | refine below_set ?_ GE159.out) | exact HB.out))); (case side2 => exact HC0.out); rintro e w20 ⟨rfl, hb⟩; refine ⟨_, rfl, ?_⟩; have n0_ := Aside0.mk (Kd.R_below (by (with_reducible repeat (first | apply Kd.R_alloc | apply Kd.R_drewN | apply Kd.R_drew)); exact (Kd.R_mono (Kd.R_far (p := ⟨gb159, 1, none⟩) (Kd.R_far (p := ⟨gb159, 0, none⟩) (Kd.R_mono HO_8.out (fun k_ hk => (⟨hk, hk.2⟩ : _ ∧ k_ ≠ gb159))) (fun _ hk => hk.2) (.int .i64 ((rd_T39 l1 x14_1).f0))) (fun _ hk => hk.2) (.int .i64 ((rd_T39 l1 x14_1).f1))) (fun _ h_ => h_.1))) hb); have n1_ := Aside0.mk (blk_below (g := gb159) (o := .cells #[.int .i64 ((rd_T39 l1 x14_1).f0), .int .i64 ((rd_T39 l1 x14_1).f1)] 39 (0, 0)) (by (with_reducible repeat (first | refine blk_drewN ?_ _ | refine blk_drew ?_ | refine blk_alloc ?_ _)); refine blk_put (cs := #[.int .i64 ((rd_T39 l1 x14_1).f0), .int .i64 0]) ?_ 1 _ rfl; (with_reducible repeat (first | refine blk_drewN ?_ _ | refine blk_drew ?_ | refine blk_alloc ?_ _)); refine blk_put (cs := #[.int .i64 0, .int .i64 0]) ?_ 0 _ rfl; (with_reducible repeat (first | refine blk_drewN ?_ _ | refine blk_drew ?_ | refine blk_alloc ?_ _)); exact BK159.out) hb); have n2_ := Aside0.mk (below_step (by repeat (first | (with_reducible first | exact HB.out | apply below_alloc | apply pw_below_drewN | apply below_drew1 | refine below_set ?_ GE159.out) | exact HB.out)) hb); clear HO_8; clear BK159; clear HB; have HO_8 := n0_; have BK159 := n1_; have HB := n2_; clear n0_ n1_ n2_; (try clear hb); (try clear hb2); (try clear hk); (try clear hi); have hcz21_0 : w20.cell? ⟨gb159, 0, none⟩ = some (.int .i64 ((rd_T39 l1 x14_1).f0)) := (blk_cell BK159.out 0).trans rfl; have hcz21_1 : w20.cell? ⟨gb159, 1, none⟩ = some (.int .i64 ((rd_T39 l1 x14_1).f1)) := (blk_cell BK159.out 1).trans rfl; have hfz21_0 := blk_frozen BK159.out 0; have hfz21_1 := blk_frozen BK159.out 1; have p10 : 0 ≤ (((rd_T39 l1 x14_1).f1) : Int) := of_decide_eq_true (by first | (with_reducible assumption) | assumption); have q10 : ((rd_T39 l1 x14_1).f1) < (t160.size : Int) := of_decide_eq_true (by first | (with_reducible assumption) | assumption); have hx10 := bt_at t160 ((rd_T39 l1 x14_1).f1); replace p10 := eq_true p10; replace q10 := eq_true q10))
                  go_roundg k1
                  case measure => have := HK1.out; omega
                  case rel => exact ⟨(x8_1), (wrap64 (x14_1 + 1)), (by first | rfl | (simp; done) | (simp [*]; done)), H', ⟨by have := HK1.out; omega⟩, ⟨by (with_reducible repeat (first | apply Kd.R_alloc | apply Kd.R_drewN | apply Kd.R_drew)); exact Kd.R_mono HO_8.out (fun _ hk => trivial)⟩, ⟨by repeat (first | (with_reducible first | exact HB.out | apply below_alloc | apply pw_below_drewN | apply below_drew1 | refine below_set ?_ GE159.out) | exact HB.out)⟩⟩
              · rw [if_neg c9] at H
                exact absurd H (by simp)
            · rw [if_neg c8] at H
              have c8b0 : decide (((rd_T39 l1 x14_1).f1) < (t160.size : Int)) = false := decide_eq_false c8
              clear c8
              have H' := Aside0.mk H
              clear H
              have p158 : 0 ≤ (x14_1 : Int) := of_decide_eq_true (by first | (with_reducible assumption) | assumption)
              have q158 : x14_1 < (l1.length : Int) := of_decide_eq_true (by first | (with_reducible assumption) | assumption)
              obtain ⟨ad158, e158, hx158_0, hx158_1⟩ := at_T39 HR1.out x14_1 p158 q158
              cases e158
              replace hx158_0 := (HB.out.cell (World.block_lt_of_cell? w _ hx158_0)).trans hx158_0
              replace hx158_1 := (HB.out.cell (World.block_lt_of_cell? w _ hx158_1)).trans hx158_1
              replace p158 := eq_true p158
              replace q158 := eq_true q158
              go_wp2_with (first | ((with_reducible refine gate_dst (N := 10) rfl ?_); refine box_event ?hg (N := 10) ?hd (cs := #[.int .i64 0, .int .i64 0]) (t := 39) ?hr ?_; (case hd => rfl); (case hg => rfl); (case hr => first | (go_simp; done) | (go_simp; rfl)); intro gb159 hg w22 hbox hb; have n0_ := Aside0.mk (Kd.R_below (Kd.R_elderB (by (with_reducible repeat (first | apply Kd.R_alloc | apply Kd.R_drewN | apply Kd.R_drew)); exact HO_8.out) gb159 (Nat.le_of_eq hg.symm)) hb); have n1_ := Aside0.mk (below_step (by repeat (first | (with_reducible first | exact HB.out | apply below_alloc | apply pw_below_drewN | apply below_drew1) | exact HB.out)) hb); have n2_ := Aside0.mk (hbox); have n3_ := Aside0.mk ((by rw [hg]; exact (below_size (by repeat (first | (with_reducible first | exact HB.out | apply below_alloc | apply pw_below_drewN | apply below_drew1) | exact HB.out))) : w.heap.size ≤ gb159)); have n4_ := Aside0.mk ((by rw [hg]; exact (below_size (by repeat (first | (with_reducible first | exact HB.out | apply below_alloc | apply pw_below_drewN | apply below_drew1) | exact HB.out))) : w.heap.size ≤ gb159)); clear HO_8; clear HB; have HO_8 := n0_; have HB := n1_; have BK159 := n2_; have GW159 := n3_; have GE159 := n4_; clear n0_ n1_ n2_ n3_ n4_; clear hb hbox hg; have hcz23_0 : w22.cell? ⟨gb159, 0, none⟩ = some (.int .i64 0) := (blk_cell BK159.out 0).trans rfl; have hcz23_1 : w22.cell? ⟨gb159, 1, none⟩ = some (.int .i64 0) := (blk_cell BK159.out 1).trans rfl; have hfz23_0 := blk_frozen BK159.out 0; have hfz23_1 := blk_frozen BK159.out 1) | ((with_reducible refine gate_callee (f := 83) rfl ?_); refine goesL_ (some 21) rfl rfl Tryd.func83 (by kernel_rfl) rfl #[.slice A0 l0.length c0, .int .i64 ((rd_T39 l1 x14_1).f0)] rfl (by (try simp only [List.map_toArray, List.map_cons, List.map_nil]); first | done | rfl | (simp only [List.length_drop, List.length_take]; rfl)) ?_; (with_reducible refine (comfitref05_right.calls _ _ l0 ((rd_T39 l1 x14_1).f0) t160 _ ?side1 ?side2 A7.out).mono ?_); (case side1 => exact Kd.C_below HR0.out (by repeat (first | (with_reducible first | exact HB.out | apply below_alloc | apply pw_below_drewN | apply below_drew1 | refine below_set ?_ GE159.out) | exact HB.out))); (case side2 => exact HC0.out); rintro e w24 ⟨rfl, hb⟩; refine ⟨_, rfl, ?_⟩; have n0_ := Aside0.mk (Kd.R_below (by (with_reducible repeat (first | apply Kd.R_alloc | apply Kd.R_drewN | apply Kd.R_drew)); exact (Kd.R_mono (Kd.R_far (p := ⟨gb159, 1, none⟩) (Kd.R_far (p := ⟨gb159, 0, none⟩) (Kd.R_mono HO_8.out (fun k_ hk => (⟨hk, hk.2⟩ : _ ∧ k_ ≠ gb159))) (fun _ hk => hk.2) (.int .i64 ((rd_T39 l1 x14_1).f0))) (fun _ hk => hk.2) (.int .i64 ((rd_T39 l1 x14_1).f1))) (fun _ h_ => h_.1))) hb); have n1_ := Aside0.mk (blk_below (g := gb159) (o := .cells #[.int .i64 ((rd_T39 l1 x14_1).f0), .int .i64 ((rd_T39 l1 x14_1).f1)] 39 (0, 0)) (by (with_reducible repeat (first | refine blk_drewN ?_ _ | refine blk_drew ?_ | refine blk_alloc ?_ _)); refine blk_put (cs := #[.int .i64 ((rd_T39 l1 x14_1).f0), .int .i64 0]) ?_ 1 _ rfl; (with_reducible repeat (first | refine blk_drewN ?_ _ | refine blk_drew ?_ | refine blk_alloc ?_ _)); refine blk_put (cs := #[.int .i64 0, .int .i64 0]) ?_ 0 _ rfl; (with_reducible repeat (first | refine blk_drewN ?_ _ | refine blk_drew ?_ | refine blk_alloc ?_ _)); exact BK159.out) hb); have n2_ := Aside0.mk (below_step (by repeat (first | (with_reducible first | exact HB.out | apply below_alloc | apply pw_below_drewN | apply below_drew1 | refine below_set ?_ GE159.out) | exact HB.out)) hb); clear HO_8; clear BK159; clear HB; have HO_8 := n0_; have BK159 := n1_; have HB := n2_; clear n0_ n1_ n2_; (try clear hb); (try clear hb2); (try clear hk); (try clear hi); have hcz25_0 : w24.cell? ⟨gb159, 0, none⟩ = some (.int .i64 ((rd_T39 l1 x14_1).f0)) := (blk_cell BK159.out 0).trans rfl; have hcz25_1 : w24.cell? ⟨gb159, 1, none⟩ = some (.int .i64 ((rd_T39 l1 x14_1).f1)) := (blk_cell BK159.out 1).trans rfl; have hfz25_0 := blk_frozen BK159.out 0; have hfz25_1 := blk_frozen BK159.out 1))
              go_roundg k1
              case measure => have := HK1.out; omega
              case rel => exact ⟨(x8_1), (wrap64 (x14_1 + 1)), (by first | rfl | (simp; done) | (simp [*]; done)), H', ⟨by have := HK1.out; omega⟩, ⟨by (with_reducible repeat (first | apply Kd.R_alloc | apply Kd.R_drewN | apply Kd.R_drew)); exact Kd.R_mono HO_8.out (fun _ hk => trivial)⟩, ⟨by repeat (first | (with_reducible first | exact HB.out | apply below_alloc | apply pw_below_drewN | apply below_drew1 | refine below_set ?_ GE159.out) | exact HB.out)⟩⟩
          · rw [if_neg c6] at H
            exact absurd H (by simp)
        · rw [if_neg c5] at H
          exact absurd H (by simp)
      · rw [if_neg c4] at H
        have c4b0 : decide (x14_1 < (l1.length : Int)) = false := decide_eq_false c4
        clear c4
        replace H := Option.bind_eq_some_iff.mp H
        obtain ⟨t164, A260, H⟩ := H
        replace H : (some (t164, decide ((x8_1.length : Int) > 0))) = some (r1, r2) := H
        have A26 := Aside0.mk A260
        clear A260
        simp only [Option.some.injEq, Prod.mk.injEq] at H
        obtain ⟨rfl, rfl⟩ := H
        obtain ⟨Ao27, co27, eo27⟩ := Kd.R_slice HO_8.out
        subst eo27
        go_wp2_with (first | ((with_reducible refine gate_callee (f := 49) rfl ?_); refine goesL_ (some 47) rfl rfl Tryd.func49 (by kernel_rfl) rfl #[.slice A0 l0.length c0, .slice Ao27 x8_1.length co27] rfl (by (try simp only [List.map_toArray, List.map_cons, List.map_nil]); first | done | rfl | (simp only [List.length_drop, List.length_take]; rfl)) ?_; (with_reducible refine (comfitref05_closure.calls _ _ l0 _ _ x8_1 t164 _ ?side1 ?side2 ?side3 ?side4 A26.out).mono ?_); (case side1 => repeat (first | exact (Kd.C_below HR0.out HB.out) | (with_reducible refine Kd.C_alloc ?_ _) | (with_reducible refine Kd.C_drewN ?_ _) | (with_reducible refine Kd.C_drew ?_))); (case side2 => exact HC0.out); (case side3 => repeat (first | exact (Kd.R_reads' HO_8.out).2.2 | (with_reducible refine Kd.C_alloc ?_ _) | (with_reducible refine Kd.C_drewN ?_ _) | (with_reducible refine Kd.C_drew ?_))); (case side4 => exact (Kd.R_reads' HO_8.out).2.1); rintro e w28 ⟨v165, rfl, ho0, hb⟩; refine ⟨_, rfl, ?_⟩; have n0_ := Aside0.mk (Kd.R_elder' (by (with_reducible repeat (first | apply Kd.R_alloc | apply Kd.R_drewN | apply Kd.R_drew)); exact HO_8.out) (by first | exact Kd.R_base ho0 | exact Kd.S_base ho0 | exact Kd.R_base ho0) hb); have n1_ := Aside0.mk (Kd.R_lower (Kd.R_new' ho0 (Kd.R_lt (by (with_reducible repeat (first | apply Kd.R_alloc | apply Kd.R_drewN | apply Kd.R_drew)); exact HO_8.out))) (below_size (by repeat (first | (with_reducible first | exact HB.out | apply below_alloc | apply pw_below_drewN | apply below_drew1) | exact HB.out)))); have n2_ := Aside0.mk (below_step (by repeat (first | (with_reducible first | exact HB.out | apply below_alloc | apply pw_below_drewN | apply below_drew1) | exact HB.out)) hb); clear HO_8; clear HB; have HO_8 := n0_; have HO166 := n1_; have HB := n2_; clear n0_ n1_ n2_; (try clear hb); (try clear hb2); (try clear hk); (try clear hi); (try clear ho0)))
        go_ret2
        exact ⟨_, by first | rfl | (simp [errW_none, errW_some] <;> rfl) | (simp [*, errW_none, errW_some] <;> rfl), by (with_reducible repeat (first | apply Kd.R_alloc | apply Kd.R_drewN | apply Kd.R_drew)); exact Kd.R_mono HO166.out (fun _ hk => trivial), by repeat (first | (with_reducible first | exact HB.out | apply below_alloc | apply pw_below_drewN | apply below_drew1) | exact HB.out)⟩

end Go.Proofs.YtpmmfckgfbdboaaDoor.G
end

section
namespace Go.Proofs.YtpmmfckgfbdboaaDoor.G
open Go.RowKit Go.Proofs.YtpmmfckgfbdboaaDoorW.PrintWords Go.Proofs.YtpmmfckgfbdboaaDoorW.PrintLast Go.Proofs.YtpmmfckgfbdboaaDoorW.PrintMore
attribute [local go_sem] max2_int min2_int max_two min_two max_three min_three max_four min_four   -- for this text's walks alone
set_option linter.unusedVariables false
set_option linter.unusedSimpArgs false

attribute [local go_sem high] eqA39
/-! ### comfitref05_find: function 51 -/
mutual
def comfitref05_find.l0 : Nat → List (S39) → List (List (S39)) → Int → Int → Option (Int)
  | 0, _, _, _, _ => none
  | k + 1, x1, x9, x10, x11 => if x11 < x10 then (if 0 ≤ x11 then (if x11 < (x9.length : Int) then (comfitref05_find.l1 k x1 x11 (rd_L12 x9 x11) (((rd_L12 x9 x11).length : Int) == (x1.length : Int)) x9 x10 x11 ((rd_L12 x9 x11).length : Int) 0) else (none)) else (none)) else (some (-1))
def comfitref05_find.l1 : Nat → List (S39) → Int → List (S39) → Bool → List (List (S39)) → Int → Int → Int → Int → Option (Int)
  | 0, _, _, _, _, _, _, _, _, _ => none
  | k + 1, x1, x5, x6, x7, x9, x10, x11, x22, x23 => if x23 < x22 then (if x7 = true then (if 0 ≤ x23 then (if x23 < (x6.length : Int) then (if x23 < (x1.length : Int) then (comfitref05_find.l1 k x1 x5 x6 (((rd_T39 x6 x23).f0) == ((rd_T39 x1 x23).f0) && (((rd_T39 x6 x23).f1) == ((rd_T39 x1 x23).f1))) x9 x10 x11 x22 (wrap64 (x23 + 1))) else (none)) else (none)) else (none)) else (comfitref05_find.l1 k x1 x5 x6 false x9 x10 x11 x22 (wrap64 (x23 + 1)))) else (if x7 = true then (some x5) else (comfitref05_find.l0 k x1 x9 x10 (wrap64 (x11 + 1))))
end
def comfitref05_find.f (k : Nat) (l0 : List (List (S39))) (l1 : List (S39)) : Option (Int) := comfitref05_find.l0 k l1 l0 (l0.length : Int) 0
theorem comfitref05_find.mono_l : ∀ k, (∀ y0 y1 y2 y3, LeO (comfitref05_find.l0 k y0 y1 y2 y3) (comfitref05_find.l0 (k + 1) y0 y1 y2 y3)) ∧ (∀ y0 y1 y2 y3 y4 y5 y6 y7 y8, LeO (comfitref05_find.l1 k y0 y1 y2 y3 y4 y5 y6 y7 y8) (comfitref05_find.l1 (k + 1) y0 y1 y2 y3 y4 y5 y6 y7 y8))
  | 0 => ⟨fun _ _ _ _ r h => by simp [comfitref05_find.l0] at h, fun _ _ _ _ _ _ _ _ _ r h => by simp [comfitref05_find.l1] at h⟩
  | k + 1 => by
    obtain ⟨ih0, ih1⟩ := comfitref05_find.mono_l k
    refine ⟨?_, ?_⟩
    · intro y0 y1 y2 y3
      unfold comfitref05_find.l0
      repeat' first
      | (with_reducible exact ih0 _ _ _ _)
      | (with_reducible exact ih1 _ _ _ _ _ _ _ _ _)
      | (with_reducible exact LeO.refl _)
      | (with_reducible exact LeO.none _)
      | (with_reducible refine LeO.ite ?_ ?_)
      | (with_reducible refine LeO.bind ?_ (fun _ => ?_))
      | exact ih0 _ _ _ _
      | exact ih1 _ _ _ _ _ _ _ _ _
      | exact LeO.none _
      | refine LeO.ite ?_ ?_
      | refine LeO.bind ?_ (fun _ => ?_)
    · intro y0 y1 y2 y3 y4 y5 y6 y7 y8
      unfold comfitref05_find.l1
      repeat' first
      | (with_reducible exact ih0 _ _ _ _)
      | (with_reducible exact ih1 _ _ _ _ _ _ _ _ _)
      | (with_reducible exact LeO.refl _)
      | (with_reducible exact LeO.none _)
      | (with_reducible refine LeO.ite ?_ ?_)
      | (with_reducible refine LeO.bind ?_ (fun _ => ?_))
      | exact ih0 _ _ _ _
      | exact ih1 _ _ _ _ _ _ _ _ _
      | exact LeO.none _
      | refine LeO.ite ?_ ?_
      | refine LeO.bind ?_ (fun _ => ?_)
theorem comfitref05_find.mono : ∀ a0 a1 k, LeO (comfitref05_find.f k a0 a1) (comfitref05_find.f (k + 1) a0 a1) := by
  intro a0 a1 k
  obtain ⟨ih0, ih1⟩ := comfitref05_find.mono_l k
  unfold comfitref05_find.f
  repeat' first
      | (with_reducible exact ih0 _ _ _ _)
      | (with_reducible exact ih1 _ _ _ _ _ _ _ _ _)
      | (with_reducible exact LeO.refl _)
      | (with_reducible exact LeO.none _)
      | (with_reducible refine LeO.ite ?_ ?_)
      | (with_reducible refine LeO.bind ?_ (fun _ => ?_))
      | exact ih0 _ _ _ _
      | exact ih1 _ _ _ _ _ _ _ _ _
      | exact LeO.none _
      | refine LeO.ite ?_ ?_
      | refine LeO.bind ?_ (fun _ => ?_)
set_option maxHeartbeats 8000000 in
set_option maxRecDepth 100000 in
theorem comfitref05_find.calls (k : Nat) (A0 : Option Addr) (c0 : Nat) (l0 : List (List (S39))) (A1 : Option Addr) (c1 : Nat) (l1 : List (S39)) (r : Int) (w : World) (hr0 : Kd.C (Kd.slice 39 k39) w A0 l0.length l0) (hc0 : l0.length ≤ c0) (hr1 : Kd.C k39 w A1 l1.length l1) (hc1 : l1.length ≤ c1) (h : comfitref05_find.f k l0 l1 = some r) :
    Calls Tryd.prog 51 #[.slice A0 l0.length c0, .slice A1 l1.length c1] w fun e w' => e = .returned (.int .i64 r) ∧ Drawn0 w w' := by
  have hu39 := Tryd.underlying39
  have HR0 := Aside0.mk hr0
  have HC0 := Aside0.mk hc0
  clear hr0 hc0
  have HR1 := Aside0.mk hr1
  have HC1 := Aside0.mk hc1
  clear hr1 hc1
  have H : (comfitref05_find.l0 k l1 l0 (l0.length : Int) 0) = some r := h
  clear h
  have H' := Aside0.mk H
  clear H
  go_enter Tryd.func51, Tryd.ntmps51
  go_wp2
  repeat (go_quiet (fail); try go_wp2)
  go_loopg [11] k (fun kq v11 w' => ∃ (x11_1 : Int), v11 = .int .i64 x11_1 ∧ Aside0 (comfitref05_find.l0 kq l1 l0 (l0.length : Int) x11_1 = some r) ∧ Aside0 (kq ≤ k) ∧ Drawn0 w w')
  case atStart => exact ⟨(0), (by first | rfl | (simp; done) | (simp [*]; done)), H', ⟨Nat.le_refl _⟩, by repeat (first | exact Drawn0.refl _ | apply Drawn0.step)⟩
  case round =>
    clear H'
    try clear c1
    try clear p2
    obtain ⟨x11_1, rfl, HA, HK1, ⟨m1, rfl⟩⟩ := hrel
    cases gk with
    | zero => exact absurd HA.out (by simp [comfitref05_find.l0])
    | succ k1 =>
      have H := HA.out
      clear HA
      simp only [comfitref05_find.l0] at H
      by_cases c3 : x11_1 < (l0.length : Int)
      · rw [if_pos c3] at H
        have c3b0 : decide (x11_1 < (l0.length : Int)) = true := decide_eq_true c3
        clear c3
        by_cases c4 : 0 ≤ x11_1
        · rw [if_pos c4] at H
          have c4b0 : decide (0 ≤ x11_1) = true := decide_eq_true c4
          clear c4
          by_cases c5 : x11_1 < (l0.length : Int)
          · rw [if_pos c5] at H
            have c5b0 : decide (x11_1 < (l0.length : Int)) = true := decide_eq_true c5
            clear c5
            have H' := Aside0.mk H
            clear H
            have p167 : 0 ≤ (x11_1 : Int) := of_decide_eq_true (by first | (with_reducible assumption) | assumption)
            have q167 : x11_1 < (l0.length : Int) := of_decide_eq_true (by first | (with_reducible assumption) | assumption)
            obtain ⟨ad167, A167_0, c167_0, e167, hx167_0, hl167_0, hi167_0⟩ := at_L12 HR0.out x11_1 p167 q167
            cases e167
            have HR167_0 := Aside0.mk hi167_0
            have HC167_0 := Aside0.mk hl167_0
            clear hi167_0 hl167_0
            replace p167 := eq_true p167
            replace q167 := eq_true q167
            go_wp2
            repeat (go_quiet (fail); try go_wp2)
            go_loopg [7, 23] k1 (fun kq v7 v23 w' => ∃ (x7_2 : Bool) (x23_2 : Int), v7 = .bool x7_2 ∧ v23 = .int .i64 x23_2 ∧ Aside0 (comfitref05_find.l1 kq l1 x11_1 (rd_L12 l0 x11_1) x7_2 l0 (l0.length : Int) x11_1 ((rd_L12 l0 x11_1).length : Int) x23_2 = some r) ∧ Aside0 (kq ≤ k1) ∧ Drawn0 w w')
            case atStart => exact ⟨((((rd_L12 l0 x11_1).length : Int) == (l1.length : Int))), (0), (by first | rfl | (simp; done) | (simp [*]; done)), (by first | rfl | (simp; done) | (simp [*]; done)), H', ⟨Nat.le_refl _⟩, by repeat (first | exact Drawn0.refl _ | apply Drawn0.step)⟩
            case round =>
              clear H'
              try clear c1
              try clear p1
              try clear q1
              try clear hx1
              try clear p2
              try clear c3
              try clear c3b0
              try clear c4
              try clear c4b0
              try clear c5
              try clear c5b0
              try clear hx167_0
              try clear p167
              try clear p2
              try clear q167
              obtain ⟨x7_2, x23_2, rfl, rfl, HA, HK2, ⟨m2, rfl⟩⟩ := hrel
              cases gk with
              | zero => exact absurd HA.out (by simp [comfitref05_find.l1])
              | succ k2 =>
                have H := HA.out
                clear HA
                simp only [comfitref05_find.l1] at H
                by_cases c6 : x23_2 < ((rd_L12 l0 x11_1).length : Int)
                · rw [if_pos c6] at H
                  have c6b0 : decide (x23_2 < ((rd_L12 l0 x11_1).length : Int)) = true := decide_eq_true c6
                  clear c6
                  by_cases c7 : x7_2 = true
                  · subst c7
                    have H1 : (if 0 ≤ x23_2 then (if x23_2 < ((rd_L12 l0 x11_1).length : Int) then (if x23_2 < (l1.length : Int) then (comfitref05_find.l1 k2 l1 x11_1 (rd_L12 l0 x11_1) (((rd_T39 (rd_L12 l0 x11_1) x23_2).f0) == ((rd_T39 l1 x23_2).f0) && (((rd_T39 (rd_L12 l0 x11_1) x23_2).f1) == ((rd_T39 l1 x23_2).f1))) l0 (l0.length : Int) x11_1 ((rd_L12 l0 x11_1).length : Int) (wrap64 (x23_2 + 1))) else (none)) else (none)) else (none)) = some r := by rw [if_pos rfl] at H; exact H
                    clear H
                    have H := H1
                    clear H1
                    by_cases c8 : 0 ≤ x23_2
                    · rw [if_pos c8] at H
                      have c8b0 : decide (0 ≤ x23_2) = true := decide_eq_true c8
                      clear c8
                      by_cases c9 : x23_2 < ((rd_L12 l0 x11_1).length : Int)
                      · rw [if_pos c9] at H
                        have c9b0 : decide (x23_2 < ((rd_L12 l0 x11_1).length : Int)) = true := decide_eq_true c9
                        clear c9
                        by_cases c10 : x23_2 < (l1.length : Int)
                        · rw [if_pos c10] at H
                          have c10b0 : decide (x23_2 < (l1.length : Int)) = true := decide_eq_true c10
                          clear c10
                          have H' := Aside0.mk H
                          clear H
                          have p168 : 0 ≤ (x23_2 : Int) := of_decide_eq_true (by first | (with_reducible assumption) | assumption)
                          have q168 : x23_2 < ((rd_L12 l0 x11_1).length : Int) := of_decide_eq_true (by first | (with_reducible assumption) | assumption)
                          obtain ⟨ad168, e168, hx168_0, hx168_1⟩ := at_T39 HR167_0.out x23_2 p168 q168
                          cases e168
                          replace p168 := eq_true p168
                          replace q168 := eq_true q168
                          have p169 : 0 ≤ (x23_2 : Int) := of_decide_eq_true (by first | (with_reducible assumption) | assumption)
                          have q169 : x23_2 < (l1.length : Int) := of_decide_eq_true (by first | (with_reducible assumption) | assumption)
                          obtain ⟨ad169, e169, hx169_0, hx169_1⟩ := at_T39 HR1.out x23_2 p169 q169
                          cases e169
                          replace p169 := eq_true p169
                          replace q169 := eq_true q169
                          go_wp2
                          repeat (go_quiet (fail); try go_wp2)
                          go_roundg k2
                          case measure => have := HK1.out; have := HK2.out; omega
                          case rel => exact ⟨((((rd_T39 (rd_L12 l0 x11_1) x23_2).f0) == ((rd_T39 l1 x23_2).f0) && (((rd_T39 (rd_L12 l0 x11_1) x23_2).f1) == ((rd_T39 l1 x23_2).f1)))), (wrap64 (x23_2 + 1)), (by first | rfl | (simp; done) | (simp [*]; done)), (by first | rfl | (simp; done) | (simp [*]; done)), H', ⟨by have := HK1.out; have := HK2.out; omega⟩, by repeat (first | exact Drawn0.refl _ | apply Drawn0.step)⟩
                        · rw [if_neg c10] at H
                          exact absurd H (by simp)
                      · rw [if_neg c9] at H
                        exact absurd H (by simp)
                    · rw [if_neg c8] at H
                      exact absurd H (by simp)
                  · replace c7 := Bool.eq_false_iff.mpr c7
                    subst c7
                    have H1 : (comfitref05_find.l1 k2 l1 x11_1 (rd_L12 l0 x11_1) false l0 (l0.length : Int) x11_1 ((rd_L12 l0 x11_1).length : Int) (wrap64 (x23_2 + 1))) = some r := by rw [if_neg (show ¬ (false = true) by decide)] at H; exact H
                    clear H
                    have H := H1
                    clear H1
                    have H' := Aside0.mk H
                    clear H
                    go_wp2
                    repeat (go_quiet (fail); try go_wp2)
                    go_roundg k2
                    case measure => have := HK1.out; have := HK2.out; omega
                    case rel => exact ⟨(false), (wrap64 (x23_2 + 1)), (by first | rfl | (simp; done) | (simp [*]; done)), (by first | rfl | (simp; done) | (simp [*]; done)), H', ⟨by have := HK1.out; have := HK2.out; omega⟩, by repeat (first | exact Drawn0.refl _ | apply Drawn0.step)⟩
                · rw [if_neg c6] at H
                  have c6b0 : decide (x23_2 < ((rd_L12 l0 x11_1).length : Int)) = false := decide_eq_false c6
                  clear c6
                  by_cases c11 : x7_2 = true
                  · subst c11
                    have H1 : (some x11_1) = some r := by rw [if_pos rfl] at H; exact H
                    clear H
                    have H := H1
                    clear H1
                    obtain rfl := Option.some.inj H
                    go_wp2
                    repeat (go_quiet (fail); try go_wp2)
                    go_ret
                    exact ⟨by first | rfl | (simp; done) | (simp [*]; done), by repeat (first | exact Drawn0.refl _ | apply Drawn0.step)⟩
                  · replace c11 := Bool.eq_false_iff.mpr c11
                    subst c11
                    have H1 : (comfitref05_find.l0 k2 l1 l0 (l0.length : Int) (wrap64 (x11_1 + 1))) = some r := by rw [if_neg (show ¬ (false = true) by decide)] at H; exact H
                    clear H
                    have H := H1
                    clear H1
                    have H' := Aside0.mk H
                    clear H
                    go_wp2
                    repeat (go_quiet (fail); try go_wp2)
                    go_roundg k2
                    case measure => have := HK1.out; have := HK2.out; omega
                    case rel => exact ⟨(wrap64 (x11_1 + 1)), (by first | rfl | (simp; done) | (simp [*]; done)), H', ⟨by have := HK1.out; have := HK2.out; omega⟩, by repeat (first | exact Drawn0.refl _ | apply Drawn0.step)⟩
          · rw [if_neg c5] at H
            exact absurd H (by simp)
        · rw [if_neg c4] at H
          exact absurd H (by simp)
      · rw [if_neg c3] at H
        have c3b0 : decide (x11_1 < (l0.length : Int)) = false := decide_eq_false c3
        clear c3
        obtain rfl := Option.some.inj H
        go_wp2
        repeat (go_quiet (fail); try go_wp2)
        go_ret
        exact ⟨by first | rfl | (simp; done) | (simp [*]; done), by repeat (first | exact Drawn0.refl _ | apply Drawn0.step)⟩

end Go.Proofs.YtpmmfckgfbdboaaDoor.G
end

section
namespace Go.Proofs.YtpmmfckgfbdboaaDoor.G
open Go.RowKit Go.Proofs.YtpmmfckgfbdboaaDoorW.PrintWords Go.Proofs.YtpmmfckgfbdboaaDoorW.PrintLast Go.Proofs.YtpmmfckgfbdboaaDoorW.PrintMore
attribute [local go_sem] max2_int min2_int max_two min_two max_three min_three max_four min_four   -- for this text's walks alone
set_option linter.unusedVariables false
set_option linter.unusedSimpArgs false

/-! ### comfitref05_States: function 17 -/
mutual
def comfitref05_States.l0 : Nat → List (S41) → List (List (S39)) → Int → Option ((List (List (S39))) × Int)
  | 0, _, _, _ => none
  | k + 1, x0, x4, x5 => if x5 < (x4.length : Int) then (comfitref05_States.l1 k x0 x4 x5 0) else (some (x4, 0))
def comfitref05_States.l1 : Nat → List (S41) → List (List (S39)) → Int → Int → Option ((List (List (S39))) × Int)
  | 0, _, _, _, _ => none
  | k + 1, x0, x4, x5, x22 => if x22 < 9 then (if 0 ≤ x5 then (if x5 < (x4.length : Int) then (if 0 ≤ x22 then ((comfitref05_over.f k x0 (rd_L12 x4 x5) (bt (⟨#[65, 66, 67, 68, 69, 97, 98, 99, 100]⟩ : ByteArray) x22)).bind fun bt180 => (if bt180.2 = true then ((comfitref05_find.f k x4 bt180.1).bind fun t184 => (comfitref05_States.j2 k x0 x4 x5 bt180.1 x22 (decide (t184 < 0)))) else (comfitref05_States.j2 k x0 x4 x5 bt180.1 x22 false))) else (none)) else (none)) else (none)) else (comfitref05_States.l0 k x0 x4 (wrap64 (x5 + 1)))
def comfitref05_States.j2 : Nat → List (S41) → List (List (S39)) → Int → List (S39) → Int → Bool → Option ((List (List (S39))) × Int)
  | 0, _, _, _, _, _, _ => none
  | k + 1, x0, x4, x5, x7, x22, x42 => if x42 = true then (if x4.length < 5864062014805 then ((some (x4 ++ [x7] : List (List (S39)))).bind fun y185 => (if (y185.length : Int) > 64 then (some (([] : List (List (S39))), 6)) else (comfitref05_States.l1 k x0 y185 x5 (wrap64 (x22 + 1))))) else (none)) else (if (x4.length : Int) > 64 then (some (([] : List (List (S39))), 6)) else (comfitref05_States.l1 k x0 x4 x5 (wrap64 (x22 + 1))))
end
def comfitref05_States.f (k : Nat) (l0 : List (S41)) : Option ((List (List (S39))) × Int) := (comfitref05_closure.f l0 (([(⟨(l0.length : Int), 0⟩ : S39)] : List (S39)))).bind fun t173 => (comfitref05_States.l0 k l0 (([t173] : List (List (S39)))) 0)
theorem comfitref05_States.mono_l : ∀ k, (∀ y0 y1 y2, LeO (comfitref05_States.l0 k y0 y1 y2) (comfitref05_States.l0 (k + 1) y0 y1 y2)) ∧ (∀ y0 y1 y2 y3, LeO (comfitref05_States.l1 k y0 y1 y2 y3) (comfitref05_States.l1 (k + 1) y0 y1 y2 y3)) ∧ (∀ y0 y1 y2 y3 y4 y5, LeO (comfitref05_States.j2 k y0 y1 y2 y3 y4 y5) (comfitref05_States.j2 (k + 1) y0 y1 y2 y3 y4 y5))
  | 0 => ⟨fun _ _ _ r h => by simp [comfitref05_States.l0] at h, fun _ _ _ _ r h => by simp [comfitref05_States.l1] at h, fun _ _ _ _ _ _ r h => by simp [comfitref05_States.j2] at h⟩
  | k + 1 => by
    obtain ⟨ih0, ih1, ih2⟩ := comfitref05_States.mono_l k
    refine ⟨?_, ?_, ?_⟩
    · intro y0 y1 y2
      unfold comfitref05_States.l0
      repeat' first
      | (with_reducible exact ih0 _ _ _)
      | (with_reducible exact ih1 _ _ _ _)
      | (with_reducible exact ih2 _ _ _ _ _ _)
      | (with_reducible exact comfitref05_find.mono _ _ _)
      | (with_reducible exact comfitref05_over.mono _ _ _ _)
      | (with_reducible exact LeO.refl _)
      | (with_reducible exact LeO.none _)
      | (with_reducible refine LeO.ite ?_ ?_)
      | (with_reducible refine LeO.bind ?_ (fun _ => ?_))
      | exact ih0 _ _ _
      | exact ih1 _ _ _ _
      | exact ih2 _ _ _ _ _ _
      | exact comfitref05_find.mono _ _ _
      | exact comfitref05_over.mono _ _ _ _
      | exact LeO.none _
      | refine LeO.ite ?_ ?_
      | refine LeO.bind ?_ (fun _ => ?_)
    · intro y0 y1 y2 y3
      unfold comfitref05_States.l1
      repeat' first
      | (with_reducible exact ih0 _ _ _)
      | (with_reducible exact ih1 _ _ _ _)
      | (with_reducible exact ih2 _ _ _ _ _ _)
      | (with_reducible exact comfitref05_find.mono _ _ _)
      | (with_reducible exact comfitref05_over.mono _ _ _ _)
      | (with_reducible exact LeO.refl _)
      | (with_reducible exact LeO.none _)
      | (with_reducible refine LeO.ite ?_ ?_)
      | (with_reducible refine LeO.bind ?_ (fun _ => ?_))
      | exact ih0 _ _ _
      | exact ih1 _ _ _ _
      | exact ih2 _ _ _ _ _ _
      | exact comfitref05_find.mono _ _ _
      | exact comfitref05_over.mono _ _ _ _
      | exact LeO.none _
      | refine LeO.ite ?_ ?_
      | refine LeO.bind ?_ (fun _ => ?_)
    · intro y0 y1 y2 y3 y4 y5
      unfold comfitref05_States.j2
      repeat' first
      | (with_reducible exact ih0 _ _ _)
      | (with_reducible exact ih1 _ _ _ _)
      | (with_reducible exact ih2 _ _ _ _ _ _)
      | (with_reducible exact comfitref05_find.mono _ _ _)
      | (with_reducible exact comfitref05_over.mono _ _ _ _)
      | (with_reducible exact LeO.refl _)
      | (with_reducible exact LeO.none _)
      | (with_reducible refine LeO.ite ?_ ?_)
      | (with_reducible refine LeO.bind ?_ (fun _ => ?_))
      | exact ih0 _ _ _
      | exact ih1 _ _ _ _
      | exact ih2 _ _ _ _ _ _
      | exact comfitref05_find.mono _ _ _
      | exact comfitref05_over.mono _ _ _ _
      | exact LeO.none _
      | refine LeO.ite ?_ ?_
      | refine LeO.bind ?_ (fun _ => ?_)
theorem comfitref05_States.mono : ∀ a0 k, LeO (comfitref05_States.f k a0) (comfitref05_States.f (k + 1) a0) := by
  intro a0 k
  obtain ⟨ih0, ih1, ih2⟩ := comfitref05_States.mono_l k
  unfold comfitref05_States.f
  repeat' first
      | (with_reducible exact ih0 _ _ _)
      | (with_reducible exact ih1 _ _ _ _)
      | (with_reducible exact ih2 _ _ _ _ _ _)
      | (with_reducible exact comfitref05_find.mono _ _ _)
      | (with_reducible exact comfitref05_over.mono _ _ _ _)
      | (with_reducible exact LeO.refl _)
      | (with_reducible exact LeO.none _)
      | (with_reducible refine LeO.ite ?_ ?_)
      | (with_reducible refine LeO.bind ?_ (fun _ => ?_))
      | exact ih0 _ _ _
      | exact ih1 _ _ _ _
      | exact ih2 _ _ _ _ _ _
      | exact comfitref05_find.mono _ _ _
      | exact comfitref05_over.mono _ _ _ _
      | exact LeO.none _
      | refine LeO.ite ?_ ?_
      | refine LeO.bind ?_ (fun _ => ?_)
def comfitref05_States.T8 : Bool × List (List Nat × List Nat) := (true, [([], []), ([], []), ([], []), ([1, 2], [1, 2]), ([3], [3]), ([], []), ([5], [5]), ([0, 4, 6], [0, 4, 6]), ([7], [7]), ([8], [8]), ([8], [8]), ([9, 7, 0, 1, 2, 3, 4, 5, 6, 7, 8, 9], [9]), ([10, 11, 0, 1, 2, 3, 4, 5, 6, 7, 8, 9, 10, 11], [10])])
def comfitref05_States.B8 : List Nat := [0, 0, 0, 6, 14, 0, 32, 127, 255, 511, 511, 1023, 4095]
theorem comfitref05_States.tab8 : rtab .any (opsOf Tryd.f17 8) = comfitref05_States.T8 := by kernel_rfl
theorem comfitref05_States.bits8 : waitsOk comfitref05_States.T8.2 comfitref05_States.B8 = true := by kernel_rfl
set_option maxHeartbeats 8000000 in
set_option maxRecDepth 100000 in
theorem comfitref05_States.calls (k : Nat) (A0 : Option Addr) (c0 : Nat) (l0 : List (S41)) (r1 : List (List (S39))) (r2 : Int) (w : World) (hr0 : Kd.C k41 w A0 l0.length l0) (hc0 : l0.length ≤ c0) (h : comfitref05_States.f k l0 = some (r1, r2)) :
    Calls Tryd.prog 17 #[.slice A0 l0.length c0] w fun e w' => ∃ v0_ : Value, e = .returned (.tuple #[v0_, .int .i64 r2]) ∧ Kd.N (Kd.slice 39 k39) 35 w' w.heap.size (fun k_ => (w.heap.size ≤ k_)) v0_ r1 ∧ Below w.heap.size w w' := by
  have hu39 := Tryd.underlying39
  have HR0 := Aside0.mk hr0
  have HC0 := Aside0.mk hc0
  clear hr0 hc0
  have HB := Aside0.mk (Below.refl w.heap.size w)
  have H : ((comfitref05_closure.f l0 (([(⟨(l0.length : Int), 0⟩ : S39)] : List (S39)))).bind fun t173 => (comfitref05_States.l0 k l0 (([t173] : List (List (S39)))) 0)) = some (r1, r2) := h
  clear h
  obtain ⟨y170, hy170⟩ : ∃ y_ : List (S39), y_ = (([(⟨(l0.length : Int), 0⟩ : S39)] : List (S39))) := ⟨_, rfl⟩
  replace H : ((comfitref05_closure.f l0 y170).bind fun t173 => (comfitref05_States.l0 k l0 (([t173] : List (List (S39)))) 0)) = some (r1, r2) := by first | (rw [hy170]; with_reducible exact H) | (have H2_ := (Option.bind_some _ _).symm.trans H; rw [hy170]; with_reducible exact H2_) | (have H2_ := (Option.bind_some _ _).symm.trans H; with_reducible exact H2_) | with_reducible exact H | (rw [hy170]; exact H) | exact H
  have Ny170 := Aside0.mk hy170
  clear hy170
  replace H := Option.bind_eq_some_iff.mp H
  obtain ⟨t173, A20, H⟩ := H
  replace H : (comfitref05_States.l0 k l0 (([t173] : List (List (S39)))) 0) = some (r1, r2) := H
  have A2 := Aside0.mk A20
  clear A20
  obtain ⟨y176, hy176⟩ : ∃ y_ : List (List (S39)), y_ = (([t173] : List (List (S39)))) := ⟨_, rfl⟩
  replace H : (comfitref05_States.l0 k l0 y176 0) = some (r1, r2) := by first | (rw [hy176]; with_reducible exact H) | (have H2_ := (Option.bind_some _ _).symm.trans H; rw [hy176]; with_reducible exact H2_) | (have H2_ := (Option.bind_some _ _).symm.trans H; with_reducible exact H2_) | with_reducible exact H | (rw [hy176]; exact H) | exact H
  have Ny176 := Aside0.mk hy176
  clear hy176
  have H' := Aside0.mk H
  clear H
  go_enter Tryd.func17, Tryd.ntmps17
  go_wp2_with (first | ((with_reducible refine gate_dst (N := 13) rfl ?_); refine Kd.R_lit k39 _ 39 ?hg (N := 13) ?hd (xs := ([(⟨(l0.length : Int), 0⟩ : S39)] : List (S39))) (inner := [.int .i64 (l0.length : Int), .int .i64 0]) (ok := fun _ => True) (okp := fun _ => True) ?hr ?hp (fun _ hk => hk) trivial (Below.refl _ _) (Nat.le_refl _) (by simp) ?_; (case hd => rfl); (case hg => rfl); (case hr => first | (go_simp; done) | (go_simp; rfl)); (case hp => exact (Reps.c2 (show Kd.M k39 _ _ _ (⟨(l0.length : Int), 0⟩ : S39) [.int .i64 (l0.length : Int), .int .i64 0] from (k39_mkM _ _ _ (⟨(l0.length : Int), 0⟩ : S39) )) (Reps.none _ _))); intro v171 w3 ho4 hb hg_ hnew_; clear hg_ hnew_; (first | rw [← Ny170.out] at ho4 | (simp only [Int.reduceToNat] at ho4; rw [← Ny170.out] at ho4)); have n0_ := Aside0.mk (Kd.R_lower (Kd.R_newM (M := fun k_ => (w.heap.size ≤ k_)) ho4 (below_size (by repeat (first | (with_reducible first | exact HB.out | apply below_alloc | apply pw_below_drewN | apply below_drew1) | exact HB.out))) (fun k_ h_ => h_)) (below_size (by repeat (first | (with_reducible first | exact HB.out | apply below_alloc | apply pw_below_drewN | apply below_drew1) | exact HB.out)))); have n1_ := Aside0.mk (below_step (by repeat (first | (with_reducible first | exact HB.out | apply below_alloc | apply pw_below_drewN | apply below_drew1) | exact HB.out)) hb); clear HB; have HO172 := n0_; have HB := n1_; clear n0_ n1_; clear hb ho4; obtain ⟨Ao5, co5, eo5⟩ := Kd.R_slice HO172.out; subst eo5) | ((with_reducible refine gate_callee (f := 49) rfl ?_); refine goesL_ (some 14) rfl rfl Tryd.func49 (by kernel_rfl) rfl #[.slice A0 l0.length c0, .slice Ao5 y170.length co5] rfl (by (try simp only [List.map_toArray, List.map_cons, List.map_nil]); first | done | rfl | (simp only [List.length_drop, List.length_take]; rfl)) ?_; (with_reducible refine (comfitref05_closure.calls _ _ l0 _ _ y170 t173 _ ?side1 ?side2 ?side3 ?side4 A2.out).mono ?_); (case side1 => repeat (first | exact (Kd.C_below HR0.out HB.out) | (with_reducible refine Kd.C_alloc ?_ _) | (with_reducible refine Kd.C_drewN ?_ _) | (with_reducible refine Kd.C_drew ?_))); (case side2 => exact HC0.out); (case side3 => repeat (first | exact (Kd.R_reads' HO172.out).2.2 | (with_reducible refine Kd.C_alloc ?_ _) | (with_reducible refine Kd.C_drewN ?_ _) | (with_reducible refine Kd.C_drew ?_))); (case side4 => exact (Kd.R_reads' HO172.out).2.1); rintro e w6 ⟨v174, rfl, ho0, hb⟩; refine ⟨_, rfl, ?_⟩; have n0_ := Aside0.mk (Kd.R_elder' (by (with_reducible repeat (first | apply Kd.R_alloc | apply Kd.R_drewN | apply Kd.R_drew)); exact HO172.out) (by first | exact Kd.R_base ho0 | exact Kd.S_base ho0 | exact Kd.R_base ho0) hb); have n1_ := Aside0.mk (Kd.R_lower (Kd.R_new' (Kd.R_newM (M := fun k_ => (w.heap.size ≤ k_)) ho0 (below_size (by repeat (first | (with_reducible first | exact HB.out | apply below_alloc | apply pw_below_drewN | apply below_drew1) | exact HB.out))) (fun k_ h_ => h_)) (Kd.R_lt (by (with_reducible repeat (first | apply Kd.R_alloc | apply Kd.R_drewN | apply Kd.R_drew)); exact HO172.out))) (below_size (by repeat (first | (with_reducible first | exact HB.out | apply below_alloc | apply pw_below_drewN | apply below_drew1) | exact HB.out)))); have n2_ := Aside0.mk (below_step (by repeat (first | (with_reducible first | exact HB.out | apply below_alloc | apply pw_below_drewN | apply below_drew1) | exact HB.out)) hb); clear HO172; clear HB; have HO172 := n0_; have HO175 := n1_; have HB := n2_; clear n0_ n1_ n2_; (try clear hb); (try clear hb2); (try clear hk); (try clear hi); (try clear ho0); obtain ⟨Ao7, co7, eo7⟩ := Kd.R_slice HO175.out; subst eo7) | ((with_reducible refine gate_dst (N := 15) rfl ?_); refine Kd.N_lit (Kd.slice 39 k39) _ 35 ?hg (N' := 15) ?hd (xs := ([t173] : List (List (S39)))) (inner := [.slice Ao7 t173.length co7]) (ok := (fun k_ => (w.heap.size ≤ k_) ∧ some k_ ≠ (.slice Ao5 y170.length co5 : Value).ownBlock)) (okp := (fun k_ => (w.heap.size ≤ k_) ∧ some k_ ≠ (.slice Ao5 y170.length co5 : Value).ownBlock)) ?hr ?hp (fun _ hk => hk) ((show ∀ k_, w6.heap.size ≤ k_ → (fun k_ => (w.heap.size ≤ k_) ∧ some k_ ≠ (.slice Ao5 y170.length co5 : Value).ownBlock) k_ from fun k_ hk => ⟨(Nat.le_trans (below_size (by repeat (first | (with_reducible first | exact HB.out | apply below_alloc | apply pw_below_drewN | apply below_drew1) | exact HB.out))) hk), Kd.fresh' (Kd.R_lt (by (with_reducible repeat (first | apply Kd.R_alloc | apply Kd.R_drewN | apply Kd.R_drew)); exact HO172.out)) k_ hk⟩) _ (Nat.le_refl _)) (Below.refl _ _) (Nat.le_refl _) (by simp) ?_; (case hd => rfl); (case hg => rfl); (case hr => first | (go_simp; done) | (go_simp; rfl)); (case hp => exact (Reps.one (show Kd.FK (Kd.slice 39 k39) _ _ t173 [.slice Ao7 t173.length co7] from (Kd.FK_slice_mk (Kd.R_reads' (Kd.R_mono (ok' := (fun k_ => (w.heap.size ≤ k_) ∧ some k_ ≠ (.slice Ao5 y170.length co5 : Value).ownBlock)) (HO175.out) (fun k_ hk => ⟨hk.1.1, hk.2⟩))).2.1 (Kd.R_F (Kd.R_mono (ok' := (fun k_ => (w.heap.size ≤ k_) ∧ some k_ ≠ (.slice Ao5 y170.length co5 : Value).ownBlock)) (HO175.out) (fun k_ hk => ⟨hk.1.1, hk.2⟩))))) (Reps.none _ _))); intro v177 w8 ho9 hb hg_ hnew_; clear hg_ hnew_; (first | rw [← Ny176.out] at ho9 | (simp only [Int.reduceToNat] at ho9; rw [← Ny176.out] at ho9)); have n0_ := Aside0.mk (Kd.R_below (by (with_reducible repeat (first | apply Kd.R_alloc | apply Kd.R_drewN | apply Kd.R_drew)); exact HO172.out) hb); have n1_ := Aside0.mk (Kd.N_lower ho9 (below_size (by repeat (first | (with_reducible first | exact HB.out | apply below_alloc | apply pw_below_drewN | apply below_drew1) | exact HB.out)))); have n2_ := Aside0.mk (below_step (by repeat (first | (with_reducible first | exact HB.out | apply below_alloc | apply pw_below_drewN | apply below_drew1) | exact HB.out)) hb); clear HO172; clear HB; clear HO175; have HO172 := n0_; have HO178 := n1_; have HB := n2_; clear n0_ n1_ n2_; clear hb ho9))
  go_loopg [4, 5] k (fun kq v4 v5 w' => ∃ (x4_1 : List (List (S39))) (x5_1 : Int), v5 = .int .i64 x5_1 ∧ Aside0 (comfitref05_States.l0 kq l0 x4_1 x5_1 = some (r1, r2)) ∧ Aside0 (kq ≤ k) ∧ Aside0 (Kd.N (Kd.slice 39 k39) 35 w' w.heap.size (fun k_ => (w.heap.size ≤ k_)) v4 x4_1) ∧ Aside0 (Below w.heap.size w w'))
  case atStart => exact ⟨(y176), (0), (by first | rfl | (simp; done) | (simp [*]; done)), H', ⟨Nat.le_refl _⟩, ⟨by (with_reducible repeat (first | apply Kd.N_alloc | apply Kd.N_drewN | apply Kd.N_drew)); exact Kd.N_mono HO178.out (fun _ hk => hk.1)⟩, ⟨by repeat (first | (with_reducible first | exact HB.out | apply below_alloc | apply pw_below_drewN | apply below_drew1) | exact HB.out)⟩⟩
  case round =>
    clear H'
    try clear c1
    try clear c2
    try clear p2
    try clear c4
    obtain ⟨x4_1, x5_1, rfl, HA, HK1, HO_4, HB⟩ := hrel
    cases gk with
    | zero => exact absurd HA.out (by simp [comfitref05_States.l0])
    | succ k1 =>
      have H := HA.out
      clear HA
      simp only [comfitref05_States.l0] at H
      by_cases c10 : x5_1 < (x4_1.length : Int)
      · rw [if_pos c10] at H
        have c10b0 : decide (x5_1 < (x4_1.length : Int)) = true := decide_eq_true c10
        clear c10
        have H' := Aside0.mk H
        clear H
        obtain ⟨Ao11, co11, eo11⟩ := Kd.N_slice HO_4.out
        subst eo11
        go_wp2
        go_loopg [4, 22] k1 (fun kq v4 v22 w' => ∃ (x4_2 : List (List (S39))) (x22_2 : Int), v22 = .int .i64 x22_2 ∧ Aside0 (comfitref05_States.l1 kq l0 x4_2 x5_1 x22_2 = some (r1, r2)) ∧ Aside0 (kq ≤ k1) ∧ Aside0 (Kd.N (Kd.slice 39 k39) 35 w' w.heap.size (fun k_ => (w.heap.size ≤ k_)) v4 x4_2) ∧ Aside0 (Below w.heap.size w w'))
        case atStart => exact ⟨(x4_1), (0), (by first | rfl | (simp; done) | (simp [*]; done)), H', ⟨Nat.le_refl _⟩, ⟨by (with_reducible repeat (first | apply Kd.N_alloc | apply Kd.N_drewN | apply Kd.N_drew)); exact HO_4.out⟩, ⟨by repeat (first | (with_reducible first | exact HB.out | apply below_alloc | apply pw_below_drewN | apply below_drew1) | exact HB.out)⟩⟩
        case round =>
          clear H'
          try clear c1
          try clear c2
          try clear p2
          try clear c4
          try clear c10
          try clear c10b0
          try clear p2
          obtain ⟨x4_2, x22_2, rfl, HA, HK2, HO_4, HB⟩ := hrel
          cases gk with
          | zero => exact absurd HA.out (by simp [comfitref05_States.l1])
          | succ k2 =>
            have H := HA.out
            clear HA
            simp only [comfitref05_States.l1] at H
            by_cases c12 : x22_2 < 9
            · rw [if_pos c12] at H
              have c12b0 : decide (x22_2 < 9) = true := decide_eq_true c12
              clear c12
              by_cases c13 : 0 ≤ x5_1
              · rw [if_pos c13] at H
                have c13b0 : decide (0 ≤ x5_1) = true := decide_eq_true c13
                clear c13
                by_cases c14 : x5_1 < (x4_2.length : Int)
                · rw [if_pos c14] at H
                  have c14b0 : decide (x5_1 < (x4_2.length : Int)) = true := decide_eq_true c14
                  clear c14
                  by_cases c15 : 0 ≤ x22_2
                  · rw [if_pos c15] at H
                    have c15b0 : decide (0 ≤ x22_2) = true := decide_eq_true c15
                    clear c15
                    replace H := Option.bind_eq_some_iff.mp H
                    obtain ⟨⟨t180, t181⟩, A170, H⟩ := H
                    replace H : (if t181 = true then ((comfitref05_find.f k2 x4_2 t180).bind fun t184 => (comfitref05_States.j2 k2 l0 x4_2 x5_1 t180 x22_2 (decide (t184 < 0)))) else (comfitref05_States.j2 k2 l0 x4_2 x5_1 t180 x22_2 false)) = some (r1, r2) := H
                    have A17 := Aside0.mk A170
                    clear A170
                    have HC18 := Aside0.mk H
                    clear H
                    try go_wp2
                    have n0_ := Aside0.mk (Kd.N_drew HO_4.out)
                    have n1_ := Aside0.mk (below_drew1 HB.out)
                    clear HO_4
                    clear HB
                    have HO_4 := n0_
                    have HB := n1_
                    clear n0_ n1_
                    obtain ⟨Ao20, co20, eo20⟩ := Kd.N_slice HO_4.out
                    (first | subst eo20 | (injection eo20 with f1_ f2_ f3_; have f4_ := f1_.symm; have f5_ := f3_.symm; clear f1_ f2_ f3_; subst f4_; subst f5_))
                    have p179 : 0 ≤ (x5_1 : Int) := of_decide_eq_true (by first | (with_reducible assumption) | assumption)
                    have q179 : x5_1 < (x4_2.length : Int) := of_decide_eq_true (by first | (with_reducible assumption) | assumption)
                    obtain ⟨ad179, A179_0, c179_0, e179, hx179_0, hl179_0, hi179_0⟩ := at_L12 (Kd.N_reads' HO_4.out).2.2 x5_1 p179 q179
                    cases e179
                    obtain ⟨ce179, hce179, hMe179, hcc179⟩ := Kd.N_get HO_4.out [] x5_1 p179 (by first | exact q179 | exact of_decide_eq_true (by first | (with_reducible assumption) | assumption) | (have e_ := (Kd.N_reads' HO_4.out).1; omega))
                    obtain ⟨ua179_0, uc179_0, rfl, ul179_0, ge179_0⟩ := Kd.FK_slice_open hMe179
                    have hv179_0 := hcc179 0 _ rfl
                    rw [Nat.add_zero, show ((Kd.slice 39 k39)).sz = 1 from rfl, Nat.mul_one] at hv179_0
                    replace hv179_0 := Option.some.inj (hv179_0.symm.trans hx179_0)
                    injection hv179_0 with hva_ hvn_ hvc_
                    rw [hva_] at ge179_0
                    rw [hvc_] at ul179_0
                    have HL179_0 := Aside0.mk (show Kd.V k39 39 _ w.heap.size _ _ (rd_L12 x4_2 x5_1) from Kd.V_mk ul179_0 ge179_0)
                    clear hva_ hvn_ hvc_ ge179_0 ul179_0
                    clear hcc179 hce179
                    have HR179_0 := Aside0.mk hi179_0
                    have HC179_0 := Aside0.mk hl179_0
                    clear hi179_0 hl179_0
                    replace p179 := eq_true p179
                    replace q179 := eq_true q179
                    have p16 : 0 ≤ (x22_2 : Int) := of_decide_eq_true (by first | (with_reducible assumption) | assumption)
                    have q16 : x22_2 < (9 : Int) := of_decide_eq_true (by first | (with_reducible assumption) | assumption)
                    have hx16 := bt_at (⟨#[65, 66, 67, 68, 69, 97, 98, 99, 100]⟩ : ByteArray) x22_2
                    replace p16 := eq_true p16
                    replace q16 := eq_true q16
                    refine start_ (n := 13) (S := fun w' => w'.cell? (ad179.add (x5_1).toNat) = some (.slice A179_0 (rd_L12 x4_2 x5_1).length c179_0)) (ds := []) #[false, false, false, false, false, false, false, false, false, false, false, false, false] (by kernel_rfl) rfl rfl (hx179_0) (fun hHeld => ?_); refine with_tabW comfitref05_States.tab8 comfitref05_States.bits8 (fun HT_ HW_ => ?_)
                    generalize wr.drew = w19 at HO_4 HB HL179_0 HR179_0 hx179_0 hHeld ⊢
                    refine pure_ (i := 0) (N := some 26) (v := ?_) (a' := ?_) #[true, false, false, false, false, false, false, false, false, false, false, false, false] rfl rfl (any_of HT_.out (by kernel_rfl)) (fun _ _ _ h => h) (Or.inl ⟨by rfl, ?_⟩) ?_ ?_
                    rotate_left
                    · intro w'
                      go_simp
                      with_reducible rfl
                    rotate_left
                    · simp only [Act.put, List.setIfInBounds_toArray, List.set_cons_zero, List.set_cons_succ, i64_w, i32_w]
                      rfl
                    refine pure_ (i := 1) (N := some 27) (v := ?_) (a' := ?_) #[true, true, false, false, false, false, false, false, false, false, false, false, false] rfl rfl (any_of HT_.out (by kernel_rfl)) (fun _ _ _ h => h) (Or.inl ⟨by rfl, ?_⟩) ?_ ?_
                    rotate_left
                    · intro w'
                      go_simp
                      with_reducible rfl
                    rotate_left
                    · simp only [Act.put, List.setIfInBounds_toArray, List.set_cons_zero, List.set_cons_succ, i64_w, i32_w]
                      rfl
                    refine pure_ (i := 2) (N := some 28) (v := ?_) (a' := ?_) #[true, true, true, false, false, false, false, false, false, false, false, false, false] rfl rfl (any_of HT_.out (by kernel_rfl)) (fun _ _ _ h => h) (Or.inl ⟨by rfl, ?_⟩) ?_ ?_
                    rotate_left
                    · intro w'
                      go_simp
                      with_reducible rfl
                    rotate_left
                    · simp only [Act.put, List.setIfInBounds_toArray, List.set_cons_zero, List.set_cons_succ, i64_w, i32_w]
                      rfl
                    refine pure_ (i := 3) (N := some 29) (v := ?_) (a' := ?_) #[true, true, true, true, false, false, false, false, false, false, false, false, false] rfl rfl (any_of HT_.out (by kernel_rfl)) (fun _ _ _ h => h) (Or.inl ⟨by rfl, ?_⟩) ?_ ?_
                    rotate_left
                    · intro w'
                      go_simp
                      with_reducible rfl
                    rotate_left
                    · simp only [Act.put, List.setIfInBounds_toArray, List.set_cons_zero, List.set_cons_succ, i64_w, i32_w]
                      rfl
                    refine pure_ (i := 5) (N := some 31) (v := ?_) (a' := ?_) #[true, true, true, true, false, true, false, false, false, false, false, false, false] rfl rfl (any_of HT_.out (by kernel_rfl)) (fun _ _ _ h => h) (Or.inl ⟨by rfl, ?_⟩) ?_ ?_
                    rotate_left
                    · intro w'
                      go_simp
                      with_reducible rfl
                    rotate_left
                    · simp only [Act.put, List.setIfInBounds_toArray, List.set_cons_zero, List.set_cons_succ, i64_w, i32_w]
                      rfl
                    refine take_ (i := 4) (N := some 30) (v := ?_) (a' := ?_) #[true, true, true, true, true, true, false, false, false, false, false, false, false] rfl rfl (take_ofW HT_.out HW_.out (by kernel_rfl)) (fun _ _ _ h => h) (Or.inl ⟨by rfl, ?_⟩) hHeld ?_ ?_
                    rotate_left
                    · intro w' s0
                      go_simp
                      with_reducible rfl
                    rotate_left
                    · simp only [Act.put, List.setIfInBounds_toArray, List.set_cons_zero, List.set_cons_succ, i64_w, i32_w]
                      rfl
                    refine take_ (i := 6) (N := some 32) (v := ?_) (a' := ?_) #[true, true, true, true, true, true, true, false, false, false, false, false, false] rfl rfl (take_ofW HT_.out HW_.out (by kernel_rfl)) (fun _ _ _ h => h) (Or.inl ⟨by rfl, ?_⟩) hHeld ?_ ?_
                    rotate_left
                    · intro w' s0
                      go_simp
                      with_reducible rfl
                    rotate_left
                    · simp only [Act.put, List.setIfInBounds_toArray, List.set_cons_zero, List.set_cons_succ, i64_w, i32_w]
                      rfl
                    refine one_ (i := 7) (N := some 33) #[true, true, true, true, true, true, true, true, false, false, false, false, false] rfl rfl (one_of HT_.out (by kernel_rfl)) (by decide) (fun K hK => ?_)
                    refine goes_ Tryd.func50 (by kernel_rfl) rfl #[.slice A0 l0.length c0, .slice A179_0 (rd_L12 x4_2 x5_1).length c179_0, .int .u8 (bt (⟨#[65, 66, 67, 68, 69, 97, 98, 99, 100]⟩ : ByteArray) x22_2)] (by rfl) rfl rfl (by (try simp only [List.map_toArray, List.map_cons, List.map_nil]); first | done | rfl | (simp only [List.length_drop, List.length_take]; rfl)) ?_
                    with_reducible refine (comfitref05_over.calls k2 _ _ l0 _ _ (rd_L12 x4_2 x5_1) (bt (⟨#[65, 66, 67, 68, 69, 97, 98, 99, 100]⟩ : ByteArray) x22_2) t180 t181 _ ?side1 ?side2 ?side3 ?side4 A17.out).mono ?_
                    (case side1 => repeat (first | exact (Kd.C_below HR0.out HB.out) | (with_reducible refine Kd.C_alloc ?_ _) | (with_reducible refine Kd.C_drewN ?_ _) | (with_reducible refine Kd.C_drew ?_)))
                    (case side2 => exact HC0.out)
                    (case side3 => repeat (first | exact (by repeat (first | (with_reducible exact HR179_0.out) | (with_reducible refine Kd.C_alloc ?_ _) | (with_reducible refine Kd.C_drewN ?_ _) | (with_reducible refine Kd.C_drew ?_) | exact HR179_0.out)) | (with_reducible refine Kd.C_alloc ?_ _) | (with_reducible refine Kd.C_drewN ?_ _) | (with_reducible refine Kd.C_drew ?_)))
                    (case side4 => exact HC179_0.out)
                    rintro e w21 ⟨v182, rfl, ho0, hb⟩
                    have HS0_ := (hb.cell (World.block_lt_of_cell? _ _ (hHeld))).trans (hHeld)
                    refine ⟨_, rfl, ?_⟩
                    have n0_ := Aside0.mk (Kd.N_elder' (by (with_reducible repeat (first | apply Kd.N_alloc | apply Kd.N_drewN | apply Kd.N_drew)); exact HO_4.out) (by first | exact Kd.R_base ho0 | exact Kd.S_base ho0 | exact Kd.R_base ho0) hb)
                    have n1_ := Aside0.mk (Kd.V_elder' (by (with_reducible repeat (first | apply Kd.V_alloc | apply Kd.V_drewN | apply Kd.V_drew)); exact HL179_0.out) (by first | exact Kd.R_base ho0 | exact Kd.S_base ho0 | exact Kd.R_base ho0) hb)
                    have n2_ := Aside0.mk (Kd.R_lower (Kd.R_newM (M := fun k_ => (w.heap.size ≤ k_)) ho0 (below_size (by repeat (first | (with_reducible first | exact HB.out | apply below_alloc | apply pw_below_drewN | apply below_drew1) | exact HB.out))) (fun k_ h_ => h_)) (below_size (by repeat (first | (with_reducible first | exact HB.out | apply below_alloc | apply pw_below_drewN | apply below_drew1) | exact HB.out))))
                    have n3_ := Aside0.mk (Kd.C_below (by repeat (first | (with_reducible exact HR179_0.out) | (with_reducible refine Kd.C_alloc ?_ _) | (with_reducible refine Kd.C_drewN ?_ _) | (with_reducible refine Kd.C_drew ?_) | exact HR179_0.out)) hb)
                    have n4_ := Aside0.mk (below_step (by repeat (first | (with_reducible first | exact HB.out | apply below_alloc | apply pw_below_drewN | apply below_drew1) | exact HB.out)) hb)
                    clear HO_4
                    clear HL179_0
                    clear HR179_0
                    clear HB
                    have HO_4 := n0_
                    have HL179_0 := n1_
                    have HO183 := n2_
                    have HR179_0 := n3_
                    have HB := n4_
                    clear n0_ n1_ n2_ n3_ n4_
                    (try clear hb)
                    (try clear hb2)
                    (try clear hk)
                    (try clear hi)
                    (try clear ho0)
                    refine hK.out _ _ (HS0_) (fun hHeld => ?_)
                    clear hK K
                    refine norm_ (a' := ?_) ?_ ?_
                    rotate_left
                    · show Act.put _ (some 33) _ = _
                      simp only [Act.put, List.setIfInBounds_toArray, List.set_cons_zero, List.set_cons_succ, i64_w, i32_w]
                      rfl
                    refine pure_ (i := 8) (N := some 25) (v := ?_) (a' := ?_) #[true, true, true, true, true, true, true, true, true, false, false, false, false] rfl rfl (any_of HT_.out (by kernel_rfl)) (fun _ _ _ h => h) (Or.inl ⟨by rfl, ?_⟩) ?_ ?_
                    rotate_left
                    · intro w'
                      go_simp
                      with_reducible rfl
                    rotate_left
                    · simp only [Act.put, List.setIfInBounds_toArray, List.set_cons_zero, List.set_cons_succ, i64_w, i32_w]
                      rfl
                    refine pure_ (i := 9) (N := some 34) (v := ?_) (a' := ?_) #[true, true, true, true, true, true, true, true, true, true, false, false, false] rfl rfl (any_of HT_.out (by kernel_rfl)) (fun _ _ _ h => h) (Or.inl ⟨by rfl, ?_⟩) ?_ ?_
                    rotate_left
                    · intro w'
                      go_simp
                      with_reducible rfl
                    rotate_left
                    · simp only [Act.put, List.setIfInBounds_toArray, List.set_cons_zero, List.set_cons_succ, i64_w, i32_w]
                      rfl
                    refine pure_ (i := 10) (N := some 35) (v := ?_) (a' := ?_) #[true, true, true, true, true, true, true, true, true, true, true, false, false] rfl rfl (any_of HT_.out (by kernel_rfl)) (fun _ _ _ h => h) (Or.inl ⟨by rfl, ?_⟩) ?_ ?_
                    rotate_left
                    · intro w'
                      go_simp
                      with_reducible rfl
                    rotate_left
                    · simp only [Act.put, List.setIfInBounds_toArray, List.set_cons_zero, List.set_cons_succ, i64_w, i32_w]
                      rfl
                    refine pure_ (i := 11) (N := some 7) (v := ?_) (a' := ?_) #[true, true, true, true, true, true, true, true, true, true, true, true, false] rfl rfl (any_of HT_.out (by kernel_rfl)) (fun _ _ _ h => h) (Or.inl ⟨by rfl, ?_⟩) ?_ ?_
                    rotate_left
                    · intro w'
                      go_simp
                      with_reducible rfl
                    rotate_left
                    · simp only [Act.put, List.setIfInBounds_toArray, List.set_cons_zero, List.set_cons_succ, i64_w, i32_w]
                      rfl
                    refine pure_ (i := 12) (N := some 8) (v := ?_) (a' := ?_) #[true, true, true, true, true, true, true, true, true, true, true, true, true] rfl rfl (any_of HT_.out (by kernel_rfl)) (fun _ _ _ h => h) (Or.inl ⟨by rfl, ?_⟩) ?_ ?_
                    rotate_left
                    · intro w'
                      go_simp
                      with_reducible rfl
                    rotate_left
                    · simp only [Act.put, List.setIfInBounds_toArray, List.set_cons_zero, List.set_cons_succ, i64_w, i32_w]
                      rfl
                    refine done_ (done_of HT_.out (by kernel_rfl)) ?_
                    go_upto_region 9 with (fail)
                    go_cut [42] (fun v42 wc => ∃ (kq : Nat) (x42_17 : Bool), v42 = .bool x42_17 ∧ Aside0 (comfitref05_States.j2 kq l0 x4_2 x5_1 t180 x22_2 x42_17 = some (r1, r2)) ∧ Aside0 (kq ≤ k2) ∧ Aside0 (Kd.N (Kd.slice 39 k39) 35 wc w.heap.size (fun k_ => (w.heap.size ≤ k_) ∧ some k_ ≠ (v182 : Value).ownBlock) (.slice (some ad179) x4_2.length co20) x4_2) ∧ Aside0 (Kd.R k39 39 wc w.heap.size (fun k_ => (w.heap.size ≤ k_)) v182 t180) ∧ Aside0 (Kd.C k39 wc A179_0 (rd_L12 x4_2 x5_1).length (rd_L12 x4_2 x5_1)) ∧ Aside0 (Below w.heap.size w wc))
                    case first =>
                      have H := HC18.out
                      clear HC18
                      by_cases c22 : t181 = true
                      · subst c22
                        have H1 : ((comfitref05_find.f k2 x4_2 t180).bind fun t184 => (comfitref05_States.j2 k2 l0 x4_2 x5_1 t180 x22_2 (decide (t184 < 0)))) = some (r1, r2) := by rw [if_pos rfl] at H; exact H
                        clear H
                        have H := H1
                        clear H1
                        replace H := Option.bind_eq_some_iff.mp H
                        obtain ⟨t184, A230, H⟩ := H
                        replace H : (comfitref05_States.j2 k2 l0 x4_2 x5_1 t180 x22_2 (decide (t184 < 0))) = some (r1, r2) := H
                        have A23 := Aside0.mk A230
                        clear A230
                        have H' := Aside0.mk H
                        clear H
                        obtain ⟨Ao24, co24, eo24⟩ := Kd.R_slice HO183.out
                        subst eo24
                        go_wp2_with (first | (go_at_call 51; (with_reducible refine (comfitref05_find.calls k2 _ _ x4_2 _ _ t180 t184 _ ?side1 ?side2 ?side3 ?side4 A23.out).mono ?_); (case side1 => repeat (first | exact (Kd.N_reads' HO_4.out).2.2 | (with_reducible refine Kd.C_alloc ?_ _) | (with_reducible refine Kd.C_drewN ?_ _) | (with_reducible refine Kd.C_drew ?_))); (case side2 => exact (Kd.N_reads' HO_4.out).2.1); (case side3 => repeat (first | exact (Kd.R_reads' HO183.out).2.2 | (with_reducible refine Kd.C_alloc ?_ _) | (with_reducible refine Kd.C_drewN ?_ _) | (with_reducible refine Kd.C_drew ?_))); (case side4 => exact (Kd.R_reads' HO183.out).2.1); rintro e w' ⟨rfl, ⟨nd, rfl⟩⟩))
                        go_meet
                        case rel => exact ⟨_, (decide (t184 < 0)), (by first | rfl | (simp; done) | (simp [*]; done)), H', ⟨by have := HK1.out; have := HK2.out; first | omega | exact Nat.le_refl _⟩, ⟨by (with_reducible repeat (first | apply Kd.N_alloc | apply Kd.N_drewN | apply Kd.N_drew)); exact HO_4.out⟩, ⟨by (with_reducible repeat (first | apply Kd.R_alloc | apply Kd.R_drewN | apply Kd.R_drew)); exact Kd.R_mono HO183.out (fun _ hk => hk.1)⟩, ⟨by repeat (first | (with_reducible exact HR179_0.out) | (with_reducible refine Kd.C_alloc ?_ _) | (with_reducible refine Kd.C_drewN ?_ _) | (with_reducible refine Kd.C_drew ?_) | exact HR179_0.out)⟩, ⟨by repeat (first | (with_reducible first | exact HB.out | apply below_alloc | apply pw_below_drewN | apply below_drew1) | exact HB.out)⟩⟩
                      · replace c22 := Bool.eq_false_iff.mpr c22
                        subst c22
                        have H1 : (comfitref05_States.j2 k2 l0 x4_2 x5_1 t180 x22_2 false) = some (r1, r2) := by rw [if_neg (show ¬ (false = true) by decide)] at H; exact H
                        clear H
                        have H := H1
                        clear H1
                        have H' := Aside0.mk H
                        clear H
                        go_wp2
                        go_meet
                        case rel => exact ⟨_, (false), (by first | rfl | (simp; done) | (simp [*]; done)), H', ⟨by have := HK1.out; have := HK2.out; first | omega | exact Nat.le_refl _⟩, ⟨by (with_reducible repeat (first | apply Kd.N_alloc | apply Kd.N_drewN | apply Kd.N_drew)); exact HO_4.out⟩, ⟨by (with_reducible repeat (first | apply Kd.R_alloc | apply Kd.R_drewN | apply Kd.R_drew)); exact Kd.R_mono HO183.out (fun _ hk => hk.1)⟩, ⟨by repeat (first | (with_reducible exact HR179_0.out) | (with_reducible refine Kd.C_alloc ?_ _) | (with_reducible refine Kd.C_drewN ?_ _) | (with_reducible refine Kd.C_drew ?_) | exact HR179_0.out)⟩, ⟨by repeat (first | (with_reducible first | exact HB.out | apply below_alloc | apply pw_below_drewN | apply below_drew1) | exact HB.out)⟩⟩
                    case rest =>
                      clear HC18
                      try clear c1
                      try clear p1
                      try clear q1
                      try clear hx1
                      try clear c2
                      try clear p2
                      try clear c4
                      try clear c5
                      try clear c10
                      try clear c10b0
                      try clear c12
                      try clear c12b0
                      try clear c13
                      try clear c13b0
                      try clear c14
                      try clear c14b0
                      try clear c15
                      try clear c15b0
                      try clear p16
                      try clear q16
                      try clear hx16
                      try clear c17
                      try clear p17
                      try clear q17
                      try clear hx17
                      try clear c22
                      try clear hx179_0
                      try clear p16
                      try clear p179
                      try clear p2
                      try clear q16
                      try clear q179
                      obtain ⟨kq, x42_17, rfl, HA, HJ17, HO_4, HO_7, HR179_0, HB⟩ := hcut
                      cases kq with
                      | zero => exact absurd HA.out (by simp [comfitref05_States.j2])
                      | succ kj17 =>
                        have H := HA.out
                        clear HA
                        simp only [comfitref05_States.j2] at H
                        by_cases c25 : x42_17 = true
                        · subst c25
                          have H1 : (if x4_2.length < 5864062014805 then ((some (x4_2 ++ [t180] : List (List (S39)))).bind fun y185 => (if (y185.length : Int) > 64 then (some (([] : List (List (S39))), 6)) else (comfitref05_States.l1 kj17 l0 y185 x5_1 (wrap64 (x22_2 + 1))))) else (none)) = some (r1, r2) := by rw [if_pos rfl] at H; exact H
                          clear H
                          have H := H1
                          clear H1
                          by_cases c26 : x4_2.length < 5864062014805
                          · rw [if_pos c26] at H
                            have LMc26 := Aside0.mk c26
                            clear c26
                            obtain ⟨y185, hy185⟩ : ∃ y_ : List (List (S39)), y_ = (x4_2 ++ [t180]) := ⟨_, rfl⟩
                            replace H : (if (y185.length : Int) > 64 then (some (([] : List (List (S39))), 6)) else (comfitref05_States.l1 kj17 l0 y185 x5_1 (wrap64 (x22_2 + 1)))) = some (r1, r2) := by first | (rw [hy185]; with_reducible exact H) | (have H2_ := (Option.bind_some _ _).symm.trans H; rw [hy185]; with_reducible exact H2_) | (have H2_ := (Option.bind_some _ _).symm.trans H; with_reducible exact H2_) | with_reducible exact H | (rw [hy185]; exact H) | exact H
                            have Ny185 := Aside0.mk hy185
                            clear hy185
                            by_cases c27 : (y185.length : Int) > 64
                            · rw [if_pos c27] at H
                              have c27b0 : decide (64 < (y185.length : Int)) = true := decide_eq_true c27
                              have c27b1 : decide (64 < y185.length) = true := decide_eq_true (by omega)
                              clear c27
                              simp only [Option.some.injEq, Prod.mk.injEq] at H
                              obtain ⟨rfl, rfl⟩ := H
                              obtain ⟨Ao29, co29, eo29⟩ := Kd.R_slice HO_7.out
                              subst eo29
                              go_wp2_with (first | ((with_reducible refine gate_builtin (b := .append) (xs := #[.tmp 43, .tmp 45]) rfl ?_); at_builtin; refine Kd.N_append (Kd.slice 39 k39) (w0 := w) w.heap.size rfl (.tmp 43) (.tmp 45) 31 35 (.slice none 0 0) 24 rfl Tryd.underlying31 info35 rfl (by decide) (by omega) (.slice (some ad179) x4_2.length co20) x4_2 t180 [.slice Ao29 t180.length co29] (fun k_ => (w.heap.size ≤ k_)) (fun k_ => ((fun k_ => (w.heap.size ≤ k_))) k_ ∧ some k_ ≠ (.slice (some ad179) x4_2.length co20 : Value).ownBlock) rfl rfl ?aP (fun _ hk => hk) ?aF ?aO ?aB ?aS ?aL ?_; (case aP => exact (Kd.FK_slice_mk (Kd.R_reads' (Kd.R_mono (ok' := (fun k_ => ((fun k_ => (w.heap.size ≤ k_))) k_ ∧ some k_ ≠ (.slice (some ad179) x4_2.length co20 : Value).ownBlock)) (Kd.R_apart' (HO_7.out) (Kd.N_typed HO_4.out) (by decide)) (fun k_ hk => ⟨hk.1, hk.2⟩))).2.1 (Kd.R_F (Kd.R_mono (ok' := (fun k_ => ((fun k_ => (w.heap.size ≤ k_))) k_ ∧ some k_ ≠ (.slice (some ad179) x4_2.length co20 : Value).ownBlock)) (Kd.R_apart' (HO_7.out) (Kd.N_typed HO_4.out) (by decide)) (fun k_ hk => ⟨hk.1, hk.2⟩))))); (case aB => exact (by repeat (first | (with_reducible first | exact HB.out | apply below_alloc | apply pw_below_drewN | apply below_drew1) | exact HB.out))); (case aF => exact (fun k_ hk => (Nat.le_trans (below_size (by repeat (first | (with_reducible first | exact HB.out | apply below_alloc | apply pw_below_drewN | apply below_drew1) | exact HB.out))) hk))); (case aO => exact (by (with_reducible repeat (first | apply Kd.N_alloc | apply Kd.N_drewN | apply Kd.N_drew)); exact Kd.N_mono HO_4.out (fun _ hk => hk.1))); (case aS => exact (below_size (by repeat (first | (with_reducible first | exact HB.out | apply below_alloc | apply pw_below_drewN | apply below_drew1) | exact HB.out)))); (case aL => have := LMc26.out; omega); intro v186 w28 ho hb hg hat; rw [← Ny185.out] at ho; have n0_ := Aside0.mk (hb); have n1_ := Aside0.mk (ho); clear HB; clear HO_4; clear HO_7; have HB := n0_; have HO187 := n1_; clear n0_ n1_; clear ho hb hg hat; obtain ⟨Ao30, co30, eo30⟩ := Kd.N_slice HO187.out; subst eo30))
                              go_ret2
                              exact ⟨_, by first | rfl | (simp [errW_none, errW_some] <;> rfl) | (simp [*, errW_none, errW_some] <;> rfl), by first | exact Kd.S_nil _ _ _ _ _ | exact Kd.N_nil _ _ _ _ _ | exact Kd.V_nil _ _ _ _ _ | exact Kd.Q_nil _ _ _ _ _ | exact Kd.R_nil _ _ _ _ _, by repeat (first | (with_reducible first | exact HB.out | apply below_alloc | apply pw_below_drewN | apply below_drew1) | exact HB.out)⟩
                            · rw [if_neg c27] at H
                              have c27b0 : decide (64 < (y185.length : Int)) = false := decide_eq_false c27
                              have c27b1 : decide (64 < y185.length) = false := decide_eq_false (by omega)
                              clear c27
                              have H' := Aside0.mk H
                              clear H
                              obtain ⟨Ao32, co32, eo32⟩ := Kd.R_slice HO_7.out
                              subst eo32
                              go_wp2_with (first | ((with_reducible refine gate_builtin (b := .append) (xs := #[.tmp 43, .tmp 45]) rfl ?_); at_builtin; refine Kd.N_append (Kd.slice 39 k39) (w0 := w) w.heap.size rfl (.tmp 43) (.tmp 45) 31 35 (.slice none 0 0) 24 rfl Tryd.underlying31 info35 rfl (by decide) (by omega) (.slice (some ad179) x4_2.length co20) x4_2 t180 [.slice Ao32 t180.length co32] (fun k_ => (w.heap.size ≤ k_)) (fun k_ => ((fun k_ => (w.heap.size ≤ k_))) k_ ∧ some k_ ≠ (.slice (some ad179) x4_2.length co20 : Value).ownBlock) rfl rfl ?aP (fun _ hk => hk) ?aF ?aO ?aB ?aS ?aL ?_; (case aP => exact (Kd.FK_slice_mk (Kd.R_reads' (Kd.R_mono (ok' := (fun k_ => ((fun k_ => (w.heap.size ≤ k_))) k_ ∧ some k_ ≠ (.slice (some ad179) x4_2.length co20 : Value).ownBlock)) (Kd.R_apart' (HO_7.out) (Kd.N_typed HO_4.out) (by decide)) (fun k_ hk => ⟨hk.1, hk.2⟩))).2.1 (Kd.R_F (Kd.R_mono (ok' := (fun k_ => ((fun k_ => (w.heap.size ≤ k_))) k_ ∧ some k_ ≠ (.slice (some ad179) x4_2.length co20 : Value).ownBlock)) (Kd.R_apart' (HO_7.out) (Kd.N_typed HO_4.out) (by decide)) (fun k_ hk => ⟨hk.1, hk.2⟩))))); (case aB => exact (by repeat (first | (with_reducible first | exact HB.out | apply below_alloc | apply pw_below_drewN | apply below_drew1) | exact HB.out))); (case aF => exact (fun k_ hk => (Nat.le_trans (below_size (by repeat (first | (with_reducible first | exact HB.out | apply below_alloc | apply pw_below_drewN | apply below_drew1) | exact HB.out))) hk))); (case aO => exact (by (with_reducible repeat (first | apply Kd.N_alloc | apply Kd.N_drewN | apply Kd.N_drew)); exact Kd.N_mono HO_4.out (fun _ hk => hk.1))); (case aS => exact (below_size (by repeat (first | (with_reducible first | exact HB.out | apply below_alloc | apply pw_below_drewN | apply below_drew1) | exact HB.out)))); (case aL => have := LMc26.out; omega); intro v186 w31 ho hb hg hat; rw [← Ny185.out] at ho; have n0_ := Aside0.mk (hb); have n1_ := Aside0.mk (ho); clear HB; clear HO_4; clear HO_7; have HB := n0_; have HO187 := n1_; clear n0_ n1_; clear ho hb hg hat; obtain ⟨Ao33, co33, eo33⟩ := Kd.N_slice HO187.out; subst eo33))
                              go_roundg kj17
                              case measure => have := HK1.out; have := HK2.out; have := HJ17.out; omega
                              case rel => exact ⟨(y185), (wrap64 (x22_2 + 1)), (by first | rfl | (simp; done) | (simp [*]; done)), H', ⟨by have := HK1.out; have := HK2.out; have := HJ17.out; omega⟩, ⟨by (with_reducible repeat (first | apply Kd.N_alloc | apply Kd.N_drewN | apply Kd.N_drew)); exact HO187.out⟩, ⟨by repeat (first | (with_reducible first | exact HB.out | apply below_alloc | apply pw_below_drewN | apply below_drew1) | exact HB.out)⟩⟩
                          · rw [if_neg c26] at H
                            exact absurd H (by simp)
                        · replace c25 := Bool.eq_false_iff.mpr c25
                          subst c25
                          have H1 : (if (x4_2.length : Int) > 64 then (some (([] : List (List (S39))), 6)) else (comfitref05_States.l1 kj17 l0 x4_2 x5_1 (wrap64 (x22_2 + 1)))) = some (r1, r2) := by rw [if_neg (show ¬ (false = true) by decide)] at H; exact H
                          clear H
                          have H := H1
                          clear H1
                          by_cases c34 : (x4_2.length : Int) > 64
                          · rw [if_pos c34] at H
                            have c34b0 : decide (64 < (x4_2.length : Int)) = true := decide_eq_true c34
                            have c34b1 : decide (64 < x4_2.length) = true := decide_eq_true (by omega)
                            clear c34
                            simp only [Option.some.injEq, Prod.mk.injEq] at H
                            obtain ⟨rfl, rfl⟩ := H
                            go_wp2
                            go_ret2
                            exact ⟨_, by first | rfl | (simp [errW_none, errW_some] <;> rfl) | (simp [*, errW_none, errW_some] <;> rfl), by first | exact Kd.S_nil _ _ _ _ _ | exact Kd.N_nil _ _ _ _ _ | exact Kd.V_nil _ _ _ _ _ | exact Kd.Q_nil _ _ _ _ _ | exact Kd.R_nil _ _ _ _ _, by repeat (first | (with_reducible first | exact HB.out | apply below_alloc | apply pw_below_drewN | apply below_drew1) | exact HB.out)⟩
                          · rw [if_neg c34] at H
                            have c34b0 : decide (64 < (x4_2.length : Int)) = false := decide_eq_false c34
                            have c34b1 : decide (64 < x4_2.length) = false := decide_eq_false (by omega)
                            clear c34
                            have H' := Aside0.mk H
                            clear H
                            go_wp2
                            go_roundg kj17
                            case measure => have := HK1.out; have := HK2.out; have := HJ17.out; omega
                            case rel => exact ⟨(x4_2), (wrap64 (x22_2 + 1)), (by first | rfl | (simp; done) | (simp [*]; done)), H', ⟨by have := HK1.out; have := HK2.out; have := HJ17.out; omega⟩, ⟨by (with_reducible repeat (first | apply Kd.N_alloc | apply Kd.N_drewN | apply Kd.N_drew)); exact Kd.N_mono HO_4.out (fun _ hk => hk.1)⟩, ⟨by repeat (first | (with_reducible first | exact HB.out | apply below_alloc | apply pw_below_drewN | apply below_drew1) | exact HB.out)⟩⟩
                  · rw [if_neg c15] at H
                    exact absurd H (by simp)
                · rw [if_neg c14] at H
                  exact absurd H (by simp)
              · rw [if_neg c13] at H
                exact absurd H (by simp)
            · rw [if_neg c12] at H
              have c12b0 : decide (x22_2 < 9) = false := decide_eq_false c12
              clear c12
              have H' := Aside0.mk H
              clear H
              go_wp2
              go_roundg k2
              case measure => have := HK1.out; have := HK2.out; omega
              case rel => exact ⟨(x4_2), (wrap64 (x5_1 + 1)), (by first | rfl | (simp; done) | (simp [*]; done)), H', ⟨by have := HK1.out; have := HK2.out; omega⟩, ⟨by (with_reducible repeat (first | apply Kd.N_alloc | apply Kd.N_drewN | apply Kd.N_drew)); exact HO_4.out⟩, ⟨by repeat (first | (with_reducible first | exact HB.out | apply below_alloc | apply pw_below_drewN | apply below_drew1) | exact HB.out)⟩⟩
      · rw [if_neg c10] at H
        have c10b0 : decide (x5_1 < (x4_1.length : Int)) = false := decide_eq_false c10
        clear c10
        simp only [Option.some.injEq, Prod.mk.injEq] at H
        obtain ⟨rfl, rfl⟩ := H
        obtain ⟨Ao35, co35, eo35⟩ := Kd.N_slice HO_4.out
        subst eo35
        go_wp2
        go_ret2
        exact ⟨_, by first | rfl | (simp [errW_none, errW_some] <;> rfl) | (simp [*, errW_none, errW_some] <;> rfl), by (with_reducible repeat (first | apply Kd.N_alloc | apply Kd.N_drewN | apply Kd.N_drew)); exact HO_4.out, by repeat (first | (with_reducible first | exact HB.out | apply below_alloc | apply pw_below_drewN | apply below_drew1) | exact HB.out)⟩

end Go.Proofs.YtpmmfckgfbdboaaDoor.G
end

section
namespace Go.Proofs.YtpmmfckgfbdboaaDoor.G
open Go.RowKit Go.Proofs.YtpmmfckgfbdboaaDoorW.PrintWords Go.Proofs.YtpmmfckgfbdboaaDoorW.PrintLast Go.Proofs.YtpmmfckgfbdboaaDoorW.PrintMore
attribute [local go_sem] max2_int min2_int max_two min_two max_three min_three max_four min_four   -- for this text's walks alone
set_option linter.unusedVariables false
set_option linter.unusedSimpArgs false

attribute [local go_sem high] eqA39
/-! ### comfitref05_Item_20: function 20 -/
def comfitref05_Item_20.l0 : Nat → List (S39) → List (S39) → Int → Int → Option (Bool)
  | 0, _, _, _, _ => none
  | k + 1, x0, x1, x12, x13 => if x13 < x12 then (if 0 ≤ x13 then (if x13 < (x0.length : Int) then (if x13 < (x1.length : Int) then (if (!(((rd_T39 x0 x13).f0) == ((rd_T39 x1 x13).f0)) || (!(((rd_T39 x0 x13).f1) == ((rd_T39 x1 x13).f1)))) = true then (some false) else (comfitref05_Item_20.l0 k x0 x1 x12 (wrap64 (x13 + 1)))) else (none)) else (none)) else (none)) else (some true)
def comfitref05_Item_20.f (k : Nat) (l0 : List (S39)) (l1 : List (S39)) : Option (Bool) := if (l0.length : Int) = (l1.length : Int) then (comfitref05_Item_20.l0 k l0 l1 (l0.length : Int) 0) else (some false)
theorem comfitref05_Item_20.mono_l : ∀ k, (∀ y0 y1 y2 y3, LeO (comfitref05_Item_20.l0 k y0 y1 y2 y3) (comfitref05_Item_20.l0 (k + 1) y0 y1 y2 y3))
  | 0 => fun _ _ _ _ r h => by simp [comfitref05_Item_20.l0] at h
  | k + 1 => by
    have ih0 := comfitref05_Item_20.mono_l k
    · intro y0 y1 y2 y3
      unfold comfitref05_Item_20.l0
      repeat' first
      | (with_reducible exact ih0 _ _ _ _)
      | (with_reducible exact LeO.refl _)
      | (with_reducible exact LeO.none _)
      | (with_reducible refine LeO.ite ?_ ?_)
      | (with_reducible refine LeO.bind ?_ (fun _ => ?_))
      | exact ih0 _ _ _ _
      | exact LeO.none _
      | refine LeO.ite ?_ ?_
      | refine LeO.bind ?_ (fun _ => ?_)
theorem comfitref05_Item_20.mono : ∀ a0 a1 k, LeO (comfitref05_Item_20.f k a0 a1) (comfitref05_Item_20.f (k + 1) a0 a1) := by
  intro a0 a1 k
  have ih0 := comfitref05_Item_20.mono_l k
  unfold comfitref05_Item_20.f
  repeat' first
      | (with_reducible exact ih0 _ _ _ _)
      | (with_reducible exact LeO.refl _)
      | (with_reducible exact LeO.none _)
      | (with_reducible refine LeO.ite ?_ ?_)
      | (with_reducible refine LeO.bind ?_ (fun _ => ?_))
      | exact ih0 _ _ _ _
      | exact LeO.none _
      | refine LeO.ite ?_ ?_
      | refine LeO.bind ?_ (fun _ => ?_)
set_option maxHeartbeats 8000000 in
set_option maxRecDepth 100000 in
theorem comfitref05_Item_20.calls (k : Nat) (A0 : Option Addr) (c0 : Nat) (l0 : List (S39)) (A1 : Option Addr) (c1 : Nat) (l1 : List (S39)) (r : Bool) (w : World) (hr0 : Kd.C k39 w A0 l0.length l0) (hc0 : l0.length ≤ c0) (hr1 : Kd.C k39 w A1 l1.length l1) (hc1 : l1.length ≤ c1) (h : comfitref05_Item_20.f k l0 l1 = some r) :
    Calls Tryd.prog 20 #[.slice A0 l0.length c0, .slice A1 l1.length c1] w fun e w' => e = .returned (.bool r) ∧ Drawn0 w w' := by
  have hu39 := Tryd.underlying39
  have HR0 := Aside0.mk hr0
  have HC0 := Aside0.mk hc0
  clear hr0 hc0
  have HR1 := Aside0.mk hr1
  have HC1 := Aside0.mk hc1
  clear hr1 hc1
  have H : (if (l0.length : Int) = (l1.length : Int) then (comfitref05_Item_20.l0 k l0 l1 (l0.length : Int) 0) else (some false)) = some r := h
  clear h
  by_cases c3 : (l0.length : Int) = (l1.length : Int)
  · rw [if_pos c3] at H
    have c3b0 : ((l0.length : Int) == (l1.length : Int)) = true := beq_iff_eq.mpr c3
    have c3b1 : ((l0.length : Int) != (l1.length : Int)) = false := bne_eq_false_iff_eq.mpr c3
    have c3b2 : (l0.length == l1.length) = true := by first | simpa using c3 | (simp at c3 ⊢; omega)
    clear c3
    have H' := Aside0.mk H
    clear H
    go_enter Tryd.func20, Tryd.ntmps20
    go_wp2
    repeat (go_quiet (fail); try go_wp2)
    go_loopg [13] k (fun kq v13 w' => ∃ (x13_1 : Int), v13 = .int .i64 x13_1 ∧ Aside0 (comfitref05_Item_20.l0 kq l0 l1 (l0.length : Int) x13_1 = some r) ∧ Aside0 (kq ≤ k) ∧ Drawn0 w w')
    case atStart => exact ⟨(0), (by first | rfl | (simp; done) | (simp [*]; done)), H', ⟨Nat.le_refl _⟩, by repeat (first | exact Drawn0.refl _ | apply Drawn0.step)⟩
    case round =>
      clear H'
      try clear c1
      try clear c2
      try clear p2
      try clear c3
      try clear c3b0
      try clear c3b1
      try clear c3b2
      obtain ⟨x13_1, rfl, HA, HK1, ⟨m1, rfl⟩⟩ := hrel
      cases gk with
      | zero => exact absurd HA.out (by simp [comfitref05_Item_20.l0])
      | succ k1 =>
        have H := HA.out
        clear HA
        simp only [comfitref05_Item_20.l0] at H
        by_cases c4 : x13_1 < (l0.length : Int)
        · rw [if_pos c4] at H
          have c4b0 : decide (x13_1 < (l0.length : Int)) = true := decide_eq_true c4
          clear c4
          by_cases c5 : 0 ≤ x13_1
          · rw [if_pos c5] at H
            have c5b0 : decide (0 ≤ x13_1) = true := decide_eq_true c5
            clear c5
            by_cases c6 : x13_1 < (l0.length : Int)
            · rw [if_pos c6] at H
              have c6b0 : decide (x13_1 < (l0.length : Int)) = true := decide_eq_true c6
              clear c6
              by_cases c7 : x13_1 < (l1.length : Int)
              · rw [if_pos c7] at H
                have c7b0 : decide (x13_1 < (l1.length : Int)) = true := decide_eq_true c7
                clear c7
                by_cases c8 : (!(((rd_T39 l0 x13_1).f0) == ((rd_T39 l1 x13_1).f0)) || (!(((rd_T39 l0 x13_1).f1) == ((rd_T39 l1 x13_1).f1)))) = true
                · rw [if_pos c8] at H
                  have c8b0 : (!(((rd_T39 l0 x13_1).f0) == ((rd_T39 l1 x13_1).f0)) || (!(((rd_T39 l0 x13_1).f1) == ((rd_T39 l1 x13_1).f1)))) = true := c8
                  clear c8
                  obtain rfl := Option.some.inj H
                  have p197 : 0 ≤ (x13_1 : Int) := of_decide_eq_true (by first | (with_reducible assumption) | assumption)
                  have q197 : x13_1 < (l0.length : Int) := of_decide_eq_true (by first | (with_reducible assumption) | assumption)
                  obtain ⟨ad197, e197, hx197_0, hx197_1⟩ := at_T39 HR0.out x13_1 p197 q197
                  cases e197
                  replace p197 := eq_true p197
                  replace q197 := eq_true q197
                  have p198 : 0 ≤ (x13_1 : Int) := of_decide_eq_true (by first | (with_reducible assumption) | assumption)
                  have q198 : x13_1 < (l1.length : Int) := of_decide_eq_true (by first | (with_reducible assumption) | assumption)
                  obtain ⟨ad198, e198, hx198_0, hx198_1⟩ := at_T39 HR1.out x13_1 p198 q198
                  cases e198
                  replace p198 := eq_true p198
                  replace q198 := eq_true q198
                  go_wp2
                  repeat (go_quiet (fail); try go_wp2)
                  go_ret
                  exact ⟨by first | rfl | (simp; done) | (simp [*]; done), by repeat (first | exact Drawn0.refl _ | apply Drawn0.step)⟩
                · rw [if_neg c8] at H
                  have c8b0 : (!(((rd_T39 l0 x13_1).f0) == ((rd_T39 l1 x13_1).f0)) || (!(((rd_T39 l0 x13_1).f1) == ((rd_T39 l1 x13_1).f1)))) = false := by simpa using c8
                  clear c8
                  have H' := Aside0.mk H
                  clear H
                  have p197 : 0 ≤ (x13_1 : Int) := of_decide_eq_true (by first | (with_reducible assumption) | assumption)
                  have q197 : x13_1 < (l0.length : Int) := of_decide_eq_true (by first | (with_reducible assumption) | assumption)
                  obtain ⟨ad197, e197, hx197_0, hx197_1⟩ := at_T39 HR0.out x13_1 p197 q197
                  cases e197
                  replace p197 := eq_true p197
                  replace q197 := eq_true q197
                  have p198 : 0 ≤ (x13_1 : Int) := of_decide_eq_true (by first | (with_reducible assumption) | assumption)
                  have q198 : x13_1 < (l1.length : Int) := of_decide_eq_true (by first | (with_reducible assumption) | assumption)
                  obtain ⟨ad198, e198, hx198_0, hx198_1⟩ := at_T39 HR1.out x13_1 p198 q198
                  cases e198
                  replace p198 := eq_true p198
                  replace q198 := eq_true q198
                  go_wp2
                  repeat (go_quiet (fail); try go_wp2)
                  go_roundg k1
                  case measure => have := HK1.out; omega
                  case rel => exact ⟨(wrap64 (x13_1 + 1)), (by first | rfl | (simp; done) | (simp [*]; done)), H', ⟨by have := HK1.out; omega⟩, by repeat (first | exact Drawn0.refl _ | apply Drawn0.step)⟩
              · rw [if_neg c7] at H
                exact absurd H (by simp)
            · rw [if_neg c6] at H
              exact absurd H (by simp)
          · rw [if_neg c5] at H
            exact absurd H (by simp)
        · rw [if_neg c4] at H
          have c4b0 : decide (x13_1 < (l0.length : Int)) = false := decide_eq_false c4
          clear c4
          obtain rfl := Option.some.inj H
          go_wp2
          repeat (go_quiet (fail); try go_wp2)
          go_ret
          exact ⟨by first | rfl | (simp; done) | (simp [*]; done), by repeat (first | exact Drawn0.refl _ | apply Drawn0.step)⟩
  · rw [if_neg c3] at H
    have c3b0 : ((l0.length : Int) == (l1.length : Int)) = false := beq_eq_false_iff_ne.mpr c3
    have c3b1 : ((l0.length : Int) != (l1.length : Int)) = true := bne_iff_ne.mpr c3
    have c3b2 : (l0.length == l1.length) = false := by first | simpa using c3 | (simp at c3 ⊢; omega)
    obtain rfl := Option.some.inj H
    go_enter Tryd.func20, Tryd.ntmps20
    go_wp2
    repeat (go_quiet (fail); try go_wp2)
    go_ret
    exact ⟨by first | rfl | (simp; done) | (simp [*]; done), by repeat (first | exact Drawn0.refl _ | apply Drawn0.step)⟩

end Go.Proofs.YtpmmfckgfbdboaaDoor.G
end

section
namespace Go.Proofs.YtpmmfckgfbdboaaDoor.G
open Go.RowKit Go.Proofs.YtpmmfckgfbdboaaDoorW.PrintWords Go.Proofs.YtpmmfckgfbdboaaDoorW.PrintLast Go.Proofs.YtpmmfckgfbdboaaDoorW.PrintMore
open Go.Shelf Go.Lib
set_option linter.unusedVariables false
set_option linter.unusedSimpArgs false
def eq39 : List S39 → List S39 → Bool
  | [], [] => true
  | x :: xs, y :: ys => x.f0 == y.f0 && x.f1 == y.f1 && eq39 xs ys
  | _, _ => false
theorem eq39_iff : ∀ (a b : List S39), eq39 a b = true ↔ a = b
  | [], [] => by simp [eq39]
  | x :: xs, [] => by simp [eq39]
  | [], y :: ys => by simp [eq39]
  | x :: xs, y :: ys => by
    obtain ⟨x0, x1⟩ := x
    obtain ⟨y0, y1⟩ := y
    simp [eq39, eq39_iff xs ys]
theorem eq39_len (a b : List S39) (h : a.length ≠ b.length) : eq39 a b = false := by
  cases hb : eq39 a b
  · rfl
  · exact absurd (congrArg List.length ((eq39_iff a b).1 hb)) h
theorem drop_rd39 (xs : List S39) (i : Int) (h0 : 0 ≤ i) (h1 : i < xs.length) : xs.drop i.toNat = rd_T39 xs i :: xs.drop (i + 1).toNat := by
  have hl2 : i.toNat < xs.length := by omega
  rw [List.drop_eq_getElem_cons hl2, show (i + 1).toNat = i.toNat + 1 by omega]
  congr 1
  simp [rd_T39, List.getD_eq_getElem?_getD, hl2]
theorem equal_l39 (xs ys : List S39) (hxy : xs.length = ys.length) (hl : xs.length < 2 ^ 62) : ∀ (n : Nat) (i : Int), 0 ≤ i → i ≤ xs.length → xs.length < i.toNat + n → comfitref05_Item_20.l0 n xs ys (xs.length : Int) i = some (eq39 (xs.drop i.toNat) (ys.drop i.toNat))
  | 0, i, h0, h1, h => by omega
  | n + 1, i, h0, h1, h => by
    unfold comfitref05_Item_20.l0
    by_cases hlt : i < xs.length
    · have hlt2 : i < ys.length := by omega
      have ih := equal_l39 xs ys hxy hl n (i + 1) (by omega) (by omega) (by omega)
      rw [if_pos hlt, if_pos h0, if_pos hlt, if_pos hlt2, wrap64_succ h0 ⟨hlt, hl⟩, ih, drop_rd39 xs i h0 hlt, drop_rd39 ys i h0 hlt2]
      simp only [eq39]
      cases (rd_T39 xs i).f0 == (rd_T39 ys i).f0 <;> cases (rd_T39 xs i).f1 == (rd_T39 ys i).f1 <;> simp
    · rw [if_neg hlt, List.drop_of_length_le (by omega), List.drop_of_length_le (by omega)]
      rfl
theorem equal39_f (xs ys : List S39) (hl : xs.length < 2 ^ 62) (k : Nat) (hk : xs.length < k) : comfitref05_Item_20.f k xs ys = some (eq39 xs ys) := by
  unfold comfitref05_Item_20.f
  by_cases h : xs.length = ys.length
  · rw [if_pos (by omega), equal_l39 xs ys h hl k 0 (by decide) (by omega) (by simpa using hk)]
    rfl
  · rw [if_neg (by omega), eq39_len xs ys h]
theorem equal20_any (xs ys : List S39) (A0 A1 : Option Addr) (c0 c1 : Nat) (w : World) (hr0 : Kd.C k39 w A0 xs.length xs) (hc0 : xs.length ≤ c0) (hr1 : Kd.C k39 w A1 ys.length ys) (hc1 : ys.length ≤ c1) (hl : xs.length < 2 ^ 62) :
    Calls Tryd.prog 20 #[.slice A0 xs.length c0, .slice A1 ys.length c1] w fun e w' => e = .returned (.bool (eq39 xs ys)) ∧ Drawn0 w w' :=
  comfitref05_Item_20.calls (xs.length + 1) A0 c0 xs A1 c1 ys _ w hr0 hc0 hr1 hc1 (equal39_f xs ys hl _ (Nat.lt_succ_self _))
def eqLL : List (List S39) → List (List S39) → Bool
  | [], [] => true
  | x :: xs, y :: ys => eq39 x y && eqLL xs ys
  | _, _ => false
theorem eqLL_iff : ∀ (a b : List (List S39)), eqLL a b = true ↔ a = b
  | [], [] => by simp [eqLL]
  | x :: xs, [] => by simp [eqLL]
  | [], y :: ys => by simp [eqLL]
  | x :: xs, y :: ys => by simp [eqLL, eqLL_iff xs ys, eq39_iff]
theorem eqLL_len (a b : List (List S39)) (h : a.length ≠ b.length) : eqLL a b = false := by
  cases hb : eqLL a b
  · rfl
  · exact absurd (congrArg List.length ((eqLL_iff a b).1 hb)) h
theorem dropLL (xs : List (List S39)) (i : Nat) (h1 : i < xs.length) : xs.drop i = rd_L12 xs (i : Int) :: xs.drop (i + 1) := by
  rw [List.drop_eq_getElem_cons h1]
  congr 1
  simp [rd_L12, List.getD_eq_getElem?_getD, h1]
theorem rdLL_mem (xs : List (List S39)) (i : Nat) (h1 : i < xs.length) : rd_L12 xs (i : Int) ∈ xs := by
  simp [rd_L12, List.getD_eq_getElem?_getD, h1]
theorem lt_sub' {i n k : Nat} (h : i < n) (hk : k = n - i) : n - (i + 1) < k := by omega
set_option maxHeartbeats 1000000 in
theorem equalFunc_any (l0 l1 : List (List S39)) (A0 A1 : Option Addr) (c0 c1 : Nat) (w : World) (hr0 : Kd.C (Kd.slice 39 k39) w A0 l0.length l0) (hc0 : l0.length ≤ c0) (hr1 : Kd.C (Kd.slice 39 k39) w A1 l1.length l1) (hc1 : l1.length ≤ c1)
    (hn : l0.length < 2 ^ 62) (hs : ∀ s ∈ l0, s.length < 2 ^ 62) :
    Calls Tryd.prog 18 #[.slice A0 l0.length c0, .slice A1 l1.length c1, .func (.func 20) #[] #[]] w fun e w' => e = .returned (.bool (eqLL l0 l1)) ∧ Drawn0 w w' := by
  have HR0 := Lib.hid hr0
  have HR1 := Lib.hid hr1
  have HS := Lib.hid hs
  clear hr0 hr1 hs
  by_cases hlen : l0.length = l1.length
  · have HL := Lib.hid hlen
    rw [← hlen] at hc1
    go_enter Tryd.func18, Tryd.ntmps18
    rw [← hlen]
    clear hlen
    go_wp2
    go_loopg [17] l0.length (fun kq v17 w' => ∃ (i q : Nat), v17 = .int .i64 (i : Int) ∧ i ≤ l0.length ∧ kq = l0.length - i ∧ Hid (eqLL (l0.drop i) (l1.drop i) = eqLL l0 l1) ∧ w' = w.drewN q)
    case atStart => exact ⟨0, 0, rfl, Nat.zero_le _, rfl, Lib.hid rfl, rfl⟩
    case round =>
      obtain ⟨i, q, rfl, hi, hkq, HE, rfl⟩ := hrel
      by_cases hlt : i < l0.length
      · have hltI : (i : Int) < (l0.length : Int) := Int.ofNat_lt.mpr hlt
        have hi0 : (0 : Int) ≤ (i : Int) := Int.natCast_nonneg i
        have hlt1 : i < l1.length := HL.out ▸ hlt
        obtain ⟨ad0, S0, d0, eA0, hcell0, hle0, hC0⟩ := at_L12 HR0.out (i : Int) hi0 hltI
        obtain ⟨ad1, S1, d1, eA1, hcell1, hle1, hC1⟩ := at_L12 HR1.out (i : Int) hi0 (Int.ofNat_lt.mpr hlt1)
        cases eA0
        cases eA1
        have hE := HE.out
        rw [dropLL l0 i hlt, dropLL l1 i hlt1] at hE
        simp only [eqLL] at hE
        have hsz := HS.out _ (rdLL_mem l0 i hlt)
        generalize rd_L12 l0 (i : Int) = x at *
        generalize rd_L12 l1 (i : Int) = y at *
        have HC := Lib.hid (fun m => equal20_any x y S0 S1 d0 d1 (w.drewN m) (Kd.C_drewN hC0 m) hle0 (Kd.C_drewN hC1 m) hle1 hsz)
        have hw : (l0.length : Int) ≤ 4611686018427387904 := Int.ofNat_le.mpr (Nat.le_of_lt hn)
        have HE2 := Lib.hid hE
        simp only [Int.toNat_natCast] at hcell0 hcell1
        clear hE HE hC0 hC1 hle0 hle1 hsz
        cases hb : eq39 x y
        · rw [hb] at HC HE2
          have HE3 : Hid (false = eqLL l0 l1) := HE2
          clear HE2 hb
          go_wp2_with (go_at_call 20; refine (HC.out _).mono ?_; rintro e w' ⟨rfl, ⟨m, rfl⟩⟩)
          go_ret
          exact ⟨by rw [← HE3.out]; rfl, ⟨q + m, rfl⟩⟩
        · rw [hb] at HC HE2
          have hE := HE2.out
          rw [Bool.true_and] at hE
          have HE3 := Lib.hid hE
          clear hE HE2 hb
          go_wp2_with (go_at_call 20; refine (HC.out _).mono ?_; rintro e w' ⟨rfl, ⟨m, rfl⟩⟩)
          go_roundg (l0.length - (i + 1))
          case measure => exact lt_sub' hlt hkq
          case rel => exact ⟨i + 1, q + m, rfl, hlt, rfl, HE3, rfl⟩
      · have hnI : ¬ (i : Int) < (l0.length : Int) := fun h => hlt (Int.ofNat_lt.mp h)
        have hE := HE.out
        rw [List.drop_of_length_le (Nat.not_lt.1 hlt), List.drop_of_length_le (by rw [← HL.out]; exact Nat.not_lt.1 hlt)] at hE
        have HE3 : Hid (true = eqLL l0 l1) := Lib.hid hE
        clear hE HE
        go_wp2
        go_ret
        exact ⟨by rw [← HE3.out]; rfl, ⟨q, rfl⟩⟩
  · have hne : ((l0.length : Int) != (l1.length : Int)) = true := by simp; omega
    have HE := Lib.hid (eqLL_len l0 l1 hlen)
    clear hlen
    go_enter Tryd.func18, Tryd.ntmps18
    go_wp2
    go_ret
    exact ⟨by rw [HE.out]; rfl, ⟨0, rfl⟩⟩
def comfitref05_Item_18.f (l0 l1 : List (List S39)) : Option Bool := if (decide (l0.length < 4611686018427387904) && l0.all fun s => decide (s.length < 4611686018427387904)) = true then some (eqLL l0 l1) else none
theorem equalFunc_f {l0 l1 : List (List S39)} (h1 : l0.length < 4611686018427387904) (h2 : ∀ s ∈ l0, s.length < 4611686018427387904) : comfitref05_Item_18.f l0 l1 = some (eqLL l0 l1) := by
  unfold comfitref05_Item_18.f
  rw [if_pos]
  simp only [Bool.and_eq_true, decide_eq_true_eq, List.all_eq_true]
  exact ⟨h1, h2⟩
theorem comfitref05_Item_18.calls (A0 : Option Addr) (c0 : Nat) (l0 : List (List S39)) (A1 : Option Addr) (c1 : Nat) (l1 : List (List S39)) (r : Bool) (w : World) (hr0 : Kd.C (Kd.slice 39 k39) w A0 l0.length l0) (hc0 : l0.length ≤ c0) (hr1 : Kd.C (Kd.slice 39 k39) w A1 l1.length l1) (hc1 : l1.length ≤ c1) (h : comfitref05_Item_18.f l0 l1 = some r) :
    Calls Tryd.prog 18 #[.slice A0 l0.length c0, .slice A1 l1.length c1, .func (.func 20) #[] #[]] w fun e w' => e = .returned (.bool r) ∧ Below w.heap.size w w' := by
  unfold comfitref05_Item_18.f at h
  split at h
  · rename_i hc
    simp only [Bool.and_eq_true, decide_eq_true_eq, List.all_eq_true] at hc
    obtain rfl := Option.some.inj h
    refine (equalFunc_any l0 l1 A0 A1 c0 c1 w hr0 hc0 hr1 hc1 hc.1 hc.2).mono ?_
    rintro e w' ⟨h1, ⟨m, rfl⟩⟩
    exact ⟨h1, pw_below_drewN (Below.refl _ _) m⟩
  · cases h
end Go.Proofs.YtpmmfckgfbdboaaDoor.G
end

section
namespace Go.Proofs.YtpmmfckgfbdboaaDoor.G
open Go.RowKit Go.Proofs.YtpmmfckgfbdboaaDoorW.PrintWords Go.Proofs.YtpmmfckgfbdboaaDoorW.PrintLast Go.Proofs.YtpmmfckgfbdboaaDoorW.PrintMore
open Go.Shelf Go.Lib
set_option linter.unusedVariables false
set_option linter.unusedSimpArgs false
/-! The reference's over, find, States. -/
theorem to_to (x : S95) : to95 (to39 x) = x := rfl
theorem to_to' (x : S39) : to39 (to95 x) = x := rfl
theorem map_to (l : List S95) : (l.map to39).map to95 = l := by
  rw [List.map_map]
  exact (List.map_congr_left fun x _ => to_to x).trans (List.map_id l)
theorem over_loop (l : List S41) (hg : okG (gr41 l)) (hne : 0 < l.length) (c : Int) (hc : c ≠ 0) (s : List S39) (hs : ∀ x ∈ s, inM (to95 x) ∧ x.f0 ≤ l.length) (hl : s.length ≤ 1000) :
    ∀ (n i : Nat) (xs : List S39), s.length = i + n → xs.length ≤ i → xs ++ (movedP (gr41 l) c ((s.drop i).map to95)).map to39 = (movedP (gr41 l) c (s.map to95)).map to39 → ∀ k, n + 1 ≤ k →
      comfitref05_over.l0 k l c xs s (s.length : Int) (i : Int) = (comfitref05_closure.f l ((movedP (gr41 l) c (s.map to95)).map to39)).bind fun t => some (t, decide (((movedP (gr41 l) c (s.map to95)).length : Int) > 0))
  | 0, i, xs, h, hx, he, k, hk => by
    obtain ⟨k, rfl⟩ : ∃ m, k = m + 1 := ⟨k - 1, by omega⟩
    simp only [comfitref05_over.l0]
    rw [List.drop_of_length_le (by omega)] at he
    have he2 : xs = (movedP (gr41 l) c (s.map to95)).map to39 := by rw [← he]; simp [movedP]
    rw [if_neg (by omega), he2, List.length_map]
  | n + 1, i, xs, h, hx, he, k, hk => by
    obtain ⟨k, rfl⟩ : ∃ m, k = m + 1 := ⟨k - 1, by omega⟩
    have hi0 : (0 : Int) ≤ (i : Int) := by omega
    have hiI : (i : Int) < (s.length : Int) := by omega
    have hlt : i < s.length := by omega
    have hw : wrap64 ((i : Int) + 1) = ((i + 1 : Nat) : Int) := by rw [wrap64_succ (n := s.length) hi0 ⟨hiI, by omega⟩]; omega
    simp only [comfitref05_over.l0]
    rw [if_pos hiI, if_pos hi0, if_pos hiI, hw]
    have hmem := rd39_mem s (i : Int) hi0 hiI
    obtain ⟨⟨q1, q2, q3⟩, q4⟩ := hs _ hmem
    rw [drop39 s i hlt] at he
    generalize rd_T39 s (i : Int) = x at *
    obtain ⟨x0, x1⟩ := x
    simp only [to95] at q1 q2 q3 q4
    obtain ⟨t, ht, htb⟩ := right41_f l hg hne x0 q1 q4
    have hsz : (bytesOf t).length = t.size := bytesOf_length t
    have h4 := right_small hg x0
    rw [← htb, hsz] at h4
    have hbe : behindP (gr41 l) ⟨x0, x1⟩ = (bytesOf t).getD x1.toNat 0 := by unfold behindP; rw [← htb]
    have hmv : movedP (gr41 l) c (⟨x0, x1⟩ :: (s.drop (i + 1)).map to95) = if (behindP (gr41 l) ⟨x0, x1⟩ == c) = true then ⟨x0, x1 + 1⟩ :: movedP (gr41 l) c ((s.drop (i + 1)).map to95) else movedP (gr41 l) c ((s.drop (i + 1)).map to95) := by
      unfold movedP
      rw [List.filter_cons]
      split <;> rfl
    rw [List.map_cons, show to95 ⟨x0, x1⟩ = (⟨x0, x1⟩ : S95) from rfl, hmv] at he
    rw [ht]
    simp only [Option.bind_some]
    by_cases hx1 : x1 < (t.size : Int)
    · have hget : bt t x1 = (bytesOf t).getD x1.toNat 0 := by rw [← rd_bytesOf]; rfl
      rw [if_pos hx1, if_pos q2, hget, ← hbe]
      by_cases hbc : behindP (gr41 l) ⟨x0, x1⟩ = c
      · rw [if_pos hbc, if_pos (by omega)]
        rw [if_pos (beq_iff_eq.2 hbc), List.map_cons] at he
        have hw1 : wrap64 (x1 + 1) = x1 + 1 := by unfold wrap64; omega
        rw [hw1]
        exact over_loop l hg hne c hc s hs hl n (i + 1) _ (by omega) (by rw [List.length_append, List.length_singleton]; omega) (by rw [List.append_assoc]; exact he) k (by omega)
      · rw [if_neg hbc]
        rw [if_neg (fun h => hbc (beq_iff_eq.1 h))] at he
        exact over_loop l hg hne c hc s hs hl n (i + 1) xs (by omega) (by omega) he k (by omega)
    · have hbz : behindP (gr41 l) ⟨x0, x1⟩ = 0 := by
        rw [hbe, List.getD_eq_getElem?_getD, List.getElem?_eq_none (by omega)]
        rfl
      rw [if_neg hx1]
      rw [if_neg (fun h => hc (by rw [← beq_iff_eq.1 h]; exact hbz))] at he
      exact over_loop l hg hne c hc s hs hl n (i + 1) xs (by omega) (by omega) he k (by omega)
theorem over_f (l : List S41) (hg : okG (gr41 l)) (hne : 0 < l.length) (c : Int) (hc : c ≠ 0) (s : List S95) (hs : goodSt (gr41 l) s) (k : Nat) (hk : 1001 ≤ k) :
    comfitref05_over.f k l (s.map to39) c = some ((refClo (gr41 l) (movedP (gr41 l) c s)).map to39, decide (((movedP (gr41 l) c s).length : Int) > 0)) := by
  have hlen := goodSt_len hg hs
  obtain ⟨m1, m2, m3⟩ := moved_good hg hs hc
  have hs' : ∀ x ∈ s.map to39, inM (to95 x) ∧ x.f0 ≤ l.length := fun x hx => by
    obtain ⟨y, hy, rfl⟩ := List.mem_map.1 hx
    obtain ⟨a, b⟩ := hs.2 y hy
    rw [gr41_len] at b
    exact ⟨a, b⟩
  have := over_loop l hg hne c hc (s.map to39) hs' (by rw [List.length_map]; omega) (s.map to39).length 0 [] (by omega) (by simp) (by simp) k (by rw [List.length_map]; omega)
  unfold comfitref05_over.f
  have e0 : ((0 : Nat) : Int) = 0 := rfl
  rw [e0, map_to] at this
  rw [this, closure_f hg hne (fun x hx => ?_) (by rw [List.length_map]; omega), map_to]
  · rfl
  · obtain ⟨y, hy, rfl⟩ := List.mem_map.1 hx
    obtain ⟨a, b⟩ := m1 y hy
    rw [gr41_len] at b
    exact ⟨a, b⟩
theorem eq39_map : ∀ (a b : List S95), eq39 (a.map to39) (b.map to39) = eqI a b
  | [], [] => rfl
  | x :: xs, [] => rfl
  | [], y :: ys => rfl
  | x :: xs, y :: ys => by
    simp only [List.map_cons, eq39, eqI, eq39_map xs ys]
    rfl
def mp (sts : List (List S95)) : List (List S39) := sts.map fun s => s.map to39
theorem find_l1 (xs : List (List S39)) (ys s : List S39) (N i : Int) (hl : s.length < 2 ^ 62) (K : Nat) (R : Int) (hc : ∀ k, K ≤ k → comfitref05_find.l0 k ys xs N (wrap64 (i + 1)) = some R) :
    ∀ (n j : Nat) (b : Bool), s.length = j + n → (b = true → s.length = ys.length) → ∀ k, K + n + 1 ≤ k → comfitref05_find.l1 k ys i s b xs N i (s.length : Int) (j : Int) = some (bif b && eq39 (s.drop j) (ys.drop j) then i else R)
  | 0, j, b, h, hb, k, hk => by
    obtain ⟨k, rfl⟩ : ∃ m, k = m + 1 := ⟨k - 1, by omega⟩
    simp only [comfitref05_find.l1]
    rw [if_neg (by omega)]
    cases b
    · rw [if_neg (by decide), hc k (by omega)]; rfl
    · rw [if_pos rfl, List.drop_of_length_le (by omega), List.drop_of_length_le (by have := hb rfl; omega)]
      rfl
  | n + 1, j, b, h, hb, k, hk => by
    obtain ⟨k, rfl⟩ : ∃ m, k = m + 1 := ⟨k - 1, by omega⟩
    have hj0 : (0 : Int) ≤ (j : Int) := by omega
    have hjI : (j : Int) < (s.length : Int) := by omega
    have hw : wrap64 ((j : Int) + 1) = ((j + 1 : Nat) : Int) := by rw [wrap64_succ (n := s.length) hj0 ⟨hjI, hl⟩]; omega
    simp only [comfitref05_find.l1]
    rw [if_pos hjI, hw]
    cases b
    · rw [if_neg (by decide), find_l1 xs ys s N i hl K R hc n (j + 1) false (by omega) (fun h => by cases h) k (by omega)]
      rfl
    · have hjy : (j : Int) < (ys.length : Int) := by have := hb rfl; omega
      rw [if_pos rfl, if_pos hj0, if_pos hjI, if_pos hjy, find_l1 xs ys s N i hl K R hc n (j + 1) _ (by omega) (fun _ => hb rfl) k (by omega), drop39 s j (by omega), drop39 ys j (by omega)]
      simp only [eq39, Bool.true_and]
theorem find_l0 (sts : List (List S95)) (ys : List S95) (hl : sts.length < 2 ^ 62) (hs : ∀ s ∈ sts, s.length ≤ 1000) : ∀ (n i : Nat), sts.length = i + n → ∀ k, 1002 * n + 1 ≤ k →
    comfitref05_find.l0 k (ys.map to39) (mp sts) ((mp sts).length : Int) (i : Int) = some (findI (sts.drop i) ys (i : Int))
  | 0, i, h, k, hk => by
    obtain ⟨k, rfl⟩ : ∃ m, k = m + 1 := ⟨k - 1, by omega⟩
    simp only [comfitref05_find.l0]
    rw [if_neg (by simp [mp]; omega), List.drop_of_length_le (by omega)]
    rfl
  | n + 1, i, h, k, hk => by
    obtain ⟨k, rfl⟩ : ∃ m, k = m + 1 := ⟨k - 1, by omega⟩
    have hml : (mp sts).length = sts.length := by simp [mp]
    have hi0 : (0 : Int) ≤ (i : Int) := by omega
    have hiI : (i : Int) < ((mp sts).length : Int) := by omega
    have hlt : i < sts.length := by omega
    have hw : wrap64 ((i : Int) + 1) = ((i + 1 : Nat) : Int) := by rw [wrap64_succ (n := (mp sts).length) hi0 ⟨hiI, by omega⟩]; omega
    have hrd : rd_L12 (mp sts) (i : Int) = (sts[i]).map to39 := by
      simp [rd_L12, mp, List.getD_eq_getElem?_getD, hlt]
    have hsl := hs _ (List.getElem_mem hlt)
    have ih := find_l0 sts ys hl hs n (i + 1) (by omega)
    simp only [comfitref05_find.l0]
    rw [if_pos hiI, if_pos hi0, if_pos hiI, hrd, drop_sts sts i hlt]
    have h1 := find_l1 (mp sts) (ys.map to39) ((sts[i]).map to39) ((mp sts).length : Int) (i : Int) (by rw [List.length_map]; omega) (1002 * n + 1) _ (fun k hk => by rw [hw]; exact ih k hk) ((sts[i]).map to39).length 0
      ((((sts[i]).map to39).length : Int) == ((ys.map to39).length : Int)) (by omega) (fun h => by have := eq_of_beq h; omega) k (by rw [List.length_map]; omega)
    have e0 : ((0 : Nat) : Int) = 0 := rfl
    rw [e0] at h1
    rw [h1, List.drop_zero, List.drop_zero, eq39_map]
    simp only [findI]
    by_cases he : eqI sts[i] ys = true
    · rw [if_pos he, he]
      have : sts[i] = ys := (eqI_iff _ _).1 he
      rw [this]
      simp
    · rw [if_neg he, Bool.eq_false_iff.2 he, Bool.and_false]
      rfl
theorem find_f (sts : List (List S95)) (ys : List S95) (hl : sts.length ≤ 64) (hs : ∀ s ∈ sts, s.length ≤ 1000) (k : Nat) (hk : 70000 ≤ k) : comfitref05_find.f k (mp sts) (ys.map to39) = some (findI sts ys 0) := by
  have := find_l0 sts ys (by omega) hs sts.length 0 (by omega) k (by omega)
  have e0 : ((0 : Nat) : Int) = 0 := rfl
  rw [e0, List.drop_zero] at this
  exact this
theorem letter_at : ∀ c : Nat, c < 9 → bt (⟨#[65, 66, 67, 68, 69, 97, 98, 99, 100]⟩ : ByteArray) (c : Int) = lettersP.getD c 0 ∧ lettersP.drop c = lettersP.getD c 0 :: lettersP.drop (c + 1) ∧ lettersP.getD c 0 ≠ 0 := by
  intro c h
  have : c = 0 ∨ c = 1 ∨ c = 2 ∨ c = 3 ∨ c = 4 ∨ c = 5 ∨ c = 6 ∨ c = 7 ∨ c = 8 := by omega
  rcases this with rfl | rfl | rfl | rfl | rfl | rfl | rfl | rfl | rfl <;> exact ⟨rfl, rfl, by decide⟩
theorem row_f (l : List S41) (hg : okG (gr41 l)) (hne : 0 < l.length) (i : Nat) (s : List S95) (hs : goodSt (gr41 l) s) (K : Nat) (hK : 70000 ≤ K) (R : List (List S39) × Int) :
    ∀ (n c : Nat) (sts : List (List S95)), c + n = 9 → GoodS (gr41 l) sts → sts[i]? = some s → (∀ sts', refRowS (gr41 l) s (lettersP.drop c) sts = some sts' → ∀ k, K ≤ k → comfitref05_States.l0 k l (mp sts') ((i + 1 : Nat) : Int) = some R) →
      (refRowS (gr41 l) s (lettersP.drop c) sts = none → R = ([], 6)) → ∀ k, K + 2 * n + 1 ≤ k → comfitref05_States.l1 k l (mp sts) (i : Int) (c : Int) = some R
  | 0, c, sts, h, hG, hi, h1, h2, k, hk => by
    obtain ⟨k, rfl⟩ : ∃ m, k = m + 1 := ⟨k - 1, by omega⟩
    have hc9 : c = 9 := by omega
    subst hc9
    have hil := (List.getElem?_eq_some_iff.1 hi).1
    have hw : wrap64 ((i : Int) + 1) = ((i + 1 : Nat) : Int) := by rw [wrap64_succ (n := sts.length) (by omega) ⟨by omega, by have := hG.1; omega⟩]; omega
    simp only [comfitref05_States.l1]
    rw [if_neg (by omega), hw]
    have hnil : lettersP.drop 9 = [] := rfl
    rw [hnil] at h1
    exact h1 sts (by simp only [refRowS]) k (by omega)
  | n + 1, c, sts, h, hG, hi, h1, h2, k, hk => by
    obtain ⟨k, rfl⟩ : ∃ m, k = m + 1 := ⟨k - 1, by omega⟩
    have hml : (mp sts).length = sts.length := by simp [mp]
    have hil := (List.getElem?_eq_some_iff.1 hi).1
    have hG64 := hG.1
    have q1 : (c : Int) < 9 := by omega
    have q2 : (0 : Int) ≤ (i : Int) := by omega
    have q3 : (i : Int) < ((mp sts).length : Int) := by omega
    have q4 : (0 : Int) ≤ (c : Int) := by omega
    have q5 : 1001 ≤ k := by omega
    obtain ⟨k2, hk2⟩ : ∃ m, k = m + 1 := ⟨k - 1, by omega⟩
    have q6 : 70000 ≤ k := by omega
    have q7 : K + 2 * n + 1 ≤ k2 := by omega
    have q8 : c + 1 + n = 9 := by omega
    have q9 : c < 9 := by omega
    have q10 : ¬ ((mp sts).length : Int) > 64 := by omega
    have q11 : ¬ sts.length > 64 := by omega
    have q12 : (mp sts).length < 5864062014805 := by omega
    obtain ⟨e1, e2, e3⟩ := letter_at c q9
    have hrd : rd_L12 (mp sts) (i : Int) = s.map to39 := by
      simp [rd_L12, mp, List.getD_eq_getElem?_getD, hi]
    have hw : wrap64 ((c : Int) + 1) = ((c + 1 : Nat) : Int) := (wrap64_succ (n := 9) q4 ⟨q1, by decide⟩).trans (Int.natCast_succ c).symm
    simp only [comfitref05_States.l1]
    have hov := over_f l hg hne _ e3 s hs k q5
    rw [← e1, ← hrd] at hov
    rw [if_pos q1, if_pos q2, if_pos q3, if_pos q4, hov, e1]
    rw [e2] at h1 h2
    generalize lettersP.getD c 0 = a at *
    simp only [Option.bind_some]
    subst hk2
    have hclo := (clo_good hg hs e3).2
    simp only [refRowS] at h1 h2
    by_cases hm : movedP (gr41 l) a s = []
    · have hd : decide (((movedP (gr41 l) a s).length : Int) > 0) = false := by rw [hm]; rfl
      have hcn : ¬ (movedP (gr41 l) a s ≠ [] ∧ findI sts (refClo (gr41 l) (movedP (gr41 l) a s)) 0 < 0) := fun h => h.1 hm
      rw [hd, if_neg (by decide)]
      simp only [if_neg hcn] at h1 h2
      simp only [comfitref05_States.j2]
      rw [if_neg (by decide), if_neg q10, hw]
      rw [if_neg q11] at h1 h2
      exact row_f l hg hne i s hs K hK R n (c + 1) sts q8 hG hi h1 h2 k2 q7
    · have hd : decide (((movedP (gr41 l) a s).length : Int) > 0) = true := by
        rw [decide_eq_true_eq]
        exact Int.ofNat_lt.mpr (List.length_pos_iff.2 hm)
      rw [hd, if_pos rfl, find_f sts _ hG64 (fun t ht => Nat.le_trans (goodSt_len hg (hG.2 t ht)) (by decide)) _ q6]
      simp only [Option.bind_some, comfitref05_States.j2]
      by_cases hf : findI sts (refClo (gr41 l) (movedP (gr41 l) a s)) 0 < 0
      · have hcn : movedP (gr41 l) a s ≠ [] ∧ findI sts (refClo (gr41 l) (movedP (gr41 l) a s)) 0 < 0 := ⟨hm, hf⟩
        rw [if_pos (by simpa using hf), if_pos q12]
        simp only [if_pos hcn] at h1 h2
        have hmp : mp sts ++ [(refClo (gr41 l) (movedP (gr41 l) a s)).map to39] = mp (sts ++ [refClo (gr41 l) (movedP (gr41 l) a s)]) := by simp [mp]
        rw [hmp]
        have hml2 : (mp (sts ++ [refClo (gr41 l) (movedP (gr41 l) a s)])).length = sts.length + 1 := by simp [mp]
        by_cases h64 : sts.length + 1 > 64
        · rw [if_pos (by rw [hml2]; exact Int.ofNat_lt.mpr h64)]
          rw [if_pos h64] at h2
          rw [h2 rfl]
        · rw [if_neg (by rw [hml2]; exact fun h => h64 (Int.ofNat_lt.mp h)), hw]
          rw [if_neg h64] at h1 h2
          exact row_f l hg hne i s hs K hK R n (c + 1) _ q8 ⟨by rw [List.length_append, List.length_singleton]; exact Nat.not_lt.1 h64, fun t ht => by
            rcases List.mem_append.1 ht with h3 | h3
            · exact hG.2 t h3
            · rw [List.mem_singleton.1 h3]; exact hclo⟩ (getElem?_pre (List.prefix_append _ _) hi) h1 h2 k2 q7
      · have hcn : ¬ (movedP (gr41 l) a s ≠ [] ∧ findI sts (refClo (gr41 l) (movedP (gr41 l) a s)) 0 < 0) := fun h => hf h.2
        rw [if_neg (by simpa using hf), if_neg q10, hw]
        simp only [if_neg hcn] at h1 h2
        rw [if_neg q11] at h1 h2
        exact row_f l hg hne i s hs K hK R n (c + 1) sts q8 hG hi h1 h2 k2 q7
def outS (r : Option (List (List S95))) : List (List S39) × Int := match r with
  | none => ([], 6)
  | some F => (mp F, 0)
theorem states_l0 (l : List S41) (hg : okG (gr41 l)) (hne : 0 < l.length) : ∀ (n i : Nat) (sts : List (List S95)) (r : Option (List (List S95))), GoodS (gr41 l) sts → refStatesO (gr41 l) n i sts = some r → ∀ k, 70000 + 30 * n ≤ k → comfitref05_States.l0 k l (mp sts) (i : Int) = some (outS r)
  | 0, i, sts, r, hG, h, k, hk => by cases h
  | n + 1, i, sts, r, hG, h, k, hk => by
    obtain ⟨k, rfl⟩ : ∃ m, k = m + 1 := ⟨k - 1, by omega⟩
    have hml : (mp sts).length = sts.length := by simp [mp]
    simp only [refStatesO] at h
    simp only [comfitref05_States.l0]
    by_cases hlt : i < sts.length
    · rw [if_pos hlt] at h
      rw [if_pos (by omega)]
      obtain ⟨hs, hse⟩ := getD_good hlt hG
      obtain ⟨g1, g2⟩ := rowO_ref hg hs lettersP sts [] letters_ne0 hG
      have hi : sts[i]? = some (sts.getD i []) := by rw [hse]; exact List.getElem?_eq_getElem hlt
      have e0 : ((0 : Nat) : Int) = 0 := rfl
      have := row_f l hg hne i (sts.getD i []) hs (70000 + 30 * n) (by omega) (outS r) 9 0 sts (by omega) hG hi (fun sts' hR k hk => ?_) (fun hR => ?_) k (by omega)
      · rw [e0] at this; exact this
      · rw [List.drop_zero] at hR
        rw [hR] at h
        exact states_l0 l hg hne n (i + 1) sts' r (g2 sts' hR).2.1 h k hk
      · rw [List.drop_zero] at hR
        rw [hR] at h
        rw [← Option.some.inj h]
        rfl
    · rw [if_neg hlt] at h
      rw [if_neg (by omega)]
      rw [← Option.some.inj h]
      rfl
theorem states_f (l : List S41) (hg : okG (gr41 l)) (hne : 0 < l.length) (k : Nat) (hk : 80000 ≤ k) : comfitref05_States.f k l = some (outS (refStates (gr41 l))) := by
  obtain ⟨r, hr⟩ := refStatesO_some hg 66 0 [startS (gr41 l)] (start_good hg) (by simp) (by omega)
  have hst : refStates (gr41 l) = r := by unfold refStates; rw [hr]; rfl
  rw [hst]
  have hcl : comfitref05_closure.f l [(⟨(l.length : Int), 0⟩ : S39)] = some ((startS (gr41 l)).map to39) := by
    rw [closure_f hg hne (fun x hx => ?_) (by simp)]
    · unfold startS
      rw [gr41_len]
      rfl
    · rw [List.mem_singleton.1 hx]
      exact ⟨⟨by simp [to95], by simp [to95], by simp [to95]⟩, by simp⟩
  unfold comfitref05_States.f
  rw [hcl]
  simp only [Option.bind_some]
  have := states_l0 l hg hne 66 0 [startS (gr41 l)] r (start_good hg) hr k (by omega)
  have e0 : ((0 : Nat) : Int) = 0 := rfl
  rw [e0] at this
  exact this
end Go.Proofs.YtpmmfckgfbdboaaDoor.G
end

section
namespace Go.Proofs.YtpmmfckgfbdboaaDoor.G
open Go.RowKit Go.Proofs.YtpmmfckgfbdboaaDoorW.PrintWords Go.Proofs.YtpmmfckgfbdboaaDoorW.PrintLast Go.Proofs.YtpmmfckgfbdboaaDoorW.PrintMore
attribute [local go_sem] max2_int min2_int max_two min_two max_three min_three max_four min_four   -- for this text's walks alone
set_option linter.unusedVariables false
set_option linter.unusedSimpArgs false

/-! ### tables_isPart: function 89 -/
def tables_isPart.f (a0 : Int) : Option (Bool) := if a0 ≥ 65 then (some (decide (a0 ≤ 69))) else (some false)
set_option maxHeartbeats 8000000 in
set_option maxRecDepth 100000 in
theorem tables_isPart.calls (a0 : Int) (r : Bool) (w : World) (h : tables_isPart.f a0 = some r) :
    Calls Tryd.prog 89 #[.int .u8 a0] w fun e w' => e = .returned (.bool r) ∧ Drawn0 w w' := by
  have H : (if a0 ≥ 65 then (some (decide (a0 ≤ 69))) else (some false)) = some r := h
  clear h
  by_cases c2 : a0 ≥ 65
  · rw [if_pos c2] at H
    have c2b0 : decide (65 ≤ a0) = true := decide_eq_true c2
    clear c2
    obtain rfl := Option.some.inj H
    go_enter Tryd.func89, Tryd.ntmps89
    go_wp2
    go_ret
    exact ⟨by first | rfl | (simp; done) | (simp [*]; done), by repeat (first | exact Drawn0.refl _ | apply Drawn0.step)⟩
  · rw [if_neg c2] at H
    have c2b0 : decide (65 ≤ a0) = false := decide_eq_false c2
    clear c2
    obtain rfl := Option.some.inj H
    go_enter Tryd.func89, Tryd.ntmps89
    go_wp2
    go_ret
    exact ⟨by first | rfl | (simp; done) | (simp [*]; done), by repeat (first | exact Drawn0.refl _ | apply Drawn0.step)⟩

end Go.Proofs.YtpmmfckgfbdboaaDoor.G
end

section
namespace Go.Proofs.YtpmmfckgfbdboaaDoor.G
open Go.RowKit Go.Proofs.YtpmmfckgfbdboaaDoorW.PrintWords Go.Proofs.YtpmmfckgfbdboaaDoorW.PrintLast Go.Proofs.YtpmmfckgfbdboaaDoorW.PrintMore
attribute [local go_sem] max2_int min2_int max_two min_two max_three min_three max_four min_four   -- for this text's walks alone
set_option linter.unusedVariables false
set_option linter.unusedSimpArgs false

theorem eqA56 (d : Nat) (w : World) (x0 y0 : Int) (x1 y1 : ByteArray) :
    (Op.equalIn (d + 2) 56 (.agg #[.int .u8 x0, .string x1]) (.agg #[.int .u8 y0, .string y1])).run Tryd.prog w = .ok (x0 == y0 && (x1.toList == y1.toList)) w := by
  refine eqA_of Tryd.underlying56 (by kernel_rfl) ?_
  refine eqf_cons (by rfl) (by go_simp; rfl) (by go_simp; rfl) (by go_simp) ?_
  exact eqf_last (by rfl) (by go_simp; rfl) (by go_simp; rfl) (by go_simp)
end Go.Proofs.YtpmmfckgfbdboaaDoor.G
end

section
namespace Go.Proofs.YtpmmfckgfbdboaaDoor.G
open Go.RowKit Go.Proofs.YtpmmfckgfbdboaaDoorW.PrintWords Go.Proofs.YtpmmfckgfbdboaaDoorW.PrintLast Go.Proofs.YtpmmfckgfbdboaaDoorW.PrintMore
attribute [local go_sem] max2_int min2_int max_two min_two max_three min_three max_four min_four   -- for this text's walks alone
set_option linter.unusedVariables false
set_option linter.unusedSimpArgs false

attribute [local go_sem high] eqA56
/-! ### tables_Rule_120: function 120 -/
def tables_Rule_120.l0 : Nat → List (S56) → Int → Int → Int → ByteArray → Option (Int)
  | 0, _, _, _, _, _ => none
  | k + 1, x0, x7, x8, x103000, x103001 => if x8 < x7 then (if 0 ≤ x8 then (if x8 < (x0.length : Int) then (if (x103000 == ((rd_T56 x0 x8).f0) && (x103001.toList == (((rd_T56 x0 x8).f1).toList))) = true then (some x8) else (tables_Rule_120.l0 k x0 x7 (wrap64 (x8 + 1)) x103000 x103001)) else (none)) else (none)) else (some (-1))
def tables_Rule_120.f (k : Nat) (l0 : List (S56)) (a1_0 : Int) (a1_1 : ByteArray) : Option (Int) := tables_Rule_120.l0 k l0 (l0.length : Int) 0 a1_0 a1_1
theorem tables_Rule_120.mono_l : ∀ k, (∀ y0 y1 y2 y3 y4, LeO (tables_Rule_120.l0 k y0 y1 y2 y3 y4) (tables_Rule_120.l0 (k + 1) y0 y1 y2 y3 y4))
  | 0 => fun _ _ _ _ _ r h => by simp [tables_Rule_120.l0] at h
  | k + 1 => by
    have ih0 := tables_Rule_120.mono_l k
    · intro y0 y1 y2 y3 y4
      unfold tables_Rule_120.l0
      repeat' first
      | (with_reducible exact ih0 _ _ _ _ _)
      | (with_reducible exact LeO.refl _)
      | (with_reducible exact LeO.none _)
      | (with_reducible refine LeO.ite ?_ ?_)
      | (with_reducible refine LeO.bind ?_ (fun _ => ?_))
      | exact ih0 _ _ _ _ _
      | exact LeO.none _
      | refine LeO.ite ?_ ?_
      | refine LeO.bind ?_ (fun _ => ?_)
theorem tables_Rule_120.mono : ∀ a0 a1 a2 k, LeO (tables_Rule_120.f k a0 a1 a2) (tables_Rule_120.f (k + 1) a0 a1 a2) := by
  intro a0 a1 a2 k
  have ih0 := tables_Rule_120.mono_l k
  unfold tables_Rule_120.f
  repeat' first
      | (with_reducible exact ih0 _ _ _ _ _)
      | (with_reducible exact LeO.refl _)
      | (with_reducible exact LeO.none _)
      | (with_reducible refine LeO.ite ?_ ?_)
      | (with_reducible refine LeO.bind ?_ (fun _ => ?_))
      | exact ih0 _ _ _ _ _
      | exact LeO.none _
      | refine LeO.ite ?_ ?_
      | refine LeO.bind ?_ (fun _ => ?_)
set_option maxHeartbeats 8000000 in
set_option maxRecDepth 100000 in
theorem tables_Rule_120.calls (k : Nat) (A0 : Option Addr) (c0 : Nat) (l0 : List (S56)) (a1_0 : Int) (a1_1 : ByteArray) (r : Int) (w : World) (hr0 : Kd.C k56 w A0 l0.length l0) (hc0 : l0.length ≤ c0) (h : tables_Rule_120.f k l0 a1_0 a1_1 = some r) :
    Calls Tryd.prog 120 #[.slice A0 l0.length c0, .agg #[.int .u8 a1_0, .string a1_1]] w fun e w' => e = .returned (.int .i64 r) ∧ Below w.heap.size w w' := by
  have hu56 := Tryd.underlying56
  have HR0 := Aside0.mk hr0
  have HC0 := Aside0.mk hc0
  clear hr0 hc0
  have HB := Aside0.mk (Below.refl w.heap.size w)
  have H : (tables_Rule_120.l0 k l0 (l0.length : Int) 0 a1_0 a1_1) = some r := h
  clear h
  have H' := Aside0.mk H
  clear H
  go_enter Tryd.func120, Tryd.ntmps120
  go_wp2_with (first | ((with_reducible refine gate_dst (N := 3) rfl ?_); refine box_event ?hg (N := 3) ?hd (cs := #[.int .u8 a1_0, .string a1_1]) (t := 56) ?hr ?_; (case hd => rfl); (case hg => rfl); (case hr => first | (go_simp; done) | (go_simp; rfl)); intro gb102 hg w3 hbox hb; have n0_ := Aside0.mk (below_step (by repeat (first | (with_reducible first | exact HB.out | apply below_alloc | apply pw_below_drewN | apply below_drew1) | exact HB.out)) hb); have n1_ := Aside0.mk (hbox); have n2_ := Aside0.mk ((by rw [hg]; exact (below_size (by repeat (first | (with_reducible first | exact HB.out | apply below_alloc | apply pw_below_drewN | apply below_drew1) | exact HB.out))) : w.heap.size ≤ gb102)); have n3_ := Aside0.mk ((by rw [hg]; exact (below_size (by repeat (first | (with_reducible first | exact HB.out | apply below_alloc | apply pw_below_drewN | apply below_drew1) | exact HB.out))) : w.heap.size ≤ gb102)); clear HB; have HB := n0_; have BK102 := n1_; have GW102 := n2_; have GE102 := n3_; clear n0_ n1_ n2_ n3_; clear hb hbox hg))
  repeat (go_quiet (first | ((with_reducible refine gate_dst (N := 3) rfl ?_); refine box_event ?hg (N := 3) ?hd (cs := #[.int .u8 a1_0, .string a1_1]) (t := 56) ?hr ?_; (case hd => rfl); (case hg => rfl); (case hr => first | (go_simp; done) | (go_simp; rfl)); intro gb102 hg w3 hbox hb; have n0_ := Aside0.mk (below_step (by repeat (first | (with_reducible first | exact HB.out | apply below_alloc | apply pw_below_drewN | apply below_drew1) | exact HB.out)) hb); have n1_ := Aside0.mk (hbox); have n2_ := Aside0.mk ((by rw [hg]; exact (below_size (by repeat (first | (with_reducible first | exact HB.out | apply below_alloc | apply pw_below_drewN | apply below_drew1) | exact HB.out))) : w.heap.size ≤ gb102)); have n3_ := Aside0.mk ((by rw [hg]; exact (below_size (by repeat (first | (with_reducible first | exact HB.out | apply below_alloc | apply pw_below_drewN | apply below_drew1) | exact HB.out))) : w.heap.size ≤ gb102)); clear HB; have HB := n0_; have BK102 := n1_; have GW102 := n2_; have GE102 := n3_; clear n0_ n1_ n2_ n3_; clear hb hbox hg)); try go_wp2_with (first | ((with_reducible refine gate_dst (N := 3) rfl ?_); refine box_event ?hg (N := 3) ?hd (cs := #[.int .u8 a1_0, .string a1_1]) (t := 56) ?hr ?_; (case hd => rfl); (case hg => rfl); (case hr => first | (go_simp; done) | (go_simp; rfl)); intro gb102 hg w3 hbox hb; have n0_ := Aside0.mk (below_step (by repeat (first | (with_reducible first | exact HB.out | apply below_alloc | apply pw_below_drewN | apply below_drew1) | exact HB.out)) hb); have n1_ := Aside0.mk (hbox); have n2_ := Aside0.mk ((by rw [hg]; exact (below_size (by repeat (first | (with_reducible first | exact HB.out | apply below_alloc | apply pw_below_drewN | apply below_drew1) | exact HB.out))) : w.heap.size ≤ gb102)); have n3_ := Aside0.mk ((by rw [hg]; exact (below_size (by repeat (first | (with_reducible first | exact HB.out | apply below_alloc | apply pw_below_drewN | apply below_drew1) | exact HB.out))) : w.heap.size ≤ gb102)); clear HB; have HB := n0_; have BK102 := n1_; have GW102 := n2_; have GE102 := n3_; clear n0_ n1_ n2_ n3_; clear hb hbox hg)))
  go_loopg [8] k (fun kq v8 w' => ∃ (x8_1 : Int), v8 = .int .i64 x8_1 ∧ Aside0 (tables_Rule_120.l0 kq l0 (l0.length : Int) x8_1 a1_0 a1_1 = some r) ∧ Aside0 (kq ≤ k) ∧ Aside0 (w'.heap[gb102]? = some (.cells #[.int .u8 a1_0, .string a1_1] 56 (0, 0))) ∧ Aside0 (Below w.heap.size w w'))
  case atStart => exact ⟨(0), (by first | rfl | (simp; done) | (simp [*]; done)), H', ⟨Nat.le_refl _⟩, ⟨by (with_reducible repeat (first | refine blk_drewN ?_ _ | refine blk_drew ?_ | refine blk_alloc ?_ _)); exact BK102.out⟩, ⟨by repeat (first | (with_reducible first | exact HB.out | apply below_alloc | apply pw_below_drewN | apply below_drew1 | refine below_set ?_ GE102.out) | exact HB.out)⟩⟩
  case round =>
    clear H'
    try clear c1
    try clear p2
    obtain ⟨x8_1, rfl, HA, HK1, BK102, HB⟩ := hrel
    cases gk with
    | zero => exact absurd HA.out (by simp [tables_Rule_120.l0])
    | succ k1 =>
      have H := HA.out
      clear HA
      simp only [tables_Rule_120.l0] at H
      by_cases c4 : x8_1 < (l0.length : Int)
      · rw [if_pos c4] at H
        have c4b0 : decide (x8_1 < (l0.length : Int)) = true := decide_eq_true c4
        clear c4
        by_cases c5 : 0 ≤ x8_1
        · rw [if_pos c5] at H
          have c5b0 : decide (0 ≤ x8_1) = true := decide_eq_true c5
          clear c5
          by_cases c6 : x8_1 < (l0.length : Int)
          · rw [if_pos c6] at H
            have c6b0 : decide (x8_1 < (l0.length : Int)) = true := decide_eq_true c6
            clear c6
            by_cases c7 : (a1_0 == ((rd_T56 l0 x8_1).f0) && (a1_1.toList == (((rd_T56 l0 x8_1).f1).toList))) = true
            · rw [if_pos c7] at H
              have c7b0 : (a1_0 == ((rd_T56 l0 x8_1).f0) && (a1_1.toList == (((rd_T56 l0 x8_1).f1).toList))) = true := c7
              (try (have c7b1 : decide (a1_0 = ((rd_T56 l0 x8_1).f0) && (a1_1.toList == (((rd_T56 l0 x8_1).f1).toList))) = true := by simpa using c7))
              (try (have c7b2 : (a1_0 == ((rd_T56 l0 x8_1).f0) && (a1_1.toList == (((rd_T56 l0 x8_1).f1).toList))) = true := by simpa using c7))
              clear c7
              obtain rfl := Option.some.inj H
              have hcz8_0 : wr.cell? ⟨gb102, 0, none⟩ = some (.int .u8 a1_0) := (blk_cell BK102.out 0).trans rfl
              have hcz8_1 : wr.cell? ⟨gb102, 1, none⟩ = some (.string a1_1) := (blk_cell BK102.out 1).trans rfl
              have hfz8_0 := blk_frozen BK102.out 0
              have hfz8_1 := blk_frozen BK102.out 1
              have p103 : 0 ≤ (x8_1 : Int) := of_decide_eq_true (by first | (with_reducible assumption) | assumption)
              have q103 : x8_1 < (l0.length : Int) := of_decide_eq_true (by first | (with_reducible assumption) | assumption)
              obtain ⟨ad103, e103, hx103_0, hx103_1⟩ := at_T56 HR0.out x8_1 p103 q103
              cases e103
              replace hx103_0 := (HB.out.cell (World.block_lt_of_cell? w _ hx103_0)).trans hx103_0
              replace hx103_1 := (HB.out.cell (World.block_lt_of_cell? w _ hx103_1)).trans hx103_1
              replace p103 := eq_true p103
              replace q103 := eq_true q103
              go_wp2
              repeat (go_quiet (fail); try go_wp2)
              go_ret
              exact ⟨by first | rfl | (simp [errW_none, errW_some] <;> rfl) | (simp [*, errW_none, errW_some] <;> rfl), by repeat (first | (with_reducible first | exact HB.out | apply below_alloc | apply pw_below_drewN | apply below_drew1 | refine below_set ?_ GE102.out) | exact HB.out)⟩
            · rw [if_neg c7] at H
              have c7b0 : (a1_0 == ((rd_T56 l0 x8_1).f0) && (a1_1.toList == (((rd_T56 l0 x8_1).f1).toList))) = false := by simpa using c7
              (try (have c7b1 : decide (a1_0 = ((rd_T56 l0 x8_1).f0) && (a1_1.toList == (((rd_T56 l0 x8_1).f1).toList))) = false := by simpa using c7))
              (try (have c7b2 : (a1_0 == ((rd_T56 l0 x8_1).f0) && (a1_1.toList == (((rd_T56 l0 x8_1).f1).toList))) = false := by simpa using c7))
              (try (have c7b3 : ¬ (a1_0 = ((rd_T56 l0 x8_1).f0) && (a1_1.toList == (((rd_T56 l0 x8_1).f1).toList))) := by simpa using c7))
              clear c7
              have H' := Aside0.mk H
              clear H
              have hcz9_0 : wr.cell? ⟨gb102, 0, none⟩ = some (.int .u8 a1_0) := (blk_cell BK102.out 0).trans rfl
              have hcz9_1 : wr.cell? ⟨gb102, 1, none⟩ = some (.string a1_1) := (blk_cell BK102.out 1).trans rfl
              have hfz9_0 := blk_frozen BK102.out 0
              have hfz9_1 := blk_frozen BK102.out 1
              have p103 : 0 ≤ (x8_1 : Int) := of_decide_eq_true (by first | (with_reducible assumption) | assumption)
              have q103 : x8_1 < (l0.length : Int) := of_decide_eq_true (by first | (with_reducible assumption) | assumption)
              obtain ⟨ad103, e103, hx103_0, hx103_1⟩ := at_T56 HR0.out x8_1 p103 q103
              cases e103
              replace hx103_0 := (HB.out.cell (World.block_lt_of_cell? w _ hx103_0)).trans hx103_0
              replace hx103_1 := (HB.out.cell (World.block_lt_of_cell? w _ hx103_1)).trans hx103_1
              replace p103 := eq_true p103
              replace q103 := eq_true q103
              go_wp2
              repeat (go_quiet (fail); try go_wp2)
              go_roundg k1
              case measure => have := HK1.out; omega
              case rel => exact ⟨(wrap64 (x8_1 + 1)), (by first | rfl | (simp; done) | (simp [*]; done)), H', ⟨by have := HK1.out; omega⟩, ⟨by (with_reducible repeat (first | refine blk_drewN ?_ _ | refine blk_drew ?_ | refine blk_alloc ?_ _)); exact BK102.out⟩, ⟨by repeat (first | (with_reducible first | exact HB.out | apply below_alloc | apply pw_below_drewN | apply below_drew1 | refine below_set ?_ GE102.out) | exact HB.out)⟩⟩
          · rw [if_neg c6] at H
            exact absurd H (by simp)
        · rw [if_neg c5] at H
          exact absurd H (by simp)
      · rw [if_neg c4] at H
        have c4b0 : decide (x8_1 < (l0.length : Int)) = false := decide_eq_false c4
        clear c4
        obtain rfl := Option.some.inj H
        go_wp2
        repeat (go_quiet (fail); try go_wp2)
        go_ret
        exact ⟨by first | rfl | (simp [errW_none, errW_some] <;> rfl) | (simp [*, errW_none, errW_some] <;> rfl), by repeat (first | (with_reducible first | exact HB.out | apply below_alloc | apply pw_below_drewN | apply below_drew1 | refine below_set ?_ GE102.out) | exact HB.out)⟩

end Go.Proofs.YtpmmfckgfbdboaaDoor.G
end

section
namespace Go.Proofs.YtpmmfckgfbdboaaDoor.G
open Go.RowKit Go.Proofs.YtpmmfckgfbdboaaDoorW.PrintWords Go.Proofs.YtpmmfckgfbdboaaDoorW.PrintLast Go.Proofs.YtpmmfckgfbdboaaDoorW.PrintMore
attribute [local go_sem] max2_int min2_int max_two min_two max_three min_three max_four min_four   -- for this text's walks alone
set_option linter.unusedVariables false
set_option linter.unusedSimpArgs false

/-! ### tables_Rule_91: function 91 -/
def tables_Rule_91.f (k : Nat) (l0 : List (S56)) (a1_0 : Int) (a1_1 : ByteArray) : Option (Bool) := (tables_Rule_120.f k l0 a1_0 a1_1).bind fun t105 => (some (decide (t105 ≥ 0)))
theorem tables_Rule_91.mono : ∀ a0 a1 a2 k, LeO (tables_Rule_91.f k a0 a1 a2) (tables_Rule_91.f (k + 1) a0 a1 a2) := by
  intro a0 a1 a2 k
  unfold tables_Rule_91.f
  repeat' first
      | (with_reducible exact tables_Rule_120.mono _ _ _ _)
      | (with_reducible exact LeO.refl _)
      | (with_reducible exact LeO.none _)
      | (with_reducible refine LeO.ite ?_ ?_)
      | (with_reducible refine LeO.bind ?_ (fun _ => ?_))
      | exact tables_Rule_120.mono _ _ _ _
      | exact LeO.none _
      | refine LeO.ite ?_ ?_
      | refine LeO.bind ?_ (fun _ => ?_)
set_option maxHeartbeats 8000000 in
set_option maxRecDepth 100000 in
theorem tables_Rule_91.calls (k : Nat) (A0 : Option Addr) (c0 : Nat) (l0 : List (S56)) (a1_0 : Int) (a1_1 : ByteArray) (r : Bool) (w : World) (hr0 : Kd.C k56 w A0 l0.length l0) (hc0 : l0.length ≤ c0) (h : tables_Rule_91.f k l0 a1_0 a1_1 = some r) :
    Calls Tryd.prog 91 #[.slice A0 l0.length c0, .agg #[.int .u8 a1_0, .string a1_1]] w fun e w' => e = .returned (.bool r) ∧ Below w.heap.size w w' := by
  have hu56 := Tryd.underlying56
  have HR0 := Aside0.mk hr0
  have HC0 := Aside0.mk hc0
  clear hr0 hc0
  have HB := Aside0.mk (Below.refl w.heap.size w)
  have H : ((tables_Rule_120.f k l0 a1_0 a1_1).bind fun t105 => (some (decide (t105 ≥ 0)))) = some r := h
  clear h
  replace H := Option.bind_eq_some_iff.mp H
  obtain ⟨t105, A30, H⟩ := H
  replace H : (some (decide (t105 ≥ 0))) = some r := H
  have A3 := Aside0.mk A30
  clear A30
  obtain rfl := Option.some.inj H
  go_enter Tryd.func91, Tryd.ntmps91
  go_wp2_with (first | ((with_reducible refine gate_dst (N := 3) rfl ?_); refine box_event ?hg (N := 3) ?hd (cs := #[.int .u8 a1_0, .string a1_1]) (t := 56) ?hr ?_; (case hd => rfl); (case hg => rfl); (case hr => first | (go_simp; done) | (go_simp; rfl)); intro gb104 hg w4 hbox hb; have n0_ := Aside0.mk (below_step (by repeat (first | (with_reducible first | exact HB.out | apply below_alloc | apply pw_below_drewN | apply below_drew1) | exact HB.out)) hb); have n1_ := Aside0.mk (hbox); have n2_ := Aside0.mk ((by rw [hg]; exact (below_size (by repeat (first | (with_reducible first | exact HB.out | apply below_alloc | apply pw_below_drewN | apply below_drew1) | exact HB.out))) : w.heap.size ≤ gb104)); have n3_ := Aside0.mk ((by rw [hg]; exact (below_size (by repeat (first | (with_reducible first | exact HB.out | apply below_alloc | apply pw_below_drewN | apply below_drew1) | exact HB.out))) : w.heap.size ≤ gb104)); clear HB; have HB := n0_; have BK104 := n1_; have GW104 := n2_; have GE104 := n3_; clear n0_ n1_ n2_ n3_; clear hb hbox hg; have hcz5_0 : w4.cell? ⟨gb104, 0, none⟩ = some (.int .u8 a1_0) := (blk_cell BK104.out 0).trans rfl; have hcz5_1 : w4.cell? ⟨gb104, 1, none⟩ = some (.string a1_1) := (blk_cell BK104.out 1).trans rfl; have hfz5_0 := blk_frozen BK104.out 0; have hfz5_1 := blk_frozen BK104.out 1) | ((with_reducible refine gate_callee (f := 120) rfl ?_); refine goesL_ (some 7) rfl rfl Tryd.func120 (by kernel_rfl) rfl #[.slice A0 l0.length c0, .agg #[.int .u8 a1_0, .string a1_1]] rfl (by (try simp only [List.map_toArray, List.map_cons, List.map_nil]); first | done | rfl | (simp only [List.length_drop, List.length_take]; rfl)) ?_; (with_reducible refine (tables_Rule_120.calls k _ _ l0 a1_0 a1_1 t105 _ ?side1 ?side2 A3.out).mono ?_); (case side1 => repeat (first | exact (Kd.C_below HR0.out HB.out) | (with_reducible refine Kd.C_alloc ?_ _) | (with_reducible refine Kd.C_drewN ?_ _) | (with_reducible refine Kd.C_drew ?_))); (case side2 => exact HC0.out); rintro e w6 ⟨rfl, hb⟩; refine ⟨_, rfl, ?_⟩; have n0_ := Aside0.mk (blk_below (g := gb104) (o := .cells #[.int .u8 a1_0, .string a1_1] 56 (0, 0)) (by (with_reducible repeat (first | refine blk_drewN ?_ _ | refine blk_drew ?_ | refine blk_alloc ?_ _)); exact BK104.out) hb); have n1_ := Aside0.mk (below_step (by repeat (first | (with_reducible first | exact HB.out | apply below_alloc | apply pw_below_drewN | apply below_drew1 | refine below_set ?_ GE104.out) | exact HB.out)) hb); clear BK104; clear HB; have BK104 := n0_; have HB := n1_; clear n0_ n1_; (try clear hb); (try clear hb2); (try clear hk); (try clear hi)))
  go_ret
  exact ⟨by first | rfl | (simp [errW_none, errW_some] <;> rfl) | (simp [*, errW_none, errW_some] <;> rfl), by repeat (first | (with_reducible first | exact HB.out | apply below_alloc | apply pw_below_drewN | apply below_drew1 | refine below_set ?_ GE104.out) | exact HB.out)⟩

end Go.Proofs.YtpmmfckgfbdboaaDoor.G
end

section
namespace Go.Proofs.YtpmmfckgfbdboaaDoor.G
open Go.RowKit Go.Shelf Go.Proofs.YtpmmfckgfbdboaaDoorW.PrintWords Go.Proofs.YtpmmfckgfbdboaaDoorW.PrintLast Go.Proofs.YtpmmfckgfbdboaaDoorW.PrintMore
def lays160_ren : Go.Shelf.Ren := ⟨fun | 160 => 90 | 232 => 114 | 231 => 113 | 227 => 115 | 234 => 117 | 233 => 116 | 236 => 119 | 235 => 118 | 228 => 137 | 271 => 140 | 151 => 139 | 197 => 138 | 120 => 168 | 152 => 167 | 260 => 166 | 137 => 177 | 119 => 186 | 224 => 187 | 225 => 188 | 217 => 192 | 266 => 196 | n => n, fun | 9 => 9 | 4 => 4 | 3 => 3 | 5 => 5 | 117 => 175 | 116 => 174 | 0 => 0 | 124 => 178 | 21 => 21 | 105 => 195 | 46 => 54 | 119 => 235 | 139 => 238 | 138 => 237 | n => n, fun | 3 => 0 | 4 => 1 | n => n⟩
theorem lays160 : Go.Proofs.Lays.n160 Tryd.prog lays160_ren := {
  mixed := by kernel_rfl
  f119 := Tryd.func186.trans (congrArg some (by kernel_rfl))
  f120 := Tryd.func168.trans (congrArg some (by kernel_rfl))
  f137 := Tryd.func177.trans (congrArg some (by kernel_rfl))
  f151 := Tryd.func139.trans (congrArg some (by kernel_rfl))
  f152 := Tryd.func167.trans (congrArg some (by kernel_rfl))
  f160 := Tryd.func90.trans (congrArg some (by kernel_rfl))
  f197 := Tryd.func138.trans (congrArg some (by kernel_rfl))
  f217 := Tryd.func192.trans (congrArg some (by kernel_rfl))
  f224 := Tryd.func187.trans (congrArg some (by kernel_rfl))
  f225 := Tryd.func188.trans (congrArg some (by kernel_rfl))
  f227 := Tryd.func115.trans (congrArg some (by kernel_rfl))
  f228 := Tryd.func137.trans (congrArg some (by kernel_rfl))
  f231 := Tryd.func113.trans (congrArg some (by kernel_rfl))
  f232 := Tryd.func114.trans (congrArg some (by kernel_rfl))
  f233 := Tryd.func116.trans (congrArg some (by kernel_rfl))
  f234 := Tryd.func117.trans (congrArg some (by kernel_rfl))
  f235 := Tryd.func118.trans (congrArg some (by kernel_rfl))
  f236 := Tryd.func119.trans (congrArg some (by kernel_rfl))
  f260 := Tryd.func166.trans (congrArg some (by kernel_rfl))
  f266 := Tryd.func196.trans (congrArg some (by kernel_rfl))
  f271 := Tryd.func140.trans (congrArg some (by kernel_rfl))
  t0 := Tryd.underlying0
  a0 := Tryd.isAgg0
  z0 := Tryd.sizeOf0
  v0 := Tryd.zeroValue0
  t3 := Tryd.underlying3
  a3 := Tryd.isAgg3
  z3 := Tryd.sizeOf3
  v3 := Tryd.zeroValue3
  t4 := Tryd.underlying4
  a4 := Tryd.isAgg4
  z4 := Tryd.sizeOf4
  v4 := Tryd.zeroValue4
  t5 := Tryd.underlying5
  a5 := Tryd.isAgg5
  z5 := Tryd.sizeOf5
  v5 := Tryd.zeroValue5
  t9 := Tryd.underlying9
  a9 := Tryd.isAgg9
  z9 := Tryd.sizeOf9
  v9 := Tryd.zeroValue9
  t21 := Tryd.underlying21
  a21 := Tryd.isAgg21
  z21 := Tryd.sizeOf21
  v21 := Tryd.zeroValue21
  t46 := Tryd.underlying54
  a46 := Tryd.isAgg54
  z46 := Tryd.sizeOf54
  v46 := Tryd.zeroValue54
  t105 := Tryd.underlying195
  a105 := Tryd.isAgg195
  z105 := Tryd.sizeOf195
  v105 := Tryd.zeroValue195
  t116 := Tryd.underlying174
  a116 := Tryd.isAgg174
  z116 := Tryd.sizeOf174
  t117 := Tryd.underlying175
  a117 := Tryd.isAgg175
  z117 := Tryd.sizeOf175
  v117 := Tryd.zeroValue175
  t119 := Tryd.underlying235
  a119 := Tryd.isAgg235
  z119 := Tryd.sizeOf235
  t124 := Tryd.underlying178
  a124 := Tryd.isAgg178
  z124 := Tryd.sizeOf178
  v124 := Tryd.zeroValue178
  t138 := Tryd.underlying237
  a138 := Tryd.isAgg237
  z138 := Tryd.sizeOf237
  v138 := Tryd.zeroValue237
  t139 := Tryd.underlying238
  a139 := Tryd.isAgg238
  z139 := Tryd.sizeOf238
  v139 := Tryd.zeroValue238
  g3 := by kernel_rfl
  g4 := by kernel_rfl }

/-- What strings.Trim returns, where the cutset is ASCII and not long; 'none': not told. -/
def strings_Trim.f (a0 a1 : ByteArray) : Option ByteArray :=
  if a0.size ≤ 9223372036854775807 ∧ a1.size < 1000 ∧ a1.data.toList.all (fun b => decide (b.toNat < 128)) = true then some ⟨(Lib.trimS a0.data.toList a1.data.toList).toArray⟩ else none
theorem strings_Trim.calls (a0 a1 : ByteArray) (r : ByteArray) (w : World) (h : strings_Trim.f a0 a1 = some r) :
    Calls Tryd.prog 90 #[.string a0, .string a1] w fun e w' => e = .returned (.string r) ∧ Below w.heap.size w w' := by
  unfold strings_Trim.f at h
  split at h
  · rename_i hc
    obtain ⟨h1, h2, h3⟩ := hc
    obtain rfl := Option.some.inj h
    exact Any.strings_Trim_laid lays160 (by kernel_rfl) a0 a1 w h1 (by omega) (ascii_of_all h3)
  · cases h
end Go.Proofs.YtpmmfckgfbdboaaDoor.G
end
