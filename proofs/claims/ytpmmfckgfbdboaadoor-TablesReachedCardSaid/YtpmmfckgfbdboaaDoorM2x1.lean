import Derived.Test.YtpmmfckgfbdboaaDoorM2x0
import Derived.Lib.SlBytesConst
import Derived.WalkSpells
import Derived.Shelf.Lay
import Derived.Shelf.Strings.SlTrimAscii
section
namespace Go.Proofs.YtpmmfckgfbdboaaDoor.G
open Go.RowKit Go.Proofs.YtpmmfckgfbdboaaDoorW.PrintWords Go.Proofs.YtpmmfckgfbdboaaDoorW.PrintLast Go.Proofs.YtpmmfckgfbdboaaDoorW.PrintMore
open Go.Shelf Go.Lib
set_option linter.unusedVariables false
set_option linter.unusedSimpArgs false
theorem info98 : (Tryd.prog.info? 98).map (fun i => (i.zero, i.size, i.bytes)) = some (some (.map none), 1, 8) := by kernel_rfl
theorem info94 : (Tryd.prog.info? 94).map (fun i => (i.zero, i.size, i.bytes)) = some (some (.slice none 0 0), 1, 24) := by kernel_rfl
theorem BI.c1 {base : Nat} {w0 W : World} {T : Nat} {GR SV GV : Value} {nx : List Nat} {sts : List (List S95)} {gos : List (List (Int × Int))} {bs : List Nat} (h : BI base w0 W T GR nx sts SV GV gos bs) : W.cell? ⟨T, 1, none⟩ = some SV :=
  (blk_cell h.tb 1).trans (by simp [Array.getElem?_append])
theorem BI.c2 {base : Nat} {w0 W : World} {T : Nat} {GR SV GV : Value} {nx : List Nat} {sts : List (List S95)} {gos : List (List (Int × Int))} {bs : List Nat} (h : BI base w0 W T GR nx sts SV GV gos bs) : W.cell? ⟨T, 2, none⟩ = some GV :=
  (blk_cell h.tb 2).trans (by simp [Array.getElem?_append])
theorem len_small {n : Nat} (h : n ≤ 64) : (n + 1) * 8 ≤ 140737488355328 := by omega
theorem len_small2 {n : Nat} (h : n ≤ 64) : (n + 1) * 24 ≤ 140737488355328 := by omega
def lettersV : Array Value := #[.int .u8 65, .int .u8 66, .int .u8 67, .int .u8 68, .int .u8 69, .int .u8 97, .int .u8 98, .int .u8 99, .int .u8 100]
theorem conv_at (w4 : World) (T : Nat) (v : Value) : (convert 42 42 (.slice (some ⟨w4.heap.size, 0, none⟩) 9 9)).run Tryd.prog ((w4.setCell ⟨T, 2, none⟩ v).alloc (.cells #[.int .u8 65, .int .u8 66, .int .u8 67, .int .u8 68, .int .u8 69, .int .u8 97, .int .u8 98, .int .u8 99, .int .u8 100] 5)) = .ok (.slice (some ⟨w4.heap.size, 0, none⟩) 9 9) ((w4.setCell ⟨T, 2, none⟩ v).alloc (.cells #[.int .u8 65, .int .u8 66, .int .u8 67, .int .u8 68, .int .u8 69, .int .u8 97, .int .u8 98, .int .u8 99, .int .u8 100] 5 (9, 10))) := by
  have h := Lib.run_convert_bytes_const (P := Tryd.prog) (w4.setCell ⟨T, 2, none⟩ v) 42 5 lettersV 9 9 Tryd.underlying42 Tryd.underlying5
  have hs : (w4.setCell ⟨T, 2, none⟩ v).heap.size = w4.heap.size := by simp [World.setCell]
  rw [hs] at h
  exact h
theorem letters_at : ∀ li : Nat, li < 9 → lettersV[li]? = some (.int .u8 (lettersP.getD li 0)) ∧ letterB (lettersP.getD li 0) = true ∧ lettersP.drop li = lettersP.getD li 0 :: lettersP.drop (li + 1) ∧ lettersP.getD li 0 ∉ lettersP.drop (li + 1) := by
  intro li h
  have : li = 0 ∨ li = 1 ∨ li = 2 ∨ li = 3 ∨ li = 4 ∨ li = 5 ∨ li = 6 ∨ li = 7 ∨ li = 8 := by omega
  rcases this with rfl | rfl | rfl | rfl | rfl | rfl | rfl | rfl | rfl <;> exact ⟨rfl, by decide, rfl, by decide⟩
theorem len_big2 {a j n : Nat} (h : a ≤ j) (h1 : j < n) (h2 : n ≤ 1000) : (a + 1) * 16 ≤ 140737488355328 := by omega
theorem right_len {g : List (Int × List Int)} (hg : okG g) (rule : Int) : (rightP g rule).length ≤ 4 := by
  unfold rightP
  split
  · simp
  · cases h : g[rule.toNat]? with
    | none => simp
    | some p => exact (hg.2 p (List.mem_of_getElem? h)).2.1
theorem behind_lt {g : List (Int × List Int)} {x0 x1 bc c : Int} (hg : okG g) (hx : okItem g ⟨x0, x1⟩) (hb : behindP g ⟨x0, x1⟩ = bc) (he : bc = c) (hc : letterB c = true) : x1 < 5 := by
  have h0 := (letterB_ascii hc).1
  have hr := right_len hg x0
  unfold behindP at hb
  simp only at hb
  have h2 := hx.2.2
  simp only at h2
  rcases Nat.lt_or_ge x1.toNat (rightP g x0).length with h | h
  · omega
  · rw [List.getD_eq_getElem?_getD, List.getElem?_eq_none h] at hb
    simp at hb
    rw [← hb] at he
    rw [← he] at hc
    exact absurd hc (by decide)
theorem sts_drew {W : World} {base : Nat} {SV : Value} {n : Nat} {vs : List Value} {sts : List (List S95)} (h : W.ownsRow base 94 1 SV n vs ∧ ∀ (i : Nat) s, sts[i]? = some s → ∃ v, vs[i]? = some v ∧ StRow W base v s) : W.drew.ownsRow base 94 1 SV n vs ∧ ∀ (i : Nat) s, sts[i]? = some s → ∃ v, vs[i]? = some v ∧ StRow W.drew base v s :=
  ⟨own_move h.1 (fun _ _ => rfl), fun i s hi => by
    obtain ⟨v, hv, hr⟩ := h.2 i s hi
    exact ⟨v, hv, hr.keep (fun _ _ _ _ => rfl)⟩⟩
theorem letters_snoc {base : Nat} {w0 W W2 : World} {T LB : Nat} {GR SV GV v : Value} {nx : List Nat} {sts : List (List S95)} {gos : List (List (Int × Int))} {bs : List Nat} (h : BI base w0 W T GR nx sts SV GV gos bs) (hl : W.heap[LB]? = some (.cells lettersV 5 (9, 10))) (hg : W.grownBy W2 SV.ownBlock) :
    (W2.setCell ⟨T, 1, none⟩ v).heap[LB]? = some (.cells lettersV 5 (9, 10)) := by
  have hT : LB ≠ T := fun e => by
    subst e
    rw [h.tb] at hl
    injection hl with hl
    injection hl with _ h2 _
    exact absurd h2 (by decide)
  refine (Below.heap_setCell W2 ⟨T, 1, none⟩ v LB hT).trans ((hg.block LB (blk_lt hl) (fun e => ?_)).trans hl)
  obtain ⟨vs, hv, _⟩ := h.srow
  obtain ⟨cells, hc⟩ := own_typed hv LB e.symm
  rw [hl] at hc
  injection hc with hc
  injection hc with _ h2 _
  exact absurd h2 (by decide)
theorem hs_snoc {g : List (Int × List Int)} {sts : List (List S95)} {ys s : List S95} {i : Nat} (h : i < sts.length ∧ sts.length ≤ 64 ∧ sts ≠ [] ∧ (∀ s ∈ sts, goodS g s) ∧ sts[i]? = some s) (h64 : sts.length + 1 ≤ 64) (hy : goodS g ys) :
    i < (sts ++ [ys]).length ∧ (sts ++ [ys]).length ≤ 64 ∧ sts ++ [ys] ≠ [] ∧ (∀ s ∈ sts ++ [ys], goodS g s) ∧ (sts ++ [ys])[i]? = some s := by
  refine ⟨by rw [List.length_append]; exact Nat.lt_of_lt_of_le h.1 (Nat.le_add_right _ _), by rw [List.length_append]; exact h64, by simp, fun t ht => ?_, by rw [List.getElem?_append_left h.1]; exact h.2.2.2.2⟩
  rcases List.mem_append.1 ht with h1 | h1
  · exact h.2.2.2.1 t h1
  · rw [List.mem_singleton.1 h1]; exact hy
/-- What build leaves. -/
def BuildPost (l : List S56) (A : Option Addr) (c0 : Nat) (w : World) (r : Option (List (List S95) × List (List (Int × Int)))) (e : Ending) (w' : World) : Prop :=
  (r = none → e = .returned (.tuple #[.pointer none, .int .i64 6]) ∧ Below w.heap.size w w') ∧
    ∀ sts gos, r = some (sts, gos) → ∃ T SV GV bs, e = .returned (.tuple #[.pointer (some ⟨T, 0, none⟩), .int .i64 0]) ∧ BI w.heap.size w w' T (.slice A l.length c0) (nextP (gr56 l)) sts SV GV gos bs ∧ (∀ s ∈ sts, goodS (gr56 l) s) ∧ sts ≠ [] ∧ gos.length = sts.length
theorem build_no {l : List S56} {A : Option Addr} {c0 : Nat} {w w' : World} {r : Option (List (List S95) × List (List (Int × Int)))} (hr : r = none) (hb : Below w.heap.size w w') : BuildPost l A c0 w r (.returned (.tuple #[.pointer none, .int .i64 6])) w' :=
  ⟨fun _ => ⟨rfl, hb⟩, fun a b hab => absurd (hr.symm.trans hab) (fun h => by cases h)⟩
theorem build_yes {l : List S56} {A : Option Addr} {c0 T : Nat} {SV GV : Value} {bs : List Nat} {w w' : World} {r : Option (List (List S95) × List (List (Int × Int)))} {sts : List (List S95)} {gos : List (List (Int × Int))} (hr : r = some (sts, gos))
    (h : BI w.heap.size w w' T (.slice A l.length c0) (nextP (gr56 l)) sts SV GV gos bs) (h1 : ∀ s ∈ sts, goodS (gr56 l) s) (h2 : sts ≠ []) (h3 : gos.length = sts.length) : BuildPost l A c0 w r (.returned (.tuple #[.pointer (some ⟨T, 0, none⟩), .int .i64 0])) w' :=
  ⟨fun h => absurd (hr.symm.trans h) (fun h => by cases h), fun a b hab => by
    cases hr.symm.trans hab
    exact ⟨T, SV, GV, bs, rfl, h, h1, h2, h3⟩⟩
theorem at_drawn {B : Nat} {w W W2 : World} {q : Nat} (e : W2 = W.drewN q) (h : Below B w (W.drewN q)) : Below B w W2 := e ▸ h
theorem R_at {W W2 : World} {base q : Nat} {v : Value} {xs : List S95} (e : W2 = W.drewN q) (h : Kd.R k95 95 W base (fun _ => True) v xs) : Kd.R k95 95 W2 base (fun _ => True) v xs := e ▸ Kd.R_drewN h q
theorem idx_at {base : Nat} {w0 W : World} {T : Nat} {GR GV : Value} {nx : List Nat} {sts : List (List S95)} {gos : List (List (Int × Int))} {bs : List Nat} {G cp g1 cap1 b8 B8 : Nat} {ys : List S95} {g : List (Int × List Int)} (h : BI base w0 W T GR nx sts (.slice (some ⟨G, 0, none⟩) sts.length cp) GV gos bs)
    (hr : Kd.R k95 95 W B8 (fun _ => True) (.slice (some ⟨g1, 0, none⟩) ys.length cap1) ys) (hb : W.heap[b8]? = some (.cells #[.slice (some ⟨g1, 0, none⟩) ys.length cap1] 94 (0, 0))) (h64 : sts.length ≤ 64) (hne : sts ≠ []) (hgd : ∀ s ∈ sts, goodS g s) (hy : goodS g ys) :
    Calls Tryd.prog 98 #[.slice (some ⟨G, 0, none⟩) sts.length cp, .func (.func 99) #[] #[.pointer (some ⟨b8, 0, none⟩)]] W fun e w' => e = .returned (.int .i64 (findI sts ys 0)) ∧ Drawn0 W w' := by
  obtain ⟨G', cp', e, hrows⟩ := h.rows hne
  cases e
  obtain ⟨_, hc, hC⟩ := Kd.R_reads' hr
  exact indexFunc_any sts G cp sts.length base ys (some ⟨g1, 0, none⟩) cap1 ⟨b8, 0, none⟩ W hrows hC hc rfl (Nat.lt_of_le_of_lt h64 (by decide)) (fun s hs => Nat.lt_of_le_of_lt (hgd s hs).2.1 (by decide)) ((blk_cell hb 0).trans rfl)
theorem map_far {W W9 : World} {LB mb t : Nat} {cs : Array Value} {fr : Nat × Nat} {ms : List (Int × Int)} (h : W.heap[LB]? = some (.cells cs t fr)) (hm : MapB W mb ms) (hg : W.grownBy W9 (some mb)) : W9.heap[LB]? = some (.cells cs t fr) := by
  obtain ⟨es, cl, hb, _⟩ := hm
  exact (hg.block LB (blk_lt h) (fun e => by
    have := Option.some.inj e
    subst this
    rw [hb] at h; cases h)).trans h
theorem lt_sub9 {li : Nat} (h : li < 9) : 9 - (li + 1) < 9 - li := by omega
theorem base_below {base : Nat} {w0 W : World} (h : Below base w0 W) : Below base w0 W := h
theorem tb_ne {base : Nat} {w0 W : World} {T : Nat} {GR SV GV : Value} {nx : List Nat} {sts : List (List S95)} {gos : List (List (Int × Int))} {bs : List Nat} (h : BI base w0 W T GR nx sts SV GV gos bs) : some T ≠ GV.ownBlock := fun e => by
  obtain ⟨cells, hc⟩ := own_typed h.grow T e.symm
  exact blk_ne h.tb hc (by decide) rfl
theorem tb_ne1 {base : Nat} {w0 W : World} {T : Nat} {GR SV GV : Value} {nx : List Nat} {sts : List (List S95)} {gos : List (List (Int × Int))} {bs : List Nat} (h : BI base w0 W T GR nx sts SV GV gos bs) : some T ≠ SV.ownBlock := fun e => by
  obtain ⟨vs, hv, _⟩ := h.srow
  obtain ⟨cells, hc⟩ := own_typed hv T e.symm
  exact blk_ne h.tb hc (by decide) rfl
theorem map_new {base : Nat} {w0 W : World} {T : Nat} {GR SV GV : Value} {nx : List Nat} {sts : List (List S95)} {gos : List (List (Int × Int))} {bs : List Nat} (h : BI base w0 W T GR nx sts SV GV gos bs) : W.heap.size ∉ bs := fun hm => by
  obtain ⟨i, hi, he⟩ := List.getElem_of_mem hm
  have h1 : bs[i]? = some W.heap.size := by rw [List.getElem?_eq_getElem hi, he]
  obtain ⟨⟨es, cl, hh, _⟩, _⟩ := h.maps i _ _ h1 (List.getElem?_eq_getElem (by rw [← h.blen]; exact hi))
  exact absurd (blk_lt hh) (Nat.lt_irrefl _)
def reg59.T22 : Bool × List (List Nat × List Nat) := (true, [([], []), ([], []), ([1], [1]), ([2], [2]), ([3], [3]), ([], []), ([5], [5]), ([4, 6], [4, 6]), ([0, 0, 1, 2, 3, 4, 5, 6, 7], [0]), ([8, 0, 1, 2, 3, 4, 5, 6, 7], [8]), ([9, 7, 7, 0, 1, 2, 3, 4, 5, 6, 7], [7, 9])])
def reg59.B22 : List Nat := [0, 0, 2, 6, 14, 0, 32, 126, 255, 511, 1023]
theorem reg59.tab22 : rtab .any (opsOf Tryd.f59 22) = reg59.T22 := by kernel_rfl
theorem reg59.bits22 : waitsOk reg59.T22.2 reg59.B22 = true := by kernel_rfl
set_option maxHeartbeats 8000000 in
set_option maxRecDepth 100000 in
theorem build_any (l : List S56) (A : Option Addr) (c0 : Nat) (w : World) (hr0 : Kd.C k56 w A l.length l) (hc0 : l.length ≤ c0) (hg : okG (gr56 l)) (hne : 0 < l.length)
    (r : Option (List (List S95) × List (List (Int × Int)))) (hr : buildP (gr56 l) = some r) :
    Calls Tryd.prog 59 #[.slice A l.length c0] w (BuildPost l A c0 w r) := by
  have HR0 := Lib.hid hr0
  have HG := Lib.hid hg
  have HNE := Lib.hid hne
  have hlen := Lib.hid (show l.length ≤ 8 by have := hg.1; rwa [gr_len] at this)
  have hx := fun W => next_any l A c0 W
  obtain ⟨n0, n1, n2, n3, n4, hnn⟩ := ex5 (nextP_len (gr56 l))
  have HX : Hid (∀ W, Below w.heap.size w W → Calls Tryd.prog 95 #[.slice A l.length c0] W fun x w' => x = .returned (.agg #[.int .i64 n0, .int .i64 n1, .int .i64 n2, .int .i64 n3, .int .i64 n4]) ∧ Below W.heap.size W w') :=
    Lib.hid fun W hb => by
      have := hx W (Kd.C_below hr0 hb) hc0 hg hne
      rw [hnn] at this
      exact this
  have HNN := Lib.hid hnn
  unfold buildP at hr
  obtain ⟨s0, hs0, hr1⟩ := Option.bind_eq_some_iff.1 hr
  rw [gr_len] at hs0
  have hok0 : ∀ x ∈ [(⟨(l.length : Int), 0⟩ : S95)], okItem (gr56 l) x := fun x hx => by
    rw [List.mem_singleton.1 hx]
    exact ⟨Int.natCast_nonneg _, by rw [gr_len]; exact Int.le_refl _, Int.le_refl _⟩
  have hgood0 := closF_good hs0 hok0 (by simp)
  obtain ⟨z0, hz0, hsz0⟩ := closF_some hs0
  have HC0 : Hid (∀ W, Below w.heap.size w W → Calls Tryd.prog 96 #[.slice A l.length c0, .slice (some ⟨W.heap.size, 0, none⟩) 1 1] (W.alloc (.cells #[.int .i64 l.length, .int .i64 0] 95)) fun e w' => ∃ g cap, e = .returned (.slice (some ⟨g, 0, none⟩) s0.length cap) ∧ StRow w' w.heap.size (.slice (some ⟨g, 0, none⟩) s0.length cap) s0 ∧ Below w.heap.size w w' ∧ (W.alloc (.cells #[.int .i64 l.length, .int .i64 0] 95)).grownBy w' (some W.heap.size)) :=
    Lib.hid fun W hb => by
      refine (closure_any l A c0 (.slice (some ⟨W.heap.size, 0, none⟩) 1 1) _ w (W.alloc (.cells #[.int .i64 l.length, .int .i64 0] 95)) hr0 hc0 hg hne (R_one W w.heap.size l.length 0 hb.size) (below_alloc hb _) (by simp) hok0 2000 z0 hz0).mono ?_
      rintro e w' ⟨v1, rfl, hR, hB, hG, _⟩
      rw [← hsz0] at hR
      obtain ⟨g, cap, rfl, _⟩ := Kd.R_form hR (List.length_pos_iff.2 hgood0.2.2)
      exact ⟨g, cap, rfl, R_strow hR hgood0.2.2, hB, hG⟩
  have HRR := Lib.hid (And.intro hr1 hgood0)
  clear hx hr0 hg hne hnn hr hr1 hs0 hok0 hz0 hsz0 hgood0
  go_enter Tryd.func59, Tryd.ntmps59
  go_wp2_with (first | (go_at_call 95; refine (HX.out _ (Below.refl _ _)).mono ?_; rintro e w1 ⟨rfl, hbw⟩; have HB1 := Lib.hid (below_alloc hbw (.cells #[.slice A l.length c0, .slice none 0 0, .slice none 0 0, .int .i64 n0, .int .i64 n1, .int .i64 n2, .int .i64 n3, .int .i64 n4] 87)); have HT := Lib.hid (blk_new w1 (.cells #[.slice A l.length c0, .slice none 0 0, .slice none 0 0, .int .i64 n0, .int .i64 n1, .int .i64 n2, .int .i64 n3, .int .i64 n4] 87)); have HTB := Lib.hid hbw.size; have hcw := HC0.out _ HB1.out; rw [World.size_alloc] at hcw; have HCW := Lib.hid hcw; clear hbw hcw) | (go_at_call 96; go_must (refine HCW.out.mono ?_); rintro e w3 ⟨g, cap, rfl, hst, hb3, hg3⟩; have HT3 := Lib.hid ((hg3.block w1.heap.size (blk_lt (blk_alloc HT.out _)) (by intro e; have := Option.some.inj e; omega)).trans (blk_alloc HT.out (.cells #[.int .i64 l.length, .int .i64 0] 95))); have HBI := Lib.hid (BI.start (GR := .slice A l.length c0) (nx := [n0, n1, n2, n3, n4]) HT3.out HTB.out hb3 hst rfl); have hk1 := (blk_cell (blk_alloc HT3.out (.cells #[.slice (some ⟨g, 0, none⟩) s0.length cap] 94)) 1).trans (show _ = some (Value.slice none 0 0) from rfl); have hk2 := blk_frozen (blk_alloc HT3.out (.cells #[.slice (some ⟨g, 0, none⟩) s0.length cap] 94)) 1; clear hst hb3 hg3 HB1 HT))
  generalize hTT : w1.heap.size = T at HT3 HTB HBI ⊢
  clear hk1 hk2
  generalize hW0 : (w3.alloc (.cells #[.slice (some ⟨g, 0, none⟩) s0.length cap] 94)).setCell ⟨T, 1, none⟩ (.slice (some ⟨w3.heap.size, 0, none⟩) 1 1) = W0 at HBI ⊢
  generalize hG0 : w3.heap.size = G0 at HBI hW0
  rw [← HNN.out] at HBI
  have HST : Hid (buildO (gr56 l) 66 0 [s0] [] = some r ∧ goodS (gr56 l) s0) := HRR
  clear hW0 HT3 HRR HC0 HCW HX hG0 hTT
  go_loopg [5] 66 (fun kq v5 w' => ∃ (i : Nat) (sts : List (List S95)) (gos : List (List (Int × Int))) (SV GV : Value) (bs : List Nat), v5 = .int .i64 (i : Int) ∧ Hid (BI w.heap.size w w' T (.slice A l.length c0) (nextP (gr56 l)) sts SV GV gos bs) ∧ Hid (gos.length = i ∧ i ≤ sts.length ∧ sts.length ≤ 64 ∧ sts ≠ [] ∧ ∀ s ∈ sts, goodS (gr56 l) s) ∧ Hid (buildO (gr56 l) kq i sts gos = some r))
  case atStart => exact ⟨0, [s0], [], _, _, [], rfl, HBI, Lib.hid ⟨rfl, Nat.zero_le _, by simp, by simp, fun s hs => by rw [List.mem_singleton.1 hs]; exact HST.out.2⟩, Lib.hid HST.out.1⟩
  case round =>
    clear HBI HST
    obtain ⟨i, sts, gos, SV, GV, bs, rfl, HBI, HI, HO⟩ := hrel
    obtain ⟨k1, hk1⟩ := buildO_pos HO.out
    subst hk1
    obtain ⟨G, cp, rfl, _⟩ := BI.rows HBI.out HI.out.2.2.2.1
    have hc1 := BI.c1 HBI.out
    have hc2 := BI.c2 HBI.out
    have hmk := fun W => run_makeMap (P := Tryd.prog) 98 W
    by_cases hlt : i < sts.length
    · have hltI : (i : Int) < (sts.length : Int) := Int.ofNat_lt.mpr hlt
      obtain ⟨s, hs⟩ : ∃ s, sts[i]? = some s := ⟨sts[i], List.getElem?_eq_getElem hlt⟩
      obtain ⟨ro, hro, hrn, hrs⟩ := buildO_step hs HO.out
      have HRO := Lib.hid hro
      have HO2 := Lib.hid (And.intro hrn hrs)
      have HSI := Lib.hid hs
      have HGD := Lib.hid (HI.out.2.2.2.2 s (List.mem_of_getElem? hs))
      have hi64 : (i : Int) ≤ 64 := Int.ofNat_le.mpr (Nat.le_trans HI.out.2.1 HI.out.2.2.1)
      have hi00 : (0 : Int) ≤ (i : Int) := Int.natCast_nonneg i
      clear hro hrn hrs hs HO
      have HM := Lib.hid (MapB.made wr)
      have HBM := Lib.hid (BI.own HBI.out HBI.out.below.size (below_alloc (Below.refl _ _) (.map #[] 0)))
      go_wp2_with (first | ((with_reducible refine gate_builtin (b := .append) (xs := #[.tmp 40, .tmp 42]) rfl ?_); at_builtin; go_must (refine print_append_cells (w0 := w) w.heap.size rfl (.tmp 40) (.tmp 42) 83 98 (.map none) 1 8 rfl Tryd.underlying83 info98 rfl (by decide) (by decide) GV gos.length (bs.map fun b => Value.map (some b)) [.map (some wr.heap.size)] rfl (by rw [World.size_alloc]; rfl) rfl (by intro u hu; rw [List.mem_singleton.1 hu]; rfl) HBM.out.grow HBM.out.below HBM.out.below.size (len_small (by have := HI.out; omega)) ?_); intro GV2 w4 ho hb hgg hat; obtain ⟨G2, cp2, rfl, _⟩ := ho.form (Nat.succ_pos _); have HP := Lib.hid (BI.push HBM.out HM.out HBI.out.below.size (map_new HBI.out) ho hb hgg); have hd1 := (World.cell?_of_block (w := wr.alloc (.map #[] 0)) (w' := w4) (a := ⟨T, 2, none⟩) (hgg.block T (blk_lt HBM.out.tb) (tb_ne HBM.out))).trans (BI.c2 HBM.out); have hd2 := blk_frozen ((hgg.block T (blk_lt HBM.out.tb) (tb_ne HBM.out)).trans HBM.out.tb) 2; have hcv := conv_at w4 T (.slice (some ⟨G2, 0, none⟩) (gos.length + 1) cp2); clear ho hb hgg hat))
      clear hcv hd1 hd2 hmk hc1 hc2
      have HQ := Lib.hid (BI.own HP.out HP.out.below.size (below_alloc (Below.refl _ _) (.cells lettersV 5 (9, 10))))
      have hlb := blk_new (w4.setCell ⟨T, 2, none⟩ (.slice (some ⟨G2, 0, none⟩) (gos.length + 1) cp2)) (.cells lettersV 5 (9, 10))
      rw [show (w4.setCell ⟨T, 2, none⟩ (.slice (some ⟨G2, 0, none⟩) (gos.length + 1) cp2)).heap.size = w4.heap.size by simp [World.setCell]] at hlb
      have HLB := Lib.hid hlb
      clear hlb HP HBM HM
      generalize hW5 : (w4.setCell ⟨T, 2, none⟩ (.slice (some ⟨G2, 0, none⟩) (gos.length + 1) cp2)).alloc (.cells lettersV 5 (9, 10)) = W5 at HQ HLB
      replace hW5 : (w4.setCell ⟨T, 2, none⟩ (.slice (some ⟨G2, 0, none⟩) (gos.length + 1) cp2)).alloc (.cells #[.int .u8 65, .int .u8 66, .int .u8 67, .int .u8 68, .int .u8 69, .int .u8 97, .int .u8 98, .int .u8 99, .int .u8 100] 5 (9, 10)) = W5 := hW5
      rw [hW5]
      clear hW5
      generalize hLB : w4.heap.size = LB at HLB ⊢
      generalize hbs : bs ++ [wr.heap.size] = bs2 at HQ
      generalize hG2 : (Value.slice (some ⟨G2, 0, none⟩) (gos.length + 1) cp2) = GV3 at HQ ⊢
      clear hbs hLB HBI
      go_loopg [49] 9 (fun kq v49 w' => ∃ (li : Nat) (sts2 : List (List S95)) (SV2 : Value) (ms : List (Int × Int)), v49 = .int .i64 (li : Int) ∧ kq = 9 - li ∧ li ≤ 9 ∧ Hid (BI w.heap.size w w' T (.slice A l.length c0) (nextP (gr56 l)) sts2 SV2 GV3 (gos ++ [ms]) bs2) ∧ Hid (w'.heap[LB]? = some (.cells lettersV 5 (9, 10))) ∧ Hid (i < sts2.length ∧ sts2.length ≤ 64 ∧ sts2 ≠ [] ∧ (∀ s ∈ sts2, goodS (gr56 l) s) ∧ sts2[i]? = some s) ∧ Hid (lettered ms ∧ ∀ p ∈ ms, p.1 ∉ lettersP.drop li) ∧ Hid (rowO (gr56 l) s (lettersP.drop li) sts2 ms = some ro))
      case atStart => exact ⟨0, sts, _, [], rfl, rfl, by decide, HQ, HLB, Lib.hid ⟨hlt, HI.out.2.2.1, HI.out.2.2.2.1, HI.out.2.2.2.2, HSI.out⟩, Lib.hid ⟨fun p hp => by simp at hp, fun p hp => by simp at hp⟩, HRO⟩
      case round =>
        clear HQ HLB HRO HSI
        obtain ⟨li, sts2, SV2, ms, rfl, hkq, hli, HBI, HLB, HS2, HMS, HRO⟩ := hrel
        by_cases hl9 : li < 9
        · obtain ⟨hla, hlb, hld, hln⟩ := letters_at li hl9
          have hlc := (cell_of_row wr LB li lettersV 5 (9, 10) HLB.out).trans hla
          have hl9I : (li : Int) < 9 := Int.ofNat_lt.mpr hl9
          have hro := HRO.out
          rw [hld] at hro
          generalize lettersP.getD li 0 = c at hlc hlb hld hln hro
          have HRO2 := Lib.hid hro
          have HLT := Lib.hid (And.intro hlb (And.intro hld hln))
          clear hro hlb hld hln hla HRO
          obtain ⟨G, cp, rfl, hrows⟩ := BI.rows HBI.out HS2.out.2.2.1
          obtain ⟨cur, hblk, hcs, hcur⟩ := hrows.blk
          obtain ⟨v, hv, gi, cpi, cells, rfl, h1, h2, h3, h4⟩ := hcur i s HS2.out.2.2.2.2
          have hiL : (i : Int) < (sts2.length : Int) := Int.ofNat_lt.mpr HS2.out.1
          have hk1 := (World.cell?_of_block (w := wr) (w' := wr.alloc (.cells #[.slice none 0 0] 94)) (a := ⟨T, 1, none⟩) (Below.heap_alloc wr _ T (blk_lt HBI.out.tb))).trans (BI.c1 HBI.out)
          have hk2 := ((blk_cell (blk_alloc hblk (.cells #[.slice none 0 0] 94)) i).trans hv)
          have HROW := Lib.hid (And.intro h1 (And.intro h2 h4))
          clear hcur hblk hcs hrows hv h1 h2 h3 h4
          go_wp2
          have HBW := Lib.hid (below_alloc (Below.refl wr.heap.size wr) (.cells #[.slice none 0 0] 94))
          have HB8 := Lib.hid (blk_new wr (.cells #[.slice none 0 0] 94))
          clear hk1 hk2 hlc
          obtain ⟨WL, rfl⟩ : ∃ WL, WL = wr := ⟨_, rfl⟩
          generalize hWA : WL.alloc (.cells #[.slice none 0 0] 94) = WA at HBW HB8 ⊢
          clear hWA
          go_loopg [61] s.length (fun kq v61 w' => ∃ (j : Nat) (lv : Value) (its : List S95), v61 = .int .i64 (j : Int) ∧ kq = s.length - j ∧ j ≤ s.length ∧ Hid (w'.heap[WL.heap.size]? = some (.cells #[lv] 94 (0, 0))) ∧ Hid (Kd.R k95 95 w' WL.heap.size (fun _ => True) lv its) ∧ Hid (its = [] → lv = .slice none 0 0) ∧ Hid (its ++ movedP (gr56 l) c (s.drop j) = movedP (gr56 l) c s ∧ its.length ≤ j ∧ ∀ x ∈ its, okItem (gr56 l) x) ∧ Hid (Below WL.heap.size WL w'))
          case atStart => exact ⟨0, .slice none 0 0, [], rfl, rfl, Nat.zero_le _, HB8, Lib.hid (Kd.R_nil _ _ _ _ _), Lib.hid (fun _ => rfl), Lib.hid ⟨rfl, Nat.le_refl _, fun x hx => by simp at hx⟩, HBW⟩
          case round =>
            clear HBW HB8
            obtain ⟨j, lv, its, rfl, hkq2, hj, HL8, HO, HNIL, HITS, HB⟩ := hrel
            by_cases hjl : j < s.length
            · have hjI : (j : Int) < (s.length : Int) := Int.ofNat_lt.mpr hjl
              have hj0 : (0 : Int) ≤ (j : Int) := Int.natCast_nonneg j
              obtain ⟨ad, eA, hx0, hx1⟩ := at_T95 (Kd.C_below HROW.out.2.2 HB.out) (j : Int) hj0 hjI
              cases eA
              have hd := drop_rd s (j : Int) hj0 hjI
              rw [Int.toNat_natCast, toNat_succ'] at hd
              have hxm := rd_mem s (j : Int) hj0 hjI
              have hit := HITS.out
              rw [hd] at hit
              generalize rd_T95 s (j : Int) = x at *
              obtain ⟨x0, x1⟩ := x
              have hxok := HGD.out.1 _ hxm
              simp only [add_plain, Int.toNat_natCast] at hx0 hx1
              have hs1000 : (s.length : Int) ≤ 1000 := Int.ofNat_le.mpr HGD.out.2.1
              have HXK := Lib.hid (And.intro hxok hit)
              have HBH := Lib.hid (fun W (hb : Below w.heap.size w W) => behind_any l A c0 W (Kd.C_below HR0.out hb) hc0 HG.out HNE.out ⟨x0, x1⟩ hxok)
              have HBE := Lib.hid (BI.own HBI.out HBI.out.below.size HB.out)
              clear hxok hit hxm hd
              have HW1 := Lib.hid (blk_new wr (.cells #[.int .i64 x0, .int .i64 x1] 95))
              have hbe := below_alloc (Below.refl wr.heap.size wr) (.cells #[.int .i64 x0, .int .i64 x1] 95)
              have HBE1 := Lib.hid (below_step (base_below HBE.out.below) hbe)
              have HL81 := Lib.hid (blk_alloc HL8.out (.cells #[.int .i64 x0, .int .i64 x1] 95))
              have HO1 := Lib.hid (Kd.R_alloc HO.out (.cells #[.int .i64 x0, .int .i64 x1] 95))
              have HB1 := Lib.hid (below_alloc HB.out (.cells #[.int .i64 x0, .int .i64 x1] 95))
              have hy0 := (blk_cell HW1.out 0).trans (show _ = some (Value.int .i64 x0) from rfl)
              have hy1 := (blk_cell HW1.out 1).trans (show _ = some (Value.int .i64 x1) from rfl)
              clear hbe HL8 HO HB HBE
              have hcal := HBH.out _ HBE1.out
              obtain ⟨bc, hbc⟩ : ∃ bc, behindP (gr56 l) ⟨x0, x1⟩ = bc := ⟨_, rfl⟩
              rw [hbc] at hcal
              have HCAL := Lib.hid hcal
              clear hcal HBH
              have hmv : movedP (gr56 l) c (⟨x0, x1⟩ :: s.drop (j + 1)) = if (bc == c) = true then ⟨x0, x1 + 1⟩ :: movedP (gr56 l) c (s.drop (j + 1)) else movedP (gr56 l) c (s.drop (j + 1)) := by
                unfold movedP
                rw [List.filter_cons, hbc]
                split <;> rfl
              have HMV := Lib.hid hmv
              have HBC := Lib.hid hbc
              clear hmv hbc
              cases hec : bc == c
              · have hit := HXK.out.2
                rw [HMV.out, hec] at hit
                simp only [Bool.false_eq_true, if_false] at hit
                have HIT := Lib.hid hit
                clear hit
                go_wp2_with (go_at_call 97; refine HCAL.out.mono ?_; rintro e w2 ⟨rfl, hbw⟩)
                go_roundg (s.length - (j + 1))
                case measure => exact Nat.sub_lt_sub_left hjl (Nat.lt_succ_self j) |> fun h => by rw [hkq2]; exact h
                case rel => exact ⟨j + 1, lv, its, rfl, rfl, hjl, Lib.hid (blk_below HL81.out hbw), Lib.hid (Kd.R_below HO1.out hbw), HNIL, Lib.hid ⟨HIT.out.1, Nat.le_succ_of_le HITS.out.2.1, HITS.out.2.2⟩, Lib.hid (below_step HB1.out hbw)⟩
              · have hit := HXK.out.2
                rw [HMV.out, hec] at hit
                simp only [if_true] at hit
                have HIT := Lib.hid hit
                clear hit
                have hx15 : x1 < 5 := behind_lt HG.out HXK.out.1 HBC.out (beq_iff_eq.1 hec) HLT.out.1
                have hx10 : (0 : Int) ≤ x1 := HXK.out.1.2.2
                go_wp2_with (first | (go_at_call 97; refine HCAL.out.mono ?_; rintro e w2 ⟨rfl, hbw⟩; have hz0 := (blk_cell (blk_below HW1.out hbw) 0).trans (show _ = some (Value.int .i64 x0) from rfl); have hz1 := (blk_cell (blk_below HW1.out hbw) 1).trans (show _ = some (Value.int .i64 x1) from rfl); have HL82 := Lib.hid (blk_below HL81.out hbw); have hz2 := (blk_cell HL82.out 0).trans (show _ = some lv from rfl); have HO2' := Lib.hid (Kd.R_below HO1.out hbw); have HB2 := Lib.hid (below_step HB1.out hbw); clear hy0 hy1 hbw) | ((with_reducible refine gate_builtin (b := .append) (xs := #[.tmp 70, .tmp 77]) rfl ?_); at_builtin; go_must (refine Kd.R_append k95 (w0 := WL) WL.heap.size rfl (.tmp 70) (.tmp 77) 94 95 (.agg #[(.int .i64 0), (.int .i64 0)]) 16 rfl Tryd.underlying94 info95 rfl (by decide) (by decide) lv its (⟨x0, x1 + 1⟩ : S95) [.int .i64 x0, .int .i64 (x1 + 1)] (fun _ => True) (fun _ => False) rfl rfl (k95_mkM _ _ _ (⟨x0, x1 + 1⟩ : S95)) (fun _ hk => hk.elim) (fun _ _ => trivial) HO2'.out HB2.out (below_size HB2.out) (len_big2 HITS.out.2.1 hjl HGD.out.2.1) ?_); intro v4 w4' ho hb hgg hat; obtain ⟨g4, cp4, hv4, _⟩ := Kd.R_form ho (by simp); rw [List.length_append, List.length_singleton] at hv4; subst hv4; have hl4 := (hgg.block _ (blk_lt HL82.out) (Kd.R_ne HO2'.out HL82.out (by decide))).trans HL82.out; have hq1 := (blk_cell hl4 0).trans (show _ = some lv from rfl); have hq2 := blk_frozen hl4 0; have HL5 := Lib.hid (blk_put hl4 0 (.slice (some ⟨g4, 0, none⟩) (its.length + 1) cp4) (show _ = #[Value.slice (some ⟨g4, 0, none⟩) (its.length + 1) cp4] from rfl)); have HR5 := Lib.hid (Kd.R_set ho hl4 (by decide) 0 (.slice (some ⟨g4, 0, none⟩) (its.length + 1) cp4)); have HB5 := Lib.hid (below_set (g := WL.heap.size) (j := 0) (v := .slice (some ⟨g4, 0, none⟩) (its.length + 1) cp4) hb (Nat.le_refl _)); clear ho hb hgg hat hl4 hz0 hz1 hz2))
                go_roundg (s.length - (j + 1))
                case measure => exact Nat.sub_lt_sub_left hjl (Nat.lt_succ_self j) |> fun h => by rw [hkq2]; exact h
                case rel => exact ⟨j + 1, .slice (some ⟨g4, 0, none⟩) (its.length + 1) cp4, its ++ [⟨x0, x1 + 1⟩], rfl, rfl, hjl, HL5, HR5, Lib.hid (fun h => by simp at h), Lib.hid ⟨by rw [List.append_assoc]; exact HIT.out.1, by rw [List.length_append]; exact Nat.succ_le_succ HITS.out.2.1, ok_snoc HITS.out.2.2 ⟨HXK.out.1.1, HXK.out.1.2.1, Int.add_nonneg HXK.out.1.2.2 (by decide)⟩⟩, HB5⟩
            · have hjs : s.drop j = [] := List.drop_of_length_le (Nat.not_lt.1 hjl)
              have hit := HITS.out.1
              rw [hjs] at hit
              have hit2 : its = movedP (gr56 l) c s := (List.append_nil its).symm.trans hit
              have HIT := Lib.hid hit2
              have HITOK := Lib.hid HITS.out.2.2
              have HBE := Lib.hid (BI.own HBI.out HBI.out.below.size HB.out)
              have HLB2 := Lib.hid (blk_below HLB.out HB.out)
              have hjlI : ¬ (j : Int) < (s.length : Int) := fun h => hjl (Int.ofNat_lt.mp h)
              have hlv := (blk_cell HL8.out 0).trans (show _ = some lv from rfl)
              have hli0 : (0 : Int) ≤ (li : Int) := Int.natCast_nonneg li
              clear hit hit2 hjs HITS HROW hkq2
              by_cases hin : its = []
              · have hmn : movedP (gr56 l) c s = [] := by rw [← HIT.out]; exact hin
                have HRO3 := Lib.hid (rowO_stay hmn HRO2.out)
                have hlvn := HNIL.out hin
                subst hlvn
                clear hmn HRO2 HNIL HO HBI HLB
                go_wp2_with ((with_reducible refine gate_dst (N := 81) rfl ?_); go_must (refine eqnil_yes rfl 94 94 95 (.tmp 80) rfl Tryd.underlying94 rfl ?_))
                go_roundg (9 - (li + 1))
                case measure => exact lt_sub9 hl9
                case rel => exact ⟨li + 1, sts2, _, ms, rfl, rfl, hl9, HBE, HLB2, HS2, Lib.hid ⟨HMS.out.1, fun p hp h => HMS.out.2 p hp (by rw [HLT.out.2.1]; exact List.mem_cons_of_mem _ h)⟩, HRO3⟩
              · have hmn : movedP (gr56 l) c s ≠ [] := fun e => hin (HIT.out.trans e)
                obtain ⟨ys, hys, hgy, hcs⟩ := rowO_step hmn (by rw [← HIT.out]; exact HITOK.out) HRO2.out
                rw [← HIT.out] at hys
                have hcl := closF_any l A c0 lv its WL wr (Kd.C_below HR0.out HBI.out.below) hc0 HG.out HNE.out HO.out HB.out hin HITOK.out ys hys
                obtain ⟨gl, cpl, hlve, _⟩ := Kd.R_form HO.out (List.length_pos_iff.2 hin)
                subst hlve
                have HCL := Lib.hid hcl
                have HGY := Lib.hid hgy
                have HCS := Lib.hid hcs
                clear hcl hgy hcs hys hmn HRO2 HNIL HBE HLB2 HIT HITOK
                rcases HCS.out with ⟨hk, hcs⟩ | ⟨hk, hcs⟩
                · have hk0 : findI sts2 ys 0 < 0 := hk
                  have HCS2 := Lib.hid hcs
                  clear hk hcs HCS
                  go_wp2_with (first | ((with_reducible refine gate_dst (N := 81) rfl ?_); go_must (refine eqnil_no rfl 94 94 95 (.tmp 80) ⟨gl, 0, none⟩ its.length cpl rfl Tryd.underlying94 rfl ?_)) | (go_at_call 96; go_must (refine HCL.out.mono ?_); rintro e w3 ⟨g1, cap1, rfl, ho3, hb3, hg3⟩; have HL3 := Lib.hid (blk_grown HL8.out hg3 (Kd.R_ne HO.out HL8.out (by decide))); have hq1 := (blk_cell HL3.out 0).trans (show _ = some (Value.slice (some ⟨gl, 0, none⟩) its.length cpl) from rfl); have hq2 := blk_frozen HL3.out 0; have HL4 := Lib.hid (blk_put HL3.out 0 (.slice (some ⟨g1, 0, none⟩) ys.length cap1) (show _ = #[Value.slice (some ⟨g1, 0, none⟩) ys.length cap1] from rfl)); have HR4 := Lib.hid (Kd.R_set ho3 HL3.out (by decide) 0 (.slice (some ⟨g1, 0, none⟩) ys.length cap1)); have HB4 := Lib.hid (below_set (g := WL.heap.size) (j := 0) (v := .slice (some ⟨g1, 0, none⟩) ys.length cap1) hb3 (Nat.le_refl _)); have HBI4 := Lib.hid (BI.own HBI.out HBI.out.below.size HB4.out); have hd1 := BI.c1 HBI4.out; have HIF := Lib.hid (idx_at HBI4.out HR4.out HL4.out HS2.out.2.1 HS2.out.2.2.1 HS2.out.2.2.2.1 HGY.out); clear ho3 hb3 hg3 hlv) | (go_at_call 98; go_must (refine HIF.out.mono ?_); rintro e w5 ⟨rfl, ⟨q5, hq5⟩⟩; have HB5 := Lib.hid (at_drawn hq5 (pw_below_drewN HB4.out q5)); have HL5 := Lib.hid (blk_at hq5.symm HL4.out); have HR5 := Lib.hid (R_at hq5 HR4.out); have HBI5 := Lib.hid (BI.own HBI.out HBI.out.below.size HB5.out); have hz1 := BI.c1 HBI5.out; have hz2 := (blk_cell HL5.out 0).trans (show _ = some (Value.slice (some ⟨g1, 0, none⟩) ys.length cap1) from rfl); clear hd1 hq1 hq2 hq5))
                  obtain ⟨vs, hvs, hvs2⟩ := HBI5.out.srow
                  have HVS := Lib.hid (And.intro hvs hvs2)
                  clear hvs hvs2
                  refine start_ (n := 11) (S := fun w' => w'.cell? ⟨T, 1, none⟩ = some (.slice (some ⟨G, 0, none⟩) sts2.length cp) ∧ w'.cell? ⟨WL.heap.size, 0, none⟩ = some (.slice (some ⟨g1, 0, none⟩) ys.length cap1)) (ds := [7, 10]) #[false, false, false, false, false, false, false, false, false, false, false] (by kernel_rfl) rfl rfl ⟨hz1, hz2⟩ (fun hHeld => ?_); refine with_tabW reg59.tab22 reg59.bits22 (fun HT_ HW_ => ?_)
                  clear hz1 hz2
                  have HB6 := Lib.hid (below_drew1 HB5.out)
                  have HL6 := Lib.hid (blk_drew HL5.out)
                  have HBI6 := Lib.hid (BI.own HBI.out HBI.out.below.size HB6.out)
                  have HVS6 := Lib.hid (sts_drew HVS.out)
                  have HSR6 := Lib.hid ((R_strow (Kd.R_drew HR5.out) HGY.out.2.2).lower HBI.out.below.size)
                  clear HVS HB5 HL5 HR5 HBI5
                  generalize w5.drew = w6 at hHeld HB6 HL6 HBI6 HVS6 HSR6 ⊢
                  refine pure_ (i := 0) (N := some 98) (v := ?_) (a' := ?_) #[true, false, false, false, false, false, false, false, false, false, false] rfl rfl (any_of HT_.out (by kernel_rfl)) (fun _ _ _ h => h) (Or.inl ⟨by rfl, ?_⟩) ?_ ?_
                  rotate_left
                  · intro w'
                    go_simp
                    with_reducible rfl
                  rotate_left
                  · simp only [Act.put, List.setIfInBounds_toArray, List.set_cons_zero, List.set_cons_succ, i64_w, i32_w]
                    rfl
                  refine pure_ (i := 1) (N := some 99) (v := ?_) (a' := ?_) #[true, true, false, false, false, false, false, false, false, false, false] rfl rfl (any_of HT_.out (by kernel_rfl)) (fun _ _ _ h => h) (Or.inl ⟨by rfl, ?_⟩) ?_ ?_
                  rotate_left
                  · intro w'
                    go_simp
                    with_reducible rfl
                  rotate_left
                  · simp only [Act.put, List.setIfInBounds_toArray, List.set_cons_zero, List.set_cons_succ, i64_w, i32_w]
                    rfl
                  refine pure_ (i := 2) (N := some 100) (v := ?_) (a' := ?_) #[true, true, true, false, false, false, false, false, false, false, false] rfl rfl (any_of HT_.out (by kernel_rfl)) (fun _ _ _ h => h) (Or.inl ⟨by rfl, ?_⟩) ?_ ?_
                  rotate_left
                  · intro w'
                    go_simp
                    with_reducible rfl
                  rotate_left
                  · simp only [Act.put, List.setIfInBounds_toArray, List.set_cons_zero, List.set_cons_succ, i64_w, i32_w]
                    rfl
                  refine pure_ (i := 3) (N := some 101) (v := ?_) (a' := ?_) #[true, true, true, true, false, false, false, false, false, false, false] rfl rfl (any_of HT_.out (by kernel_rfl)) (fun _ _ _ h => h) (Or.inl ⟨by rfl, ?_⟩) ?_ ?_
                  rotate_left
                  · intro w'
                    go_simp
                    with_reducible rfl
                  rotate_left
                  · simp only [Act.put, List.setIfInBounds_toArray, List.set_cons_zero, List.set_cons_succ, i64_w, i32_w]
                    rfl
                  refine take_ (i := 4) (N := some 102) (v := ?_) (a' := ?_) #[true, true, true, true, true, false, false, false, false, false, false] rfl rfl (take_ofW HT_.out HW_.out (by kernel_rfl)) (fun _ _ _ h => h) (Or.inl ⟨by rfl, ?_⟩) hHeld ?_ ?_
                  rotate_left
                  · rintro w' ⟨s0, s1⟩
                    go_simp
                    with_reducible rfl
                  rotate_left
                  · simp only [Act.put, List.setIfInBounds_toArray, List.set_cons_zero, List.set_cons_succ, i64_w, i32_w]
                    rfl
                  refine take_ (i := 5) (N := some 103) (v := ?_) (a' := ?_) #[true, true, true, true, true, true, false, false, false, false, false] rfl rfl (take_ofW HT_.out HW_.out (by kernel_rfl)) (fun _ _ _ h => h) (Or.inl ⟨by rfl, ?_⟩) hHeld ?_ ?_
                  rotate_left
                  · rintro w' ⟨s0, s1⟩
                    go_simp
                    with_reducible rfl
                  rotate_left
                  · simp only [Act.put, List.setIfInBounds_toArray, List.set_cons_zero, List.set_cons_succ, i64_w, i32_w]
                    rfl
                  refine one_ (i := 6) (N := some 104) #[true, true, true, true, true, true, true, false, false, false, false] rfl rfl (one_of HT_.out (by kernel_rfl)) (by decide) (fun K hK => ?_)
                  refine value_ (w1 := ?_) (v := ?_) (by rfl) rfl ?_ ?_
                  rotate_left 2
                  · go_simp
                    constructor
                    · rfl
                    · rfl
                  have HB7 := Lib.hid (below_alloc HB6.out (.cells #[.slice (some ⟨g1, 0, none⟩) ys.length cap1] 94))
                  refine hK.out _ _ ⟨(BI.c1 (BI.own HBI.out HBI.out.below.size HB7.out)), ((blk_cell (blk_alloc HL6.out _) 0).trans rfl)⟩ (fun hHeld => ?_)
                  clear hK K
                  refine norm_ (a' := ?_) ?_ ?_
                  rotate_left
                  · show Act.put _ (some 104) _ = _
                    simp only [Act.put, List.setIfInBounds_toArray, List.set_cons_zero, List.set_cons_succ, i64_w, i32_w]
                    rfl
                  refine last_ (i := 7) (N := some 105) #[true, true, true, true, true, true, true, true, false, false, false] rfl rfl (one_of HT_.out (by kernel_rfl)) (by decide) (fun K hK => ?_)
                  refine step_append_cells (w0 := w) w.heap.size (by rfl) (.tmp 102) (.tmp 104) 23 94 (.slice none 0 0) 1 24 rfl Tryd.underlying23 info94 rfl (by decide) (by decide) (.slice (some ⟨G, 0, none⟩) sts2.length cp) sts2.length vs [.slice (some ⟨g1, 0, none⟩) ys.length cap1] rfl rfl rfl (by intro u hu; rw [List.mem_singleton.1 hu]; rfl) HVS6.out.1 HBI6.out.below HBI6.out.below.size (len_small2 HS2.out.2.1) ?_
                  intro SV3 w8 ho8 hb8 hg8 _
                  obtain ⟨G3, cp3, rfl, _⟩ := ho8.form (Nat.succ_pos _)
                  have HBI8 := Lib.hid (BI.snoc HBI6.out HVS6.out.1 HVS6.out.2 HSR6.out ho8 hb8 hg8)
                  have HLB8 := Lib.hid (letters_snoc (v := .slice (some ⟨G3, 0, none⟩) (sts2.length + 1) cp3) HBI6.out (blk_below HLB.out HB6.out) hg8)
                  have hk1 := (blk_cell (blk_grown HBI6.out.tb hg8 (tb_ne1 HBI6.out)) 1).trans (show _ = some (Value.slice (some ⟨G, 0, none⟩) sts2.length cp) by simp [Array.getElem?_append])
                  have hk2 := blk_frozen (blk_grown HBI6.out.tb hg8 (tb_ne1 HBI6.out)) 1
                  clear ho8 hb8 hg8
                  refine hK.out _ _ ?_
                  clear hK K
                  refine norm_ (a' := ?_) ?_ ?_
                  rotate_left
                  · show Act.put _ (some 105) _ = _
                    simp only [Act.put, List.setIfInBounds_toArray, List.set_cons_zero, List.set_cons_succ, i64_w, i32_w]
                    rfl
                  refine pure_ (i := 8) (N := some 106) (v := ?_) (a' := ?_) #[true, true, true, true, true, true, true, true, true, false, false] rfl rfl (any_of HT_.out (by kernel_rfl)) (fun _ _ _ h => h) (Or.inl ⟨by rfl, ?_⟩) ?_ ?_
                  rotate_left
                  · intro w'
                    go_simp
                    with_reducible rfl
                  rotate_left
                  · simp only [Act.put, List.setIfInBounds_toArray, List.set_cons_zero, List.set_cons_succ, i64_w, i32_w]
                    rfl
                  refine pure_ (i := 9) (N := some 107) (v := ?_) (a' := ?_) #[true, true, true, true, true, true, true, true, true, true, false] rfl rfl (any_of HT_.out (by kernel_rfl)) (fun _ _ _ h => h) (Or.inl ⟨by rfl, ?_⟩) ?_ ?_
                  rotate_left
                  · intro w'
                    go_simp
                    with_reducible rfl
                  rotate_left
                  · simp only [Act.put, List.setIfInBounds_toArray, List.set_cons_zero, List.set_cons_succ, i64_w, i32_w]
                    rfl
                  refine last_ (i := 10) (N := none) #[true, true, true, true, true, true, true, true, true, true, true] rfl rfl (one_of HT_.out (by kernel_rfl)) (by decide) (fun K hK => ?_)
                  refine skip_ (w1 := ?_) (by rfl) rfl ?_ ?_
                  rotate_left
                  · go_simp
                    rfl
                  refine hK.out _ _ ?_
                  clear hK K
                  refine done_ (done_of HT_.out (by kernel_rfl)) ?_

                  clear hHeld hk1 hk2
                  have hz1 := BI.c1 HBI8.out
                  rcases HCS2.out with ⟨h65, hron⟩ | ⟨h64, hro3⟩
                  · have hbig : (64 : Int) < (sts2.length : Int) + 1 := Int.ofNat_lt.mpr h65
                    have HRN := Lib.hid (HO2.out.1 hron)
                    have HBB := Lib.hid HBI8.out.below
                    clear h65 hron HCS2
                    go_wp2
                    go_ret2
                    exact build_no HRN.out HBB.out
                  · have h64I : (sts2.length : Int) + 1 ≤ 64 := Int.ofNat_le.mpr h64
                    have HRO3 := Lib.hid hro3
                    have HS3 := Lib.hid (hs_snoc HS2.out h64 HGY.out)
                    clear h64 hro3 HCS2
                    obtain ⟨GM, cpm, mb, ms0, hgv, hgc, hcm, hbm, hgm, hmb⟩ := BI.map_at HBI8.out i (by rw [List.length_append, HI.out.1]; exact Nat.lt_succ_self i)
                    rw [List.getElem?_append_right (by rw [HI.out.1]; exact Nat.le_refl _), HI.out.1, Nat.sub_self] at hgm
                    cases hgm
                    obtain ⟨hfr, hlt2, hno2⟩ := fresh_key (k := (sts2.length : Int)) (by rw [← HLT.out.2.1]; exact HMS.out) HLT.out.1 HLT.out.2.2
                    obtain ⟨W9, hrun9, hm9, hg9⟩ := map_put _ mb ms hmb HMS.out.1 c (sts2.length : Int) HLT.out.1 hfr
                    have HB9 := Lib.hid (BI.put HBI8.out hbm (by rw [List.getElem?_append_right (by rw [HI.out.1]; exact Nat.le_refl _), HI.out.1, Nat.sub_self]; rfl) hm9 hg9)
                    rw [set_last _ _ _ _ HI.out.1] at HB9
                    have HLB9 := Lib.hid (map_far HLB8.out hmb hg9)
                    have hrun9' := Lib.hid hrun9
                    have HK9 := Lib.hid (And.intro hlt2 hno2)
                    have hgl : (gos ++ [ms]).length = i + 1 := by rw [List.length_append, HI.out.1]; rfl
                    rw [hgl] at hgv hgc
                    have hz3 := BI.c2 HBI8.out
                    rw [hgv] at hz3
                    have hcmI : (i : Int) < (i : Int) + 1 := Int.lt_succ i
                    have hi00 : (0 : Int) ≤ (i : Int) := Int.natCast_nonneg i
                    clear hgl hgv hbm hmb hfr hlt2 hno2 hrun9 hm9 hg9
                    go_wp2_with (at_mapUpdate; go_must (refine mapupd_event rfl 98 (.tmp 120) (.tmp 121) (.tmp 122) (.map (some mb)) (.int .u8 c) (.int .i64 (sts2.length : Int)) rfl rfl rfl rfl rfl hrun9'.out ?_))
                    go_roundg (9 - (li + 1))
                    case measure => rw [hkq]; exact lt_sub9 hl9
                    case rel => exact ⟨li + 1, sts2 ++ [ys], _, ms ++ [(c, (sts2.length : Int))], rfl, rfl, hl9, HB9, HLB9, HS3, Lib.hid ⟨HK9.out.1, HK9.out.2⟩, HRO3⟩
                · have hk0 : 0 ≤ findI sts2 ys 0 := Int.not_lt.1 hk
                  rcases hcs with ⟨h1, _⟩ | ⟨_, hro3⟩
                  · exact absurd HS2.out.2.1 (Nat.not_le.2 h1)
                  have HRO3 := Lib.hid hro3
                  have h64 : (sts2.length : Int) ≤ 64 := Int.ofNat_le.mpr HS2.out.2.1
                  clear hk hro3 HCS
                  go_wp2_with (first | ((with_reducible refine gate_dst (N := 81) rfl ?_); go_must (refine eqnil_no rfl 94 94 95 (.tmp 80) ⟨gl, 0, none⟩ its.length cpl rfl Tryd.underlying94 rfl ?_)) | (go_at_call 96; go_must (refine HCL.out.mono ?_); rintro e w3 ⟨g1, cap1, rfl, ho3, hb3, hg3⟩; have HL3 := Lib.hid (blk_grown HL8.out hg3 (Kd.R_ne HO.out HL8.out (by decide))); have hq1 := (blk_cell HL3.out 0).trans (show _ = some (Value.slice (some ⟨gl, 0, none⟩) its.length cpl) from rfl); have hq2 := blk_frozen HL3.out 0; have HL4 := Lib.hid (blk_put HL3.out 0 (.slice (some ⟨g1, 0, none⟩) ys.length cap1) (show _ = #[Value.slice (some ⟨g1, 0, none⟩) ys.length cap1] from rfl)); have HR4 := Lib.hid (Kd.R_set ho3 HL3.out (by decide) 0 (.slice (some ⟨g1, 0, none⟩) ys.length cap1)); have HB4 := Lib.hid (below_set (g := WL.heap.size) (j := 0) (v := .slice (some ⟨g1, 0, none⟩) ys.length cap1) hb3 (Nat.le_refl _)); have HBI4 := Lib.hid (BI.own HBI.out HBI.out.below.size HB4.out); have hd1 := BI.c1 HBI4.out; have HIF := Lib.hid (idx_at HBI4.out HR4.out HL4.out HS2.out.2.1 HS2.out.2.2.1 HS2.out.2.2.2.1 HGY.out); clear ho3 hb3 hg3 hlv) | (go_at_call 98; go_must (refine HIF.out.mono ?_); rintro e w5 ⟨rfl, ⟨q5, hq5⟩⟩; have HB5 := Lib.hid (at_drawn hq5 (pw_below_drewN HB4.out q5)); have HL5 := Lib.hid (blk_at hq5.symm HL4.out); have HR5 := Lib.hid (R_at hq5 HR4.out); have HBI5 := Lib.hid (BI.own HBI.out HBI.out.below.size HB5.out); have hz1 := BI.c1 HBI5.out; have hz2 := (blk_cell HL5.out 0).trans (show _ = some (Value.slice (some ⟨g1, 0, none⟩) ys.length cap1) from rfl); clear hd1 hq1 hq2 hq5; obtain ⟨GM, cpm, mb, ms0, hgv, hgc, hcm, hbm, hgm, hmb⟩ := BI.map_at HBI5.out i (by rw [List.length_append, HI.out.1]; exact Nat.lt_succ_self i); rw [List.getElem?_append_right (by rw [HI.out.1]; exact Nat.le_refl _), HI.out.1, Nat.sub_self] at hgm; cases hgm; obtain ⟨hfr, hlt2, hno2⟩ := fresh_key (k := (findI sts2 ys 0)) (by rw [← HLT.out.2.1]; exact HMS.out) HLT.out.1 HLT.out.2.2; obtain ⟨W9, hrun9, hm9, hg9⟩ := map_put w5 mb ms hmb HMS.out.1 c (findI sts2 ys 0) HLT.out.1 hfr; have HB9 := Lib.hid (BI.put HBI5.out hbm (by rw [List.getElem?_append_right (by rw [HI.out.1]; exact Nat.le_refl _), HI.out.1, Nat.sub_self]; rfl) hm9 hg9); rw [set_last _ _ _ _ HI.out.1] at HB9; have HLB9 := Lib.hid (map_far (blk_below HLB.out HB5.out) hmb hg9); have hrun9' := Lib.hid hrun9; have HK9 := Lib.hid (And.intro hlt2 hno2); have hgl : (gos ++ [ms]).length = i + 1 := (by rw [List.length_append, HI.out.1]; rfl); rw [hgl] at hgv hgc; have hz3 := BI.c2 HBI5.out; rw [hgv] at hz3; have hcmI : (i : Int) < (i : Int) + 1 := Int.lt_succ i; have hi00 : (0 : Int) ≤ (i : Int) := Int.natCast_nonneg i; clear hgl hgv hbm hmb hfr hlt2 hno2 hrun9 hm9 hg9) | (at_mapUpdate; go_must (refine mapupd_event rfl 98 (.tmp 120) (.tmp 121) (.tmp 122) (.map (some mb)) (.int .u8 c) (.int .i64 (findI sts2 ys 0)) rfl rfl rfl rfl rfl hrun9'.out ?_)))
                  go_roundg (9 - (li + 1))
                  case measure => rw [hkq]; exact lt_sub9 hl9
                  case rel => exact ⟨li + 1, sts2, _, ms ++ [(c, findI sts2 ys 0)], rfl, rfl, hl9, HB9, HLB9, HS2, Lib.hid ⟨HK9.out.1, HK9.out.2⟩, HRO3⟩
        · have hl9e : li = 9 := Nat.le_antisymm hli (Nat.not_lt.1 hl9)
          have hro := HRO.out
          rw [hl9e] at hro
          have HRE := Lib.hid (HO2.out.2 _ _ (rowO_end hro))
          have hl9n : ¬ (li : Int) < 9 := fun h => hl9 (Int.ofNat_lt.mp h)
          clear hl9e hro HRO
          go_wp2
          go_roundg k1
          case measure => exact Nat.lt_succ_self k1
          case rel => exact ⟨i + 1, sts2, gos ++ [ms], _, _, bs2, rfl, HBI, Lib.hid ⟨by rw [List.length_append, HI.out.1]; rfl, HS2.out.1, HS2.out.2.1, HS2.out.2.2.1, HS2.out.2.2.2.1⟩, HRE⟩
    · have HRE := Lib.hid (buildO_end hlt HO.out)
      have hnI : ¬ (i : Int) < (sts.length : Int) := fun h => hlt (Int.ofNat_lt.mp h)
      have HLE := Lib.hid (show gos.length = sts.length from HI.out.1.trans (Nat.le_antisymm HI.out.2.1 (Nat.not_lt.1 hlt)))
      clear HO hmk hc2
      go_wp2
      go_ret2
      exact build_yes HRE.out HBI.out HI.out.2.2.2.2 HI.out.2.2.2.1 HLE.out
end Go.Proofs.YtpmmfckgfbdboaaDoor.G
end

section
namespace Go.Proofs.YtpmmfckgfbdboaaDoor.G
set_option linter.unusedVariables false
set_option linter.unusedSimpArgs false
theorem hasItem_iff {xs : List S95} {x : S95} : hasItem xs x = true ↔ x ∈ xs := by
  obtain ⟨a, b⟩ := x
  simp only [hasItem, List.any_eq_true, Bool.and_eq_true, beq_iff_eq]
  constructor
  · rintro ⟨⟨c, d⟩, h, h1, h2⟩
    simp only at h1 h2
    subst h1; subst h2
    exact h
  · intro h; exact ⟨_, h, rfl, rfl⟩
theorem addR_mem (c : Int) (x : S95) : ∀ (g : List (Int × List Int)) (k : Nat) (l : List S95), x ∈ addR c g k l ↔ x ∈ l ∨ ∃ (j : Nat) (r : Int × List Int), g[j]? = some r ∧ r.1 = c ∧ x = ⟨((k + j : Nat) : Int), 0⟩
  | [], k, l => by simp [addR]
  | r :: g, k, l => by
    have key : (∃ (j : Nat) (r' : Int × List Int), (r :: g)[j]? = some r' ∧ r'.1 = c ∧ x = ⟨((k + j : Nat) : Int), 0⟩) ↔ (r.1 = c ∧ x = ⟨(k : Int), 0⟩) ∨ ∃ (j : Nat) (r' : Int × List Int), g[j]? = some r' ∧ r'.1 = c ∧ x = ⟨((k + 1 + j : Nat) : Int), 0⟩ := by
      constructor
      · rintro ⟨j, r', h1, h2, h3⟩
        cases j with
        | zero => simp at h1; subst h1; exact .inl ⟨h2, h3⟩
        | succ j => simp at h1; exact .inr ⟨j, r', h1, h2, by rw [h3, show k + (j + 1) = k + 1 + j by omega]⟩
      · rintro (⟨h1, h2⟩ | ⟨j, r', h1, h2, h3⟩)
        · exact ⟨0, r, by simp, h1, h2⟩
        · exact ⟨j + 1, r', by simpa using h1, h2, by rw [h3, show k + (j + 1) = k + 1 + j by omega]⟩
    rw [key]
    simp only [addR]
    split
    · rename_i h
      simp only [Bool.and_eq_true, beq_iff_eq] at h
      rw [addR_mem c x g (k + 1)]
      simp only [List.mem_append, List.mem_singleton]
      simp only [h.1, true_and]
      exact or_assoc
    · rename_i h
      rw [addR_mem c x g (k + 1)]
      constructor
      · rintro (h1 | h1)
        · exact .inl h1
        · exact .inr (.inr h1)
      · rintro (h1 | ⟨h1, h2⟩ | h1)
        · exact .inl h1
        · refine .inl ?_
          simp only [Bool.and_eq_true, beq_iff_eq, h1, true_and, Bool.not_eq_true, Bool.not_eq_false, Bool.not_eq_eq_eq_not, Bool.not_true] at h
          rw [h2]
          exact hasItem_iff.1 (by simpa using h)
        · exact .inr h1
theorem addR_nodup (c : Int) : ∀ (g : List (Int × List Int)) (k : Nat) (l : List S95), l.Nodup → (addR c g k l).Nodup
  | [], k, l, h => by simpa [addR] using h
  | r :: g, k, l, h => by
    simp only [addR]
    split
    · rename_i hc
      refine addR_nodup c g (k + 1) _ ?_
      rw [List.nodup_append]
      refine ⟨h, by simp, fun a ha b hb hab => ?_⟩
      simp only [List.mem_singleton] at hb
      subst hab
      subst hb
      have := hasItem_iff.2 ha
      simp [this] at hc
    · exact addR_nodup c g (k + 1) l h
theorem addR_pre (c : Int) : ∀ (g : List (Int × List Int)) (k : Nat) (l : List S95), l <+: addR c g k l
  | [], k, l => by simp [addR]
  | r :: g, k, l => by
    simp only [addR]
    split
    · exact (List.prefix_append _ _).trans (addR_pre c g (k + 1) _)
    · exact addR_pre c g (k + 1) l
/-- The items that follow from some. -/
inductive Der (g : List (Int × List Int)) (xs : List S95) : S95 → Prop
  | base {x : S95} : x ∈ xs → Der g xs x
  | step {y : S95} {k : Nat} {r : Int × List Int} : Der g xs y → g[k]? = some r → r.1 = behindP g y → Der g xs ⟨(k : Int), 0⟩
/-- What stands ahead of index i is closed. -/
def ClosedTo (g : List (Int × List Int)) (xs : List S95) (i : Nat) : Prop :=
  ∀ (j : Nat) (y : S95), j < i → xs[j]? = some y → ∀ (k : Nat) (r : Int × List Int), g[k]? = some r → r.1 = behindP g y → (⟨(k : Int), 0⟩ : S95) ∈ xs
theorem rd_some (xs : List S95) (i : Nat) (h : i < xs.length) : xs[i]? = some (rd_T95 xs (i : Int)) := by
  simp [rd_T95, List.getD_eq_getElem?_getD, h]
theorem closeO_spec (g : List (Int × List Int)) (xs0 : List S95) : ∀ (n i : Nat) (xs zs : List S95), closeO g n (i : Int) xs = some zs → xs0 <+: xs → (∀ x ∈ xs, Der g xs0 x) → ClosedTo g xs i → xs.Nodup →
    xs0 <+: zs ∧ (∀ x ∈ zs, Der g xs0 x) ∧ ClosedTo g zs zs.length ∧ zs.Nodup
  | 0, i, xs, zs, h, _, _, _, _ => by simp [closeO] at h
  | n + 1, i, xs, zs, h, hp, hd, hc, hn => by
    simp only [closeO] at h
    split at h
    · split at h
      · rename_i _ hi
        have hi2 : i < xs.length := by omega
        have hy := rd_some xs i hi2
        generalize rd_T95 xs (i : Int) = y at h hy
        refine closeO_spec g xs0 n (i + 1) _ zs (by rw [show ((i + 1 : Nat) : Int) = (i : Int) + 1 by omega]; exact h) (hp.trans (addR_pre _ _ _ _)) ?_ ?_ (addR_nodup _ _ _ _ hn)
        · intro x hx
          rcases (addR_mem _ x g 0 xs).1 hx with h1 | ⟨j, r, h1, h2, h3⟩
          · exact hd x h1
          · rw [h3, Nat.zero_add]
            exact .step (hd y (List.mem_of_getElem? hy)) h1 h2
        · intro j z hj hz k r hk hr
          obtain ⟨t, ht⟩ := addR_pre (behindP g y) g 0 xs
          have hjx : j < xs.length := by omega
          rw [← ht, List.getElem?_append_left hjx] at hz
          by_cases hji : j = i
          · subst hji
            rw [hy] at hz
            cases hz
            exact (addR_mem _ _ g 0 xs).2 (.inr ⟨k, r, hk, hr, by rw [Nat.zero_add]⟩)
          · exact (addR_mem _ _ g 0 xs).2 (.inl (hc j z (by omega) hz k r hk hr))
      · rename_i _ hi
        cases h
        refine ⟨hp, hd, ?_, hn⟩
        intro j z hj hz
        exact hc j z (by omega) hz
    · cases h
theorem closeO_mem {g : List (Int × List Int)} {xs zs : List S95} {n : Nat} (h : closeO g n 0 xs = some zs) (hn : xs.Nodup) : (∀ x, x ∈ zs ↔ Der g xs x) ∧ zs.Nodup := by
  obtain ⟨h1, h2, h3, h4⟩ := closeO_spec g xs n 0 xs zs h (List.prefix_refl _) (fun x hx => .base hx) (fun j y hj => by omega) hn
  refine ⟨fun x => ⟨h2 x, fun hx => ?_⟩, h4⟩
  induction hx with
  | base hx => exact h1.subset hx
  | @step y k r hd hk hr ih =>
    obtain ⟨j, hj, hy⟩ := List.getElem_of_mem ih
    exact h3 j y hj (by rw [List.getElem?_eq_getElem hj, hy]) k r hk hr
/-- Rules that are not there yet as items. -/
def missing (g : List (Int × List Int)) (xs : List S95) : Nat := (List.range g.length).countP fun k : Nat => !hasItem xs ⟨(k : Int), 0⟩
theorem missing_le (g : List (Int × List Int)) (xs : List S95) : missing g xs ≤ g.length := by
  have := List.countP_le_length (p := fun k : Nat => !hasItem xs ⟨(k : Int), 0⟩) (l := List.range g.length)
  simpa [missing] using this
theorem countP_flip {p q : Nat → Bool} {k : Nat} : ∀ (n : Nat), k < n → p k = true → q k = false → (∀ j, j ≠ k → q j = p j) → (List.range n).countP q + 1 = (List.range n).countP p
  | 0, h, _, _, _ => by omega
  | n + 1, h, hp, hq, ho => by
    rw [List.range_succ, List.countP_append, List.countP_append]
    by_cases hk : k = n
    · subst hk
      have hs : (List.range k).countP q = (List.range k).countP p := List.countP_congr (fun j hj => by rw [ho j (by have := List.mem_range.1 hj; omega)])
      rw [hs]
      simp [List.countP_cons, hp, hq]
    · have ih := countP_flip n (by omega) hp hq ho
      have : q n = p n := ho n (fun e => hk e.symm)
      simp only [List.countP_cons, List.countP_nil, this]
      omega
theorem missing_add {g : List (Int × List Int)} {xs : List S95} {k : Nat} (hk : k < g.length) (h : hasItem xs ⟨(k : Int), 0⟩ = false) : missing g (xs ++ [⟨(k : Int), 0⟩]) + 1 = missing g xs := by
  unfold missing
  refine countP_flip g.length hk (by simp [h]) ?_ ?_
  · have : hasItem (xs ++ [⟨(k : Int), 0⟩]) ⟨(k : Int), 0⟩ = true := hasItem_iff.2 (by simp)
    simp [this]
  · intro j hj
    congr 1
    rw [Bool.eq_iff_iff, hasItem_iff, hasItem_iff]
    simp only [List.mem_append, List.mem_singleton, S95.mk.injEq, and_true]
    constructor
    · rintro (h1 | h1)
      · exact h1
      · omega
    · exact .inl
theorem addR_missing (G : List (Int × List Int)) (c : Int) : ∀ (g : List (Int × List Int)) (k : Nat) (l : List S95), k + g.length ≤ G.length → (addR c g k l).length + missing G (addR c g k l) = l.length + missing G l
  | [], k, l, _ => by simp [addR]
  | r :: g, k, l, hk => by
    simp only [List.length_cons] at hk
    simp only [addR]
    split
    · rename_i h
      simp only [Bool.and_eq_true, Bool.not_eq_true'] at h
      rw [addR_missing G c g (k + 1) _ (by omega)]
      have := missing_add (g := G) (xs := l) (k := k) (by omega) h.2
      simp only [List.length_append, List.length_singleton]
      omega
    · exact addR_missing G c g (k + 1) l (by omega)
theorem closeO_some (g : List (Int × List Int)) : ∀ (n i : Nat) (xs : List S95), i ≤ xs.length → xs.length + missing g xs ≤ 1000 → xs.length + missing g xs < n + i → ∃ zs, closeO g n (i : Int) xs = some zs
  | 0, i, xs, hi, h1, h2 => by omega
  | n + 1, i, xs, hi, h1, h2 => by
    simp only [closeO]
    rw [if_pos (by omega)]
    split
    · rename_i h
      have hm := addR_missing g (behindP g (rd_T95 xs (i : Int))) g 0 xs (by omega)
      have hl := (addR_pre (behindP g (rd_T95 xs (i : Int))) g 0 xs).length_le
      have := closeO_some g n (i + 1) (addR (behindP g (rd_T95 xs (i : Int))) g 0 xs) (by omega) (by omega) (by omega)
      rw [show ((i + 1 : Nat) : Int) = (i : Int) + 1 by omega] at this
      exact this
    · exact ⟨xs, rfl⟩
theorem closeO_ex {g : List (Int × List Int)} {xs : List S95} (h : xs.length + g.length ≤ 1000) : ∃ zs, closeO g 2000 0 xs = some zs :=
  closeO_some g 2000 0 xs (Nat.zero_le _) (by have := missing_le g xs; omega) (by have := missing_le g xs; omega)
/-- Strictly sorted. -/
def Srt (l : List S95) : Prop := l.Pairwise fun x y => ltItem x y = true
theorem lt_irrefl (x : S95) : ltItem x x = false := by
  cases h : ltItem x x
  · rfl
  · rw [ltItem_iff] at h; omega
theorem lt_trans {x y z : S95} (h1 : ltItem x y = true) (h2 : ltItem y z = true) : ltItem x z = true := by
  rw [ltItem_iff] at *; omega
theorem lt_tri (x y : S95) : ltItem x y = true ∨ x = y ∨ ltItem y x = true := by
  obtain ⟨a, b⟩ := x
  obtain ⟨c, d⟩ := y
  simp only [ltItem_iff, S95.mk.injEq]
  omega
theorem srt_ext : ∀ (a b : List S95), Srt a → Srt b → (∀ x, x ∈ a ↔ x ∈ b) → a = b
  | [], [], _, _, _ => rfl
  | [], y :: b, _, _, h => by have := (h y).2 (by simp); simp at this
  | x :: a, [], _, _, h => by have := (h x).1 (by simp); simp at this
  | x :: a, y :: b, ha, hb, h => by
    have ha' := List.pairwise_cons.1 ha
    have hb' := List.pairwise_cons.1 hb
    have hxy : x = y := by
      rcases lt_tri x y with h1 | h1 | h1
      · exfalso
        rcases List.mem_cons.1 ((h x).1 (by simp)) with h2 | h2
        · subst h2; rw [lt_irrefl] at h1; cases h1
        · have := lt_trans (hb'.1 x h2) h1
          rw [lt_irrefl] at this; cases this
      · exact h1
      · exfalso
        rcases List.mem_cons.1 ((h y).2 (by simp)) with h2 | h2
        · subst h2; rw [lt_irrefl] at h1; cases h1
        · have := lt_trans (ha'.1 y h2) h1
          rw [lt_irrefl] at this; cases this
    subst hxy
    refine congrArg (x :: ·) (srt_ext a b ha'.2 hb'.2 fun z => ?_)
    have hz := h z
    simp only [List.mem_cons] at hz
    constructor
    · intro hza
      rcases hz.1 (.inr hza) with h1 | h1
      · subst h1; have := ha'.1 _ hza; rw [lt_irrefl] at this; cases this
      · exact h1
    · intro hza
      rcases hz.2 (.inr hza) with h1 | h1
      · subst h1; have := hb'.1 _ hza; rw [lt_irrefl] at this; cases this
      · exact h1
theorem sortI_srt {xs : List S95} (h : xs.Nodup) : Srt (sortI xs) := by
  have h1 : (sortI xs).Pairwise fun x y => (!ltItem y x) = true := by
    refine List.pairwise_mergeSort (le := fun x y => !ltItem y x) ?_ ?_ xs
    · intro a b c h1 h2
      cases hb : ltItem c a
      · rfl
      · exfalso
        simp only [Bool.not_eq_true', Bool.not_eq_true] at h1 h2
        rcases lt_tri a b with h3 | h3 | h3
        · rw [lt_trans hb h3] at h2; cases h2
        · subst h3; rw [hb] at h2; cases h2
        · rw [h3] at h1; cases h1
    · intro a b
      cases h1 : ltItem b a
      · rfl
      · cases h2 : ltItem a b
        · rfl
        · have := lt_trans h1 h2; rw [lt_irrefl] at this; cases this
  have h2 : (sortI xs).Nodup := (List.mergeSort_perm xs _).symm.nodup h
  refine (h1.and h2).imp ?_
  rintro a b ⟨h3, h4⟩
  simp only [Bool.not_eq_true'] at h3
  rcases lt_tri a b with h5 | h5 | h5
  · exact h5
  · exact absurd h5 h4
  · rw [h5] at h3; cases h3
theorem mem_sortI {xs : List S95} {x : S95} : x ∈ sortI xs ↔ x ∈ xs := by unfold sortI; exact List.mem_mergeSort
theorem closF_ex {g : List (Int × List Int)} {xs : List S95} (h : xs.length + g.length ≤ 1000) (hn : xs.Nodup) : ∃ zs, closF g xs = some zs ∧ Srt zs ∧ ∀ x, x ∈ zs ↔ Der g xs x := by
  obtain ⟨ys, hys⟩ := closeO_ex h
  obtain ⟨h1, h2⟩ := closeO_mem hys hn
  exact ⟨sortI ys, by unfold closF; rw [hys]; rfl, sortI_srt h2, fun x => mem_sortI.trans (h1 x)⟩
/-- The reference's closure: what is there, by rule and dot (5 dots a rule). -/
def refK (idx : Nat) (c : Int) : List (Int × List Int) → Nat → List Bool → List Bool
  | [], _, m => m
  | r :: g, k, m => refK idx c g (k + 1) (if (m.getD idx false && c == r.1) = true then m.set (k * 5) true else m)
def refD (g : List (Int × List Int)) (i : Nat) : List Int → Nat → List Bool → List Bool
  | [], _, m => m
  | c :: cs, d, m => refD g i cs (d + 1) (refK (i * 5 + d) c g 0 m)
def refI (g : List (Int × List Int)) : Nat → Nat → List Bool → List Bool
  | 0, _, m => m
  | n + 1, i, m => refI g n (i + 1) (refD g i (rightP g i) 0 m)
def refN (g : List (Int × List Int)) : Nat → List Bool → List Bool
  | 0, m => m
  | n + 1, m => refN g n (refI g (g.length + 1) 0 m)
def refInit : List S95 → List Bool → List Bool
  | [], m => m
  | x :: xs, m => refInit xs (m.set (x.f0.toNat * 5 + x.f1.toNat) true)
def refRow (m : List Bool) (i : Nat) : Nat → Nat → List S95
  | 0, _ => []
  | n + 1, d => if m.getD (i * 5 + d) false = true then ⟨(i : Int), (d : Int)⟩ :: refRow m i n (d + 1) else refRow m i n (d + 1)
def refOut (m : List Bool) : Nat → Nat → List S95
  | 0, _ => []
  | n + 1, i => refRow m i 5 0 ++ refOut m n (i + 1)
def refClo (g : List (Int × List Int)) (xs : List S95) : List S95 := refOut (refN g 45 (refInit xs (List.replicate 45 false))) (g.length + 1) 0

def mle (m m' : List Bool) : Prop := m.length = m'.length ∧ ∀ j, m.getD j false = true → m'.getD j false = true
theorem mle_refl (m : List Bool) : mle m m := ⟨rfl, fun _ h => h⟩
theorem mle_trans {a b c : List Bool} (h : mle a b) (k : mle b c) : mle a c := ⟨h.1.trans k.1, fun j hj => k.2 j (h.2 j hj)⟩
theorem mle_anti {a b : List Bool} (h : mle a b) (k : mle b a) : a = b := by
  apply List.ext_getElem h.1
  intro i h1 h2
  have e1 := h.2 i
  have e2 := k.2 i
  simp only [List.getD_eq_getElem?_getD, List.getElem?_eq_getElem h1, List.getElem?_eq_getElem h2, Option.getD_some] at e1 e2
  rw [Bool.eq_iff_iff]
  exact ⟨e1, e2⟩
theorem getD_set (m : List Bool) (i j : Nat) : (m.set i true).getD j false = true ↔ m.getD j false = true ∨ i = j ∧ j < m.length := by
  simp only [List.getD_eq_getElem?_getD]
  by_cases h : i = j
  · subst h
    by_cases h2 : i < m.length
    · simp [h2]
    · simp [h2]
  · simp [List.getElem?_set_ne h, h]
theorem mle_set (m : List Bool) (i : Nat) : mle m (m.set i true) := ⟨by simp, fun j hj => (getD_set m i j).2 (.inl hj)⟩
theorem refK_le (idx : Nat) (c : Int) : ∀ (g : List (Int × List Int)) (k : Nat) (m : List Bool), mle m (refK idx c g k m)
  | [], k, m => mle_refl m
  | r :: g, k, m => by
    simp only [refK]
    split
    · exact mle_trans (mle_set m _) (refK_le idx c g (k + 1) _)
    · exact refK_le idx c g (k + 1) m
theorem refD_le (g : List (Int × List Int)) (i : Nat) : ∀ (cs : List Int) (d : Nat) (m : List Bool), mle m (refD g i cs d m)
  | [], d, m => mle_refl m
  | c :: cs, d, m => mle_trans (refK_le _ _ _ _ _) (refD_le g i cs (d + 1) _)
theorem refI_le (g : List (Int × List Int)) : ∀ (n i : Nat) (m : List Bool), mle m (refI g n i m)
  | 0, i, m => mle_refl m
  | n + 1, i, m => mle_trans (refD_le _ _ _ _ _) (refI_le g n (i + 1) _)
theorem refN_le (g : List (Int × List Int)) : ∀ (n : Nat) (m : List Bool), mle m (refN g n m)
  | 0, m => mle_refl m
  | n + 1, m => mle_trans (refI_le _ _ _ _) (refN_le g n _)
theorem refInit_le : ∀ (xs : List S95) (m : List Bool), mle m (refInit xs m)
  | [], m => mle_refl m
  | x :: xs, m => mle_trans (mle_set _ _) (refInit_le xs _)
/-- A matrix that a round leaves as it is, is closed. -/
theorem refK_fix {idx : Nat} {c : Int} : ∀ {g : List (Int × List Int)} {k : Nat} {m : List Bool}, refK idx c g k m = m → m.getD idx false = true → ∀ (j : Nat) (r : Int × List Int), g[j]? = some r → r.1 = c → (k + j) * 5 < m.length → m.getD ((k + j) * 5) false = true
  | [], k, m, _, _, j, r, hj, _, _ => by simp at hj
  | r0 :: g, k, m, h, hb, j, r, hj, hr, hlt => by
    simp only [refK, hb, Bool.true_and, beq_iff_eq] at h
    by_cases hc : c = r0.1
    · rw [if_pos hc] at h
      have h1 : m.set (k * 5) true = m := mle_anti (by have := refK_le idx c g (k + 1) (m.set (k * 5) true); rw [h] at this; exact this) (mle_set m _)
      rw [h1] at h
      cases j with
      | zero =>
        rw [← h1, getD_set]
        exact .inr ⟨rfl, hlt⟩
      | succ j =>
        have := refK_fix h hb j r (by simpa using hj) hr (by rw [show k + 1 + j = k + (j + 1) by omega]; exact hlt)
        rw [show k + 1 + j = k + (j + 1) by omega] at this
        exact this
    · rw [if_neg hc] at h
      cases j with
      | zero => simp at hj; subst hj; exact absurd hr.symm hc
      | succ j =>
        have := refK_fix h hb j r (by simpa using hj) hr (by rw [show k + 1 + j = k + (j + 1) by omega]; exact hlt)
        rw [show k + 1 + j = k + (j + 1) by omega] at this
        exact this
theorem refD_fix {g : List (Int × List Int)} {i : Nat} : ∀ {cs : List Int} {d : Nat} {m : List Bool}, refD g i cs d m = m → ∀ (e : Nat) (c : Int), cs[e]? = some c → refK (i * 5 + (d + e)) c g 0 m = m
  | [], d, m, _, e, c, he => by simp at he
  | c0 :: cs, d, m, h, e, c, he => by
    simp only [refD] at h
    have h1 : refK (i * 5 + d) c0 g 0 m = m := mle_anti (by have := refD_le g i cs (d + 1) (refK (i * 5 + d) c0 g 0 m); rw [h] at this; exact this) (refK_le _ _ _ _ _)
    rw [h1] at h
    cases e with
    | zero => simp at he; subst he; exact h1
    | succ e =>
      have := refD_fix h e c (by simpa using he)
      rw [show d + 1 + e = d + (e + 1) by omega] at this
      exact this
theorem refI_fix {g : List (Int × List Int)} : ∀ {n i : Nat} {m : List Bool}, refI g n i m = m → ∀ (e : Nat), e < n → refD g (i + e) (rightP g ((i + e : Nat) : Int)) 0 m = m
  | 0, i, m, _, e, he => by omega
  | n + 1, i, m, h, e, he => by
    simp only [refI] at h
    have h1 : refD g i (rightP g (i : Int)) 0 m = m := mle_anti (by have := refI_le g n (i + 1) (refD g i (rightP g (i : Int)) 0 m); rw [h] at this; exact this) (refD_le _ _ _ _ _)
    rw [h1] at h
    cases e with
    | zero => exact h1
    | succ e =>
      have := refI_fix h e (by omega)
      rw [show i + 1 + e = i + (e + 1) by omega] at this
      exact this
def cnt (m : List Bool) : Nat := m.countP fun b => b
theorem cnt_le : ∀ (a b : List Bool), mle a b → cnt a ≤ cnt b ∧ (cnt a = cnt b → a = b)
  | [], [], _ => ⟨Nat.le_refl _, fun _ => rfl⟩
  | [], _ :: _, h => by have := h.1; simp at this
  | _ :: _, [], h => by have := h.1; simp at this
  | x :: a, y :: b, h => by
    have ht : mle a b := ⟨by have := h.1; simpa using this, fun j hj => by have := h.2 (j + 1); simpa using this (by simpa using hj)⟩
    have h0 := h.2 0
    simp at h0
    obtain ⟨i1, i2⟩ := cnt_le a b ht
    unfold cnt at *
    rw [List.countP_cons, List.countP_cons]
    cases x <;> cases y <;> simp at h0 ⊢
    · exact ⟨i1, i2⟩
    · exact ⟨by omega, by omega⟩
    · exact ⟨i1, i2⟩
theorem refN_fix_or (g : List (Int × List Int)) : ∀ (n : Nat) (m : List Bool), refI g (g.length + 1) 0 (refN g n m) = refN g n m ∨ n + cnt m ≤ cnt (refN g n m)
  | 0, m => .inr (by simp [refN])
  | n + 1, m => by
    simp only [refN]
    have hl := refI_le g (g.length + 1) 0 m
    by_cases he : refI g (g.length + 1) 0 m = m
    · rw [he]
      rcases refN_fix_or g n m with h | h
      · exact .inl h
      · have hs : ∀ n, refN g n m = m := by
          intro n
          induction n with
          | zero => rfl
          | succ n ih => simp only [refN]; rw [he]; exact ih
        rw [hs]
        exact .inl he
    · have h1 := cnt_le _ _ hl
      have h2 : cnt m + 1 ≤ cnt (refI g (g.length + 1) 0 m) := by
        rcases Nat.lt_or_ge (cnt m) (cnt (refI g (g.length + 1) 0 m)) with h3 | h3
        · exact h3
        · exact absurd (h1.2 (by omega)).symm he
      rcases refN_fix_or g n (refI g (g.length + 1) 0 m) with h | h
      · exact .inl h
      · exact .inr (by omega)
theorem refN_fix (g : List (Int × List Int)) (m : List Bool) (hm : m.length = 45) : refI g (g.length + 1) 0 (refN g 45 m) = refN g 45 m := by
  rcases refN_fix_or g 45 m with h | h
  · exact h
  · have hl := (refN_le g 45 m).1
    have hle := refI_le g (g.length + 1) 0 (refN g 45 m)
    have h2 : cnt (refI g (g.length + 1) 0 (refN g 45 m)) ≤ (refI g (g.length + 1) 0 (refN g 45 m)).length := List.countP_le_length
    have h3 := cnt_le _ _ hle
    have h4 := hle.1
    exact (h3.2 (by omega)).symm
/-- Only what follows is there. -/
def Snd (g : List (Int × List Int)) (xs : List S95) (m : List Bool) : Prop := ∀ i d : Nat, d < 5 → m.getD (i * 5 + d) false = true → Der g xs ⟨(i : Int), (d : Int)⟩
theorem refK_snd {g : List (Int × List Int)} {xs : List S95} {i d : Nat} (hd5 : d < 5) {c : Int} (hc : behindP g ⟨(i : Int), (d : Int)⟩ = c) : ∀ (gg : List (Int × List Int)) (k : Nat) (m : List Bool), (∀ j r, gg[j]? = some r → g[k + j]? = some r) → Snd g xs m → Snd g xs (refK (i * 5 + d) c gg k m)
  | [], k, m, _, h => h
  | r :: gg, k, m, hg, h => by
    simp only [refK]
    refine refK_snd hd5 hc gg (k + 1) _ (fun j r' hj => by have := hg (j + 1) r' (by simpa using hj); rwa [show k + 1 + j = k + (j + 1) by omega]) ?_
    split
    · rename_i hb
      simp only [Bool.and_eq_true, beq_iff_eq] at hb
      intro i' d' hd' hb'
      rcases (getD_set _ _ _).1 hb' with h1 | ⟨h1, _⟩
      · exact h i' d' hd' h1
      · have e1 : i' = k := by omega
        have e2 : d' = 0 := by omega
        subst e1
        subst e2
        exact .step (h i d hd5 hb.1) (hg 0 r (by simp)) (by rw [hc]; exact hb.2.symm)
    · exact h
theorem behind_nat (g : List (Int × List Int)) (i d : Nat) : behindP g ⟨(i : Int), (d : Int)⟩ = (rightP g (i : Int)).getD d 0 := by
  unfold behindP; simp
theorem refD_snd {g : List (Int × List Int)} {xs : List S95} {i : Nat} (hlen : (rightP g (i : Int)).length ≤ 4) : ∀ (cs : List Int) (d : Nat) (m : List Bool), (rightP g (i : Int)).drop d = cs → Snd g xs m → Snd g xs (refD g i cs d m)
  | [], d, m, _, h => h
  | c :: cs, d, m, hcs, h => by
    simp only [refD]
    have hd : d < (rightP g (i : Int)).length := by
      rcases Nat.lt_or_ge d (rightP g (i : Int)).length with h1 | h1
      · exact h1
      · rw [List.drop_of_length_le h1] at hcs; cases hcs
    rw [List.drop_eq_getElem_cons hd] at hcs
    obtain ⟨h1, h2⟩ := List.cons.inj hcs
    refine refD_snd hlen cs (d + 1) _ h2 (refK_snd (by omega) ?_ g 0 m (fun j r hj => by simpa using hj) h)
    rw [behind_nat, List.getD_eq_getElem?_getD, List.getElem?_eq_getElem hd, Option.getD_some, h1]
theorem right_len' {g : List (Int × List Int)} (hg : okG g) (rule : Int) : (rightP g rule).length ≤ 4 := by
  unfold rightP
  split
  · simp
  · cases h : g[rule.toNat]? with
    | none => simp
    | some p => exact (hg.2 p (List.mem_of_getElem? h)).2.1
theorem refI_snd {g : List (Int × List Int)} {xs : List S95} (hg : okG g) : ∀ (n i : Nat) (m : List Bool), Snd g xs m → Snd g xs (refI g n i m)
  | 0, i, m, h => h
  | n + 1, i, m, h => refI_snd hg n (i + 1) _ (refD_snd (right_len' hg _) _ 0 m (by simp) h)
theorem refN_snd {g : List (Int × List Int)} {xs : List S95} (hg : okG g) : ∀ (n : Nat) (m : List Bool), Snd g xs m → Snd g xs (refN g n m)
  | 0, m, h => h
  | n + 1, m, h => refN_snd hg n _ (refI_snd hg _ _ m h)
/-- An item that can be there. -/
def inM (x : S95) : Prop := 0 ≤ x.f0 ∧ 0 ≤ x.f1 ∧ x.f1 < 5
theorem refInit_bit : ∀ (xs : List S95) (m : List Bool), (∀ x ∈ xs, inM x ∧ x.f0.toNat * 5 + x.f1.toNat < m.length) → ∀ i d : Nat, d < 5 → ((refInit xs m).getD (i * 5 + d) false = true ↔ m.getD (i * 5 + d) false = true ∨ (⟨(i : Int), (d : Int)⟩ : S95) ∈ xs)
  | [], m, _, i, d, _ => by simp [refInit]
  | x :: xs, m, hx, i, d, hd => by
    simp only [refInit]
    rw [refInit_bit xs _ (fun y hy => by rw [List.length_set]; exact hx y (by simp [hy])) i d hd, getD_set]
    obtain ⟨⟨h1, h2, h3⟩, h4⟩ := hx x (by simp)
    obtain ⟨a, b⟩ := x
    simp only at h1 h2 h3 h4
    have e : (a.toNat * 5 + b.toNat = i * 5 + d ∧ i * 5 + d < m.length) ↔ (⟨(i : Int), (d : Int)⟩ : S95) = ⟨a, b⟩ := by
      simp only [S95.mk.injEq]
      constructor
      · rintro ⟨h, _⟩; omega
      · rintro ⟨h5, h6⟩; subst h5; subst h6; simp at h4 ⊢; exact h4
    rw [e, List.mem_cons, or_assoc]
theorem getD_rep (n j : Nat) : (List.replicate n false).getD j false = false := by
  rw [List.getD_eq_getElem?_getD, List.getElem?_replicate]
  split <;> rfl
theorem refN_bits {g : List (Int × List Int)} {xs : List S95} (hg : okG g) (hx : ∀ x ∈ xs, inM x ∧ x.f0 ≤ g.length) (i d : Nat) (hi : i ≤ g.length) (hd : d < 5) :
    (refN g 45 (refInit xs (List.replicate 45 false))).getD (i * 5 + d) false = true ↔ Der g xs ⟨(i : Int), (d : Int)⟩ := by
  have hg8 := hg.1
  have hx2 : ∀ x ∈ xs, inM x ∧ x.f0.toNat * 5 + x.f1.toNat < (List.replicate 45 false).length := fun x h => by
    obtain ⟨h1, h2⟩ := hx x h
    refine ⟨h1, ?_⟩
    obtain ⟨a, b, c⟩ := h1
    simp only [List.length_replicate]
    omega
  have hini := refInit_bit xs (List.replicate 45 false) hx2
  have hrep : ∀ j, ((List.replicate 45 false).getD j false = true) ↔ False := fun j => by rw [getD_rep]; exact ⟨fun h => Bool.noConfusion h, False.elim⟩
  have hlen : (refInit xs (List.replicate 45 false)).length = 45 := by rw [← (refInit_le xs _).1]; simp
  have hlen2 : (refN g 45 (refInit xs (List.replicate 45 false))).length = 45 := by rw [← (refN_le g 45 _).1]; exact hlen
  constructor
  · refine refN_snd hg 45 _ (fun i d hd h => ?_) i d hd
    rcases (hini i d hd).1 h with h1 | h1
    · exact ((hrep _).1 h1).elim
    · exact .base h1
  · intro h
    have hfix := refN_fix g _ hlen
    have hle := refN_le g 45 (refInit xs (List.replicate 45 false))
    generalize refN g 45 (refInit xs (List.replicate 45 false)) = M at *
    have key : ∀ y, Der g xs y → inM y ∧ y.f0 ≤ g.length ∧ M.getD (y.f0.toNat * 5 + y.f1.toNat) false = true := by
      intro y hy
      induction hy with
      | @base x hx0 =>
        obtain ⟨h1, h2⟩ := hx x hx0
        refine ⟨h1, h2, hle.2 _ ?_⟩
        obtain ⟨a, b⟩ := x
        obtain ⟨h3, h4, h5⟩ := h1
        simp only at h3 h4 h5 ⊢
        refine (hini a.toNat b.toNat (by omega)).2 (.inr ?_)
        rw [Int.toNat_of_nonneg h3, Int.toNat_of_nonneg h4]
        exact hx0
      | @step y k r hd0 hk hr ih =>
        obtain ⟨h1, h2, h3⟩ := ih
        have hkl : k < g.length := (List.getElem?_eq_some_iff.1 hk).1
        refine ⟨⟨by simp, by simp, by simp⟩, by simp; omega, ?_⟩
        obtain ⟨a, b⟩ := y
        obtain ⟨ha, hb, hb5⟩ := h1
        simp only at ha hb hb5 h2 h3 hr ⊢
        have hf1 := refI_fix hfix a.toNat (by omega)
        rw [Nat.zero_add] at hf1
        have hpart := (hg.2 r (List.mem_of_getElem? hk)).1
        have hbe : behindP g ⟨a, b⟩ = (rightP g ((a.toNat : Nat) : Int)).getD b.toNat 0 := by
          rw [← behind_nat, Int.toNat_of_nonneg ha, Int.toNat_of_nonneg hb]
        have hlt : b.toNat < (rightP g ((a.toNat : Nat) : Int)).length := by
          rcases Nat.lt_or_ge b.toNat (rightP g ((a.toNat : Nat) : Int)).length with h5 | h5
          · exact h5
          · rw [hbe, List.getD_eq_getElem?_getD, List.getElem?_eq_none h5] at hr
            simp at hr
            rw [hr] at hpart
            exact absurd hpart (by decide)
        have hget : (rightP g ((a.toNat : Nat) : Int))[b.toNat]? = some r.1 := by
          rw [hr, hbe, List.getD_eq_getElem?_getD, List.getElem?_eq_getElem hlt, Option.getD_some]
        have hf2 := refD_fix hf1 b.toNat r.1 hget
        rw [Nat.zero_add] at hf2
        have := refK_fix hf2 h3 k r hk rfl (by rw [hlen2]; omega)
        simpa using this
    have := (key _ h).2.2
    simpa using this
theorem refRow_mem (m : List Bool) (i : Nat) (x : S95) : ∀ (n d : Nat), x ∈ refRow m i n d ↔ ∃ e : Nat, d ≤ e ∧ e < d + n ∧ m.getD (i * 5 + e) false = true ∧ x = ⟨(i : Int), (e : Int)⟩
  | 0, d => by simp [refRow]; intro e h1 h2; omega
  | n + 1, d => by
    have ih := refRow_mem m i x n (d + 1)
    have key : (∃ e : Nat, d ≤ e ∧ e < d + (n + 1) ∧ m.getD (i * 5 + e) false = true ∧ x = ⟨(i : Int), (e : Int)⟩) ↔ (m.getD (i * 5 + d) false = true ∧ x = ⟨(i : Int), (d : Int)⟩) ∨ ∃ e : Nat, d + 1 ≤ e ∧ e < d + 1 + n ∧ m.getD (i * 5 + e) false = true ∧ x = ⟨(i : Int), (e : Int)⟩ := by
      constructor
      · rintro ⟨e, h1, h2, h3, h4⟩
        by_cases he : e = d
        · subst he; exact .inl ⟨h3, h4⟩
        · exact .inr ⟨e, by omega, by omega, h3, h4⟩
      · rintro (⟨h1, h2⟩ | ⟨e, h1, h2, h3, h4⟩)
        · exact ⟨d, Nat.le_refl _, by omega, h1, h2⟩
        · exact ⟨e, by omega, by omega, h3, h4⟩
    rw [key]
    simp only [refRow]
    split
    · rename_i h
      rw [List.mem_cons, ih]
      simp only [h, true_and]
    · rename_i h
      rw [ih]
      exact ⟨.inr, fun h2 => h2.elim (fun h3 => absurd h3.1 h) id⟩
theorem refOut_mem (m : List Bool) (x : S95) : ∀ (n i : Nat), x ∈ refOut m n i ↔ ∃ a e : Nat, i ≤ a ∧ a < i + n ∧ e < 5 ∧ m.getD (a * 5 + e) false = true ∧ x = ⟨(a : Int), (e : Int)⟩
  | 0, i => by simp [refOut]; intro a e h1 h2; omega
  | n + 1, i => by
    simp only [refOut, List.mem_append]
    rw [refRow_mem, refOut_mem m x n (i + 1)]
    constructor
    · rintro (⟨e, h1, h2, h3, h4⟩ | ⟨a, e, h1, h2, h3, h4, h5⟩)
      · exact ⟨i, e, Nat.le_refl _, by omega, by omega, h3, h4⟩
      · exact ⟨a, e, by omega, by omega, h3, h4, h5⟩
    · rintro ⟨a, e, h1, h2, h3, h4, h5⟩
      by_cases ha : a = i
      · subst ha; exact .inl ⟨e, by omega, by omega, h4, h5⟩
      · exact .inr ⟨a, e, by omega, by omega, h3, h4, h5⟩
theorem refRow_srt (m : List Bool) (i : Nat) : ∀ (n d : Nat), Srt (refRow m i n d)
  | 0, d => List.Pairwise.nil
  | n + 1, d => by
    simp only [refRow]
    split
    · refine List.pairwise_cons.2 ⟨fun y hy => ?_, refRow_srt m i n (d + 1)⟩
      obtain ⟨e, h1, h2, h3, h4⟩ := (refRow_mem m i y n (d + 1)).1 hy
      rw [ltItem_iff, h4]
      simp
      omega
    · exact refRow_srt m i n (d + 1)
theorem refOut_srt (m : List Bool) : ∀ (n i : Nat), Srt (refOut m n i)
  | 0, i => List.Pairwise.nil
  | n + 1, i => by
    simp only [refOut]
    refine List.pairwise_append.2 ⟨refRow_srt m i 5 0, refOut_srt m n (i + 1), fun x hx y hy => ?_⟩
    obtain ⟨e, h1, h2, h3, h4⟩ := (refRow_mem m i x 5 0).1 hx
    obtain ⟨a, e', h5, h6, h7, h8, h9⟩ := (refOut_mem m y n (i + 1)).1 hy
    rw [ltItem_iff, h4, h9]
    simp
    omega
theorem refClo_srt (g : List (Int × List Int)) (xs : List S95) : Srt (refClo g xs) := refOut_srt _ _ _
theorem der_in {g : List (Int × List Int)} {xs : List S95} (hx : ∀ x ∈ xs, inM x ∧ x.f0 ≤ g.length) : ∀ y, Der g xs y → inM y ∧ y.f0 ≤ g.length := by
  intro y hy
  induction hy with
  | base h => exact hx _ h
  | @step y k r hd hk hr ih =>
    have hkl : k < g.length := (List.getElem?_eq_some_iff.1 hk).1
    exact ⟨⟨by simp, by simp, by simp⟩, by simp; omega⟩
theorem refClo_mem {g : List (Int × List Int)} {xs : List S95} (hg : okG g) (hx : ∀ x ∈ xs, inM x ∧ x.f0 ≤ g.length) (x : S95) : x ∈ refClo g xs ↔ Der g xs x := by
  unfold refClo
  rw [refOut_mem]
  constructor
  · rintro ⟨a, e, h1, h2, h3, h4, h5⟩
    rw [h5]
    exact (refN_bits hg hx a e (by omega) h3).1 h4
  · intro h
    obtain ⟨⟨h1, h2, h3⟩, h4⟩ := der_in hx x h
    obtain ⟨a, b⟩ := x
    simp only at h1 h2 h3 h4
    refine ⟨a.toNat, b.toNat, Nat.zero_le _, by omega, by omega, (refN_bits hg hx a.toNat b.toNat (by omega) (by omega)).2 ?_, ?_⟩
    · rw [Int.toNat_of_nonneg h1, Int.toNat_of_nonneg h2]; exact h
    · rw [Int.toNat_of_nonneg h1, Int.toNat_of_nonneg h2]
/-- The two closures are the same. -/
theorem closF_ref {g : List (Int × List Int)} {xs : List S95} (hg : okG g) (hx : ∀ x ∈ xs, inM x ∧ x.f0 ≤ g.length) (hl : xs.length ≤ 900) (hn : xs.Nodup) : closF g xs = some (refClo g xs) := by
  obtain ⟨zs, h1, h2, h3⟩ := closF_ex (g := g) (xs := xs) (by have := hg.1; omega) hn
  rw [h1, srt_ext zs (refClo g xs) h2 (refClo_srt g xs) (fun x => (h3 x).trans (refClo_mem hg hx x).symm)]
end Go.Proofs.YtpmmfckgfbdboaaDoor.G
end

section
namespace Go.Proofs.YtpmmfckgfbdboaaDoor.G
set_option linter.unusedVariables false
set_option linter.unusedSimpArgs false
def refRowS (g : List (Int × List Int)) (s : List S95) : List Int → List (List S95) → Option (List (List S95))
  | [], sts => some sts
  | c :: cs, sts =>
    if movedP g c s ≠ [] ∧ findI sts (refClo g (movedP g c s)) 0 < 0 then
      (if sts.length + 1 > 64 then none else refRowS g s cs (sts ++ [refClo g (movedP g c s)]))
    else (if sts.length > 64 then none else refRowS g s cs sts)
def refStatesO (g : List (Int × List Int)) : Nat → Nat → List (List S95) → Option (Option (List (List S95)))
  | 0, _, _ => none
  | n + 1, i, sts => if i < sts.length then
      (match refRowS g (sts.getD i []) lettersP sts with
      | none => some none
      | some sts' => refStatesO g n (i + 1) sts')
    else some (some sts)
def goRow (g : List (Int × List Int)) (s : List S95) (cs : List Int) (F : List (List S95)) : List (Int × Int) :=
  cs.flatMap fun c => if movedP g c s = [] then [] else [(c, findI F (refClo g (movedP g c s)) 0)]
/-- A state as it should be. -/
def goodSt (g : List (Int × List Int)) (s : List S95) : Prop := Srt s ∧ ∀ x ∈ s, inM x ∧ x.f0 ≤ g.length
theorem srt_len (g : List (Int × List Int)) (hg : g.length ≤ 8) : ∀ (s : List S95) (a : Int), Srt s → (∀ x ∈ s, inM x ∧ x.f0 ≤ g.length ∧ a ≤ x.f0 * 5 + x.f1) → (s.length : Int) ≤ 45 - a ∨ s = []
  | [], a, _, _ => .inr rfl
  | x :: s, a, hs, h => by
    left
    obtain ⟨h1, h2, h3⟩ := h x (by simp)
    have hs' := List.pairwise_cons.1 hs
    have ih := srt_len g hg s (x.f0 * 5 + x.f1 + 1) hs'.2 (fun y hy => by
      obtain ⟨g1, g2, g3⟩ := h y (by simp [hy])
      refine ⟨g1, g2, ?_⟩
      have := hs'.1 y hy
      rw [ltItem_iff] at this
      obtain ⟨a1, a2, a3⟩ := h1
      obtain ⟨b1, b2, b3⟩ := g1
      omega)
    obtain ⟨a1, a2, a3⟩ := h1
    rcases ih with ih | ih
    · simp only [List.length_cons]; omega
    · subst ih; simp only [List.length_cons, List.length_nil]; omega
theorem goodSt_len {g : List (Int × List Int)} (hg : okG g) {s : List S95} (h : goodSt g s) : s.length ≤ 45 := by
  rcases srt_len g hg.1 s 0 h.1 (fun x hx => ⟨(h.2 x hx).1, (h.2 x hx).2, by obtain ⟨⟨a, b, c⟩, d⟩ := h.2 x hx; omega⟩) with h1 | h1
  · omega
  · subst h1; simp
theorem srt_nodup {s : List S95} (h : Srt s) : s.Nodup := by
  refine h.imp ?_
  rintro a b h rfl
  rw [lt_irrefl] at h; cases h
theorem letters_ne0 : ∀ c ∈ lettersP, c ≠ 0 := by decide
theorem moved_good {g : List (Int × List Int)} (hg : okG g) {s : List S95} (h : goodSt g s) {c : Int} (hc : c ≠ 0) : (∀ x ∈ movedP g c s, inM x ∧ x.f0 ≤ g.length) ∧ (movedP g c s).length ≤ 900 ∧ (movedP g c s).Nodup := by
  unfold movedP
  refine ⟨fun x hx => ?_, ?_, ?_⟩
  · obtain ⟨y, hy, rfl⟩ := List.mem_map.1 hx
    obtain ⟨hy1, hy2⟩ := List.mem_filter.1 hy
    obtain ⟨⟨a, b, d⟩, e⟩ := h.2 y hy1
    refine ⟨⟨a, by simp only; omega, ?_⟩, e⟩
    have hb : behindP g y = c := by simpa using hy2
    have hr := right_len' hg y.f0
    unfold behindP at hb
    rcases Nat.lt_or_ge y.f1.toNat (rightP g y.f0).length with h3 | h3
    · simp only; omega
    · rw [List.getD_eq_getElem?_getD, List.getElem?_eq_none h3] at hb
      exact absurd hb.symm hc
  · rw [List.length_map]
    have := List.length_filter_le (fun x => behindP g x == c) s
    have := goodSt_len hg h
    omega
  · have hn : (s.filter fun x => behindP g x == c).Nodup := (srt_nodup h.1).filter _
    refine List.Pairwise.map _ ?_ hn
    rintro ⟨a, b⟩ ⟨c', d⟩ hne he
    simp only [S95.mk.injEq] at he
    exact hne (by rw [S95.mk.injEq]; omega)
theorem clo_good {g : List (Int × List Int)} (hg : okG g) {s : List S95} (h : goodSt g s) {c : Int} (hc : c ≠ 0) : closF g (movedP g c s) = some (refClo g (movedP g c s)) ∧ goodSt g (refClo g (movedP g c s)) := by
  obtain ⟨h1, h2, h3⟩ := moved_good hg h hc
  exact ⟨closF_ref hg h1 h2 h3, refClo_srt _ _, fun x hx => der_in h1 x ((refClo_mem hg h1 x).1 hx)⟩
theorem findI_ge (y : List S95) : ∀ (l : List (List S95)) (i : Int), 0 ≤ i → (findI l y i < 0 ↔ y ∉ l) ∧ (y ∈ l → i ≤ findI l y i ∧ findI l y i < i + l.length ∧ l[(findI l y i - i).toNat]? = some y)
  | [], i, h => by simp [findI]
  | s :: l, i, h => by
    obtain ⟨ih1, ih2⟩ := findI_ge y l (i + 1) (by omega)
    simp only [findI]
    split
    · rename_i he
      rw [eqI_iff] at he
      subst he
      refine ⟨by simp; omega, fun _ => ⟨Int.le_refl _, by simp; omega, by simp⟩⟩
    · rename_i he
      have hne : y ≠ s := fun e => he ((eqI_iff s y).2 e.symm)
      refine ⟨ih1.trans (by simp [hne]), fun hm => ?_⟩
      have hm2 : y ∈ l := by simpa [hne] using hm
      obtain ⟨h1, h2, h3⟩ := ih2 hm2
      refine ⟨by omega, by simp; omega, ?_⟩
      rw [show (findI l y (i + 1) - i).toNat = (findI l y (i + 1) - (i + 1)).toNat + 1 by omega]
      simpa using h3
theorem findI_app (y : List S95) (t : List (List S95)) : ∀ (l : List (List S95)) (i : Int), y ∈ l → findI (l ++ t) y i = findI l y i
  | [], i, h => by simp at h
  | s :: l, i, h => by
    simp only [List.cons_append, findI]
    split
    · rfl
    · rename_i he
      have hne : y ≠ s := fun e => he ((eqI_iff s y).2 e.symm)
      exact findI_app y t l (i + 1) (by simpa [hne] using h)
theorem findI_new (y : List S95) : ∀ (l : List (List S95)) (i : Int), y ∉ l → findI (l ++ [y]) y i = i + l.length
  | [], i, h => by
    have : eqI y y = true := (eqI_iff y y).2 rfl
    simp [findI, this]
  | s :: l, i, h => by
    simp only [List.mem_cons, not_or] at h
    have hf : ¬ eqI s y = true := fun e => h.1 ((eqI_iff s y).1 e).symm
    simp only [List.cons_append, findI, if_neg hf]
    rw [findI_new y l (i + 1) h.2]
    simp only [List.length_cons]
    omega
theorem findI_pre {y : List S95} {l F : List (List S95)} (hp : l <+: F) (h : y ∈ l) (i : Int) : findI F y i = findI l y i := by
  obtain ⟨t, rfl⟩ := hp
  exact findI_app y t l i h
def Cov (g : List (Int × List Int)) (s : List S95) (cs : List Int) (sts : List (List S95)) : Prop := ∀ c ∈ cs, movedP g c s ≠ [] → refClo g (movedP g c s) ∈ sts
theorem Cov.mono {g : List (Int × List Int)} {s : List S95} {cs : List Int} {sts F : List (List S95)} (h : Cov g s cs sts) (hp : sts <+: F) : Cov g s cs F := fun c hc hm => hp.subset (h c hc hm)
theorem goRow_stable {g : List (Int × List Int)} {s : List S95} {sts F : List (List S95)} (hp : sts <+: F) : ∀ {cs : List Int}, Cov g s cs sts → goRow g s cs F = goRow g s cs sts
  | [], _ => rfl
  | c :: cs, h => by
    have ih := goRow_stable (g := g) (s := s) hp (cs := cs) (fun c' hc' => h c' (by simp [hc']))
    unfold goRow at *
    rw [List.flatMap_cons, List.flatMap_cons, ih]
    congr 1
    split
    · rfl
    · rename_i hm
      rw [findI_pre hp (h c (by simp) hm)]
def GoodS (g : List (Int × List Int)) (sts : List (List S95)) : Prop := sts.length ≤ 64 ∧ ∀ s ∈ sts, goodSt g s
theorem rowO_ref {g : List (Int × List Int)} (hg : okG g) {s : List S95} (hs : goodSt g s) : ∀ (cs : List Int) (sts : List (List S95)) (ms : List (Int × Int)), (∀ c ∈ cs, c ≠ 0) → GoodS g sts →
    rowO g s cs sts ms = some ((refRowS g s cs sts).map fun F => (F, ms ++ goRow g s cs F)) ∧ ∀ F, refRowS g s cs sts = some F → sts <+: F ∧ GoodS g F ∧ Cov g s cs F
  | [], sts, ms, _, hG => by
    refine ⟨by simp [rowO, refRowS, goRow], fun F hF => ?_⟩
    simp only [refRowS, Option.some.injEq] at hF
    subst hF
    exact ⟨List.prefix_refl _, hG, fun c hc => by simp at hc⟩
  | c :: cs, sts, ms, hcs, hG => by
    have hc0 := hcs c (by simp)
    have hcs' : ∀ c ∈ cs, c ≠ 0 := fun c' h => hcs c' (by simp [h])
    simp only [rowO, refRowS, letterO]
    by_cases hm : movedP g c s = []
    · rw [if_pos hm]
      have : ¬ (movedP g c s ≠ [] ∧ findI sts (refClo g (movedP g c s)) 0 < 0) := fun h => h.1 hm
      rw [if_neg this, if_neg (by have := hG.1; omega)]
      obtain ⟨ih1, ih2⟩ := rowO_ref hg hs cs sts ms hcs' hG
      refine ⟨?_, fun F hF => ?_⟩
      · simp only [Option.bind_some]
        rw [ih1]
        congr 2
        funext F
        simp [goRow, hm]
      · obtain ⟨h1, h2, h3⟩ := ih2 F hF
        refine ⟨h1, h2, fun c' hc' hm' => ?_⟩
        rcases List.mem_cons.1 hc' with rfl | h4
        · exact absurd hm hm'
        · exact h3 c' h4 hm'
    · obtain ⟨hcl, hgd⟩ := clo_good hg hs hc0
      rw [if_neg hm, hcl]
      simp only [Option.bind_some]
      generalize hys : refClo g (movedP g c s) = ys at *
      have hf := findI_ge ys sts 0 (Int.le_refl _)
      by_cases hn : findI sts ys 0 < 0
      · have hcond : movedP g c s ≠ [] ∧ findI sts ys 0 < 0 := ⟨hm, hn⟩
        rw [if_pos hcond, if_pos hn]
        have hni := hf.1.1 hn
        by_cases h64 : sts.length + 1 > 64
        · simp only [if_pos h64]
          exact ⟨rfl, fun F hF => by cases hF⟩
        · simp only [if_neg h64]
          have hG' : GoodS g (sts ++ [ys]) := ⟨by simp; omega, fun t ht => by
            rcases List.mem_append.1 ht with h | h
            · exact hG.2 t h
            · rw [List.mem_singleton.1 h]; exact hgd⟩
          obtain ⟨ih1, ih2⟩ := rowO_ref hg hs cs (sts ++ [ys]) (ms ++ [(c, (sts.length : Int))]) hcs' hG'
          simp only [Option.bind_some]
          rw [ih1]
          refine ⟨?_, fun F hF => ?_⟩
          · cases hR : refRowS g s cs (sts ++ [ys]) with
            | none => rfl
            | some F =>
              obtain ⟨h1, h2, h3⟩ := ih2 F hR
              have : findI F ys 0 = (sts.length : Int) := by rw [findI_pre h1 (by simp), findI_new ys sts 0 hni, Int.zero_add]
              simp [goRow, hm, hys, this]
          · obtain ⟨h1, h2, h3⟩ := ih2 F hF
            refine ⟨(List.prefix_append _ _).trans h1, h2, fun c' hc' hm' => ?_⟩
            rcases List.mem_cons.1 hc' with rfl | h4
            · rw [hys]; exact h1.subset (by simp)
            · exact h3 c' h4 hm'
      · have hcond : ¬ (movedP g c s ≠ [] ∧ findI sts ys 0 < 0) := fun h => hn h.2
        rw [if_neg hcond, if_neg hn]
        have hin : ys ∈ sts := Classical.byContradiction fun h => hn (hf.1.2 h)
        have h65 : ¬ sts.length > 64 := by have := hG.1; omega
        simp only [if_neg h65]
        obtain ⟨ih1, ih2⟩ := rowO_ref hg hs cs sts (ms ++ [(c, findI sts ys 0)]) hcs' hG
        simp only [Option.bind_some]
        rw [ih1]
        refine ⟨?_, fun F hF => ?_⟩
        · cases hR : refRowS g s cs sts with
          | none => rfl
          | some F =>
            obtain ⟨h1, h2, h3⟩ := ih2 F hR
            have : findI F ys 0 = findI sts ys 0 := findI_pre h1 hin 0
            simp [goRow, hm, hys, this]
        · obtain ⟨h1, h2, h3⟩ := ih2 F hF
          refine ⟨h1, h2, fun c' hc' hm' => ?_⟩
          rcases List.mem_cons.1 hc' with rfl | h4
          · rw [hys]; exact h1.subset hin
          · exact h3 c' h4 hm'
theorem getD_good {g : List (Int × List Int)} {sts : List (List S95)} {i : Nat} (h : i < sts.length) (hG : GoodS g sts) : goodSt g (sts.getD i []) ∧ sts.getD i [] = sts[i] := by
  have : sts.getD i [] = sts[i] := by simp [h]
  exact ⟨by rw [this]; exact hG.2 _ (List.getElem_mem h), this⟩
def gosOf (g : List (Int × List Int)) (l F : List (List S95)) : List (List (Int × Int)) := l.map fun s => goRow g s lettersP F
theorem buildO_ref {g : List (Int × List Int)} (hg : okG g) : ∀ (n i : Nat) (sts : List (List S95)), GoodS g sts → i ≤ sts.length → (∀ s ∈ sts.take i, Cov g s lettersP sts) →
    buildO g n i sts (gosOf g (sts.take i) sts) = (refStatesO g n i sts).map (Option.map fun F => (F, gosOf g F F)) ∧ ∀ F, refStatesO g n i sts = some (some F) → sts <+: F ∧ GoodS g F ∧ ∀ s ∈ F, Cov g s lettersP F
  | 0, i, sts, _, _, _ => ⟨rfl, fun F hF => by cases hF⟩
  | n + 1, i, sts, hG, hi, hC => by
    simp only [buildO, refStatesO]
    by_cases hlt : i < sts.length
    · rw [if_pos hlt, if_pos hlt]
      obtain ⟨hs, hse⟩ := getD_good hlt hG
      obtain ⟨h1, h2⟩ := rowO_ref hg hs lettersP sts [] letters_ne0 hG
      rw [h1]
      cases hR : refRowS g (sts.getD i []) lettersP sts with
      | none => exact ⟨rfl, fun F hF => by cases hF⟩
      | some F =>
        obtain ⟨hp, hG', hCv⟩ := h2 F hR
        have htk : F.take (i + 1) = sts.take i ++ [sts.getD i []] := by
          obtain ⟨t, rfl⟩ := hp
          rw [List.take_append_of_le_length (by omega), List.take_succ_eq_append_getElem hlt, hse]
        have hC' : ∀ s ∈ F.take (i + 1), Cov g s lettersP F := fun s hs' => by
          rw [htk] at hs'
          rcases List.mem_append.1 hs' with h | h
          · exact (hC s h).mono hp
          · rw [List.mem_singleton.1 h]; exact hCv
        have hgos : gosOf g (sts.take i) sts ++ [goRow g (sts.getD i []) lettersP F] = gosOf g (F.take (i + 1)) F := by
          rw [htk]
          unfold gosOf
          rw [List.map_append, List.map_singleton]
          congr 1
          exact List.map_congr_left fun s hs' => (goRow_stable hp (hC s hs')).symm
        have hlF : i + 1 ≤ F.length := by have := hp.length_le; omega
        obtain ⟨ih1, ih2⟩ := buildO_ref hg n (i + 1) F hG' hlF hC'
        simp only [Option.map_some, Option.bind_some, List.nil_append]
        rw [hgos]
        refine ⟨ih1, fun F' hF' => ?_⟩
        obtain ⟨q1, q2, q3⟩ := ih2 F' hF'
        exact ⟨hp.trans q1, q2, q3⟩
    · rw [if_neg hlt, if_neg hlt]
      have hie : sts.take i = sts := List.take_of_length_le (by omega)
      rw [hie] at hC ⊢
      refine ⟨rfl, fun F hF => ?_⟩
      simp only [Option.some.injEq] at hF
      subst hF
      exact ⟨List.prefix_refl _, hG, hC⟩
theorem refStatesO_some {g : List (Int × List Int)} (hg : okG g) : ∀ (n i : Nat) (sts : List (List S95)), GoodS g sts → i ≤ sts.length → 65 < n + i → ∃ r, refStatesO g n i sts = some r
  | 0, i, sts, hG, hi, h => by have := hG.1; omega
  | n + 1, i, sts, hG, hi, h => by
    simp only [refStatesO]
    by_cases hlt : i < sts.length
    · rw [if_pos hlt]
      obtain ⟨hs, hse⟩ := getD_good hlt hG
      obtain ⟨h1, h2⟩ := rowO_ref hg hs lettersP sts [] letters_ne0 hG
      cases hR : refRowS g (sts.getD i []) lettersP sts with
      | none => exact ⟨none, rfl⟩
      | some F =>
        obtain ⟨hp, hG', hCv⟩ := h2 F hR
        exact refStatesO_some hg n (i + 1) F hG' (by have := hp.length_le; omega) (by omega)
    · rw [if_neg hlt]; exact ⟨_, rfl⟩
def startS (g : List (Int × List Int)) : List S95 := refClo g [⟨(g.length : Int), 0⟩]
def refStates (g : List (Int × List Int)) : Option (List (List S95)) := ((refStatesO g 66 0 [startS g]).getD none)
theorem start_ok (g : List (Int × List Int)) : ∀ x ∈ [(⟨(g.length : Int), 0⟩ : S95)], inM x ∧ x.f0 ≤ g.length := fun x hx => by
  rw [List.mem_singleton.1 hx]
  exact ⟨⟨by simp, by simp, by simp⟩, by simp⟩
theorem start_good {g : List (Int × List Int)} (hg : okG g) : GoodS g [startS g] := ⟨by simp, fun s hs => by
  rw [List.mem_singleton.1 hs]
  exact ⟨refClo_srt _ _, fun x hx => der_in (start_ok g) x ((refClo_mem hg (start_ok g) x).1 hx)⟩⟩
theorem getElem?_pre {α : Type} {l F : List α} (hp : l <+: F) {j : Nat} {x : α} (h : l[j]? = some x) : F[j]? = some x := by
  obtain ⟨t, rfl⟩ := hp
  rw [List.getElem?_append_left (List.getElem?_eq_some_iff.1 h).1]
  exact h
/-- The table, told by the reference's states. -/
theorem buildP_ref {g : List (Int × List Int)} (hg : okG g) : buildP g = some ((refStates g).map fun F => (F, gosOf g F F)) := by
  unfold buildP refStates
  rw [closF_ref hg (start_ok g) (by simp) (by simp)]
  simp only [Option.bind_some]
  obtain ⟨r, hr⟩ := refStatesO_some hg 66 0 [startS g] (start_good hg) (by simp) (by omega)
  have := (buildO_ref hg 66 0 [startS g] (start_good hg) (by simp) (fun s hs => by simp at hs)).1
  rw [show refClo g [⟨(g.length : Int), 0⟩] = startS g from rfl]
  simp only [List.take_zero, gosOf, List.map_nil] at this
  rw [this, hr]
  rfl
theorem refStates_good {g : List (Int × List Int)} (hg : okG g) {F : List (List S95)} (h : refStates g = some F) : [startS g] <+: F ∧ GoodS g F ∧ ∀ s ∈ F, Cov g s lettersP F := by
  unfold refStates at h
  obtain ⟨r, hr⟩ := refStatesO_some hg 66 0 [startS g] (start_good hg) (by simp) (by omega)
  rw [hr] at h
  simp only [Option.getD_some] at h
  subst h
  exact (buildO_ref hg 66 0 [startS g] (start_good hg) (by simp) (fun s hs => by simp at hs)).2 F hr
end Go.Proofs.YtpmmfckgfbdboaaDoor.G
end

section
namespace Go.Proofs.YtpmmfckgfbdboaaDoor.G
open Go.RowKit Go.Proofs.YtpmmfckgfbdboaaDoorW.PrintWords Go.Proofs.YtpmmfckgfbdboaaDoorW.PrintLast Go.Proofs.YtpmmfckgfbdboaaDoorW.PrintMore
attribute [local go_sem] max2_int min2_int max_two min_two max_three min_three max_four min_four   -- for this text's walks alone
set_option linter.unusedVariables false
set_option linter.unusedSimpArgs false

/-! ### comfitref05_right: function 83 -/
def comfitref05_right.f (l0 : List (S41)) (a1 : Int) : Option (ByteArray) := if a1 = (l0.length : Int) then (if 0 < (l0.length : Int) then (some (strOfNums (([(rd_T41 l0 0).f0] : List Int)))) else (none)) else (if 0 ≤ a1 then (if a1 < (l0.length : Int) then (some ((rd_T41 l0 a1).f1)) else (none)) else (none))
set_option maxHeartbeats 8000000 in
set_option maxRecDepth 100000 in
theorem comfitref05_right.calls (A0 : Option Addr) (c0 : Nat) (l0 : List (S41)) (a1 : Int) (r : ByteArray) (w : World) (hr0 : Kd.C k41 w A0 l0.length l0) (hc0 : l0.length ≤ c0) (h : comfitref05_right.f l0 a1 = some r) :
    Calls Tryd.prog 83 #[.slice A0 l0.length c0, .int .i64 a1] w fun e w' => e = .returned (.string r) ∧ Below w.heap.size w w' := by
  have HR0 := Aside0.mk hr0
  have HC0 := Aside0.mk hc0
  clear hr0 hc0
  have HB := Aside0.mk (Below.refl w.heap.size w)
  have H : (if a1 = (l0.length : Int) then (if 0 < (l0.length : Int) then (some (strOfNums (([(rd_T41 l0 0).f0] : List Int)))) else (none)) else (if 0 ≤ a1 then (if a1 < (l0.length : Int) then (some ((rd_T41 l0 a1).f1)) else (none)) else (none))) = some r := h
  clear h
  by_cases c3 : a1 = (l0.length : Int)
  · rw [if_pos c3] at H
    have c3b0 : (a1 == (l0.length : Int)) = true := beq_iff_eq.mpr c3
    have c3b1 : (a1 != (l0.length : Int)) = false := bne_eq_false_iff_eq.mpr c3
    clear c3
    by_cases c4 : 0 < (l0.length : Int)
    · rw [if_pos c4] at H
      have c4b0 : decide (0 < (l0.length : Int)) = true := decide_eq_true c4
      have c4b1 : decide (0 < l0.length) = true := decide_eq_true (by omega)
      clear c4
      obtain ⟨y154, hy154⟩ : ∃ y_ : List Int, y_ = (([(rd_T41 l0 0).f0] : List Int)) := ⟨_, rfl⟩
      replace H : (some (strOfNums y154)) = some r := by first | (rw [hy154]; with_reducible exact H) | (have H2_ := (Option.bind_some _ _).symm.trans H; rw [hy154]; with_reducible exact H2_) | (have H2_ := (Option.bind_some _ _).symm.trans H; with_reducible exact H2_) | with_reducible exact H | (rw [hy154]; exact H) | exact H
      have Ny154 := Aside0.mk hy154
      clear hy154
      obtain rfl := Option.some.inj H
      have p153 : 0 ≤ (0 : Int) := (by omega)
      have q153 : 0 < (l0.length : Int) := of_decide_eq_true (by first | (with_reducible assumption) | assumption)
      obtain ⟨ad153, e153, hx153_0, hx153_1⟩ := at_T41 HR0.out 0 p153 q153
      cases e153
      have qi153 : (0 < l0.length) = True := eq_true (by omega)
      (try rw [show ((0 : Int)).toNat = 0 from rfl] at hx153_0)
      (try rw [show 0 * 2 = 0 from rfl] at hx153_0)
      (try rw [Addr.add_zero'] at hx153_0)
      (try rw [show ((0 : Int)).toNat = 0 from rfl] at hx153_1)
      (try rw [show 0 * 2 = 0 from rfl] at hx153_1)
      (try rw [Addr.add_zero'] at hx153_1)
      replace p153 := eq_true p153
      replace q153 := eq_true q153
      go_enter Tryd.func83, Tryd.ntmps83
      go_wp2_with (first | ((with_reducible refine gate_dst (N := 13) rfl ?_); refine Kd.R_lit (Kd.int .u8) _ 5 ?hg (N := 13) ?hd (xs := ([(rd_T41 l0 0).f0] : List Int)) (inner := [.int .u8 ((rd_T41 l0 0).f0)]) (ok := fun _ => True) (okp := fun _ => True) ?hr ?hp (fun _ hk => hk) trivial (Below.refl _ _) (Nat.le_refl _) (by simp) ?_; (case hd => rfl); (case hg => rfl); (case hr => first | (go_simp; done) | (go_simp; rfl)); (case hp => exact (Reps.one (show Kd.M (Kd.int .u8) _ _ _ ((rd_T41 l0 0).f0) [.int .u8 ((rd_T41 l0 0).f0)] from rfl) (Reps.none _ _))); intro v155 w5 ho6 hb hg_ hnew_; clear hg_ hnew_; (first | rw [← Ny154.out] at ho6 | (simp only [Int.reduceToNat] at ho6; rw [← Ny154.out] at ho6)); have n0_ := Aside0.mk (Kd.R_lower ho6 (below_size (by repeat (first | (with_reducible first | exact HB.out | apply below_alloc | apply pw_below_drewN | apply below_drew1) | exact HB.out)))); have n1_ := Aside0.mk (below_step (by repeat (first | (with_reducible first | exact HB.out | apply below_alloc | apply pw_below_drewN | apply below_drew1) | exact HB.out)) hb); clear HB; have HO156 := n0_; have HB := n1_; clear n0_ n1_; clear hb ho6; have hcv7 := own_string (P := Tryd.prog) Tryd.underlying42 Tryd.underlying5 Tryd.underlying9 (Kd.own_of_R HO156.out)))
      go_ret
      exact ⟨by first | rfl | (simp [errW_none, errW_some] <;> rfl) | (simp [*, errW_none, errW_some] <;> rfl), by repeat (first | (with_reducible first | exact HB.out | apply below_alloc | apply pw_below_drewN | apply below_drew1) | exact HB.out)⟩
    · rw [if_neg c4] at H
      exact absurd H (by simp)
  · rw [if_neg c3] at H
    have c3b0 : (a1 == (l0.length : Int)) = false := beq_eq_false_iff_ne.mpr c3
    have c3b1 : (a1 != (l0.length : Int)) = true := bne_iff_ne.mpr c3
    by_cases c8 : 0 ≤ a1
    · rw [if_pos c8] at H
      have c8b0 : decide (0 ≤ a1) = true := decide_eq_true c8
      clear c8
      by_cases c9 : a1 < (l0.length : Int)
      · rw [if_pos c9] at H
        have c9b0 : decide (a1 < (l0.length : Int)) = true := decide_eq_true c9
        clear c9
        obtain rfl := Option.some.inj H
        have p157 : 0 ≤ (a1 : Int) := of_decide_eq_true (by first | (with_reducible assumption) | assumption)
        have q157 : a1 < (l0.length : Int) := of_decide_eq_true (by first | (with_reducible assumption) | assumption)
        obtain ⟨ad157, e157, hx157_0, hx157_1⟩ := at_T41 HR0.out a1 p157 q157
        cases e157
        replace p157 := eq_true p157
        replace q157 := eq_true q157
        go_enter Tryd.func83, Tryd.ntmps83
        go_wp2
        go_ret
        exact ⟨by first | rfl | (simp [errW_none, errW_some] <;> rfl) | (simp [*, errW_none, errW_some] <;> rfl), by repeat (first | (with_reducible first | exact HB.out | apply below_alloc | apply pw_below_drewN | apply below_drew1) | exact HB.out)⟩
      · rw [if_neg c9] at H
        exact absurd H (by simp)
    · rw [if_neg c8] at H
      exact absurd H (by simp)

end Go.Proofs.YtpmmfckgfbdboaaDoor.G
end

section
namespace Go.Proofs.YtpmmfckgfbdboaaDoor.G
open Go.RowKit Go.Proofs.YtpmmfckgfbdboaaDoorW.PrintWords Go.Proofs.YtpmmfckgfbdboaaDoorW.PrintLast Go.Proofs.YtpmmfckgfbdboaaDoorW.PrintMore
attribute [local go_sem] max2_int min2_int max_two min_two max_three min_three max_four min_four   -- for this text's walks alone
set_option linter.unusedVariables false
set_option linter.unusedSimpArgs false

theorem eqA39 (d : Nat) (w : World) (x0 y0 : Int) (x1 y1 : Int) :
    (Op.equalIn (d + 2) 39 (.agg #[.int .i64 x0, .int .i64 x1]) (.agg #[.int .i64 y0, .int .i64 y1])).run Tryd.prog w = .ok (x0 == y0 && (x1 == y1)) w := by
  refine eqA_of Tryd.underlying39 (by kernel_rfl) ?_
  refine eqf_cons (by rfl) (by go_simp; rfl) (by go_simp; rfl) (by go_simp) ?_
  exact eqf_last (by rfl) (by go_simp; rfl) (by go_simp; rfl) (by go_simp)
end Go.Proofs.YtpmmfckgfbdboaaDoor.G
end

section
namespace Go.Proofs.YtpmmfckgfbdboaaDoor.G
open Go.RowKit Go.Proofs.YtpmmfckgfbdboaaDoorW.PrintWords Go.Proofs.YtpmmfckgfbdboaaDoorW.PrintLast Go.Proofs.YtpmmfckgfbdboaaDoorW.PrintMore
attribute [local go_sem] max2_int min2_int max_two min_two max_three min_three max_four min_four   -- for this text's walks alone
set_option linter.unusedVariables false
set_option linter.unusedSimpArgs false

theorem eqA41 (d : Nat) (w : World) (x0 y0 : Int) (x1 y1 : ByteArray) :
    (Op.equalIn (d + 2) 41 (.agg #[.int .u8 x0, .string x1]) (.agg #[.int .u8 y0, .string y1])).run Tryd.prog w = .ok (x0 == y0 && (x1.toList == y1.toList)) w := by
  refine eqA_of Tryd.underlying41 (by kernel_rfl) ?_
  refine eqf_cons (by rfl) (by go_simp; rfl) (by go_simp; rfl) (by go_simp) ?_
  exact eqf_last (by rfl) (by go_simp; rfl) (by go_simp; rfl) (by go_simp)
end Go.Proofs.YtpmmfckgfbdboaaDoor.G
end

section
namespace Go.Proofs.YtpmmfckgfbdboaaDoor.G
open Go.RowKit Go.Proofs.YtpmmfckgfbdboaaDoorW.PrintWords Go.Proofs.YtpmmfckgfbdboaaDoorW.PrintLast Go.Proofs.YtpmmfckgfbdboaaDoorW.PrintMore
open Go.Shelf Go.Lib
set_option linter.unusedVariables false
set_option linter.unusedSimpArgs false
def arrB (m : List Bool) : Array Value := (m.map Value.bool).toArray
theorem arrB_get (m : List Bool) (j : Nat) (h : j < m.length) : (arrB m)[j]? = some (.bool (m.getD j false)) := by
  simp [arrB, List.getD_eq_getElem?_getD, h]
theorem arrB_set (m : List Bool) (j : Nat) : (arrB m).setIfInBounds j (.bool true) = arrB (m.set j true) := by
  simp [arrB, List.map_set]
def gr41 (l : List S41) : List (Int × List Int) := l.map fun r => (r.f0, bytesOf r.f1)
def to95 (x : S39) : S95 := ⟨x.f0, x.f1⟩
def to39 (x : S95) : S39 := ⟨x.f0, x.f1⟩
theorem gr41_len (l : List S41) : (gr41 l).length = l.length := by simp [gr41]
theorem rd39_mem (zs : List S39) (i : Int) (h0 : 0 ≤ i) (h1 : i < zs.length) : rd_T39 zs i ∈ zs := by
  have h2 : i.toNat < zs.length := by omega
  simp [rd_T39, List.getD_eq_getElem?_getD, h2]
theorem drop39 (xs : List S39) (i : Nat) (h1 : i < xs.length) : xs.drop i = rd_T39 xs (i : Int) :: xs.drop (i + 1) := by
  rw [List.drop_eq_getElem_cons h1]
  congr 1
  simp [rd_T39, List.getD_eq_getElem?_getD, h1]
theorem idx45 {a b n : Nat} (ha : a ≤ n) (hn : n ≤ 8) (hb : b < 5) : a * 5 + b < 45 := by omega
theorem lt_sub {i n k : Nat} (h : i < n) (hk : k = n - i) : n - (i + 1) < k := by omega
theorem big45 {a r n d : Nat} (h : a ≤ r * 5 + d) (hr : r < n + 1) (hn : n ≤ 8) (hd : d < 5) : (a + 1) * 16 ≤ 140737488355328 := by omega
theorem sub_succ {n j : Nat} (h : j < n) : n - j = (n - (j + 1)) + 1 := by omega
theorem wrap_len {n : Nat} (h : n ≤ 8) : wrap64 ((n : Int) + 1) = (n : Int) + 1 := by unfold wrap64; omega
theorem drop41 (xs : List S41) (i : Nat) (h1 : i < xs.length) : (gr41 xs).drop i = ((rd_T41 xs (i : Int)).f0, bytesOf (rd_T41 xs (i : Int)).f1) :: (gr41 xs).drop (i + 1) := by
  rw [List.drop_eq_getElem_cons (by rw [gr41_len]; exact h1)]
  congr 1
  simp [gr41, rd_T41, List.getD_eq_getElem?_getD, h1]
theorem right_small {g : List (Int × List Int)} (hg : okG g) (rule : Int) : (rightP g rule).length ≤ 4 := by
  unfold rightP
  split
  · simp
  · cases h : g[rule.toNat]? with
    | none => simp
    | some p => exact (hg.2 p (List.mem_of_getElem? h)).2.1
theorem part_str {c : Int} (h : isPartB c = true) : bytesOf (strOfNums [c]) = [c] := by
  rcases isPartB_cases h with rfl | rfl | rfl | rfl | rfl <;> decide
theorem right41_f (l : List S41) (hg : okG (gr41 l)) (hne : 0 < l.length) (rule : Int) (h0 : 0 ≤ rule) (h1 : rule ≤ l.length) : ∃ t, comfitref05_right.f l rule = some t ∧ bytesOf t = rightP (gr41 l) rule := by
  unfold comfitref05_right.f rightP
  rw [gr41_len]
  by_cases h : rule = l.length
  · rw [if_pos h, if_pos (by omega : (0 : Int) < l.length), if_pos h]
    cases l with
    | nil => simp at hne
    | cons a l =>
      have hp := (hg.2 (a.f0, bytesOf a.f1) (by simp [gr41])).1
      exact ⟨_, rfl, part_str hp⟩
  · rw [if_neg h, if_pos h0, if_pos (by omega), if_neg h]
    refine ⟨_, rfl, ?_⟩
    have h2 : rule.toNat < l.length := by omega
    simp [gr41, rd_T41, List.getD_eq_getElem?_getD, h2]
def reg49.T5 : Bool × List (List Nat × List Nat) := (true, [([], []), ([0], [0]), ([], []), ([2], [2]), ([1], [1]), ([4, 3, 0, 1, 2, 3], [3, 4]), ([5, 0, 1, 2, 3], [5])])
def reg49.B5 : List Nat := [0, 1, 0, 4, 3, 31, 63]
theorem reg49.tab5 : rtab .any (opsOf Tryd.f49 5) = reg49.T5 := by kernel_rfl
theorem reg49.bits5 : waitsOk reg49.T5.2 reg49.B5 = true := by kernel_rfl
def reg49.T19 : Bool × List (List Nat × List Nat) := (true, [([], []), ([], []), ([0], [0]), ([2, 1], [1, 2]), ([3], [3]), ([4], [4]), ([5], [5]), ([5], [5]), ([6, 7, 5], [5, 6, 7]), ([5], [5]), ([9, 5], [5, 9]), ([8, 10, 5], [5, 8, 10]), ([5, 11], [5, 11])])
def reg49.B19 : List Nat := [0, 0, 1, 7, 15, 31, 63, 63, 255, 63, 575, 2047, 4095]
theorem reg49.tab19 : rtab .any (opsOf Tryd.f49 19) = reg49.T19 := by kernel_rfl
theorem reg49.bits19 : waitsOk reg49.T19.2 reg49.B19 = true := by kernel_rfl
set_option maxHeartbeats 4000000 in
set_option maxRecDepth 100000 in
theorem clo49_any (l : List S41) (A0 : Option Addr) (c0 : Nat) (xs : List S39) (A1 : Option Addr) (c1 : Nat) (w : World) (hr0 : Kd.C k41 w A0 l.length l) (hc0 : l.length ≤ c0) (hr1 : Kd.C k39 w A1 xs.length xs) (hc1 : xs.length ≤ c1)
    (hg : okG (gr41 l)) (hne : 0 < l.length) (hx : ∀ x ∈ xs, inM (to95 x) ∧ x.f0 ≤ l.length) (hl1 : xs.length < 2 ^ 62) :
    Calls Tryd.prog 49 #[.slice A0 l.length c0, .slice A1 xs.length c1] w fun e w' => ∃ v, e = .returned v ∧ Kd.R k39 39 w' w.heap.size (fun _ => True) v ((refClo (gr41 l) (xs.map to95)).map to39) ∧ Below w.heap.size w w' := by
  have HR0 := Lib.hid hr0
  have HR1 := Lib.hid hr1
  have HG := Lib.hid hg
  have HNE := Lib.hid hne
  have HX := Lib.hid hx
  have hlen := Lib.hid (show l.length ≤ 8 by have := hg.1; rwa [gr41_len] at this)
  clear hr0 hr1 hg hne hx
  have HT := Lib.hid (blk_new w (.cells (arrB (List.replicate 45 false)) 137))
  have HB0 := Lib.hid (below_alloc (Below.refl w.heap.size w) (.cells (arrB (List.replicate 45 false)) 137))
  go_enter Tryd.func49, Tryd.ntmps49
  go_wp2
  go_loopg [18] xs.length (fun kq v18 w' => ∃ (j : Nat) (m : List Bool), v18 = .int .i64 (j : Int) ∧ j ≤ xs.length ∧ kq = xs.length - j ∧ Hid (w'.heap[w.heap.size]? = some (.cells (arrB m) 137 (0, 0))) ∧ Hid (m.length = 45 ∧ refInit ((xs.drop j).map to95) m = refInit (xs.map to95) (List.replicate 45 false)) ∧ Hid (Below w.heap.size w w'))
  case atStart => exact ⟨0, List.replicate 45 false, rfl, Nat.zero_le _, rfl, HT, Lib.hid ⟨List.length_replicate, rfl⟩, HB0⟩
  case round =>
    clear HT HB0
    obtain ⟨j, m, rfl, hj, hkq, HT, HM, HB⟩ := hrel
    by_cases hjl : j < xs.length
    · have hjI : (j : Int) < (xs.length : Int) := Int.ofNat_lt.mpr hjl
      have hj0 : (0 : Int) ≤ (j : Int) := Int.natCast_nonneg j
      obtain ⟨ad, eA, hx0, hx1⟩ := at_T39 (Kd.C_below HR1.out HB.out) (j : Int) hj0 hjI
      cases eA
      obtain ⟨⟨hi0, hi1, hi2⟩, hi3⟩ := HX.out _ (rd39_mem xs (j : Int) hj0 hjI)
      have hM := HM.out
      rw [drop39 xs j hjl] at hM
      generalize rd_T39 xs (j : Int) = x at *
      obtain ⟨x0, x1⟩ := x
      simp only [to95] at hi0 hi1 hi2 hi3
      obtain ⟨a, rfl⟩ := Int.eq_ofNat_of_zero_le hi0
      obtain ⟨b, rfl⟩ := Int.eq_ofNat_of_zero_le hi1
      have hal := Int.ofNat_le.mp hi3
      have hbl := Int.ofNat_lt.mp hi2
      have ha9 : (a : Int) < 9 := Int.ofNat_lt.mpr (Nat.lt_succ_of_le (Nat.le_trans hal hlen.out))
      simp only [add_plain, Int.toNat_natCast] at hx0 hx1
      simp only [List.map_cons, refInit, to95, Int.toNat_natCast] at hM
      have HM2 := Lib.hid hM
      have HAB := Lib.hid (And.intro hal hbl)
      have hw : wrap64 ((j : Int) + 1) = (j : Int) + 1 := wrap64_succ (n := xs.length) hj0 ⟨hjI, hl1⟩
      have HT1 := Lib.hid (blk_alloc HT.out (.cells #[.int .i64 a, .int .i64 b] 39))
      have HB1 := Lib.hid (below_alloc HB.out (.cells #[.int .i64 a, .int .i64 b] 39))
      have HG1 := Lib.hid (blk_new wr (.cells #[.int .i64 a, .int .i64 b] 39))
      clear hM HM HT HB hi0 hi1 hi3 hal hbl
      go_wp2
      generalize hWA : wr.alloc (.cells #[.int .i64 a, .int .i64 b] 39) = WA at HT1 HB1 HG1 ⊢
      clear hx0 hx1
      have hg0 := (blk_cell HG1.out 0).trans (show _ = some (Value.int .i64 a) from rfl)
      have hg1 := (blk_cell HG1.out 1).trans (show _ = some (Value.int .i64 b) from rfl)
      refine start_ (n := 7) (S := fun w' => w'.cell? ⟨wr.heap.size, 0, none⟩ = some (.int .i64 a) ∧ w'.cell? ⟨wr.heap.size, 1, none⟩ = some (.int .i64 b)) (ds := [6]) #[false, false, false, false, false, false, false] (by kernel_rfl) rfl rfl ⟨hg0, hg1⟩ (fun hHeld => ?_); refine with_tabW reg49.tab5 reg49.bits5 (fun HT_ HW_ => ?_)
      clear hg0 hg1
      have HT2 := Lib.hid (blk_drew HT1.out)
      have HB2 := Lib.hid (below_drew1 HB1.out)
      generalize WA.drew = WD at hHeld HT2 HB2 ⊢
      refine pure_ (i := 0) (N := some 22) (v := ?_) (a' := ?_) #[true, false, false, false, false, false, false] rfl rfl (any_of HT_.out (by kernel_rfl)) (fun _ _ _ h => h) (Or.inl ⟨by rfl, ?_⟩) ?_ ?_
      rotate_left
      · intro w'
        go_simp
        with_reducible rfl
      rotate_left
      · simp only [Act.put, List.setIfInBounds_toArray, List.set_cons_zero, List.set_cons_succ, i64_w, i32_w]
        rfl
      refine pure_ (i := 2) (N := some 24) (v := ?_) (a' := ?_) #[true, false, true, false, false, false, false] rfl rfl (any_of HT_.out (by kernel_rfl)) (fun _ _ _ h => h) (Or.inl ⟨by rfl, ?_⟩) ?_ ?_
      rotate_left
      · intro w'
        go_simp
        with_reducible rfl
      rotate_left
      · simp only [Act.put, List.setIfInBounds_toArray, List.set_cons_zero, List.set_cons_succ, i64_w, i32_w]
        rfl
      refine take_ (i := 1) (N := some 23) (v := ?_) (a' := ?_) #[true, true, true, false, false, false, false] rfl rfl (take_ofW HT_.out HW_.out (by kernel_rfl)) (fun _ _ _ h => h) (Or.inl ⟨by rfl, ?_⟩) hHeld ?_ ?_
      rotate_left
      · rintro w' ⟨s0, s1⟩
        go_simp
        with_reducible rfl
      rotate_left
      · simp only [Act.put, List.setIfInBounds_toArray, List.set_cons_zero, List.set_cons_succ, i64_w, i32_w]
        rfl
      refine pure_ (i := 4) (N := some 26) (v := ?_) (a' := ?_) #[true, true, true, false, true, false, false] rfl rfl (any_of HT_.out (by kernel_rfl)) (fun _ _ _ h => h) (Or.inl ⟨by rfl, ?_⟩) ?_ ?_
      rotate_left
      · intro w'
        go_simp
        with_reducible rfl
      rotate_left
      · simp only [Act.put, List.setIfInBounds_toArray, List.set_cons_zero, List.set_cons_succ, i64_w, i32_w]
        rfl
      refine take_ (i := 3) (N := some 25) (v := ?_) (a' := ?_) #[true, true, true, true, true, false, false] rfl rfl (take_ofW HT_.out HW_.out (by kernel_rfl)) (fun _ _ _ h => h) (Or.inl ⟨by rfl, ?_⟩) hHeld ?_ ?_
      rotate_left
      · rintro w' ⟨s0, s1⟩
        go_simp
        with_reducible rfl
      rotate_left
      · simp only [Act.put, List.setIfInBounds_toArray, List.set_cons_zero, List.set_cons_succ, i64_w, i32_w]
        rfl
      refine pure_ (i := 5) (N := some 27) (v := ?_) (a' := ?_) #[true, true, true, true, true, true, false] rfl rfl (any_of HT_.out (by kernel_rfl)) (fun _ _ _ h => h) (Or.inl ⟨by rfl, ?_⟩) ?_ ?_
      rotate_left
      · intro w'
        go_simp
        with_reducible rfl
      rotate_left
      · simp only [Act.put, List.setIfInBounds_toArray, List.set_cons_zero, List.set_cons_succ, i64_w, i32_w]
        rfl
      refine last_ (i := 6) (N := none) #[true, true, true, true, true, true, true] rfl rfl (one_of HT_.out (by kernel_rfl)) (by decide) (fun K hK => ?_)
      have hz1 := (blk_cell HT2.out (a * 5 + b)).trans (arrB_get m (a * 5 + b) (by rw [HM2.out.1]; exact idx45 HAB.out.1 hlen.out HAB.out.2))
      have hz2 := blk_frozen HT2.out (a * 5 + b)
      refine skip_ (w1 := ?_) (by rfl) rfl ?_ ?_
      rotate_left
      · go_simp
        rfl
      refine hK.out _ _ ?_
      clear hK K
      refine done_ (done_of HT_.out (by kernel_rfl)) ?_

      have HT3 := Lib.hid (blk_put HT2.out (a * 5 + b) (.bool true) (arrB_set m (a * 5 + b)))
      have HB3 := Lib.hid (below_set (j := a * 5 + b) (v := .bool true) HB2.out (Nat.le_refl _))
      clear hHeld hz1 hz2 HT2 HB2 HT1 HB1 HG1 hWA
      go_wp2
      go_roundg (xs.length - (j + 1))
      case measure => exact lt_sub hjl hkq
      case rel => exact ⟨j + 1, m.set (a * 5 + b) true, rfl, hjl, rfl, HT3, Lib.hid ⟨by rw [List.length_set]; exact HM2.out.1, HM2.out.2⟩, HB3⟩
    · have hjn : ¬ (j : Int) < (xs.length : Int) := fun h => hjl (Int.ofNat_lt.mp h)
      have hM := HM.out
      rw [List.drop_of_length_le (Nat.not_lt.1 hjl)] at hM
      simp only [List.map_nil, refInit] at hM
      have HM2 := Lib.hid hM
      clear hM HM
      go_wp2
      obtain ⟨MF, hMF⟩ : ∃ MF, refN (gr41 l) 45 (refInit (xs.map to95) (List.replicate 45 false)) = MF := ⟨_, rfl⟩
      have HMF := Lib.hid hMF
      clear hMF
      go_loopg [29] 45 (fun kq v29 w' => ∃ (j : Nat) (m : List Bool), v29 = .int .i64 (j : Int) ∧ j ≤ 45 ∧ kq = 45 - j ∧ Hid (w'.heap[w.heap.size]? = some (.cells (arrB m) 137 (0, 0))) ∧ Hid (m.length = 45 ∧ refN (gr41 l) (45 - j) m = MF) ∧ Hid (Below w.heap.size w w'))
      case atStart => exact ⟨0, m, rfl, Nat.zero_le _, rfl, HT, Lib.hid ⟨HM2.out.1, by rw [HM2.out.2]; exact HMF.out⟩, HB⟩
      case round =>
        clear HT HM2 HB hjn hkq hjl hj
        obtain ⟨j, m, rfl, hj, hkq, HT, HM, HB⟩ := hrel
        by_cases hjl : j < 45
        · have hjI : (j : Int) < 45 := Int.ofNat_lt.mpr hjl
          have hj0 : (0 : Int) ≤ (j : Int) := Int.natCast_nonneg j
          have hw : wrap64 ((j : Int) + 1) = (j : Int) + 1 := wrap64_succ (n := 45) hj0 ⟨hjI, by decide⟩
          have hM := HM.out
          rw [show 45 - j = (45 - (j + 1)) + 1 from sub_succ hjl] at hM
          simp only [refN] at hM
          have HM2 := Lib.hid hM
          have HJ := Lib.hid (And.intro hjl (And.intro hkq hw))
          have hwl : (l.length : Int) ≤ 8 := Int.ofNat_le.mpr hlen.out
          clear hM HM hw hkq hjl hj
          go_wp2
          clear hwl hj0 hjI
          go_loopg [34] (l.length + 1) (fun kq v34 w' => ∃ (r : Nat) (m2 : List Bool), v34 = .int .i64 (r : Int) ∧ r ≤ l.length + 1 ∧ kq = l.length + 1 - r ∧ Hid (w'.heap[w.heap.size]? = some (.cells (arrB m2) 137 (0, 0))) ∧ Hid (m2.length = 45 ∧ refI (gr41 l) (l.length + 1 - r) r m2 = refI (gr41 l) (l.length + 1) 0 m) ∧ Hid (Below w.heap.size w w'))
          case atStart => exact ⟨0, m, rfl, Nat.zero_le _, rfl, HT, Lib.hid ⟨HM2.out.1, rfl⟩, HB⟩
          case round =>
            clear HT HB
            obtain ⟨r, m2, rfl, hr, hkq, HT, HMI, HB⟩ := hrel
            by_cases hrl : r < l.length + 1
            · have hrI : (r : Int) < (l.length : Int) + 1 := Int.ofNat_lt.mpr hrl
              have hr0 : (0 : Int) ≤ (r : Int) := Int.natCast_nonneg r
              have hw : wrap64 ((r : Int) + 1) = (r : Int) + 1 := wrap64_succ (n := l.length + 1) hr0 ⟨hrI, Nat.lt_of_le_of_lt (Nat.succ_le_succ hlen.out) (by decide)⟩
              have hM := HMI.out
              rw [show l.length + 1 - r = (l.length + 1 - (r + 1)) + 1 from sub_succ hrl] at hM
              simp only [refI] at hM
              obtain ⟨q, hq, hqb⟩ := right41_f l HG.out HNE.out (r : Int) hr0 (Int.ofNat_le.mpr (Nat.le_of_lt_succ hrl))
              have HQ := Lib.hid (And.intro hqb (right_small HG.out (r : Int)))
              have HCR := Lib.hid (comfitref05_right.calls A0 c0 l (r : Int) q wr (Kd.C_below HR0.out HB.out) hc0 hq)
              rw [← hqb] at hM
              have HM3 := Lib.hid hM
              have HJ2 := Lib.hid (And.intro hrl (And.intro hkq hw))
              have hr9 : (r : Int) < 9 := Int.ofNat_lt.mpr (Nat.lt_of_lt_of_le hrl (Nat.succ_le_succ hlen.out))
              have HR9 := Lib.hid hr9
              clear hM HMI hw hkq hrl hr hq hqb hr9
              go_wp2_with (go_at_call 83; refine HCR.out.mono ?_; rintro e w2 ⟨rfl, hbw⟩)
              have HT2 := Lib.hid (blk_below HT.out hbw)
              have HB2 := Lib.hid (below_step HB.out hbw)
              clear hbw HT HB HCR
              go_loopg [42] q.size (fun kq v42 w' => ∃ (d : Nat) (m3 : List Bool), v42 = .int .i64 (d : Int) ∧ d ≤ q.size ∧ kq = q.size - d ∧ Hid (w'.heap[w.heap.size]? = some (.cells (arrB m3) 137 (0, 0))) ∧ Hid (m3.length = 45 ∧ refD (gr41 l) r ((bytesOf q).drop d) d m3 = refD (gr41 l) r (bytesOf q) 0 m2) ∧ Hid (Below w.heap.size w w'))
              case atStart => exact ⟨0, m2, rfl, Nat.zero_le _, rfl, HT2, Lib.hid ⟨HM3.out.1, rfl⟩, HB2⟩
              case round =>
                clear HT2 HB2
                obtain ⟨d, m3, rfl, hd, hkq, HT, HMD, HB⟩ := hrel
                by_cases hdl : d < q.size
                · have hdI : (d : Int) < (q.size : Int) := Int.ofNat_lt.mpr hdl
                  have hd0 : (0 : Int) ≤ (d : Int) := Int.natCast_nonneg d
                  have hd4 : d < 5 := Nat.lt_of_lt_of_le hdl (by have := HQ.out.2; rw [← HQ.out.1, bytesOf_length] at this; exact Nat.le_succ_of_le this)
                  have hw : wrap64 ((d : Int) + 1) = (d : Int) + 1 := wrap64_succ (n := 5) hd0 ⟨Int.ofNat_lt.mpr hd4, by decide⟩
                  have hM := HMD.out
                  rw [drop_bytes q d hdl] at hM
                  simp only [refD] at hM
                  obtain ⟨c, hc⟩ : ∃ c, bt q d = c := ⟨_, rfl⟩
                  rw [hc] at hM
                  have HM4 := Lib.hid hM
                  have HC := Lib.hid hc
                  have HJ3 := Lib.hid (And.intro hdl (And.intro hkq (And.intro hw hd4)))
                  clear hM HMD hw hkq hdl hd hd4 hc
                  go_wp2
                  go_loopg [47] l.length (fun kq v47 w' => ∃ (k : Nat) (m4 : List Bool), v47 = .int .i64 (k : Int) ∧ k ≤ l.length ∧ kq = l.length - k ∧ Hid (w'.heap[w.heap.size]? = some (.cells (arrB m4) 137 (0, 0))) ∧ Hid (m4.length = 45 ∧ refK (r * 5 + d) c ((gr41 l).drop k) k m4 = refK (r * 5 + d) c (gr41 l) 0 m3) ∧ Hid (Below w.heap.size w w'))
                  case atStart => exact ⟨0, m3, rfl, Nat.zero_le _, rfl, HT, Lib.hid ⟨HM4.out.1, rfl⟩, HB⟩
                  case round =>
                    clear HT HB
                    obtain ⟨k, m4, rfl, hk, hkq, HT, HMK, HB⟩ := hrel
                    by_cases hkl : k < l.length
                    · have hkI : (k : Int) < (l.length : Int) := Int.ofNat_lt.mpr hkl
                      have hk0 : (0 : Int) ≤ (k : Int) := Int.natCast_nonneg k
                      obtain ⟨ad, eA, hx0, hx1⟩ := at_T41 (Kd.C_below HR0.out HB.out) (k : Int) hk0 hkI
                      cases eA
                      have hM := HMK.out
                      rw [drop41 l k hkl] at hM
                      generalize rd_T41 l (k : Int) = x at *
                      obtain ⟨x, y⟩ := x
                      simp only [refK] at hM
                      simp only [add_plain, Int.toNat_natCast] at hx0 hx1
                      have hw : wrap64 ((k : Int) + 1) = (k : Int) + 1 := wrap64_succ (n := l.length) hk0 ⟨hkI, Nat.lt_of_le_of_lt hlen.out (by decide)⟩
                      have hr9 := HR9.out
                      have hr0 : (0 : Int) ≤ (r : Int) := Int.natCast_nonneg r
                      have hd5 : (d : Int) < 5 := Int.ofNat_lt.mpr HJ3.out.2.2.2
                      have hk9 : (k : Int) < 9 := Int.lt_of_lt_of_le hkI (Int.ofNat_le.mpr (Nat.le_succ_of_le hlen.out))
                      have HT1 := Lib.hid (blk_alloc HT.out (.cells #[.int .u8 x, .string y] 41))
                      have HB1 := Lib.hid (below_alloc HB.out (.cells #[.int .u8 x, .string y] 41))
                      have HG1 := Lib.hid (blk_new wr (.cells #[.int .u8 x, .string y] 41))
                      obtain ⟨bb, hbb⟩ : ∃ bb, m4.getD (r * 5 + d) false = bb := ⟨_, rfl⟩
                      have HBB := Lib.hid hbb
                      rw [hbb] at hM
                      have HM5 := Lib.hid hM
                      have HJ4 := Lib.hid (And.intro hkl (And.intro hkq hw))
                      clear hM HMK hw hkq hk hkl hbb HT HB
                      go_wp2
                      generalize hWA : wr.alloc (.cells #[.int .u8 x, .string y] 41) = WA at HT1 HB1 HG1 ⊢
                      clear hx0 hx1
                      have hg0 := (blk_cell HG1.out 0).trans (show _ = some (Value.int .u8 x) from rfl)
                      have hg1 := (blk_cell HT1.out (r * 5 + d)).trans ((arrB_get m4 (r * 5 + d) (by rw [HM5.out.1]; exact idx45 (Nat.le_of_lt_succ HJ2.out.1) hlen.out HJ3.out.2.2.2)).trans (show _ = some (Value.bool bb) by rw [HBB.out]))
                      cases bb
                      · simp only [Bool.false_and, Bool.false_eq_true, if_false] at HM5
                        refine start_ (n := 13) (S := fun w' => w'.cell? ⟨w.heap.size, r * 5 + d, none⟩ = some (.bool false)) (ds := []) #[false, false, false, false, false, false, false, false, false, false, false, false, false] (by kernel_rfl) rfl rfl (hg1) (fun hHeld => ?_); refine with_tabW reg49.tab19 reg49.bits19 (fun HT_ HW_ => ?_)
                        clear hg0 hg1
                        have HT2 := Lib.hid (blk_drew HT1.out)
                        have HB2 := Lib.hid (below_drew1 HB1.out)
                        generalize WA.drew = WD at hHeld HT2 HB2 ⊢
                        refine pure_ (i := 0) (N := some 52) (v := ?_) (a' := ?_) #[true, false, false, false, false, false, false, false, false, false, false, false, false] rfl rfl (any_of HT_.out (by kernel_rfl)) (fun _ _ _ h => h) (Or.inl ⟨by rfl, ?_⟩) ?_ ?_
                        rotate_left
                        · intro w'
                          go_simp
                          with_reducible rfl
                        rotate_left
                        · simp only [Act.put, List.setIfInBounds_toArray, List.set_cons_zero, List.set_cons_succ, i64_w, i32_w]
                          rfl
                        refine pure_ (i := 1) (N := some 53) (v := ?_) (a' := ?_) #[true, true, false, false, false, false, false, false, false, false, false, false, false] rfl rfl (any_of HT_.out (by kernel_rfl)) (fun _ _ _ h => h) (Or.inl ⟨by rfl, ?_⟩) ?_ ?_
                        rotate_left
                        · intro w'
                          go_simp
                          with_reducible rfl
                        rotate_left
                        · simp only [Act.put, List.setIfInBounds_toArray, List.set_cons_zero, List.set_cons_succ, i64_w, i32_w]
                          rfl
                        refine pure_ (i := 2) (N := some 54) (v := ?_) (a' := ?_) #[true, true, true, false, false, false, false, false, false, false, false, false, false] rfl rfl (any_of HT_.out (by kernel_rfl)) (fun _ _ _ h => h) (Or.inl ⟨by rfl, ?_⟩) ?_ ?_
                        rotate_left
                        · intro w'
                          go_simp
                          with_reducible rfl
                        rotate_left
                        · simp only [Act.put, List.setIfInBounds_toArray, List.set_cons_zero, List.set_cons_succ, i64_w, i32_w]
                          rfl
                        refine pure_ (i := 3) (N := some 55) (v := ?_) (a' := ?_) #[true, true, true, true, false, false, false, false, false, false, false, false, false] rfl rfl (any_of HT_.out (by kernel_rfl)) (fun _ _ _ h => h) (Or.inl ⟨by rfl, ?_⟩) ?_ ?_
                        rotate_left
                        · intro w'
                          go_simp
                          with_reducible rfl
                        rotate_left
                        · simp only [Act.put, List.setIfInBounds_toArray, List.set_cons_zero, List.set_cons_succ, i64_w, i32_w]
                          rfl
                        refine take_ (i := 4) (N := some 56) (v := ?_) (a' := ?_) #[true, true, true, true, true, false, false, false, false, false, false, false, false] rfl rfl (take_ofW HT_.out HW_.out (by kernel_rfl)) (fun _ _ _ h => h) (Or.inl ⟨by rfl, ?_⟩) hHeld ?_ ?_
                        rotate_left
                        · intro w' s0
                          go_simp
                          with_reducible rfl
                        rotate_left
                        · simp only [Act.put, List.setIfInBounds_toArray, List.set_cons_zero, List.set_cons_succ, i64_w, i32_w]
                          rfl
                        refine pure_ (i := 5) (N := some 57) (v := ?_) (a' := ?_) #[true, true, true, true, true, true, false, false, false, false, false, false, false] rfl rfl (any_of HT_.out (by kernel_rfl)) (fun _ _ _ h => h) (Or.inl ⟨by rfl, ?_⟩) ?_ ?_
                        rotate_left
                        · intro w'
                          go_simp
                          with_reducible rfl
                        rotate_left
                        · simp only [Act.put, List.setIfInBounds_toArray, List.set_cons_zero, List.set_cons_succ, i64_w, i32_w]
                          rfl
                        refine pure_ (i := 6) (N := some 58) (v := undef) (a' := ?_) #[true, true, true, true, true, true, true, false, false, false, false, false, false] rfl rfl (any_of HT_.out (by kernel_rfl)) (fun _ _ _ h => h) (Or.inr ⟨by rfl, rfl⟩) ?_ ?_
                        rotate_left
                        · simp only [Act.put, List.setIfInBounds_toArray, List.set_cons_zero, List.set_cons_succ, i64_w, i32_w]
                          rfl
                        refine pure_ (i := 7) (N := some 59) (v := undef) (a' := ?_) #[true, true, true, true, true, true, true, true, false, false, false, false, false] rfl rfl (any_of HT_.out (by kernel_rfl)) (fun _ _ _ h => h) (Or.inr ⟨by rfl, rfl⟩) ?_ ?_
                        rotate_left
                        · simp only [Act.put, List.setIfInBounds_toArray, List.set_cons_zero, List.set_cons_succ, i64_w, i32_w]
                          rfl
                        refine pure_ (i := 8) (N := some 60) (v := undef) (a' := ?_) #[true, true, true, true, true, true, true, true, true, false, false, false, false] rfl rfl (any_of HT_.out (by kernel_rfl)) (fun _ _ _ h => h) (Or.inr ⟨by rfl, rfl⟩) ?_ ?_
                        rotate_left
                        · simp only [Act.put, List.setIfInBounds_toArray, List.set_cons_zero, List.set_cons_succ, i64_w, i32_w]
                          rfl
                        refine pure_ (i := 9) (N := some 61) (v := undef) (a' := ?_) #[true, true, true, true, true, true, true, true, true, true, false, false, false] rfl rfl (any_of HT_.out (by kernel_rfl)) (fun _ _ _ h => h) (Or.inr ⟨by rfl, rfl⟩) ?_ ?_
                        rotate_left
                        · simp only [Act.put, List.setIfInBounds_toArray, List.set_cons_zero, List.set_cons_succ, i64_w, i32_w]
                          rfl
                        refine pure_ (i := 10) (N := some 62) (v := undef) (a' := ?_) #[true, true, true, true, true, true, true, true, true, true, true, false, false] rfl rfl (any_of HT_.out (by kernel_rfl)) (fun _ _ _ h => h) (Or.inr ⟨by rfl, rfl⟩) ?_ ?_
                        rotate_left
                        · simp only [Act.put, List.setIfInBounds_toArray, List.set_cons_zero, List.set_cons_succ, i64_w, i32_w]
                          rfl
                        refine pure_ (i := 11) (N := some 63) (v := undef) (a' := ?_) #[true, true, true, true, true, true, true, true, true, true, true, true, false] rfl rfl (any_of HT_.out (by kernel_rfl)) (fun _ _ _ h => h) (Or.inr ⟨by rfl, rfl⟩) ?_ ?_
                        rotate_left
                        · simp only [Act.put, List.setIfInBounds_toArray, List.set_cons_zero, List.set_cons_succ, i64_w, i32_w]
                          rfl
                        refine pure_ (i := 12) (N := some 64) (v := ?_) (a' := ?_) #[true, true, true, true, true, true, true, true, true, true, true, true, true] rfl rfl (any_of HT_.out (by kernel_rfl)) (fun _ _ _ h => h) (Or.inl ⟨by rfl, ?_⟩) ?_ ?_
                        rotate_left
                        · intro w'
                          go_simp
                          with_reducible rfl
                        rotate_left
                        · simp only [Act.put, List.setIfInBounds_toArray, List.set_cons_zero, List.set_cons_succ, i64_w, i32_w]
                          rfl
                        refine done_ (done_of HT_.out (by kernel_rfl)) ?_

                        clear hHeld HT1 HB1 HG1 hWA
                        go_wp2
                        go_roundg (l.length - (k + 1))
                        case measure => exact lt_sub HJ4.out.1 HJ4.out.2.1
                        case rel => exact ⟨k + 1, m4, rfl, HJ4.out.1, rfl, HT2, HM5, HB2⟩
                      · simp only [Bool.true_and, beq_iff_eq] at HM5
                        have hcd : ((q[d]'HJ3.out.1).toNat : Int) = c := by rw [← bt_nat q d HJ3.out.1]; exact HC.out
                        have hdq := HJ3.out.1
                        have hdqI : (d : Int) < (q.size : Int) := Int.ofNat_lt.mpr hdq
                        have hdn : (0 : Int) ≤ (d : Int) := Int.natCast_nonneg d
                        cases hxb : c == x
                        · have hcx : ¬ c = x := beq_eq_false_iff_ne.mp hxb
                          simp only [if_neg hcx] at HM5
                          clear hcx
                          refine start_ (n := 13) (S := fun w' => w'.cell? ⟨w.heap.size, r * 5 + d, none⟩ = some (.bool true) ∧ w'.cell? ⟨wr.heap.size, 0, none⟩ = some (.int .u8 x)) (ds := []) #[false, false, false, false, false, false, false, false, false, false, false, false, false] (by kernel_rfl) rfl rfl ⟨hg1, hg0⟩ (fun hHeld => ?_); refine with_tabW reg49.tab19 reg49.bits19 (fun HT_ HW_ => ?_)
                          clear hg0 hg1
                          have HT2 := Lib.hid (blk_drew HT1.out)
                          have HB2 := Lib.hid (below_drew1 HB1.out)
                          generalize WA.drew = WD at hHeld HT2 HB2 ⊢
                          refine pure_ (i := 0) (N := some 52) (v := ?_) (a' := ?_) #[true, false, false, false, false, false, false, false, false, false, false, false, false] rfl rfl (any_of HT_.out (by kernel_rfl)) (fun _ _ _ h => h) (Or.inl ⟨by rfl, ?_⟩) ?_ ?_
                          rotate_left
                          · intro w'
                            go_simp
                            with_reducible rfl
                          rotate_left
                          · simp only [Act.put, List.setIfInBounds_toArray, List.set_cons_zero, List.set_cons_succ, i64_w, i32_w]
                            rfl
                          refine pure_ (i := 1) (N := some 53) (v := ?_) (a' := ?_) #[true, true, false, false, false, false, false, false, false, false, false, false, false] rfl rfl (any_of HT_.out (by kernel_rfl)) (fun _ _ _ h => h) (Or.inl ⟨by rfl, ?_⟩) ?_ ?_
                          rotate_left
                          · intro w'
                            go_simp
                            with_reducible rfl
                          rotate_left
                          · simp only [Act.put, List.setIfInBounds_toArray, List.set_cons_zero, List.set_cons_succ, i64_w, i32_w]
                            rfl
                          refine pure_ (i := 2) (N := some 54) (v := ?_) (a' := ?_) #[true, true, true, false, false, false, false, false, false, false, false, false, false] rfl rfl (any_of HT_.out (by kernel_rfl)) (fun _ _ _ h => h) (Or.inl ⟨by rfl, ?_⟩) ?_ ?_
                          rotate_left
                          · intro w'
                            go_simp
                            with_reducible rfl
                          rotate_left
                          · simp only [Act.put, List.setIfInBounds_toArray, List.set_cons_zero, List.set_cons_succ, i64_w, i32_w]
                            rfl
                          refine pure_ (i := 3) (N := some 55) (v := ?_) (a' := ?_) #[true, true, true, true, false, false, false, false, false, false, false, false, false] rfl rfl (any_of HT_.out (by kernel_rfl)) (fun _ _ _ h => h) (Or.inl ⟨by rfl, ?_⟩) ?_ ?_
                          rotate_left
                          · intro w'
                            go_simp
                            with_reducible rfl
                          rotate_left
                          · simp only [Act.put, List.setIfInBounds_toArray, List.set_cons_zero, List.set_cons_succ, i64_w, i32_w]
                            rfl
                          refine take_ (i := 4) (N := some 56) (v := ?_) (a' := ?_) #[true, true, true, true, true, false, false, false, false, false, false, false, false] rfl rfl (take_ofW HT_.out HW_.out (by kernel_rfl)) (fun _ _ _ h => h) (Or.inl ⟨by rfl, ?_⟩) hHeld ?_ ?_
                          rotate_left
                          · rintro w' ⟨s0, s1⟩
                            go_simp
                            with_reducible rfl
                          rotate_left
                          · simp only [Act.put, List.setIfInBounds_toArray, List.set_cons_zero, List.set_cons_succ, i64_w, i32_w]
                            rfl
                          refine pure_ (i := 5) (N := some 57) (v := ?_) (a' := ?_) #[true, true, true, true, true, true, false, false, false, false, false, false, false] rfl rfl (any_of HT_.out (by kernel_rfl)) (fun _ _ _ h => h) (Or.inl ⟨by rfl, ?_⟩) ?_ ?_
                          rotate_left
                          · intro w'
                            go_simp
                            with_reducible rfl
                          rotate_left
                          · simp only [Act.put, List.setIfInBounds_toArray, List.set_cons_zero, List.set_cons_succ, i64_w, i32_w]
                            rfl
                          refine pure_ (i := 6) (N := some 58) (v := ?_) (a' := ?_) #[true, true, true, true, true, true, true, false, false, false, false, false, false] rfl rfl (any_of HT_.out (by kernel_rfl)) (fun _ _ _ h => h) (Or.inl ⟨by rfl, ?_⟩) ?_ ?_
                          rotate_left
                          · intro w'
                            go_simp
                            with_reducible rfl
                          rotate_left
                          · simp only [Act.put, List.setIfInBounds_toArray, List.set_cons_zero, List.set_cons_succ, i64_w, i32_w]
                            rfl
                          refine pure_ (i := 7) (N := some 59) (v := ?_) (a' := ?_) #[true, true, true, true, true, true, true, true, false, false, false, false, false] rfl rfl (any_of HT_.out (by kernel_rfl)) (fun _ _ _ h => h) (Or.inl ⟨by rfl, ?_⟩) ?_ ?_
                          rotate_left
                          · intro w'
                            go_simp
                            with_reducible rfl
                          rotate_left
                          · simp only [Act.put, List.setIfInBounds_toArray, List.set_cons_zero, List.set_cons_succ, i64_w, i32_w]
                            rfl
                          refine pure_ (i := 9) (N := some 61) (v := ?_) (a' := ?_) #[true, true, true, true, true, true, true, true, false, true, false, false, false] rfl rfl (any_of HT_.out (by kernel_rfl)) (fun _ _ _ h => h) (Or.inl ⟨by rfl, ?_⟩) ?_ ?_
                          rotate_left
                          · intro w'
                            go_simp
                            with_reducible rfl
                          rotate_left
                          · simp only [Act.put, List.setIfInBounds_toArray, List.set_cons_zero, List.set_cons_succ, i64_w, i32_w]
                            rfl
                          refine take_ (i := 8) (N := some 60) (v := ?_) (a' := ?_) #[true, true, true, true, true, true, true, true, true, true, false, false, false] rfl rfl (take_ofW HT_.out HW_.out (by kernel_rfl)) (fun _ _ _ h => h) (Or.inl ⟨by rfl, ?_⟩) hHeld ?_ ?_
                          rotate_left
                          · rintro w' ⟨s0, s1⟩
                            go_simp
                            with_reducible rfl
                          rotate_left
                          · simp only [Act.put, List.setIfInBounds_toArray, List.set_cons_zero, List.set_cons_succ, i64_w, i32_w]
                            rfl
                          refine take_ (i := 10) (N := some 62) (v := ?_) (a' := ?_) #[true, true, true, true, true, true, true, true, true, true, true, false, false] rfl rfl (take_ofW HT_.out HW_.out (by kernel_rfl)) (fun _ _ _ h => h) (Or.inl ⟨by rfl, ?_⟩) hHeld ?_ ?_
                          rotate_left
                          · rintro w' ⟨s0, s1⟩
                            go_simp
                            with_reducible rfl
                          rotate_left
                          · simp only [Act.put, List.setIfInBounds_toArray, List.set_cons_zero, List.set_cons_succ, i64_w, i32_w]
                            rfl
                          refine pure_ (i := 11) (N := some 63) (v := ?_) (a' := ?_) #[true, true, true, true, true, true, true, true, true, true, true, true, false] rfl rfl (any_of HT_.out (by kernel_rfl)) (fun _ _ _ h => h) (Or.inl ⟨by rfl, ?_⟩) ?_ ?_
                          rotate_left
                          · intro w'
                            go_simp
                            with_reducible rfl
                          rotate_left
                          · simp only [Act.put, List.setIfInBounds_toArray, List.set_cons_zero, List.set_cons_succ, i64_w, i32_w]
                            rfl
                          refine pure_ (i := 12) (N := some 64) (v := ?_) (a' := ?_) #[true, true, true, true, true, true, true, true, true, true, true, true, true] rfl rfl (any_of HT_.out (by kernel_rfl)) (fun _ _ _ h => h) (Or.inl ⟨by rfl, ?_⟩) ?_ ?_
                          rotate_left
                          · intro w'
                            go_simp
                            with_reducible rfl
                          rotate_left
                          · simp only [Act.put, List.setIfInBounds_toArray, List.set_cons_zero, List.set_cons_succ, i64_w, i32_w]
                            rfl
                          refine done_ (done_of HT_.out (by kernel_rfl)) ?_

                          clear hHeld HT1 HB1 HG1 hWA
                          go_wp2
                          go_roundg (l.length - (k + 1))
                          case measure => exact lt_sub HJ4.out.1 HJ4.out.2.1
                          case rel => exact ⟨k + 1, m4, rfl, HJ4.out.1, rfl, HT2, HM5, HB2⟩
                        · have hcx : c = x := eq_of_beq hxb
                          simp only [if_pos hcx] at HM5
                          clear hcx
                          refine start_ (n := 13) (S := fun w' => w'.cell? ⟨w.heap.size, r * 5 + d, none⟩ = some (.bool true) ∧ w'.cell? ⟨wr.heap.size, 0, none⟩ = some (.int .u8 x)) (ds := []) #[false, false, false, false, false, false, false, false, false, false, false, false, false] (by kernel_rfl) rfl rfl ⟨hg1, hg0⟩ (fun hHeld => ?_); refine with_tabW reg49.tab19 reg49.bits19 (fun HT_ HW_ => ?_)
                          clear hg0 hg1
                          have HT2 := Lib.hid (blk_drew HT1.out)
                          have HB2 := Lib.hid (below_drew1 HB1.out)
                          generalize WA.drew = WD at hHeld HT2 HB2 ⊢
                          refine pure_ (i := 0) (N := some 52) (v := ?_) (a' := ?_) #[true, false, false, false, false, false, false, false, false, false, false, false, false] rfl rfl (any_of HT_.out (by kernel_rfl)) (fun _ _ _ h => h) (Or.inl ⟨by rfl, ?_⟩) ?_ ?_
                          rotate_left
                          · intro w'
                            go_simp
                            with_reducible rfl
                          rotate_left
                          · simp only [Act.put, List.setIfInBounds_toArray, List.set_cons_zero, List.set_cons_succ, i64_w, i32_w]
                            rfl
                          refine pure_ (i := 1) (N := some 53) (v := ?_) (a' := ?_) #[true, true, false, false, false, false, false, false, false, false, false, false, false] rfl rfl (any_of HT_.out (by kernel_rfl)) (fun _ _ _ h => h) (Or.inl ⟨by rfl, ?_⟩) ?_ ?_
                          rotate_left
                          · intro w'
                            go_simp
                            with_reducible rfl
                          rotate_left
                          · simp only [Act.put, List.setIfInBounds_toArray, List.set_cons_zero, List.set_cons_succ, i64_w, i32_w]
                            rfl
                          refine pure_ (i := 2) (N := some 54) (v := ?_) (a' := ?_) #[true, true, true, false, false, false, false, false, false, false, false, false, false] rfl rfl (any_of HT_.out (by kernel_rfl)) (fun _ _ _ h => h) (Or.inl ⟨by rfl, ?_⟩) ?_ ?_
                          rotate_left
                          · intro w'
                            go_simp
                            with_reducible rfl
                          rotate_left
                          · simp only [Act.put, List.setIfInBounds_toArray, List.set_cons_zero, List.set_cons_succ, i64_w, i32_w]
                            rfl
                          refine pure_ (i := 3) (N := some 55) (v := ?_) (a' := ?_) #[true, true, true, true, false, false, false, false, false, false, false, false, false] rfl rfl (any_of HT_.out (by kernel_rfl)) (fun _ _ _ h => h) (Or.inl ⟨by rfl, ?_⟩) ?_ ?_
                          rotate_left
                          · intro w'
                            go_simp
                            with_reducible rfl
                          rotate_left
                          · simp only [Act.put, List.setIfInBounds_toArray, List.set_cons_zero, List.set_cons_succ, i64_w, i32_w]
                            rfl
                          refine take_ (i := 4) (N := some 56) (v := ?_) (a' := ?_) #[true, true, true, true, true, false, false, false, false, false, false, false, false] rfl rfl (take_ofW HT_.out HW_.out (by kernel_rfl)) (fun _ _ _ h => h) (Or.inl ⟨by rfl, ?_⟩) hHeld ?_ ?_
                          rotate_left
                          · rintro w' ⟨s0, s1⟩
                            go_simp
                            with_reducible rfl
                          rotate_left
                          · simp only [Act.put, List.setIfInBounds_toArray, List.set_cons_zero, List.set_cons_succ, i64_w, i32_w]
                            rfl
                          refine pure_ (i := 5) (N := some 57) (v := ?_) (a' := ?_) #[true, true, true, true, true, true, false, false, false, false, false, false, false] rfl rfl (any_of HT_.out (by kernel_rfl)) (fun _ _ _ h => h) (Or.inl ⟨by rfl, ?_⟩) ?_ ?_
                          rotate_left
                          · intro w'
                            go_simp
                            with_reducible rfl
                          rotate_left
                          · simp only [Act.put, List.setIfInBounds_toArray, List.set_cons_zero, List.set_cons_succ, i64_w, i32_w]
                            rfl
                          refine pure_ (i := 6) (N := some 58) (v := ?_) (a' := ?_) #[true, true, true, true, true, true, true, false, false, false, false, false, false] rfl rfl (any_of HT_.out (by kernel_rfl)) (fun _ _ _ h => h) (Or.inl ⟨by rfl, ?_⟩) ?_ ?_
                          rotate_left
                          · intro w'
                            go_simp
                            with_reducible rfl
                          rotate_left
                          · simp only [Act.put, List.setIfInBounds_toArray, List.set_cons_zero, List.set_cons_succ, i64_w, i32_w]
                            rfl
                          refine pure_ (i := 7) (N := some 59) (v := ?_) (a' := ?_) #[true, true, true, true, true, true, true, true, false, false, false, false, false] rfl rfl (any_of HT_.out (by kernel_rfl)) (fun _ _ _ h => h) (Or.inl ⟨by rfl, ?_⟩) ?_ ?_
                          rotate_left
                          · intro w'
                            go_simp
                            with_reducible rfl
                          rotate_left
                          · simp only [Act.put, List.setIfInBounds_toArray, List.set_cons_zero, List.set_cons_succ, i64_w, i32_w]
                            rfl
                          refine pure_ (i := 9) (N := some 61) (v := ?_) (a' := ?_) #[true, true, true, true, true, true, true, true, false, true, false, false, false] rfl rfl (any_of HT_.out (by kernel_rfl)) (fun _ _ _ h => h) (Or.inl ⟨by rfl, ?_⟩) ?_ ?_
                          rotate_left
                          · intro w'
                            go_simp
                            with_reducible rfl
                          rotate_left
                          · simp only [Act.put, List.setIfInBounds_toArray, List.set_cons_zero, List.set_cons_succ, i64_w, i32_w]
                            rfl
                          refine take_ (i := 8) (N := some 60) (v := ?_) (a' := ?_) #[true, true, true, true, true, true, true, true, true, true, false, false, false] rfl rfl (take_ofW HT_.out HW_.out (by kernel_rfl)) (fun _ _ _ h => h) (Or.inl ⟨by rfl, ?_⟩) hHeld ?_ ?_
                          rotate_left
                          · rintro w' ⟨s0, s1⟩
                            go_simp
                            with_reducible rfl
                          rotate_left
                          · simp only [Act.put, List.setIfInBounds_toArray, List.set_cons_zero, List.set_cons_succ, i64_w, i32_w]
                            rfl
                          refine take_ (i := 10) (N := some 62) (v := ?_) (a' := ?_) #[true, true, true, true, true, true, true, true, true, true, true, false, false] rfl rfl (take_ofW HT_.out HW_.out (by kernel_rfl)) (fun _ _ _ h => h) (Or.inl ⟨by rfl, ?_⟩) hHeld ?_ ?_
                          rotate_left
                          · rintro w' ⟨s0, s1⟩
                            go_simp
                            with_reducible rfl
                          rotate_left
                          · simp only [Act.put, List.setIfInBounds_toArray, List.set_cons_zero, List.set_cons_succ, i64_w, i32_w]
                            rfl
                          refine pure_ (i := 11) (N := some 63) (v := ?_) (a' := ?_) #[true, true, true, true, true, true, true, true, true, true, true, true, false] rfl rfl (any_of HT_.out (by kernel_rfl)) (fun _ _ _ h => h) (Or.inl ⟨by rfl, ?_⟩) ?_ ?_
                          rotate_left
                          · intro w'
                            go_simp
                            with_reducible rfl
                          rotate_left
                          · simp only [Act.put, List.setIfInBounds_toArray, List.set_cons_zero, List.set_cons_succ, i64_w, i32_w]
                            rfl
                          refine pure_ (i := 12) (N := some 64) (v := ?_) (a' := ?_) #[true, true, true, true, true, true, true, true, true, true, true, true, true] rfl rfl (any_of HT_.out (by kernel_rfl)) (fun _ _ _ h => h) (Or.inl ⟨by rfl, ?_⟩) ?_ ?_
                          rotate_left
                          · intro w'
                            go_simp
                            with_reducible rfl
                          rotate_left
                          · simp only [Act.put, List.setIfInBounds_toArray, List.set_cons_zero, List.set_cons_succ, i64_w, i32_w]
                            rfl
                          refine done_ (done_of HT_.out (by kernel_rfl)) ?_

                          have hz1 := (blk_cell HT2.out (k * 5)).trans (arrB_get m4 (k * 5) (by rw [HM5.out.1]; exact idx45 (b := 0) (Nat.le_of_lt HJ4.out.1) hlen.out (by decide)))
                          have hz2 := blk_frozen HT2.out (k * 5)
                          have HT3 := Lib.hid (blk_put HT2.out (k * 5) (.bool true) (arrB_set m4 (k * 5)))
                          have HB3 := Lib.hid (below_set (j := k * 5) (v := .bool true) HB2.out (Nat.le_refl _))
                          clear hHeld HT1 HB1 HG1 hWA
                          go_wp2
                          go_roundg (l.length - (k + 1))
                          case measure => exact lt_sub HJ4.out.1 HJ4.out.2.1
                          case rel => exact ⟨k + 1, m4.set (k * 5) true, rfl, HJ4.out.1, rfl, HT3, Lib.hid ⟨by rw [List.length_set]; exact HM5.out.1, HM5.out.2⟩, HB3⟩
                    · have hkn : ¬ (k : Int) < (l.length : Int) := fun h => hkl (Int.ofNat_lt.mp h)
                      have hM := HMK.out
                      rw [List.drop_of_length_le (by rw [gr41_len]; exact Nat.not_lt.1 hkl)] at hM
                      simp only [refK] at hM
                      have HM5 := Lib.hid hM
                      have hw := HJ3.out.2.2.1
                      clear hM HMK
                      go_wp2
                      go_roundg (q.size - (d + 1))
                      case measure => exact lt_sub HJ3.out.1 HJ3.out.2.1
                      case rel => exact ⟨d + 1, m4, rfl, HJ3.out.1, rfl, HT, Lib.hid ⟨HM5.out.1, by rw [HM5.out.2]; exact HM4.out.2⟩, HB⟩
                · have hdn : ¬ (d : Int) < (q.size : Int) := fun h => hdl (Int.ofNat_lt.mp h)
                  have hM := HMD.out
                  rw [List.drop_of_length_le (by rw [bytesOf_length]; exact Nat.not_lt.1 hdl)] at hM
                  simp only [refD] at hM
                  have HM5 := Lib.hid hM
                  have hw := HJ2.out.2.2
                  clear hM HMD
                  go_wp2
                  go_roundg (l.length + 1 - (r + 1))
                  case measure => exact lt_sub HJ2.out.1 HJ2.out.2.1
                  case rel => exact ⟨r + 1, m3, rfl, HJ2.out.1, rfl, HT, Lib.hid ⟨HM5.out.1, by rw [HM5.out.2]; exact HM3.out.2⟩, HB⟩
            · have hrn : ¬ (r : Int) < (l.length : Int) + 1 := fun h => hrl (Int.ofNat_lt.mp h)
              have hM := HMI.out
              rw [show l.length + 1 - r = 0 from Nat.sub_eq_zero_of_le (Nat.not_lt.1 hrl)] at hM
              simp only [refI] at hM
              have HM5 := Lib.hid hM
              have hw := HJ.out.2.2
              clear hM HMI
              go_wp2
              go_roundg (45 - (j + 1))
              case measure => exact lt_sub HJ.out.1 HJ.out.2.1
              case rel => exact ⟨j + 1, m2, rfl, HJ.out.1, rfl, HT, Lib.hid ⟨HM5.out.1, by rw [HM5.out.2, ← gr41_len]; exact HM2.out.2⟩, HB⟩
        · have hjn : ¬ (j : Int) < 45 := fun h => hjl (Int.ofNat_lt.mp h)
          have hM := HM.out
          rw [show 45 - j = 0 from Nat.sub_eq_zero_of_le (Nat.not_lt.1 hjl)] at hM
          simp only [refN] at hM
          have HM2 := Lib.hid hM
          have hwl : (l.length : Int) ≤ 8 := Int.ofNat_le.mpr hlen.out
          clear hM HM
          go_wp2
          clear hwl
          obtain ⟨RO, hRO⟩ : ∃ RO, (refOut m (l.length + 1) 0).map to39 = RO := ⟨_, rfl⟩
          have HRO := Lib.hid hRO
          clear hRO
          go_loopg [13, 75] (l.length + 1) (fun kq v13 v75 w' => ∃ (r : Nat) (zs : List S39), v75 = .int .i64 (r : Int) ∧ r ≤ l.length + 1 ∧ kq = l.length + 1 - r ∧ Hid (w'.heap[w.heap.size]? = some (.cells (arrB m) 137 (0, 0))) ∧ Hid (Kd.R k39 39 w' w.heap.size (fun _ => True) v13 zs) ∧ Hid (zs ++ (refOut m (l.length + 1 - r) r).map to39 = RO ∧ zs.length ≤ r * 5) ∧ Hid (Below w.heap.size w w'))
          case atStart => exact ⟨0, [], rfl, Nat.zero_le _, rfl, HT, Lib.hid (Kd.R_nil _ _ _ _ _), Lib.hid ⟨HRO.out, Nat.zero_le _⟩, HB⟩
          case round =>
            clear HT HB hjn hkq hjl hj
            obtain ⟨r, zs, rfl, hr, hkq, HT, HO, HZ, HB⟩ := hrel
            by_cases hrl : r < l.length + 1
            · have hrI : (r : Int) < (l.length : Int) + 1 := Int.ofNat_lt.mpr hrl
              have hr0 : (0 : Int) ≤ (r : Int) := Int.natCast_nonneg r
              have hr9 : (r : Int) < 9 := Int.ofNat_lt.mpr (Nat.lt_of_lt_of_le hrl (Nat.succ_le_succ hlen.out))
              have hM := HZ.out
              rw [show l.length + 1 - r = (l.length + 1 - (r + 1)) + 1 from sub_succ hrl] at hM
              simp only [refOut, List.map_append] at hM
              have HM3 := Lib.hid hM
              have HJ2 := Lib.hid (And.intro hrl hkq)
              clear hM HZ hkq hrl hr
              go_wp2
              obtain ⟨RW, hRW⟩ : ∃ RW, (refRow m r 5 0).map to39 = RW := ⟨_, rfl⟩
              rw [hRW] at HM3
              have HRW := Lib.hid hRW
              clear hRW
              go_loopg [13, 78] 5 (fun kq v13 v78 w' => ∃ (d : Nat) (ys : List S39), v78 = .int .i64 (d : Int) ∧ d ≤ 5 ∧ kq = 5 - d ∧ Hid (w'.heap[w.heap.size]? = some (.cells (arrB m) 137 (0, 0))) ∧ Hid (Kd.R k39 39 w' w.heap.size (fun _ => True) v13 ys) ∧ Hid (ys ++ (refRow m r (5 - d) d).map to39 = zs ++ RW ∧ ys.length ≤ r * 5 + d) ∧ Hid (Below w.heap.size w w'))
              case atStart => exact ⟨0, zs, rfl, Nat.zero_le _, rfl, HT, HO, Lib.hid ⟨by rw [← HRW.out], HM3.out.2⟩, HB⟩
              case round =>
                clear HT HB HO
                obtain ⟨d, ys, rfl, hd, hkq, HT, HO, HY, HB⟩ := hrel
                by_cases hdl : d < 5
                · have hdI : (d : Int) < 5 := Int.ofNat_lt.mpr hdl
                  have hd0 : (0 : Int) ≤ (d : Int) := Int.natCast_nonneg d
                  obtain ⟨bb, hbb⟩ : ∃ bb, m.getD (r * 5 + d) false = bb := ⟨_, rfl⟩
                  have hg1 := (blk_cell HT.out (r * 5 + d)).trans ((arrB_get m (r * 5 + d) (by rw [HM2.out.1]; exact idx45 (Nat.le_of_lt_succ HJ2.out.1) hlen.out hdl)).trans (show _ = some (Value.bool bb) by rw [hbb]))
                  have hM := HY.out
                  rw [show 5 - d = (5 - (d + 1)) + 1 from sub_succ hdl] at hM
                  simp only [refRow] at hM
                  rw [hbb] at hM
                  have HM6 := Lib.hid hM
                  have HJ3 := Lib.hid (And.intro hdl hkq)
                  clear hM HY hbb hkq hdl hd
                  cases bb
                  · simp only [Bool.false_eq_true, if_false] at HM6
                    go_wp2
                    go_roundg (5 - (d + 1))
                    case measure => exact lt_sub HJ3.out.1 HJ3.out.2
                    case rel => exact ⟨d + 1, ys, rfl, HJ3.out.1, rfl, HT, HO, Lib.hid ⟨HM6.out.1, Nat.le_succ_of_le HM6.out.2⟩, HB⟩
                  · simp only [if_true, List.map_cons] at HM6
                    obtain ⟨AZ, cz, hvz, hcz, hCz⟩ := Kd.R_reads HO.out
                    subst hvz
                    clear hCz hcz
                    have hbig : (ys.length + 1) * 16 ≤ 140737488355328 := big45 HM6.out.2 HJ2.out.1 hlen.out HJ3.out.1
                    go_wp2_with ((with_reducible refine gate_builtin (b := .append) (xs := #[.tmp 86, .tmp 90]) rfl ?_); at_builtin; go_must (refine Kd.R_append k39 (w0 := w) w.heap.size rfl (.tmp 86) (.tmp 90) 35 39 (.agg #[(.int .i64 0), (.int .i64 0)]) 16 rfl Tryd.underlying35 info39 rfl (by decide) (by decide) (.slice AZ ys.length cz) ys (⟨(r : Int), (d : Int)⟩ : S39) [.int .i64 r, .int .i64 d] (fun _ => True) (fun _ => False) rfl rfl (k39_mkM _ _ _ (⟨(r : Int), (d : Int)⟩ : S39)) (fun _ hk => hk.elim) (fun _ _ => trivial) HO.out HB.out (below_size HB.out) hbig ?_); intro v4 w4 ho hb hgg hat; have HO4 := Lib.hid ho; have HB4 := Lib.hid hb; have HT4 := Lib.hid (blk_grown HT.out hgg (Kd.R_ne HO.out HT.out (by decide))); clear ho hb hgg hat hbig hg1)
                    go_roundg (5 - (d + 1))
                    case measure => exact lt_sub HJ3.out.1 HJ3.out.2
                    case rel => exact ⟨d + 1, ys ++ [⟨(r : Int), (d : Int)⟩], rfl, HJ3.out.1, rfl, HT4, HO4, Lib.hid ⟨by rw [List.append_assoc]; exact HM6.out.1, by rw [List.length_append]; exact Nat.succ_le_succ HM6.out.2⟩, HB4⟩
                · have hdn : ¬ (d : Int) < 5 := fun h => hdl (Int.ofNat_lt.mp h)
                  have hd5 : d = 5 := Nat.le_antisymm hd (Nat.not_lt.1 hdl)
                  have hM := HY.out
                  rw [hd5] at hM
                  simp only [Nat.sub_self, refRow, List.map_nil, List.append_nil] at hM
                  have HM6 := Lib.hid hM
                  have hw : wrap64 ((r : Int) + 1) = (r : Int) + 1 := wrap64_succ (n := l.length + 1) hr0 ⟨hrI, Nat.lt_of_le_of_lt (Nat.succ_le_succ hlen.out) (by decide)⟩
                  clear hM HY hd5 hkq hd hdl
                  go_wp2
                  go_roundg (l.length + 1 - (r + 1))
                  case measure => exact lt_sub HJ2.out.1 HJ2.out.2
                  case rel => exact ⟨r + 1, ys, rfl, HJ2.out.1, rfl, HT, HO, Lib.hid ⟨by rw [HM6.out.1, List.append_assoc]; exact HM3.out.1, by rw [Nat.add_mul]; exact HM6.out.2⟩, HB⟩
            · have hrn : ¬ (r : Int) < (l.length : Int) + 1 := fun h => hrl (Int.ofNat_lt.mp h)
              have hM := HZ.out
              rw [show l.length + 1 - r = 0 from Nat.sub_eq_zero_of_le (Nat.not_lt.1 hrl)] at hM
              simp only [refOut, List.map_nil, List.append_nil] at hM
              have HM5 := Lib.hid hM
              clear hM HZ
              go_wp2
              go_ret
              exact ⟨_, rfl, by unfold refClo; rw [HMF.out, ← HM2.out.2, gr41_len, HRO.out, ← HM5.out.1]; exact HO.out, HB.out⟩
def okGB (g : List (Int × List Int)) : Bool := decide (g.length ≤ 8) && g.all fun r => isPartB r.1 && (decide (r.2.length ≤ 4) && r.2.all letterB)
theorem okGB_iff {g : List (Int × List Int)} : okGB g = true ↔ okG g := by
  simp only [okGB, okG, Bool.and_eq_true, decide_eq_true_eq, List.all_eq_true]
def itB (n : Nat) (x : S39) : Bool := decide (0 ≤ x.f0 ∧ 0 ≤ x.f1 ∧ x.f1 < 5 ∧ x.f0 ≤ n)
theorem itB_iff {n : Nat} {x : S39} : itB n x = true ↔ inM (to95 x) ∧ x.f0 ≤ n := by
  simp only [itB, inM, to95, decide_eq_true_eq, and_assoc]
/-- What the reference's closure returns; 'none': not told. -/
def comfitref05_closure.f (l : List S41) (xs : List S39) : Option (List S39) :=
  if (okGB (gr41 l) && (decide (0 < l.length) && (xs.all (itB l.length) && decide (xs.length < 4611686018427387904)))) = true then some ((refClo (gr41 l) (xs.map to95)).map to39) else none
theorem closure_f {l : List S41} {xs : List S39} (h1 : okG (gr41 l)) (h2 : 0 < l.length) (h3 : ∀ x ∈ xs, inM (to95 x) ∧ x.f0 ≤ l.length) (h4 : xs.length < 4611686018427387904) : comfitref05_closure.f l xs = some ((refClo (gr41 l) (xs.map to95)).map to39) := by
  unfold comfitref05_closure.f
  rw [if_pos]
  simp only [Bool.and_eq_true, decide_eq_true_eq, List.all_eq_true]
  exact ⟨okGB_iff.2 h1, h2, fun x hx => itB_iff.2 (h3 x hx), h4⟩
theorem comfitref05_closure.calls (A0 : Option Addr) (c0 : Nat) (l : List S41) (A1 : Option Addr) (c1 : Nat) (xs : List S39) (r : List S39) (w : World) (hr0 : Kd.C k41 w A0 l.length l) (hc0 : l.length ≤ c0) (hr1 : Kd.C k39 w A1 xs.length xs) (hc1 : xs.length ≤ c1) (h : comfitref05_closure.f l xs = some r) :
    Calls Tryd.prog 49 #[.slice A0 l.length c0, .slice A1 xs.length c1] w fun e w' => ∃ v0_ : Value, e = .returned v0_ ∧ Kd.R k39 39 w' w.heap.size (fun _ => True) v0_ r ∧ Below w.heap.size w w' := by
  unfold comfitref05_closure.f at h
  split at h
  · rename_i hc
    simp only [Bool.and_eq_true, decide_eq_true_eq, List.all_eq_true] at hc
    obtain ⟨h1, h2, h3, h4⟩ := hc
    obtain rfl := Option.some.inj h
    exact clo49_any l A0 c0 xs A1 c1 w hr0 hc0 hr1 hc1 (okGB_iff.1 h1) h2 (fun x hx => itB_iff.1 (h3 x hx)) h4
  · cases h
end Go.Proofs.YtpmmfckgfbdboaaDoor.G
end

section
namespace Go.Proofs.YtpmmfckgfbdboaaDoor.G
open Go.RowKit Go.Proofs.YtpmmfckgfbdboaaDoorW.PrintWords Go.Proofs.YtpmmfckgfbdboaaDoorW.PrintLast Go.Proofs.YtpmmfckgfbdboaaDoorW.PrintMore
attribute [local go_sem] max2_int min2_int max_two min_two max_three min_three max_four min_four   -- for this text's walks alone
set_option linter.unusedVariables false
set_option linter.unusedSimpArgs false

/-! ### tables_isPart: function 89 -/
def tables_isPart.f (a0 : Int) : Option (Bool) := if a0 ≥ 65 then (some (decide (a0 ≤ 69))) else (some false)
set_option maxHeartbeats 8000000 in
set_option maxRecDepth 100000 in
theorem tables_isPart.calls (a0 : Int) (r : Bool) (w : World) (h : tables_isPart.f a0 = some r) :
    Calls Tryd.prog 89 #[.int .u8 a0] w fun e w' => e = .returned (.bool r) ∧ Drawn0 w w' := by
  have H : (if a0 ≥ 65 then (some (decide (a0 ≤ 69))) else (some false)) = some r := h
  clear h
  by_cases c2 : a0 ≥ 65
  · rw [if_pos c2] at H
    have c2b0 : decide (65 ≤ a0) = true := decide_eq_true c2
    clear c2
    obtain rfl := Option.some.inj H
    go_enter Tryd.func89, Tryd.ntmps89
    go_wp2
    go_ret
    exact ⟨by first | rfl | (simp; done) | (simp [*]; done), by repeat (first | exact Drawn0.refl _ | apply Drawn0.step)⟩
  · rw [if_neg c2] at H
    have c2b0 : decide (65 ≤ a0) = false := decide_eq_false c2
    clear c2
    obtain rfl := Option.some.inj H
    go_enter Tryd.func89, Tryd.ntmps89
    go_wp2
    go_ret
    exact ⟨by first | rfl | (simp; done) | (simp [*]; done), by repeat (first | exact Drawn0.refl _ | apply Drawn0.step)⟩

end Go.Proofs.YtpmmfckgfbdboaaDoor.G
end

section
namespace Go.Proofs.YtpmmfckgfbdboaaDoor.G
open Go.RowKit Go.Proofs.YtpmmfckgfbdboaaDoorW.PrintWords Go.Proofs.YtpmmfckgfbdboaaDoorW.PrintLast Go.Proofs.YtpmmfckgfbdboaaDoorW.PrintMore
attribute [local go_sem] max2_int min2_int max_two min_two max_three min_three max_four min_four   -- for this text's walks alone
set_option linter.unusedVariables false
set_option linter.unusedSimpArgs false

theorem eqA56 (d : Nat) (w : World) (x0 y0 : Int) (x1 y1 : ByteArray) :
    (Op.equalIn (d + 2) 56 (.agg #[.int .u8 x0, .string x1]) (.agg #[.int .u8 y0, .string y1])).run Tryd.prog w = .ok (x0 == y0 && (x1.toList == y1.toList)) w := by
  refine eqA_of Tryd.underlying56 (by kernel_rfl) ?_
  refine eqf_cons (by rfl) (by go_simp; rfl) (by go_simp; rfl) (by go_simp) ?_
  exact eqf_last (by rfl) (by go_simp; rfl) (by go_simp; rfl) (by go_simp)
end Go.Proofs.YtpmmfckgfbdboaaDoor.G
end

section
namespace Go.Proofs.YtpmmfckgfbdboaaDoor.G
open Go.RowKit Go.Proofs.YtpmmfckgfbdboaaDoorW.PrintWords Go.Proofs.YtpmmfckgfbdboaaDoorW.PrintLast Go.Proofs.YtpmmfckgfbdboaaDoorW.PrintMore
attribute [local go_sem] max2_int min2_int max_two min_two max_three min_three max_four min_four   -- for this text's walks alone
set_option linter.unusedVariables false
set_option linter.unusedSimpArgs false

attribute [local go_sem high] eqA56
/-! ### tables_Rule_120: function 120 -/
def tables_Rule_120.l0 : Nat → List (S56) → Int → Int → Int → ByteArray → Option (Int)
  | 0, _, _, _, _, _ => none
  | k + 1, x0, x7, x8, x103000, x103001 => if x8 < x7 then (if 0 ≤ x8 then (if x8 < (x0.length : Int) then (if (x103000 == ((rd_T56 x0 x8).f0) && (x103001.toList == (((rd_T56 x0 x8).f1).toList))) = true then (some x8) else (tables_Rule_120.l0 k x0 x7 (wrap64 (x8 + 1)) x103000 x103001)) else (none)) else (none)) else (some (-1))
def tables_Rule_120.f (k : Nat) (l0 : List (S56)) (a1_0 : Int) (a1_1 : ByteArray) : Option (Int) := tables_Rule_120.l0 k l0 (l0.length : Int) 0 a1_0 a1_1
theorem tables_Rule_120.mono_l : ∀ k, (∀ y0 y1 y2 y3 y4, LeO (tables_Rule_120.l0 k y0 y1 y2 y3 y4) (tables_Rule_120.l0 (k + 1) y0 y1 y2 y3 y4))
  | 0 => fun _ _ _ _ _ r h => by simp [tables_Rule_120.l0] at h
  | k + 1 => by
    have ih0 := tables_Rule_120.mono_l k
    · intro y0 y1 y2 y3 y4
      unfold tables_Rule_120.l0
      repeat' first
      | (with_reducible exact ih0 _ _ _ _ _)
      | (with_reducible exact LeO.refl _)
      | (with_reducible exact LeO.none _)
      | (with_reducible refine LeO.ite ?_ ?_)
      | (with_reducible refine LeO.bind ?_ (fun _ => ?_))
      | exact ih0 _ _ _ _ _
      | exact LeO.none _
      | refine LeO.ite ?_ ?_
      | refine LeO.bind ?_ (fun _ => ?_)
theorem tables_Rule_120.mono : ∀ a0 a1 a2 k, LeO (tables_Rule_120.f k a0 a1 a2) (tables_Rule_120.f (k + 1) a0 a1 a2) := by
  intro a0 a1 a2 k
  have ih0 := tables_Rule_120.mono_l k
  unfold tables_Rule_120.f
  repeat' first
      | (with_reducible exact ih0 _ _ _ _ _)
      | (with_reducible exact LeO.refl _)
      | (with_reducible exact LeO.none _)
      | (with_reducible refine LeO.ite ?_ ?_)
      | (with_reducible refine LeO.bind ?_ (fun _ => ?_))
      | exact ih0 _ _ _ _ _
      | exact LeO.none _
      | refine LeO.ite ?_ ?_
      | refine LeO.bind ?_ (fun _ => ?_)
set_option maxHeartbeats 8000000 in
set_option maxRecDepth 100000 in
theorem tables_Rule_120.calls (k : Nat) (A0 : Option Addr) (c0 : Nat) (l0 : List (S56)) (a1_0 : Int) (a1_1 : ByteArray) (r : Int) (w : World) (hr0 : Kd.C k56 w A0 l0.length l0) (hc0 : l0.length ≤ c0) (h : tables_Rule_120.f k l0 a1_0 a1_1 = some r) :
    Calls Tryd.prog 120 #[.slice A0 l0.length c0, .agg #[.int .u8 a1_0, .string a1_1]] w fun e w' => e = .returned (.int .i64 r) ∧ Below w.heap.size w w' := by
  have hu56 := Tryd.underlying56
  have HR0 := Aside0.mk hr0
  have HC0 := Aside0.mk hc0
  clear hr0 hc0
  have HB := Aside0.mk (Below.refl w.heap.size w)
  have H : (tables_Rule_120.l0 k l0 (l0.length : Int) 0 a1_0 a1_1) = some r := h
  clear h
  have H' := Aside0.mk H
  clear H
  go_enter Tryd.func120, Tryd.ntmps120
  go_wp2_with (first | ((with_reducible refine gate_dst (N := 3) rfl ?_); refine box_event ?hg (N := 3) ?hd (cs := #[.int .u8 a1_0, .string a1_1]) (t := 56) ?hr ?_; (case hd => rfl); (case hg => rfl); (case hr => first | (go_simp; done) | (go_simp; rfl)); intro gb102 hg w3 hbox hb; have n0_ := Aside0.mk (below_step (by repeat (first | (with_reducible first | exact HB.out | apply below_alloc | apply pw_below_drewN | apply below_drew1) | exact HB.out)) hb); have n1_ := Aside0.mk (hbox); have n2_ := Aside0.mk ((by rw [hg]; exact (below_size (by repeat (first | (with_reducible first | exact HB.out | apply below_alloc | apply pw_below_drewN | apply below_drew1) | exact HB.out))) : w.heap.size ≤ gb102)); have n3_ := Aside0.mk ((by rw [hg]; exact (below_size (by repeat (first | (with_reducible first | exact HB.out | apply below_alloc | apply pw_below_drewN | apply below_drew1) | exact HB.out))) : w.heap.size ≤ gb102)); clear HB; have HB := n0_; have BK102 := n1_; have GW102 := n2_; have GE102 := n3_; clear n0_ n1_ n2_ n3_; clear hb hbox hg))
  repeat (go_quiet (first | ((with_reducible refine gate_dst (N := 3) rfl ?_); refine box_event ?hg (N := 3) ?hd (cs := #[.int .u8 a1_0, .string a1_1]) (t := 56) ?hr ?_; (case hd => rfl); (case hg => rfl); (case hr => first | (go_simp; done) | (go_simp; rfl)); intro gb102 hg w3 hbox hb; have n0_ := Aside0.mk (below_step (by repeat (first | (with_reducible first | exact HB.out | apply below_alloc | apply pw_below_drewN | apply below_drew1) | exact HB.out)) hb); have n1_ := Aside0.mk (hbox); have n2_ := Aside0.mk ((by rw [hg]; exact (below_size (by repeat (first | (with_reducible first | exact HB.out | apply below_alloc | apply pw_below_drewN | apply below_drew1) | exact HB.out))) : w.heap.size ≤ gb102)); have n3_ := Aside0.mk ((by rw [hg]; exact (below_size (by repeat (first | (with_reducible first | exact HB.out | apply below_alloc | apply pw_below_drewN | apply below_drew1) | exact HB.out))) : w.heap.size ≤ gb102)); clear HB; have HB := n0_; have BK102 := n1_; have GW102 := n2_; have GE102 := n3_; clear n0_ n1_ n2_ n3_; clear hb hbox hg)); try go_wp2_with (first | ((with_reducible refine gate_dst (N := 3) rfl ?_); refine box_event ?hg (N := 3) ?hd (cs := #[.int .u8 a1_0, .string a1_1]) (t := 56) ?hr ?_; (case hd => rfl); (case hg => rfl); (case hr => first | (go_simp; done) | (go_simp; rfl)); intro gb102 hg w3 hbox hb; have n0_ := Aside0.mk (below_step (by repeat (first | (with_reducible first | exact HB.out | apply below_alloc | apply pw_below_drewN | apply below_drew1) | exact HB.out)) hb); have n1_ := Aside0.mk (hbox); have n2_ := Aside0.mk ((by rw [hg]; exact (below_size (by repeat (first | (with_reducible first | exact HB.out | apply below_alloc | apply pw_below_drewN | apply below_drew1) | exact HB.out))) : w.heap.size ≤ gb102)); have n3_ := Aside0.mk ((by rw [hg]; exact (below_size (by repeat (first | (with_reducible first | exact HB.out | apply below_alloc | apply pw_below_drewN | apply below_drew1) | exact HB.out))) : w.heap.size ≤ gb102)); clear HB; have HB := n0_; have BK102 := n1_; have GW102 := n2_; have GE102 := n3_; clear n0_ n1_ n2_ n3_; clear hb hbox hg)))
  go_loopg [8] k (fun kq v8 w' => ∃ (x8_1 : Int), v8 = .int .i64 x8_1 ∧ Aside0 (tables_Rule_120.l0 kq l0 (l0.length : Int) x8_1 a1_0 a1_1 = some r) ∧ Aside0 (kq ≤ k) ∧ Aside0 (w'.heap[gb102]? = some (.cells #[.int .u8 a1_0, .string a1_1] 56 (0, 0))) ∧ Aside0 (Below w.heap.size w w'))
  case atStart => exact ⟨(0), (by first | rfl | (simp; done) | (simp [*]; done)), H', ⟨Nat.le_refl _⟩, ⟨by (with_reducible repeat (first | refine blk_drewN ?_ _ | refine blk_drew ?_ | refine blk_alloc ?_ _)); exact BK102.out⟩, ⟨by repeat (first | (with_reducible first | exact HB.out | apply below_alloc | apply pw_below_drewN | apply below_drew1 | refine below_set ?_ GE102.out) | exact HB.out)⟩⟩
  case round =>
    clear H'
    try clear c1
    try clear p2
    obtain ⟨x8_1, rfl, HA, HK1, BK102, HB⟩ := hrel
    cases gk with
    | zero => exact absurd HA.out (by simp [tables_Rule_120.l0])
    | succ k1 =>
      have H := HA.out
      clear HA
      simp only [tables_Rule_120.l0] at H
      by_cases c4 : x8_1 < (l0.length : Int)
      · rw [if_pos c4] at H
        have c4b0 : decide (x8_1 < (l0.length : Int)) = true := decide_eq_true c4
        clear c4
        by_cases c5 : 0 ≤ x8_1
        · rw [if_pos c5] at H
          have c5b0 : decide (0 ≤ x8_1) = true := decide_eq_true c5
          clear c5
          by_cases c6 : x8_1 < (l0.length : Int)
          · rw [if_pos c6] at H
            have c6b0 : decide (x8_1 < (l0.length : Int)) = true := decide_eq_true c6
            clear c6
            by_cases c7 : (a1_0 == ((rd_T56 l0 x8_1).f0) && (a1_1.toList == (((rd_T56 l0 x8_1).f1).toList))) = true
            · rw [if_pos c7] at H
              have c7b0 : (a1_0 == ((rd_T56 l0 x8_1).f0) && (a1_1.toList == (((rd_T56 l0 x8_1).f1).toList))) = true := c7
              (try (have c7b1 : decide (a1_0 = ((rd_T56 l0 x8_1).f0) && (a1_1.toList == (((rd_T56 l0 x8_1).f1).toList))) = true := by simpa using c7))
              (try (have c7b2 : (a1_0 == ((rd_T56 l0 x8_1).f0) && (a1_1.toList == (((rd_T56 l0 x8_1).f1).toList))) = true := by simpa using c7))
              clear c7
              obtain rfl := Option.some.inj H
              have hcz8_0 : wr.cell? ⟨gb102, 0, none⟩ = some (.int .u8 a1_0) := (blk_cell BK102.out 0).trans rfl
              have hcz8_1 : wr.cell? ⟨gb102, 1, none⟩ = some (.string a1_1) := (blk_cell BK102.out 1).trans rfl
              have hfz8_0 := blk_frozen BK102.out 0
              have hfz8_1 := blk_frozen BK102.out 1
              have p103 : 0 ≤ (x8_1 : Int) := of_decide_eq_true (by first | (with_reducible assumption) | assumption)
              have q103 : x8_1 < (l0.length : Int) := of_decide_eq_true (by first | (with_reducible assumption) | assumption)
              obtain ⟨ad103, e103, hx103_0, hx103_1⟩ := at_T56 HR0.out x8_1 p103 q103
              cases e103
              replace hx103_0 := (HB.out.cell (World.block_lt_of_cell? w _ hx103_0)).trans hx103_0
              replace hx103_1 := (HB.out.cell (World.block_lt_of_cell? w _ hx103_1)).trans hx103_1
              replace p103 := eq_true p103
              replace q103 := eq_true q103
              go_wp2
              repeat (go_quiet (fail); try go_wp2)
              go_ret
              exact ⟨by first | rfl | (simp [errW_none, errW_some] <;> rfl) | (simp [*, errW_none, errW_some] <;> rfl), by repeat (first | (with_reducible first | exact HB.out | apply below_alloc | apply pw_below_drewN | apply below_drew1 | refine below_set ?_ GE102.out) | exact HB.out)⟩
            · rw [if_neg c7] at H
              have c7b0 : (a1_0 == ((rd_T56 l0 x8_1).f0) && (a1_1.toList == (((rd_T56 l0 x8_1).f1).toList))) = false := by simpa using c7
              (try (have c7b1 : decide (a1_0 = ((rd_T56 l0 x8_1).f0) && (a1_1.toList == (((rd_T56 l0 x8_1).f1).toList))) = false := by simpa using c7))
              (try (have c7b2 : (a1_0 == ((rd_T56 l0 x8_1).f0) && (a1_1.toList == (((rd_T56 l0 x8_1).f1).toList))) = false := by simpa using c7))
              (try (have c7b3 : ¬ (a1_0 = ((rd_T56 l0 x8_1).f0) && (a1_1.toList == (((rd_T56 l0 x8_1).f1).toList))) := by simpa using c7))
              clear c7
              have H' := Aside0.mk H
              clear H
              have hcz9_0 : wr.cell? ⟨gb102, 0, none⟩ = some (.int .u8 a1_0) := (blk_cell BK102.out 0).trans rfl
              have hcz9_1 : wr.cell? ⟨gb102, 1, none⟩ = some (.string a1_1) := (blk_cell BK102.out 1).trans rfl
              have hfz9_0 := blk_frozen BK102.out 0
              have hfz9_1 := blk_frozen BK102.out 1
              have p103 : 0 ≤ (x8_1 : Int) := of_decide_eq_true (by first | (with_reducible assumption) | assumption)
              have q103 : x8_1 < (l0.length : Int) := of_decide_eq_true (by first | (with_reducible assumption) | assumption)
              obtain ⟨ad103, e103, hx103_0, hx103_1⟩ := at_T56 HR0.out x8_1 p103 q103
              cases e103
              replace hx103_0 := (HB.out.cell (World.block_lt_of_cell? w _ hx103_0)).trans hx103_0
              replace hx103_1 := (HB.out.cell (World.block_lt_of_cell? w _ hx103_1)).trans hx103_1
              replace p103 := eq_true p103
              replace q103 := eq_true q103
              go_wp2
              repeat (go_quiet (fail); try go_wp2)
              go_roundg k1
              case measure => have := HK1.out; omega
              case rel => exact ⟨(wrap64 (x8_1 + 1)), (by first | rfl | (simp; done) | (simp [*]; done)), H', ⟨by have := HK1.out; omega⟩, ⟨by (with_reducible repeat (first | refine blk_drewN ?_ _ | refine blk_drew ?_ | refine blk_alloc ?_ _)); exact BK102.out⟩, ⟨by repeat (first | (with_reducible first | exact HB.out | apply below_alloc | apply pw_below_drewN | apply below_drew1 | refine below_set ?_ GE102.out) | exact HB.out)⟩⟩
          · rw [if_neg c6] at H
            exact absurd H (by simp)
        · rw [if_neg c5] at H
          exact absurd H (by simp)
      · rw [if_neg c4] at H
        have c4b0 : decide (x8_1 < (l0.length : Int)) = false := decide_eq_false c4
        clear c4
        obtain rfl := Option.some.inj H
        go_wp2
        repeat (go_quiet (fail); try go_wp2)
        go_ret
        exact ⟨by first | rfl | (simp [errW_none, errW_some] <;> rfl) | (simp [*, errW_none, errW_some] <;> rfl), by repeat (first | (with_reducible first | exact HB.out | apply below_alloc | apply pw_below_drewN | apply below_drew1 | refine below_set ?_ GE102.out) | exact HB.out)⟩

end Go.Proofs.YtpmmfckgfbdboaaDoor.G
end

section
namespace Go.Proofs.YtpmmfckgfbdboaaDoor.G
open Go.RowKit Go.Proofs.YtpmmfckgfbdboaaDoorW.PrintWords Go.Proofs.YtpmmfckgfbdboaaDoorW.PrintLast Go.Proofs.YtpmmfckgfbdboaaDoorW.PrintMore
attribute [local go_sem] max2_int min2_int max_two min_two max_three min_three max_four min_four   -- for this text's walks alone
set_option linter.unusedVariables false
set_option linter.unusedSimpArgs false

/-! ### tables_Rule_91: function 91 -/
def tables_Rule_91.f (k : Nat) (l0 : List (S56)) (a1_0 : Int) (a1_1 : ByteArray) : Option (Bool) := (tables_Rule_120.f k l0 a1_0 a1_1).bind fun t105 => (some (decide (t105 ≥ 0)))
theorem tables_Rule_91.mono : ∀ a0 a1 a2 k, LeO (tables_Rule_91.f k a0 a1 a2) (tables_Rule_91.f (k + 1) a0 a1 a2) := by
  intro a0 a1 a2 k
  unfold tables_Rule_91.f
  repeat' first
      | (with_reducible exact tables_Rule_120.mono _ _ _ _)
      | (with_reducible exact LeO.refl _)
      | (with_reducible exact LeO.none _)
      | (with_reducible refine LeO.ite ?_ ?_)
      | (with_reducible refine LeO.bind ?_ (fun _ => ?_))
      | exact tables_Rule_120.mono _ _ _ _
      | exact LeO.none _
      | refine LeO.ite ?_ ?_
      | refine LeO.bind ?_ (fun _ => ?_)
set_option maxHeartbeats 8000000 in
set_option maxRecDepth 100000 in
theorem tables_Rule_91.calls (k : Nat) (A0 : Option Addr) (c0 : Nat) (l0 : List (S56)) (a1_0 : Int) (a1_1 : ByteArray) (r : Bool) (w : World) (hr0 : Kd.C k56 w A0 l0.length l0) (hc0 : l0.length ≤ c0) (h : tables_Rule_91.f k l0 a1_0 a1_1 = some r) :
    Calls Tryd.prog 91 #[.slice A0 l0.length c0, .agg #[.int .u8 a1_0, .string a1_1]] w fun e w' => e = .returned (.bool r) ∧ Below w.heap.size w w' := by
  have hu56 := Tryd.underlying56
  have HR0 := Aside0.mk hr0
  have HC0 := Aside0.mk hc0
  clear hr0 hc0
  have HB := Aside0.mk (Below.refl w.heap.size w)
  have H : ((tables_Rule_120.f k l0 a1_0 a1_1).bind fun t105 => (some (decide (t105 ≥ 0)))) = some r := h
  clear h
  replace H := Option.bind_eq_some_iff.mp H
  obtain ⟨t105, A30, H⟩ := H
  replace H : (some (decide (t105 ≥ 0))) = some r := H
  have A3 := Aside0.mk A30
  clear A30
  obtain rfl := Option.some.inj H
  go_enter Tryd.func91, Tryd.ntmps91
  go_wp2_with (first | ((with_reducible refine gate_dst (N := 3) rfl ?_); refine box_event ?hg (N := 3) ?hd (cs := #[.int .u8 a1_0, .string a1_1]) (t := 56) ?hr ?_; (case hd => rfl); (case hg => rfl); (case hr => first | (go_simp; done) | (go_simp; rfl)); intro gb104 hg w4 hbox hb; have n0_ := Aside0.mk (below_step (by repeat (first | (with_reducible first | exact HB.out | apply below_alloc | apply pw_below_drewN | apply below_drew1) | exact HB.out)) hb); have n1_ := Aside0.mk (hbox); have n2_ := Aside0.mk ((by rw [hg]; exact (below_size (by repeat (first | (with_reducible first | exact HB.out | apply below_alloc | apply pw_below_drewN | apply below_drew1) | exact HB.out))) : w.heap.size ≤ gb104)); have n3_ := Aside0.mk ((by rw [hg]; exact (below_size (by repeat (first | (with_reducible first | exact HB.out | apply below_alloc | apply pw_below_drewN | apply below_drew1) | exact HB.out))) : w.heap.size ≤ gb104)); clear HB; have HB := n0_; have BK104 := n1_; have GW104 := n2_; have GE104 := n3_; clear n0_ n1_ n2_ n3_; clear hb hbox hg; have hcz5_0 : w4.cell? ⟨gb104, 0, none⟩ = some (.int .u8 a1_0) := (blk_cell BK104.out 0).trans rfl; have hcz5_1 : w4.cell? ⟨gb104, 1, none⟩ = some (.string a1_1) := (blk_cell BK104.out 1).trans rfl; have hfz5_0 := blk_frozen BK104.out 0; have hfz5_1 := blk_frozen BK104.out 1) | ((with_reducible refine gate_callee (f := 120) rfl ?_); refine goesL_ (some 7) rfl rfl Tryd.func120 (by kernel_rfl) rfl #[.slice A0 l0.length c0, .agg #[.int .u8 a1_0, .string a1_1]] rfl (by (try simp only [List.map_toArray, List.map_cons, List.map_nil]); first | done | rfl | (simp only [List.length_drop, List.length_take]; rfl)) ?_; (with_reducible refine (tables_Rule_120.calls k _ _ l0 a1_0 a1_1 t105 _ ?side1 ?side2 A3.out).mono ?_); (case side1 => repeat (first | exact (Kd.C_below HR0.out HB.out) | (with_reducible refine Kd.C_alloc ?_ _) | (with_reducible refine Kd.C_drewN ?_ _) | (with_reducible refine Kd.C_drew ?_))); (case side2 => exact HC0.out); rintro e w6 ⟨rfl, hb⟩; refine ⟨_, rfl, ?_⟩; have n0_ := Aside0.mk (blk_below (g := gb104) (o := .cells #[.int .u8 a1_0, .string a1_1] 56 (0, 0)) (by (with_reducible repeat (first | refine blk_drewN ?_ _ | refine blk_drew ?_ | refine blk_alloc ?_ _)); exact BK104.out) hb); have n1_ := Aside0.mk (below_step (by repeat (first | (with_reducible first | exact HB.out | apply below_alloc | apply pw_below_drewN | apply below_drew1 | refine below_set ?_ GE104.out) | exact HB.out)) hb); clear BK104; clear HB; have BK104 := n0_; have HB := n1_; clear n0_ n1_; (try clear hb); (try clear hb2); (try clear hk); (try clear hi)))
  go_ret
  exact ⟨by first | rfl | (simp [errW_none, errW_some] <;> rfl) | (simp [*, errW_none, errW_some] <;> rfl), by repeat (first | (with_reducible first | exact HB.out | apply below_alloc | apply pw_below_drewN | apply below_drew1 | refine below_set ?_ GE104.out) | exact HB.out)⟩

end Go.Proofs.YtpmmfckgfbdboaaDoor.G
end

section
namespace Go.Proofs.YtpmmfckgfbdboaaDoor.G
open Go.RowKit Go.Shelf Go.Proofs.YtpmmfckgfbdboaaDoorW.PrintWords Go.Proofs.YtpmmfckgfbdboaaDoorW.PrintLast Go.Proofs.YtpmmfckgfbdboaaDoorW.PrintMore
def lays160_ren : Go.Shelf.Ren := ⟨fun | 160 => 90 | 232 => 114 | 231 => 113 | 227 => 115 | 234 => 117 | 233 => 116 | 236 => 119 | 235 => 118 | 228 => 137 | 271 => 140 | 151 => 139 | 197 => 138 | 120 => 168 | 152 => 167 | 260 => 166 | 137 => 177 | 119 => 186 | 224 => 187 | 225 => 188 | 217 => 192 | 266 => 196 | n => n, fun | 9 => 9 | 4 => 4 | 3 => 3 | 5 => 5 | 117 => 175 | 116 => 174 | 0 => 0 | 124 => 178 | 21 => 21 | 105 => 195 | 46 => 54 | 119 => 235 | 139 => 238 | 138 => 237 | n => n, fun | 3 => 0 | 4 => 1 | n => n⟩
theorem lays160 : Go.Proofs.Lays.n160 Tryd.prog lays160_ren := {
  mixed := by kernel_rfl
  f119 := Tryd.func186.trans (congrArg some (by kernel_rfl))
  f120 := Tryd.func168.trans (congrArg some (by kernel_rfl))
  f137 := Tryd.func177.trans (congrArg some (by kernel_rfl))
  f151 := Tryd.func139.trans (congrArg some (by kernel_rfl))
  f152 := Tryd.func167.trans (congrArg some (by kernel_rfl))
  f160 := Tryd.func90.trans (congrArg some (by kernel_rfl))
  f197 := Tryd.func138.trans (congrArg some (by kernel_rfl))
  f217 := Tryd.func192.trans (congrArg some (by kernel_rfl))
  f224 := Tryd.func187.trans (congrArg some (by kernel_rfl))
  f225 := Tryd.func188.trans (congrArg some (by kernel_rfl))
  f227 := Tryd.func115.trans (congrArg some (by kernel_rfl))
  f228 := Tryd.func137.trans (congrArg some (by kernel_rfl))
  f231 := Tryd.func113.trans (congrArg some (by kernel_rfl))
  f232 := Tryd.func114.trans (congrArg some (by kernel_rfl))
  f233 := Tryd.func116.trans (congrArg some (by kernel_rfl))
  f234 := Tryd.func117.trans (congrArg some (by kernel_rfl))
  f235 := Tryd.func118.trans (congrArg some (by kernel_rfl))
  f236 := Tryd.func119.trans (congrArg some (by kernel_rfl))
  f260 := Tryd.func166.trans (congrArg some (by kernel_rfl))
  f266 := Tryd.func196.trans (congrArg some (by kernel_rfl))
  f271 := Tryd.func140.trans (congrArg some (by kernel_rfl))
  t0 := Tryd.underlying0
  a0 := Tryd.isAgg0
  z0 := Tryd.sizeOf0
  v0 := Tryd.zeroValue0
  t3 := Tryd.underlying3
  a3 := Tryd.isAgg3
  z3 := Tryd.sizeOf3
  v3 := Tryd.zeroValue3
  t4 := Tryd.underlying4
  a4 := Tryd.isAgg4
  z4 := Tryd.sizeOf4
  v4 := Tryd.zeroValue4
  t5 := Tryd.underlying5
  a5 := Tryd.isAgg5
  z5 := Tryd.sizeOf5
  v5 := Tryd.zeroValue5
  t9 := Tryd.underlying9
  a9 := Tryd.isAgg9
  z9 := Tryd.sizeOf9
  v9 := Tryd.zeroValue9
  t21 := Tryd.underlying21
  a21 := Tryd.isAgg21
  z21 := Tryd.sizeOf21
  v21 := Tryd.zeroValue21
  t46 := Tryd.underlying54
  a46 := Tryd.isAgg54
  z46 := Tryd.sizeOf54
  v46 := Tryd.zeroValue54
  t105 := Tryd.underlying195
  a105 := Tryd.isAgg195
  z105 := Tryd.sizeOf195
  v105 := Tryd.zeroValue195
  t116 := Tryd.underlying174
  a116 := Tryd.isAgg174
  z116 := Tryd.sizeOf174
  t117 := Tryd.underlying175
  a117 := Tryd.isAgg175
  z117 := Tryd.sizeOf175
  v117 := Tryd.zeroValue175
  t119 := Tryd.underlying235
  a119 := Tryd.isAgg235
  z119 := Tryd.sizeOf235
  t124 := Tryd.underlying178
  a124 := Tryd.isAgg178
  z124 := Tryd.sizeOf178
  v124 := Tryd.zeroValue178
  t138 := Tryd.underlying237
  a138 := Tryd.isAgg237
  z138 := Tryd.sizeOf237
  v138 := Tryd.zeroValue237
  t139 := Tryd.underlying238
  a139 := Tryd.isAgg238
  z139 := Tryd.sizeOf238
  v139 := Tryd.zeroValue238
  g3 := by kernel_rfl
  g4 := by kernel_rfl }

/-- What strings.Trim returns, where the cutset is ASCII and not long; 'none': not told. -/
def strings_Trim.f (a0 a1 : ByteArray) : Option ByteArray :=
  if a0.size ≤ 9223372036854775807 ∧ a1.size < 1000 ∧ a1.data.toList.all (fun b => decide (b.toNat < 128)) = true then some ⟨(Lib.trimS a0.data.toList a1.data.toList).toArray⟩ else none
theorem strings_Trim.calls (a0 a1 : ByteArray) (r : ByteArray) (w : World) (h : strings_Trim.f a0 a1 = some r) :
    Calls Tryd.prog 90 #[.string a0, .string a1] w fun e w' => e = .returned (.string r) ∧ Below w.heap.size w w' := by
  unfold strings_Trim.f at h
  split at h
  · rename_i hc
    obtain ⟨h1, h2, h3⟩ := hc
    obtain rfl := Option.some.inj h
    exact Any.strings_Trim_laid lays160 (by kernel_rfl) a0 a1 w h1 (by omega) (ascii_of_all h3)
  · cases h
end Go.Proofs.YtpmmfckgfbdboaaDoor.G
end
