/- TablesStates: for every input the law returns true, and the rules that came in read afterwards as they did; two tables of Go's library are listed (laid) and tied to the program's text. -/
import Derived.Test.YtpmmfckgfbdboaaDoorM1x2
import Derived.Lib.SlBytesConst
import Derived.WalkSpells
import Derived.Test.YtpmmfckgfbdboaaDoorM1x1
import Derived.Test.YtpmmfckgfbdboaaDoorM1x0
import Derived.Test.YtpmmfckgfbdboaaDoorRows
import Derived.Test.YtpmmfckgfbdboaaDoorCards
import Derived.Test.YtpmmfckgfbdboaaDoorTie
import Derived.LaidMore
import Derived.Lay
import Derived.SevenTiedAt
import Derived.Stop.Joined
section
namespace Go.Proofs.YtpmmfckgfbdboaaDoor.G
open Go.RowKit Go.Proofs.YtpmmfckgfbdboaaDoorW.PrintWords Go.Proofs.YtpmmfckgfbdboaaDoorW.PrintLast Go.Proofs.YtpmmfckgfbdboaaDoorW.PrintMore
open Go.Shelf Go.Lib
set_option linter.unusedVariables false
set_option linter.unusedSimpArgs false
theorem rowO_stay {g : List (Int × List Int)} {s : List S95} {c : Int} {cs : List Int} {sts : List (List S95)} {ms : List (Int × Int)} {ro : Option (List (List S95) × List (Int × Int))} (hm : movedP g c s = []) (h : rowO g s (c :: cs) sts ms = some ro) : rowO g s cs sts ms = some ro := by
  unfold rowO letterO at h
  rw [if_pos hm] at h
  exact h
theorem rowO_step {g : List (Int × List Int)} {s : List S95} {c : Int} {cs : List Int} {sts : List (List S95)} {ms : List (Int × Int)} {ro : Option (List (List S95) × List (Int × Int))} (hm : movedP g c s ≠ []) (hok : ∀ x ∈ movedP g c s, okItem g x) (h : rowO g s (c :: cs) sts ms = some ro) :
    ∃ ys, closF g (movedP g c s) = some ys ∧ goodS g ys ∧
      ((findI sts ys 0 < 0 ∧ ((64 < sts.length + 1 ∧ ro = none) ∨ (sts.length + 1 ≤ 64 ∧ rowO g s cs (sts ++ [ys]) (ms ++ [(c, (sts.length : Int))]) = some ro))) ∨
       (¬ findI sts ys 0 < 0 ∧ ((64 < sts.length ∧ ro = none) ∨ (sts.length ≤ 64 ∧ rowO g s cs sts (ms ++ [(c, findI sts ys 0)]) = some ro)))) := by
  unfold rowO letterO at h
  rw [if_neg hm] at h
  obtain ⟨lo, hlo, hr⟩ := Option.bind_eq_some_iff.1 h
  obtain ⟨ys, hys, hrest⟩ := Option.bind_eq_some_iff.1 hlo
  refine ⟨ys, hys, closF_good hys hok hm, ?_⟩
  split at hrest
  · rename_i h1
    refine .inl ⟨h1, ?_⟩
    split at hrest
    · rename_i h2
      obtain rfl := Option.some.inj hrest
      exact .inl ⟨h2, (Option.some.inj hr).symm⟩
    · rename_i h2
      obtain rfl := Option.some.inj hrest
      exact .inr ⟨Nat.not_lt.1 h2, hr⟩
  · rename_i h1
    refine .inr ⟨h1, ?_⟩
    split at hrest
    · rename_i h2
      obtain rfl := Option.some.inj hrest
      exact .inl ⟨h2, (Option.some.inj hr).symm⟩
    · rename_i h2
      obtain rfl := Option.some.inj hrest
      exact .inr ⟨Nat.not_lt.1 h2, hr⟩
theorem closF_any (l : List S56) (A : Option Addr) (c0 : Nat) (v : Value) (xs : List S95) (w0 w : World) (hr0 : Kd.C k56 w0 A l.length l) (hc0 : l.length ≤ c0) (hg : okG (gr56 l)) (hne : 0 < l.length)
    (HO : Kd.R k95 95 w w0.heap.size (fun _ => True) v xs) (HB : Below w0.heap.size w0 w) (hxs : xs ≠ []) (hok : ∀ x ∈ xs, okItem (gr56 l) x) (ys : List S95) (hys : closF (gr56 l) xs = some ys) :
    Calls Tryd.prog 96 #[.slice A l.length c0, v] w fun e w' => ∃ g cap, e = .returned (.slice (some ⟨g, 0, none⟩) ys.length cap) ∧ Kd.R k95 95 w' w0.heap.size (fun _ => True) (.slice (some ⟨g, 0, none⟩) ys.length cap) ys ∧ Below w0.heap.size w0 w' ∧ w.grownBy w' v.ownBlock := by
  have hgood := closF_good hys hok hxs
  obtain ⟨z0, hz0, rfl⟩ := closF_some hys
  refine (closure_any l A c0 v xs w0 w hr0 hc0 hg hne HO HB hxs hok 2000 z0 hz0).mono ?_
  rintro e w' ⟨v1, rfl, hR, hB, hG, _⟩
  obtain ⟨g, cap, rfl, _⟩ := Kd.R_form hR (List.length_pos_iff.2 hgood.2.2)
  exact ⟨g, cap, rfl, hR, hB, hG⟩
theorem buildO_step {g : List (Int × List Int)} {n i : Nat} {sts : List (List S95)} {gos : List (List (Int × Int))} {r : Option (List (List S95) × List (List (Int × Int)))} {s : List S95} (hs : sts[i]? = some s) (h : buildO g (n + 1) i sts gos = some r) :
    ∃ ro, rowO g s lettersP sts [] = some ro ∧ (ro = none → r = none) ∧ ∀ sts' ms, ro = some (sts', ms) → buildO g n (i + 1) sts' (gos ++ [ms]) = some r := by
  have hlt := (List.getElem?_eq_some_iff.1 hs).1
  unfold buildO at h
  rw [if_pos hlt, List.getD_eq_getElem?_getD, hs, Option.getD_some] at h
  obtain ⟨ro, h1, h2⟩ := Option.bind_eq_some_iff.1 h
  refine ⟨ro, h1, fun e => ?_, fun sts' ms e => ?_⟩
  · subst e; exact (Option.some.inj h2).symm
  · subst e; exact h2
theorem buildO_end {g : List (Int × List Int)} {n i : Nat} {sts : List (List S95)} {gos : List (List (Int × Int))} {r : Option (List (List S95) × List (List (Int × Int)))} (hlt : ¬ i < sts.length) (h : buildO g (n + 1) i sts gos = some r) : r = some (sts, gos) := by
  unfold buildO at h
  rw [if_neg hlt] at h
  exact (Option.some.inj h).symm
theorem buildO_pos {g : List (Int × List Int)} {n i : Nat} {sts : List (List S95)} {gos : List (List (Int × Int))} {r : Option (List (List S95) × List (List (Int × Int)))} (h : buildO g n i sts gos = some r) : ∃ k, n = k + 1 := by
  cases n with
  | zero => cases h
  | succ k => exact ⟨k, rfl⟩
theorem rowO_end {g : List (Int × List Int)} {s : List S95} {sts : List (List S95)} {ms : List (Int × Int)} {ro : Option (List (List S95) × List (Int × Int))} (h : rowO g s [] sts ms = some ro) : ro = some (sts, ms) := by
  unfold rowO at h
  exact (Option.some.inj h).symm
theorem set_last {α : Type} (l : List α) (a b : α) (i : Nat) (h : l.length = i) : (l ++ [a]).set i b = l ++ [b] := by
  subst h
  simp
/-- What letters have been seen is not seen again. -/
theorem fresh_key {ms : List (Int × Int)} {c k : Int} {cs : List Int} (hl : lettered ms ∧ ∀ p ∈ ms, p.1 ∉ c :: cs) (hc : letterB c = true) (hn : c ∉ cs) : (∀ p ∈ ms, p.1 ≠ c) ∧ lettered (ms ++ [(c, k)]) ∧ ∀ p ∈ ms ++ [(c, k)], p.1 ∉ cs := by
  refine ⟨fun p hp e => hl.2 p hp (by rw [e]; simp), fun p hp => ?_, fun p hp => ?_⟩
  · rcases List.mem_append.1 hp with h | h
    · exact hl.1 p h
    · rw [List.mem_singleton.1 h]; exact hc
  · rcases List.mem_append.1 hp with h | h
    · exact fun h2 => hl.2 p h (by simp [h2])
    · rw [List.mem_singleton.1 h]; exact hn
end Go.Proofs.YtpmmfckgfbdboaaDoor.G
end

section
namespace Go.Proofs.YtpmmfckgfbdboaaDoor.G
open Go.RowKit Go.Proofs.YtpmmfckgfbdboaaDoorW.PrintWords Go.Proofs.YtpmmfckgfbdboaaDoorW.PrintLast Go.Proofs.YtpmmfckgfbdboaaDoorW.PrintMore
open Go.Shelf Go.Lib
set_option linter.unusedVariables false
set_option linter.unusedSimpArgs false
theorem info98 : (Tryd.prog.info? 98).map (fun i => (i.zero, i.size, i.bytes)) = some (some (.map none), 1, 8) := by kernel_rfl
theorem info94 : (Tryd.prog.info? 94).map (fun i => (i.zero, i.size, i.bytes)) = some (some (.slice none 0 0), 1, 24) := by kernel_rfl
theorem BI.c1 {base : Nat} {w0 W : World} {T : Nat} {GR SV GV : Value} {nx : List Nat} {sts : List (List S95)} {gos : List (List (Int × Int))} {bs : List Nat} (h : BI base w0 W T GR nx sts SV GV gos bs) : W.cell? ⟨T, 1, none⟩ = some SV :=
  (blk_cell h.tb 1).trans (by simp [Array.getElem?_append])
theorem BI.c2 {base : Nat} {w0 W : World} {T : Nat} {GR SV GV : Value} {nx : List Nat} {sts : List (List S95)} {gos : List (List (Int × Int))} {bs : List Nat} (h : BI base w0 W T GR nx sts SV GV gos bs) : W.cell? ⟨T, 2, none⟩ = some GV :=
  (blk_cell h.tb 2).trans (by simp [Array.getElem?_append])
theorem len_small {n : Nat} (h : n ≤ 64) : (n + 1) * 8 ≤ 140737488355328 := by omega
theorem len_small2 {n : Nat} (h : n ≤ 64) : (n + 1) * 24 ≤ 140737488355328 := by omega
def lettersV : Array Value := #[.int .u8 65, .int .u8 66, .int .u8 67, .int .u8 68, .int .u8 69, .int .u8 97, .int .u8 98, .int .u8 99, .int .u8 100]
theorem conv_at (w4 : World) (T : Nat) (v : Value) : (convert 42 42 (.slice (some ⟨w4.heap.size, 0, none⟩) 9 9)).run Tryd.prog ((w4.setCell ⟨T, 2, none⟩ v).alloc (.cells #[.int .u8 65, .int .u8 66, .int .u8 67, .int .u8 68, .int .u8 69, .int .u8 97, .int .u8 98, .int .u8 99, .int .u8 100] 5)) = .ok (.slice (some ⟨w4.heap.size, 0, none⟩) 9 9) ((w4.setCell ⟨T, 2, none⟩ v).alloc (.cells #[.int .u8 65, .int .u8 66, .int .u8 67, .int .u8 68, .int .u8 69, .int .u8 97, .int .u8 98, .int .u8 99, .int .u8 100] 5 (9, 10))) := by
  have h := Lib.run_convert_bytes_const (P := Tryd.prog) (w4.setCell ⟨T, 2, none⟩ v) 42 5 lettersV 9 9 Tryd.underlying42 Tryd.underlying5
  have hs : (w4.setCell ⟨T, 2, none⟩ v).heap.size = w4.heap.size := by simp [World.setCell]
  rw [hs] at h
  exact h
theorem letters_at : ∀ li : Nat, li < 9 → lettersV[li]? = some (.int .u8 (lettersP.getD li 0)) ∧ letterB (lettersP.getD li 0) = true ∧ lettersP.drop li = lettersP.getD li 0 :: lettersP.drop (li + 1) ∧ lettersP.getD li 0 ∉ lettersP.drop (li + 1) := by
  intro li h
  have : li = 0 ∨ li = 1 ∨ li = 2 ∨ li = 3 ∨ li = 4 ∨ li = 5 ∨ li = 6 ∨ li = 7 ∨ li = 8 := by omega
  rcases this with rfl | rfl | rfl | rfl | rfl | rfl | rfl | rfl | rfl <;> exact ⟨rfl, by decide, rfl, by decide⟩
theorem len_big2 {a j n : Nat} (h : a ≤ j) (h1 : j < n) (h2 : n ≤ 1000) : (a + 1) * 16 ≤ 140737488355328 := by omega
theorem right_len {g : List (Int × List Int)} (hg : okG g) (rule : Int) : (rightP g rule).length ≤ 4 := by
  unfold rightP
  split
  · simp
  · cases h : g[rule.toNat]? with
    | none => simp
    | some p => exact (hg.2 p (List.mem_of_getElem? h)).2.1
theorem behind_lt {g : List (Int × List Int)} {x0 x1 bc c : Int} (hg : okG g) (hx : okItem g ⟨x0, x1⟩) (hb : behindP g ⟨x0, x1⟩ = bc) (he : bc = c) (hc : letterB c = true) : x1 < 5 := by
  have h0 := (letterB_ascii hc).1
  have hr := right_len hg x0
  unfold behindP at hb
  simp only at hb
  have h2 := hx.2.2
  simp only at h2
  rcases Nat.lt_or_ge x1.toNat (rightP g x0).length with h | h
  · omega
  · rw [List.getD_eq_getElem?_getD, List.getElem?_eq_none h] at hb
    simp at hb
    rw [← hb] at he
    rw [← he] at hc
    exact absurd hc (by decide)
theorem sts_drew {W : World} {base : Nat} {SV : Value} {n : Nat} {vs : List Value} {sts : List (List S95)} (h : W.ownsRow base 94 1 SV n vs ∧ ∀ (i : Nat) s, sts[i]? = some s → ∃ v, vs[i]? = some v ∧ StRow W base v s) : W.drew.ownsRow base 94 1 SV n vs ∧ ∀ (i : Nat) s, sts[i]? = some s → ∃ v, vs[i]? = some v ∧ StRow W.drew base v s :=
  ⟨own_move h.1 (fun _ _ => rfl), fun i s hi => by
    obtain ⟨v, hv, hr⟩ := h.2 i s hi
    exact ⟨v, hv, hr.keep (fun _ _ _ _ => rfl)⟩⟩
theorem letters_snoc {base : Nat} {w0 W W2 : World} {T LB : Nat} {GR SV GV v : Value} {nx : List Nat} {sts : List (List S95)} {gos : List (List (Int × Int))} {bs : List Nat} (h : BI base w0 W T GR nx sts SV GV gos bs) (hl : W.heap[LB]? = some (.cells lettersV 5 (9, 10))) (hg : W.grownBy W2 SV.ownBlock) :
    (W2.setCell ⟨T, 1, none⟩ v).heap[LB]? = some (.cells lettersV 5 (9, 10)) := by
  have hT : LB ≠ T := fun e => by
    subst e
    rw [h.tb] at hl
    injection hl with hl
    injection hl with _ h2 _
    exact absurd h2 (by decide)
  refine (Below.heap_setCell W2 ⟨T, 1, none⟩ v LB hT).trans ((hg.block LB (blk_lt hl) (fun e => ?_)).trans hl)
  obtain ⟨vs, hv, _⟩ := h.srow
  obtain ⟨cells, hc⟩ := own_typed hv LB e.symm
  rw [hl] at hc
  injection hc with hc
  injection hc with _ h2 _
  exact absurd h2 (by decide)
theorem hs_snoc {g : List (Int × List Int)} {sts : List (List S95)} {ys s : List S95} {i : Nat} (h : i < sts.length ∧ sts.length ≤ 64 ∧ sts ≠ [] ∧ (∀ s ∈ sts, goodS g s) ∧ sts[i]? = some s) (h64 : sts.length + 1 ≤ 64) (hy : goodS g ys) :
    i < (sts ++ [ys]).length ∧ (sts ++ [ys]).length ≤ 64 ∧ sts ++ [ys] ≠ [] ∧ (∀ s ∈ sts ++ [ys], goodS g s) ∧ (sts ++ [ys])[i]? = some s := by
  refine ⟨by rw [List.length_append]; exact Nat.lt_of_lt_of_le h.1 (Nat.le_add_right _ _), by rw [List.length_append]; exact h64, by simp, fun t ht => ?_, by rw [List.getElem?_append_left h.1]; exact h.2.2.2.2⟩
  rcases List.mem_append.1 ht with h1 | h1
  · exact h.2.2.2.1 t h1
  · rw [List.mem_singleton.1 h1]; exact hy
/-- What build leaves. -/
def BuildPost (l : List S56) (A : Option Addr) (c0 : Nat) (w : World) (r : Option (List (List S95) × List (List (Int × Int)))) (e : Ending) (w' : World) : Prop :=
  (r = none → e = .returned (.tuple #[.pointer none, .int .i64 6]) ∧ Below w.heap.size w w') ∧
    ∀ sts gos, r = some (sts, gos) → ∃ T SV GV bs, e = .returned (.tuple #[.pointer (some ⟨T, 0, none⟩), .int .i64 0]) ∧ BI w.heap.size w w' T (.slice A l.length c0) (nextP (gr56 l)) sts SV GV gos bs ∧ (∀ s ∈ sts, goodS (gr56 l) s) ∧ sts ≠ [] ∧ gos.length = sts.length
theorem build_no {l : List S56} {A : Option Addr} {c0 : Nat} {w w' : World} {r : Option (List (List S95) × List (List (Int × Int)))} (hr : r = none) (hb : Below w.heap.size w w') : BuildPost l A c0 w r (.returned (.tuple #[.pointer none, .int .i64 6])) w' :=
  ⟨fun _ => ⟨rfl, hb⟩, fun a b hab => absurd (hr.symm.trans hab) (fun h => by cases h)⟩
theorem build_yes {l : List S56} {A : Option Addr} {c0 T : Nat} {SV GV : Value} {bs : List Nat} {w w' : World} {r : Option (List (List S95) × List (List (Int × Int)))} {sts : List (List S95)} {gos : List (List (Int × Int))} (hr : r = some (sts, gos))
    (h : BI w.heap.size w w' T (.slice A l.length c0) (nextP (gr56 l)) sts SV GV gos bs) (h1 : ∀ s ∈ sts, goodS (gr56 l) s) (h2 : sts ≠ []) (h3 : gos.length = sts.length) : BuildPost l A c0 w r (.returned (.tuple #[.pointer (some ⟨T, 0, none⟩), .int .i64 0])) w' :=
  ⟨fun h => absurd (hr.symm.trans h) (fun h => by cases h), fun a b hab => by
    cases hr.symm.trans hab
    exact ⟨T, SV, GV, bs, rfl, h, h1, h2, h3⟩⟩
theorem at_drawn {B : Nat} {w W W2 : World} {q : Nat} (e : W2 = W.drewN q) (h : Below B w (W.drewN q)) : Below B w W2 := e ▸ h
theorem R_at {W W2 : World} {base q : Nat} {v : Value} {xs : List S95} (e : W2 = W.drewN q) (h : Kd.R k95 95 W base (fun _ => True) v xs) : Kd.R k95 95 W2 base (fun _ => True) v xs := e ▸ Kd.R_drewN h q
theorem idx_at {base : Nat} {w0 W : World} {T : Nat} {GR GV : Value} {nx : List Nat} {sts : List (List S95)} {gos : List (List (Int × Int))} {bs : List Nat} {G cp g1 cap1 b8 B8 : Nat} {ys : List S95} {g : List (Int × List Int)} (h : BI base w0 W T GR nx sts (.slice (some ⟨G, 0, none⟩) sts.length cp) GV gos bs)
    (hr : Kd.R k95 95 W B8 (fun _ => True) (.slice (some ⟨g1, 0, none⟩) ys.length cap1) ys) (hb : W.heap[b8]? = some (.cells #[.slice (some ⟨g1, 0, none⟩) ys.length cap1] 94 (0, 0))) (h64 : sts.length ≤ 64) (hne : sts ≠ []) (hgd : ∀ s ∈ sts, goodS g s) (hy : goodS g ys) :
    Calls Tryd.prog 98 #[.slice (some ⟨G, 0, none⟩) sts.length cp, .func (.func 99) #[] #[.pointer (some ⟨b8, 0, none⟩)]] W fun e w' => e = .returned (.int .i64 (findI sts ys 0)) ∧ Drawn0 W w' := by
  obtain ⟨G', cp', e, hrows⟩ := h.rows hne
  cases e
  obtain ⟨_, hc, hC⟩ := Kd.R_reads' hr
  exact indexFunc_any sts G cp sts.length base ys (some ⟨g1, 0, none⟩) cap1 ⟨b8, 0, none⟩ W hrows hC hc rfl (Nat.lt_of_le_of_lt h64 (by decide)) (fun s hs => Nat.lt_of_le_of_lt (hgd s hs).2.1 (by decide)) ((blk_cell hb 0).trans rfl)
theorem map_far {W W9 : World} {LB mb t : Nat} {cs : Array Value} {fr : Nat × Nat} {ms : List (Int × Int)} (h : W.heap[LB]? = some (.cells cs t fr)) (hm : MapB W mb ms) (hg : W.grownBy W9 (some mb)) : W9.heap[LB]? = some (.cells cs t fr) := by
  obtain ⟨es, cl, hb, _⟩ := hm
  exact (hg.block LB (blk_lt h) (fun e => by
    have := Option.some.inj e
    subst this
    rw [hb] at h; cases h)).trans h
theorem lt_sub9 {li : Nat} (h : li < 9) : 9 - (li + 1) < 9 - li := by omega
theorem base_below {base : Nat} {w0 W : World} (h : Below base w0 W) : Below base w0 W := h
theorem tb_ne {base : Nat} {w0 W : World} {T : Nat} {GR SV GV : Value} {nx : List Nat} {sts : List (List S95)} {gos : List (List (Int × Int))} {bs : List Nat} (h : BI base w0 W T GR nx sts SV GV gos bs) : some T ≠ GV.ownBlock := fun e => by
  obtain ⟨cells, hc⟩ := own_typed h.grow T e.symm
  exact blk_ne h.tb hc (by decide) rfl
theorem tb_ne1 {base : Nat} {w0 W : World} {T : Nat} {GR SV GV : Value} {nx : List Nat} {sts : List (List S95)} {gos : List (List (Int × Int))} {bs : List Nat} (h : BI base w0 W T GR nx sts SV GV gos bs) : some T ≠ SV.ownBlock := fun e => by
  obtain ⟨vs, hv, _⟩ := h.srow
  obtain ⟨cells, hc⟩ := own_typed hv T e.symm
  exact blk_ne h.tb hc (by decide) rfl
theorem map_new {base : Nat} {w0 W : World} {T : Nat} {GR SV GV : Value} {nx : List Nat} {sts : List (List S95)} {gos : List (List (Int × Int))} {bs : List Nat} (h : BI base w0 W T GR nx sts SV GV gos bs) : W.heap.size ∉ bs := fun hm => by
  obtain ⟨i, hi, he⟩ := List.getElem_of_mem hm
  have h1 : bs[i]? = some W.heap.size := by rw [List.getElem?_eq_getElem hi, he]
  obtain ⟨⟨es, cl, hh, _⟩, _⟩ := h.maps i _ _ h1 (List.getElem?_eq_getElem (by rw [← h.blen]; exact hi))
  exact absurd (blk_lt hh) (Nat.lt_irrefl _)
def reg59.T22 : Bool × List (List Nat × List Nat) := (true, [([], []), ([], []), ([1], [1]), ([2], [2]), ([3], [3]), ([], []), ([5], [5]), ([4, 6], [4, 6]), ([0, 0, 1, 2, 3, 4, 5, 6, 7], [0]), ([8, 0, 1, 2, 3, 4, 5, 6, 7], [8]), ([9, 7, 7, 0, 1, 2, 3, 4, 5, 6, 7], [7, 9])])
def reg59.B22 : List Nat := [0, 0, 2, 6, 14, 0, 32, 126, 255, 511, 1023]
theorem reg59.tab22 : rtab .any (opsOf Tryd.f59 22) = reg59.T22 := by kernel_rfl
theorem reg59.bits22 : waitsOk reg59.T22.2 reg59.B22 = true := by kernel_rfl
set_option maxHeartbeats 8000000 in
set_option maxRecDepth 100000 in
theorem build_any (l : List S56) (A : Option Addr) (c0 : Nat) (w : World) (hr0 : Kd.C k56 w A l.length l) (hc0 : l.length ≤ c0) (hg : okG (gr56 l)) (hne : 0 < l.length)
    (r : Option (List (List S95) × List (List (Int × Int)))) (hr : buildP (gr56 l) = some r) :
    Calls Tryd.prog 59 #[.slice A l.length c0] w (BuildPost l A c0 w r) := by
  have HR0 := Lib.hid hr0
  have HG := Lib.hid hg
  have HNE := Lib.hid hne
  have hlen := Lib.hid (show l.length ≤ 8 by have := hg.1; rwa [gr_len] at this)
  have hx := fun W => next_any l A c0 W
  obtain ⟨n0, n1, n2, n3, n4, hnn⟩ := ex5 (nextP_len (gr56 l))
  have HX : Hid (∀ W, Below w.heap.size w W → Calls Tryd.prog 95 #[.slice A l.length c0] W fun x w' => x = .returned (.agg #[.int .i64 n0, .int .i64 n1, .int .i64 n2, .int .i64 n3, .int .i64 n4]) ∧ Below W.heap.size W w') :=
    Lib.hid fun W hb => by
      have := hx W (Kd.C_below hr0 hb) hc0 hg hne
      rw [hnn] at this
      exact this
  have HNN := Lib.hid hnn
  unfold buildP at hr
  obtain ⟨s0, hs0, hr1⟩ := Option.bind_eq_some_iff.1 hr
  rw [gr_len] at hs0
  have hok0 : ∀ x ∈ [(⟨(l.length : Int), 0⟩ : S95)], okItem (gr56 l) x := fun x hx => by
    rw [List.mem_singleton.1 hx]
    exact ⟨Int.natCast_nonneg _, by rw [gr_len]; exact Int.le_refl _, Int.le_refl _⟩
  have hgood0 := closF_good hs0 hok0 (by simp)
  obtain ⟨z0, hz0, hsz0⟩ := closF_some hs0
  have HC0 : Hid (∀ W, Below w.heap.size w W → Calls Tryd.prog 96 #[.slice A l.length c0, .slice (some ⟨W.heap.size, 0, none⟩) 1 1] (W.alloc (.cells #[.int .i64 l.length, .int .i64 0] 95)) fun e w' => ∃ g cap, e = .returned (.slice (some ⟨g, 0, none⟩) s0.length cap) ∧ StRow w' w.heap.size (.slice (some ⟨g, 0, none⟩) s0.length cap) s0 ∧ Below w.heap.size w w' ∧ (W.alloc (.cells #[.int .i64 l.length, .int .i64 0] 95)).grownBy w' (some W.heap.size)) :=
    Lib.hid fun W hb => by
      refine (closure_any l A c0 (.slice (some ⟨W.heap.size, 0, none⟩) 1 1) _ w (W.alloc (.cells #[.int .i64 l.length, .int .i64 0] 95)) hr0 hc0 hg hne (R_one W w.heap.size l.length 0 hb.size) (below_alloc hb _) (by simp) hok0 2000 z0 hz0).mono ?_
      rintro e w' ⟨v1, rfl, hR, hB, hG, _⟩
      rw [← hsz0] at hR
      obtain ⟨g, cap, rfl, _⟩ := Kd.R_form hR (List.length_pos_iff.2 hgood0.2.2)
      exact ⟨g, cap, rfl, R_strow hR hgood0.2.2, hB, hG⟩
  have HRR := Lib.hid (And.intro hr1 hgood0)
  clear hx hr0 hg hne hnn hr hr1 hs0 hok0 hz0 hsz0 hgood0
  go_enter Tryd.func59, Tryd.ntmps59
  go_wp2_with (first | (go_at_call 95; refine (HX.out _ (Below.refl _ _)).mono ?_; rintro e w1 ⟨rfl, hbw⟩; have HB1 := Lib.hid (below_alloc hbw (.cells #[.slice A l.length c0, .slice none 0 0, .slice none 0 0, .int .i64 n0, .int .i64 n1, .int .i64 n2, .int .i64 n3, .int .i64 n4] 87)); have HT := Lib.hid (blk_new w1 (.cells #[.slice A l.length c0, .slice none 0 0, .slice none 0 0, .int .i64 n0, .int .i64 n1, .int .i64 n2, .int .i64 n3, .int .i64 n4] 87)); have HTB := Lib.hid hbw.size; have hcw := HC0.out _ HB1.out; rw [World.size_alloc] at hcw; have HCW := Lib.hid hcw; clear hbw hcw) | (go_at_call 96; go_must (refine HCW.out.mono ?_); rintro e w3 ⟨g, cap, rfl, hst, hb3, hg3⟩; have HT3 := Lib.hid ((hg3.block w1.heap.size (blk_lt (blk_alloc HT.out _)) (by intro e; have := Option.some.inj e; omega)).trans (blk_alloc HT.out (.cells #[.int .i64 l.length, .int .i64 0] 95))); have HBI := Lib.hid (BI.start (GR := .slice A l.length c0) (nx := [n0, n1, n2, n3, n4]) HT3.out HTB.out hb3 hst rfl); have hk1 := (blk_cell (blk_alloc HT3.out (.cells #[.slice (some ⟨g, 0, none⟩) s0.length cap] 94)) 1).trans (show _ = some (Value.slice none 0 0) from rfl); have hk2 := blk_frozen (blk_alloc HT3.out (.cells #[.slice (some ⟨g, 0, none⟩) s0.length cap] 94)) 1; clear hst hb3 hg3 HB1 HT))
  generalize hTT : w1.heap.size = T at HT3 HTB HBI ⊢
  clear hk1 hk2
  generalize hW0 : (w3.alloc (.cells #[.slice (some ⟨g, 0, none⟩) s0.length cap] 94)).setCell ⟨T, 1, none⟩ (.slice (some ⟨w3.heap.size, 0, none⟩) 1 1) = W0 at HBI ⊢
  generalize hG0 : w3.heap.size = G0 at HBI hW0
  rw [← HNN.out] at HBI
  have HST : Hid (buildO (gr56 l) 66 0 [s0] [] = some r ∧ goodS (gr56 l) s0) := HRR
  clear hW0 HT3 HRR HC0 HCW HX hG0 hTT
  go_loopg [5] 66 (fun kq v5 w' => ∃ (i : Nat) (sts : List (List S95)) (gos : List (List (Int × Int))) (SV GV : Value) (bs : List Nat), v5 = .int .i64 (i : Int) ∧ Hid (BI w.heap.size w w' T (.slice A l.length c0) (nextP (gr56 l)) sts SV GV gos bs) ∧ Hid (gos.length = i ∧ i ≤ sts.length ∧ sts.length ≤ 64 ∧ sts ≠ [] ∧ ∀ s ∈ sts, goodS (gr56 l) s) ∧ Hid (buildO (gr56 l) kq i sts gos = some r))
  case atStart => exact ⟨0, [s0], [], _, _, [], rfl, HBI, Lib.hid ⟨rfl, Nat.zero_le _, by simp, by simp, fun s hs => by rw [List.mem_singleton.1 hs]; exact HST.out.2⟩, Lib.hid HST.out.1⟩
  case round =>
    clear HBI HST
    obtain ⟨i, sts, gos, SV, GV, bs, rfl, HBI, HI, HO⟩ := hrel
    obtain ⟨k1, hk1⟩ := buildO_pos HO.out
    subst hk1
    obtain ⟨G, cp, rfl, _⟩ := BI.rows HBI.out HI.out.2.2.2.1
    have hc1 := BI.c1 HBI.out
    have hc2 := BI.c2 HBI.out
    have hmk := fun W => run_makeMap (P := Tryd.prog) 98 W
    by_cases hlt : i < sts.length
    · have hltI : (i : Int) < (sts.length : Int) := Int.ofNat_lt.mpr hlt
      obtain ⟨s, hs⟩ : ∃ s, sts[i]? = some s := ⟨sts[i], List.getElem?_eq_getElem hlt⟩
      obtain ⟨ro, hro, hrn, hrs⟩ := buildO_step hs HO.out
      have HRO := Lib.hid hro
      have HO2 := Lib.hid (And.intro hrn hrs)
      have HSI := Lib.hid hs
      have HGD := Lib.hid (HI.out.2.2.2.2 s (List.mem_of_getElem? hs))
      have hi64 : (i : Int) ≤ 64 := Int.ofNat_le.mpr (Nat.le_trans HI.out.2.1 HI.out.2.2.1)
      have hi00 : (0 : Int) ≤ (i : Int) := Int.natCast_nonneg i
      clear hro hrn hrs hs HO
      have HM := Lib.hid (MapB.made wr)
      have HBM := Lib.hid (BI.own HBI.out HBI.out.below.size (below_alloc (Below.refl _ _) (.map #[] 0)))
      go_wp2_with (first | ((with_reducible refine gate_builtin (b := .append) (xs := #[.tmp 40, .tmp 42]) rfl ?_); at_builtin; go_must (refine print_append_cells (w0 := w) w.heap.size rfl (.tmp 40) (.tmp 42) 83 98 (.map none) 1 8 rfl Tryd.underlying83 info98 rfl (by decide) (by decide) GV gos.length (bs.map fun b => Value.map (some b)) [.map (some wr.heap.size)] rfl (by rw [World.size_alloc]; rfl) rfl (by intro u hu; rw [List.mem_singleton.1 hu]; rfl) HBM.out.grow HBM.out.below HBM.out.below.size (len_small (by have := HI.out; omega)) ?_); intro GV2 w4 ho hb hgg hat; obtain ⟨G2, cp2, rfl, _⟩ := ho.form (Nat.succ_pos _); have HP := Lib.hid (BI.push HBM.out HM.out HBI.out.below.size (map_new HBI.out) ho hb hgg); have hd1 := (World.cell?_of_block (w := wr.alloc (.map #[] 0)) (w' := w4) (a := ⟨T, 2, none⟩) (hgg.block T (blk_lt HBM.out.tb) (tb_ne HBM.out))).trans (BI.c2 HBM.out); have hd2 := blk_frozen ((hgg.block T (blk_lt HBM.out.tb) (tb_ne HBM.out)).trans HBM.out.tb) 2; have hcv := conv_at w4 T (.slice (some ⟨G2, 0, none⟩) (gos.length + 1) cp2); clear ho hb hgg hat))
      clear hcv hd1 hd2 hmk hc1 hc2
      have HQ := Lib.hid (BI.own HP.out HP.out.below.size (below_alloc (Below.refl _ _) (.cells lettersV 5 (9, 10))))
      have hlb := blk_new (w4.setCell ⟨T, 2, none⟩ (.slice (some ⟨G2, 0, none⟩) (gos.length + 1) cp2)) (.cells lettersV 5 (9, 10))
      rw [show (w4.setCell ⟨T, 2, none⟩ (.slice (some ⟨G2, 0, none⟩) (gos.length + 1) cp2)).heap.size = w4.heap.size by simp [World.setCell]] at hlb
      have HLB := Lib.hid hlb
      clear hlb HP HBM HM
      generalize hW5 : (w4.setCell ⟨T, 2, none⟩ (.slice (some ⟨G2, 0, none⟩) (gos.length + 1) cp2)).alloc (.cells lettersV 5 (9, 10)) = W5 at HQ HLB
      replace hW5 : (w4.setCell ⟨T, 2, none⟩ (.slice (some ⟨G2, 0, none⟩) (gos.length + 1) cp2)).alloc (.cells #[.int .u8 65, .int .u8 66, .int .u8 67, .int .u8 68, .int .u8 69, .int .u8 97, .int .u8 98, .int .u8 99, .int .u8 100] 5 (9, 10)) = W5 := hW5
      rw [hW5]
      clear hW5
      generalize hLB : w4.heap.size = LB at HLB ⊢
      generalize hbs : bs ++ [wr.heap.size] = bs2 at HQ
      generalize hG2 : (Value.slice (some ⟨G2, 0, none⟩) (gos.length + 1) cp2) = GV3 at HQ ⊢
      clear hbs hLB HBI
      go_loopg [49] 9 (fun kq v49 w' => ∃ (li : Nat) (sts2 : List (List S95)) (SV2 : Value) (ms : List (Int × Int)), v49 = .int .i64 (li : Int) ∧ kq = 9 - li ∧ li ≤ 9 ∧ Hid (BI w.heap.size w w' T (.slice A l.length c0) (nextP (gr56 l)) sts2 SV2 GV3 (gos ++ [ms]) bs2) ∧ Hid (w'.heap[LB]? = some (.cells lettersV 5 (9, 10))) ∧ Hid (i < sts2.length ∧ sts2.length ≤ 64 ∧ sts2 ≠ [] ∧ (∀ s ∈ sts2, goodS (gr56 l) s) ∧ sts2[i]? = some s) ∧ Hid (lettered ms ∧ ∀ p ∈ ms, p.1 ∉ lettersP.drop li) ∧ Hid (rowO (gr56 l) s (lettersP.drop li) sts2 ms = some ro))
      case atStart => exact ⟨0, sts, _, [], rfl, rfl, by decide, HQ, HLB, Lib.hid ⟨hlt, HI.out.2.2.1, HI.out.2.2.2.1, HI.out.2.2.2.2, HSI.out⟩, Lib.hid ⟨fun p hp => by simp at hp, fun p hp => by simp at hp⟩, HRO⟩
      case round =>
        clear HQ HLB HRO HSI
        obtain ⟨li, sts2, SV2, ms, rfl, hkq, hli, HBI, HLB, HS2, HMS, HRO⟩ := hrel
        by_cases hl9 : li < 9
        · obtain ⟨hla, hlb, hld, hln⟩ := letters_at li hl9
          have hlc := (cell_of_row wr LB li lettersV 5 (9, 10) HLB.out).trans hla
          have hl9I : (li : Int) < 9 := Int.ofNat_lt.mpr hl9
          have hro := HRO.out
          rw [hld] at hro
          generalize lettersP.getD li 0 = c at hlc hlb hld hln hro
          have HRO2 := Lib.hid hro
          have HLT := Lib.hid (And.intro hlb (And.intro hld hln))
          clear hro hlb hld hln hla HRO
          obtain ⟨G, cp, rfl, hrows⟩ := BI.rows HBI.out HS2.out.2.2.1
          obtain ⟨cur, hblk, hcs, hcur⟩ := hrows.blk
          obtain ⟨v, hv, gi, cpi, cells, rfl, h1, h2, h3, h4⟩ := hcur i s HS2.out.2.2.2.2
          have hiL : (i : Int) < (sts2.length : Int) := Int.ofNat_lt.mpr HS2.out.1
          have hk1 := (World.cell?_of_block (w := wr) (w' := wr.alloc (.cells #[.slice none 0 0] 94)) (a := ⟨T, 1, none⟩) (Below.heap_alloc wr _ T (blk_lt HBI.out.tb))).trans (BI.c1 HBI.out)
          have hk2 := ((blk_cell (blk_alloc hblk (.cells #[.slice none 0 0] 94)) i).trans hv)
          have HROW := Lib.hid (And.intro h1 (And.intro h2 h4))
          clear hcur hblk hcs hrows hv h1 h2 h3 h4
          go_wp2
          have HBW := Lib.hid (below_alloc (Below.refl wr.heap.size wr) (.cells #[.slice none 0 0] 94))
          have HB8 := Lib.hid (blk_new wr (.cells #[.slice none 0 0] 94))
          clear hk1 hk2 hlc
          obtain ⟨WL, rfl⟩ : ∃ WL, WL = wr := ⟨_, rfl⟩
          generalize hWA : WL.alloc (.cells #[.slice none 0 0] 94) = WA at HBW HB8 ⊢
          clear hWA
          go_loopg [61] s.length (fun kq v61 w' => ∃ (j : Nat) (lv : Value) (its : List S95), v61 = .int .i64 (j : Int) ∧ kq = s.length - j ∧ j ≤ s.length ∧ Hid (w'.heap[WL.heap.size]? = some (.cells #[lv] 94 (0, 0))) ∧ Hid (Kd.R k95 95 w' WL.heap.size (fun _ => True) lv its) ∧ Hid (its = [] → lv = .slice none 0 0) ∧ Hid (its ++ movedP (gr56 l) c (s.drop j) = movedP (gr56 l) c s ∧ its.length ≤ j ∧ ∀ x ∈ its, okItem (gr56 l) x) ∧ Hid (Below WL.heap.size WL w'))
          case atStart => exact ⟨0, .slice none 0 0, [], rfl, rfl, Nat.zero_le _, HB8, Lib.hid (Kd.R_nil _ _ _ _ _), Lib.hid (fun _ => rfl), Lib.hid ⟨rfl, Nat.le_refl _, fun x hx => by simp at hx⟩, HBW⟩
          case round =>
            clear HBW HB8
            obtain ⟨j, lv, its, rfl, hkq2, hj, HL8, HO, HNIL, HITS, HB⟩ := hrel
            by_cases hjl : j < s.length
            · have hjI : (j : Int) < (s.length : Int) := Int.ofNat_lt.mpr hjl
              have hj0 : (0 : Int) ≤ (j : Int) := Int.natCast_nonneg j
              obtain ⟨ad, eA, hx0, hx1⟩ := at_T95 (Kd.C_below HROW.out.2.2 HB.out) (j : Int) hj0 hjI
              cases eA
              have hd := drop_rd s (j : Int) hj0 hjI
              rw [Int.toNat_natCast, toNat_succ'] at hd
              have hxm := rd_mem s (j : Int) hj0 hjI
              have hit := HITS.out
              rw [hd] at hit
              generalize rd_T95 s (j : Int) = x at *
              obtain ⟨x0, x1⟩ := x
              have hxok := HGD.out.1 _ hxm
              simp only [add_plain, Int.toNat_natCast] at hx0 hx1
              have hs1000 : (s.length : Int) ≤ 1000 := Int.ofNat_le.mpr HGD.out.2.1
              have HXK := Lib.hid (And.intro hxok hit)
              have HBH := Lib.hid (fun W (hb : Below w.heap.size w W) => behind_any l A c0 W (Kd.C_below HR0.out hb) hc0 HG.out HNE.out ⟨x0, x1⟩ hxok)
              have HBE := Lib.hid (BI.own HBI.out HBI.out.below.size HB.out)
              clear hxok hit hxm hd
              have HW1 := Lib.hid (blk_new wr (.cells #[.int .i64 x0, .int .i64 x1] 95))
              have hbe := below_alloc (Below.refl wr.heap.size wr) (.cells #[.int .i64 x0, .int .i64 x1] 95)
              have HBE1 := Lib.hid (below_step (base_below HBE.out.below) hbe)
              have HL81 := Lib.hid (blk_alloc HL8.out (.cells #[.int .i64 x0, .int .i64 x1] 95))
              have HO1 := Lib.hid (Kd.R_alloc HO.out (.cells #[.int .i64 x0, .int .i64 x1] 95))
              have HB1 := Lib.hid (below_alloc HB.out (.cells #[.int .i64 x0, .int .i64 x1] 95))
              have hy0 := (blk_cell HW1.out 0).trans (show _ = some (Value.int .i64 x0) from rfl)
              have hy1 := (blk_cell HW1.out 1).trans (show _ = some (Value.int .i64 x1) from rfl)
              clear hbe HL8 HO HB HBE
              have hcal := HBH.out _ HBE1.out
              obtain ⟨bc, hbc⟩ : ∃ bc, behindP (gr56 l) ⟨x0, x1⟩ = bc := ⟨_, rfl⟩
              rw [hbc] at hcal
              have HCAL := Lib.hid hcal
              clear hcal HBH
              have hmv : movedP (gr56 l) c (⟨x0, x1⟩ :: s.drop (j + 1)) = if (bc == c) = true then ⟨x0, x1 + 1⟩ :: movedP (gr56 l) c (s.drop (j + 1)) else movedP (gr56 l) c (s.drop (j + 1)) := by
                unfold movedP
                rw [List.filter_cons, hbc]
                split <;> rfl
              have HMV := Lib.hid hmv
              have HBC := Lib.hid hbc
              clear hmv hbc
              cases hec : bc == c
              · have hit := HXK.out.2
                rw [HMV.out, hec] at hit
                simp only [Bool.false_eq_true, if_false] at hit
                have HIT := Lib.hid hit
                clear hit
                go_wp2_with (go_at_call 97; refine HCAL.out.mono ?_; rintro e w2 ⟨rfl, hbw⟩)
                go_roundg (s.length - (j + 1))
                case measure => exact Nat.sub_lt_sub_left hjl (Nat.lt_succ_self j) |> fun h => by rw [hkq2]; exact h
                case rel => exact ⟨j + 1, lv, its, rfl, rfl, hjl, Lib.hid (blk_below HL81.out hbw), Lib.hid (Kd.R_below HO1.out hbw), HNIL, Lib.hid ⟨HIT.out.1, Nat.le_succ_of_le HITS.out.2.1, HITS.out.2.2⟩, Lib.hid (below_step HB1.out hbw)⟩
              · have hit := HXK.out.2
                rw [HMV.out, hec] at hit
                simp only [if_true] at hit
                have HIT := Lib.hid hit
                clear hit
                have hx15 : x1 < 5 := behind_lt HG.out HXK.out.1 HBC.out (beq_iff_eq.1 hec) HLT.out.1
                have hx10 : (0 : Int) ≤ x1 := HXK.out.1.2.2
                go_wp2_with (first | (go_at_call 97; refine HCAL.out.mono ?_; rintro e w2 ⟨rfl, hbw⟩; have hz0 := (blk_cell (blk_below HW1.out hbw) 0).trans (show _ = some (Value.int .i64 x0) from rfl); have hz1 := (blk_cell (blk_below HW1.out hbw) 1).trans (show _ = some (Value.int .i64 x1) from rfl); have HL82 := Lib.hid (blk_below HL81.out hbw); have hz2 := (blk_cell HL82.out 0).trans (show _ = some lv from rfl); have HO2' := Lib.hid (Kd.R_below HO1.out hbw); have HB2 := Lib.hid (below_step HB1.out hbw); clear hy0 hy1 hbw) | ((with_reducible refine gate_builtin (b := .append) (xs := #[.tmp 70, .tmp 77]) rfl ?_); at_builtin; go_must (refine Kd.R_append k95 (w0 := WL) WL.heap.size rfl (.tmp 70) (.tmp 77) 94 95 (.agg #[(.int .i64 0), (.int .i64 0)]) 16 rfl Tryd.underlying94 info95 rfl (by decide) (by decide) lv its (⟨x0, x1 + 1⟩ : S95) [.int .i64 x0, .int .i64 (x1 + 1)] (fun _ => True) (fun _ => False) rfl rfl (k95_mkM _ _ _ (⟨x0, x1 + 1⟩ : S95)) (fun _ hk => hk.elim) (fun _ _ => trivial) HO2'.out HB2.out (below_size HB2.out) (len_big2 HITS.out.2.1 hjl HGD.out.2.1) ?_); intro v4 w4' ho hb hgg hat; obtain ⟨g4, cp4, hv4, _⟩ := Kd.R_form ho (by simp); rw [List.length_append, List.length_singleton] at hv4; subst hv4; have hl4 := (hgg.block _ (blk_lt HL82.out) (Kd.R_ne HO2'.out HL82.out (by decide))).trans HL82.out; have hq1 := (blk_cell hl4 0).trans (show _ = some lv from rfl); have hq2 := blk_frozen hl4 0; have HL5 := Lib.hid (blk_put hl4 0 (.slice (some ⟨g4, 0, none⟩) (its.length + 1) cp4) (show _ = #[Value.slice (some ⟨g4, 0, none⟩) (its.length + 1) cp4] from rfl)); have HR5 := Lib.hid (Kd.R_set ho hl4 (by decide) 0 (.slice (some ⟨g4, 0, none⟩) (its.length + 1) cp4)); have HB5 := Lib.hid (below_set (g := WL.heap.size) (j := 0) (v := .slice (some ⟨g4, 0, none⟩) (its.length + 1) cp4) hb (Nat.le_refl _)); clear ho hb hgg hat hl4 hz0 hz1 hz2))
                go_roundg (s.length - (j + 1))
                case measure => exact Nat.sub_lt_sub_left hjl (Nat.lt_succ_self j) |> fun h => by rw [hkq2]; exact h
                case rel => exact ⟨j + 1, .slice (some ⟨g4, 0, none⟩) (its.length + 1) cp4, its ++ [⟨x0, x1 + 1⟩], rfl, rfl, hjl, HL5, HR5, Lib.hid (fun h => by simp at h), Lib.hid ⟨by rw [List.append_assoc]; exact HIT.out.1, by rw [List.length_append]; exact Nat.succ_le_succ HITS.out.2.1, ok_snoc HITS.out.2.2 ⟨HXK.out.1.1, HXK.out.1.2.1, Int.add_nonneg HXK.out.1.2.2 (by decide)⟩⟩, HB5⟩
            · have hjs : s.drop j = [] := List.drop_of_length_le (Nat.not_lt.1 hjl)
              have hit := HITS.out.1
              rw [hjs] at hit
              have hit2 : its = movedP (gr56 l) c s := (List.append_nil its).symm.trans hit
              have HIT := Lib.hid hit2
              have HITOK := Lib.hid HITS.out.2.2
              have HBE := Lib.hid (BI.own HBI.out HBI.out.below.size HB.out)
              have HLB2 := Lib.hid (blk_below HLB.out HB.out)
              have hjlI : ¬ (j : Int) < (s.length : Int) := fun h => hjl (Int.ofNat_lt.mp h)
              have hlv := (blk_cell HL8.out 0).trans (show _ = some lv from rfl)
              have hli0 : (0 : Int) ≤ (li : Int) := Int.natCast_nonneg li
              clear hit hit2 hjs HITS HROW hkq2
              by_cases hin : its = []
              · have hmn : movedP (gr56 l) c s = [] := by rw [← HIT.out]; exact hin
                have HRO3 := Lib.hid (rowO_stay hmn HRO2.out)
                have hlvn := HNIL.out hin
                subst hlvn
                clear hmn HRO2 HNIL HO HBI HLB
                go_wp2_with ((with_reducible refine gate_dst (N := 81) rfl ?_); go_must (refine eqnil_yes rfl 94 94 95 (.tmp 80) rfl Tryd.underlying94 rfl ?_))
                go_roundg (9 - (li + 1))
                case measure => exact lt_sub9 hl9
                case rel => exact ⟨li + 1, sts2, _, ms, rfl, rfl, hl9, HBE, HLB2, HS2, Lib.hid ⟨HMS.out.1, fun p hp h => HMS.out.2 p hp (by rw [HLT.out.2.1]; exact List.mem_cons_of_mem _ h)⟩, HRO3⟩
              · have hmn : movedP (gr56 l) c s ≠ [] := fun e => hin (HIT.out.trans e)
                obtain ⟨ys, hys, hgy, hcs⟩ := rowO_step hmn (by rw [← HIT.out]; exact HITOK.out) HRO2.out
                rw [← HIT.out] at hys
                have hcl := closF_any l A c0 lv its WL wr (Kd.C_below HR0.out HBI.out.below) hc0 HG.out HNE.out HO.out HB.out hin HITOK.out ys hys
                obtain ⟨gl, cpl, hlve, _⟩ := Kd.R_form HO.out (List.length_pos_iff.2 hin)
                subst hlve
                have HCL := Lib.hid hcl
                have HGY := Lib.hid hgy
                have HCS := Lib.hid hcs
                clear hcl hgy hcs hys hmn HRO2 HNIL HBE HLB2 HIT HITOK
                rcases HCS.out with ⟨hk, hcs⟩ | ⟨hk, hcs⟩
                · have hk0 : findI sts2 ys 0 < 0 := hk
                  have HCS2 := Lib.hid hcs
                  clear hk hcs HCS
                  go_wp2_with (first | ((with_reducible refine gate_dst (N := 81) rfl ?_); go_must (refine eqnil_no rfl 94 94 95 (.tmp 80) ⟨gl, 0, none⟩ its.length cpl rfl Tryd.underlying94 rfl ?_)) | (go_at_call 96; go_must (refine HCL.out.mono ?_); rintro e w3 ⟨g1, cap1, rfl, ho3, hb3, hg3⟩; have HL3 := Lib.hid (blk_grown HL8.out hg3 (Kd.R_ne HO.out HL8.out (by decide))); have hq1 := (blk_cell HL3.out 0).trans (show _ = some (Value.slice (some ⟨gl, 0, none⟩) its.length cpl) from rfl); have hq2 := blk_frozen HL3.out 0; have HL4 := Lib.hid (blk_put HL3.out 0 (.slice (some ⟨g1, 0, none⟩) ys.length cap1) (show _ = #[Value.slice (some ⟨g1, 0, none⟩) ys.length cap1] from rfl)); have HR4 := Lib.hid (Kd.R_set ho3 HL3.out (by decide) 0 (.slice (some ⟨g1, 0, none⟩) ys.length cap1)); have HB4 := Lib.hid (below_set (g := WL.heap.size) (j := 0) (v := .slice (some ⟨g1, 0, none⟩) ys.length cap1) hb3 (Nat.le_refl _)); have HBI4 := Lib.hid (BI.own HBI.out HBI.out.below.size HB4.out); have hd1 := BI.c1 HBI4.out; have HIF := Lib.hid (idx_at HBI4.out HR4.out HL4.out HS2.out.2.1 HS2.out.2.2.1 HS2.out.2.2.2.1 HGY.out); clear ho3 hb3 hg3 hlv) | (go_at_call 98; go_must (refine HIF.out.mono ?_); rintro e w5 ⟨rfl, ⟨q5, hq5⟩⟩; have HB5 := Lib.hid (at_drawn hq5 (pw_below_drewN HB4.out q5)); have HL5 := Lib.hid (blk_at hq5.symm HL4.out); have HR5 := Lib.hid (R_at hq5 HR4.out); have HBI5 := Lib.hid (BI.own HBI.out HBI.out.below.size HB5.out); have hz1 := BI.c1 HBI5.out; have hz2 := (blk_cell HL5.out 0).trans (show _ = some (Value.slice (some ⟨g1, 0, none⟩) ys.length cap1) from rfl); clear hd1 hq1 hq2 hq5))
                  obtain ⟨vs, hvs, hvs2⟩ := HBI5.out.srow
                  have HVS := Lib.hid (And.intro hvs hvs2)
                  clear hvs hvs2
                  refine start_ (n := 11) (S := fun w' => w'.cell? ⟨T, 1, none⟩ = some (.slice (some ⟨G, 0, none⟩) sts2.length cp) ∧ w'.cell? ⟨WL.heap.size, 0, none⟩ = some (.slice (some ⟨g1, 0, none⟩) ys.length cap1)) (ds := [7, 10]) #[false, false, false, false, false, false, false, false, false, false, false] (by kernel_rfl) rfl rfl ⟨hz1, hz2⟩ (fun hHeld => ?_); refine with_tabW reg59.tab22 reg59.bits22 (fun HT_ HW_ => ?_)
                  clear hz1 hz2
                  have HB6 := Lib.hid (below_drew1 HB5.out)
                  have HL6 := Lib.hid (blk_drew HL5.out)
                  have HBI6 := Lib.hid (BI.own HBI.out HBI.out.below.size HB6.out)
                  have HVS6 := Lib.hid (sts_drew HVS.out)
                  have HSR6 := Lib.hid ((R_strow (Kd.R_drew HR5.out) HGY.out.2.2).lower HBI.out.below.size)
                  clear HVS HB5 HL5 HR5 HBI5
                  generalize w5.drew = w6 at hHeld HB6 HL6 HBI6 HVS6 HSR6 ⊢
                  refine pure_ (i := 0) (N := some 98) (v := ?_) (a' := ?_) #[true, false, false, false, false, false, false, false, false, false, false] rfl rfl (any_of HT_.out (by kernel_rfl)) (fun _ _ _ h => h) (Or.inl ⟨by rfl, ?_⟩) ?_ ?_
                  rotate_left
                  · intro w'
                    go_simp
                    with_reducible rfl
                  rotate_left
                  · simp only [Act.put, List.setIfInBounds_toArray, List.set_cons_zero, List.set_cons_succ, i64_w, i32_w]
                    rfl
                  refine pure_ (i := 1) (N := some 99) (v := ?_) (a' := ?_) #[true, true, false, false, false, false, false, false, false, false, false] rfl rfl (any_of HT_.out (by kernel_rfl)) (fun _ _ _ h => h) (Or.inl ⟨by rfl, ?_⟩) ?_ ?_
                  rotate_left
                  · intro w'
                    go_simp
                    with_reducible rfl
                  rotate_left
                  · simp only [Act.put, List.setIfInBounds_toArray, List.set_cons_zero, List.set_cons_succ, i64_w, i32_w]
                    rfl
                  refine pure_ (i := 2) (N := some 100) (v := ?_) (a' := ?_) #[true, true, true, false, false, false, false, false, false, false, false] rfl rfl (any_of HT_.out (by kernel_rfl)) (fun _ _ _ h => h) (Or.inl ⟨by rfl, ?_⟩) ?_ ?_
                  rotate_left
                  · intro w'
                    go_simp
                    with_reducible rfl
                  rotate_left
                  · simp only [Act.put, List.setIfInBounds_toArray, List.set_cons_zero, List.set_cons_succ, i64_w, i32_w]
                    rfl
                  refine pure_ (i := 3) (N := some 101) (v := ?_) (a' := ?_) #[true, true, true, true, false, false, false, false, false, false, false] rfl rfl (any_of HT_.out (by kernel_rfl)) (fun _ _ _ h => h) (Or.inl ⟨by rfl, ?_⟩) ?_ ?_
                  rotate_left
                  · intro w'
                    go_simp
                    with_reducible rfl
                  rotate_left
                  · simp only [Act.put, List.setIfInBounds_toArray, List.set_cons_zero, List.set_cons_succ, i64_w, i32_w]
                    rfl
                  refine take_ (i := 4) (N := some 102) (v := ?_) (a' := ?_) #[true, true, true, true, true, false, false, false, false, false, false] rfl rfl (take_ofW HT_.out HW_.out (by kernel_rfl)) (fun _ _ _ h => h) (Or.inl ⟨by rfl, ?_⟩) hHeld ?_ ?_
                  rotate_left
                  · rintro w' ⟨s0, s1⟩
                    go_simp
                    with_reducible rfl
                  rotate_left
                  · simp only [Act.put, List.setIfInBounds_toArray, List.set_cons_zero, List.set_cons_succ, i64_w, i32_w]
                    rfl
                  refine take_ (i := 5) (N := some 103) (v := ?_) (a' := ?_) #[true, true, true, true, true, true, false, false, false, false, false] rfl rfl (take_ofW HT_.out HW_.out (by kernel_rfl)) (fun _ _ _ h => h) (Or.inl ⟨by rfl, ?_⟩) hHeld ?_ ?_
                  rotate_left
                  · rintro w' ⟨s0, s1⟩
                    go_simp
                    with_reducible rfl
                  rotate_left
                  · simp only [Act.put, List.setIfInBounds_toArray, List.set_cons_zero, List.set_cons_succ, i64_w, i32_w]
                    rfl
                  refine one_ (i := 6) (N := some 104) #[true, true, true, true, true, true, true, false, false, false, false] rfl rfl (one_of HT_.out (by kernel_rfl)) (by decide) (fun K hK => ?_)
                  refine value_ (w1 := ?_) (v := ?_) (by rfl) rfl ?_ ?_
                  rotate_left 2
                  · go_simp
                    constructor
                    · rfl
                    · rfl
                  have HB7 := Lib.hid (below_alloc HB6.out (.cells #[.slice (some ⟨g1, 0, none⟩) ys.length cap1] 94))
                  refine hK.out _ _ ⟨(BI.c1 (BI.own HBI.out HBI.out.below.size HB7.out)), ((blk_cell (blk_alloc HL6.out _) 0).trans rfl)⟩ (fun hHeld => ?_)
                  clear hK K
                  refine norm_ (a' := ?_) ?_ ?_
                  rotate_left
                  · show Act.put _ (some 104) _ = _
                    simp only [Act.put, List.setIfInBounds_toArray, List.set_cons_zero, List.set_cons_succ, i64_w, i32_w]
                    rfl
                  refine last_ (i := 7) (N := some 105) #[true, true, true, true, true, true, true, true, false, false, false] rfl rfl (one_of HT_.out (by kernel_rfl)) (by decide) (fun K hK => ?_)
                  refine step_append_cells (w0 := w) w.heap.size (by rfl) (.tmp 102) (.tmp 104) 23 94 (.slice none 0 0) 1 24 rfl Tryd.underlying23 info94 rfl (by decide) (by decide) (.slice (some ⟨G, 0, none⟩) sts2.length cp) sts2.length vs [.slice (some ⟨g1, 0, none⟩) ys.length cap1] rfl rfl rfl (by intro u hu; rw [List.mem_singleton.1 hu]; rfl) HVS6.out.1 HBI6.out.below HBI6.out.below.size (len_small2 HS2.out.2.1) ?_
                  intro SV3 w8 ho8 hb8 hg8 _
                  obtain ⟨G3, cp3, rfl, _⟩ := ho8.form (Nat.succ_pos _)
                  have HBI8 := Lib.hid (BI.snoc HBI6.out HVS6.out.1 HVS6.out.2 HSR6.out ho8 hb8 hg8)
                  have HLB8 := Lib.hid (letters_snoc (v := .slice (some ⟨G3, 0, none⟩) (sts2.length + 1) cp3) HBI6.out (blk_below HLB.out HB6.out) hg8)
                  have hk1 := (blk_cell (blk_grown HBI6.out.tb hg8 (tb_ne1 HBI6.out)) 1).trans (show _ = some (Value.slice (some ⟨G, 0, none⟩) sts2.length cp) by simp [Array.getElem?_append])
                  have hk2 := blk_frozen (blk_grown HBI6.out.tb hg8 (tb_ne1 HBI6.out)) 1
                  clear ho8 hb8 hg8
                  refine hK.out _ _ ?_
                  clear hK K
                  refine norm_ (a' := ?_) ?_ ?_
                  rotate_left
                  · show Act.put _ (some 105) _ = _
                    simp only [Act.put, List.setIfInBounds_toArray, List.set_cons_zero, List.set_cons_succ, i64_w, i32_w]
                    rfl
                  refine pure_ (i := 8) (N := some 106) (v := ?_) (a' := ?_) #[true, true, true, true, true, true, true, true, true, false, false] rfl rfl (any_of HT_.out (by kernel_rfl)) (fun _ _ _ h => h) (Or.inl ⟨by rfl, ?_⟩) ?_ ?_
                  rotate_left
                  · intro w'
                    go_simp
                    with_reducible rfl
                  rotate_left
                  · simp only [Act.put, List.setIfInBounds_toArray, List.set_cons_zero, List.set_cons_succ, i64_w, i32_w]
                    rfl
                  refine pure_ (i := 9) (N := some 107) (v := ?_) (a' := ?_) #[true, true, true, true, true, true, true, true, true, true, false] rfl rfl (any_of HT_.out (by kernel_rfl)) (fun _ _ _ h => h) (Or.inl ⟨by rfl, ?_⟩) ?_ ?_
                  rotate_left
                  · intro w'
                    go_simp
                    with_reducible rfl
                  rotate_left
                  · simp only [Act.put, List.setIfInBounds_toArray, List.set_cons_zero, List.set_cons_succ, i64_w, i32_w]
                    rfl
                  refine last_ (i := 10) (N := none) #[true, true, true, true, true, true, true, true, true, true, true] rfl rfl (one_of HT_.out (by kernel_rfl)) (by decide) (fun K hK => ?_)
                  refine skip_ (w1 := ?_) (by rfl) rfl ?_ ?_
                  rotate_left
                  · go_simp
                    rfl
                  refine hK.out _ _ ?_
                  clear hK K
                  refine done_ (done_of HT_.out (by kernel_rfl)) ?_

                  clear hHeld hk1 hk2
                  have hz1 := BI.c1 HBI8.out
                  rcases HCS2.out with ⟨h65, hron⟩ | ⟨h64, hro3⟩
                  · have hbig : (64 : Int) < (sts2.length : Int) + 1 := Int.ofNat_lt.mpr h65
                    have HRN := Lib.hid (HO2.out.1 hron)
                    have HBB := Lib.hid HBI8.out.below
                    clear h65 hron HCS2
                    go_wp2
                    go_ret2
                    exact build_no HRN.out HBB.out
                  · have h64I : (sts2.length : Int) + 1 ≤ 64 := Int.ofNat_le.mpr h64
                    have HRO3 := Lib.hid hro3
                    have HS3 := Lib.hid (hs_snoc HS2.out h64 HGY.out)
                    clear h64 hro3 HCS2
                    obtain ⟨GM, cpm, mb, ms0, hgv, hgc, hcm, hbm, hgm, hmb⟩ := BI.map_at HBI8.out i (by rw [List.length_append, HI.out.1]; exact Nat.lt_succ_self i)
                    rw [List.getElem?_append_right (by rw [HI.out.1]; exact Nat.le_refl _), HI.out.1, Nat.sub_self] at hgm
                    cases hgm
                    obtain ⟨hfr, hlt2, hno2⟩ := fresh_key (k := (sts2.length : Int)) (by rw [← HLT.out.2.1]; exact HMS.out) HLT.out.1 HLT.out.2.2
                    obtain ⟨W9, hrun9, hm9, hg9⟩ := map_put _ mb ms hmb HMS.out.1 c (sts2.length : Int) HLT.out.1 hfr
                    have HB9 := Lib.hid (BI.put HBI8.out hbm (by rw [List.getElem?_append_right (by rw [HI.out.1]; exact Nat.le_refl _), HI.out.1, Nat.sub_self]; rfl) hm9 hg9)
                    rw [set_last _ _ _ _ HI.out.1] at HB9
                    have HLB9 := Lib.hid (map_far HLB8.out hmb hg9)
                    have hrun9' := Lib.hid hrun9
                    have HK9 := Lib.hid (And.intro hlt2 hno2)
                    have hgl : (gos ++ [ms]).length = i + 1 := by rw [List.length_append, HI.out.1]; rfl
                    rw [hgl] at hgv hgc
                    have hz3 := BI.c2 HBI8.out
                    rw [hgv] at hz3
                    have hcmI : (i : Int) < (i : Int) + 1 := Int.lt_succ i
                    have hi00 : (0 : Int) ≤ (i : Int) := Int.natCast_nonneg i
                    clear hgl hgv hbm hmb hfr hlt2 hno2 hrun9 hm9 hg9
                    go_wp2_with (at_mapUpdate; go_must (refine mapupd_event rfl 98 (.tmp 120) (.tmp 121) (.tmp 122) (.map (some mb)) (.int .u8 c) (.int .i64 (sts2.length : Int)) rfl rfl rfl rfl rfl hrun9'.out ?_))
                    go_roundg (9 - (li + 1))
                    case measure => rw [hkq]; exact lt_sub9 hl9
                    case rel => exact ⟨li + 1, sts2 ++ [ys], _, ms ++ [(c, (sts2.length : Int))], rfl, rfl, hl9, HB9, HLB9, HS3, Lib.hid ⟨HK9.out.1, HK9.out.2⟩, HRO3⟩
                · have hk0 : 0 ≤ findI sts2 ys 0 := Int.not_lt.1 hk
                  rcases hcs with ⟨h1, _⟩ | ⟨_, hro3⟩
                  · exact absurd HS2.out.2.1 (Nat.not_le.2 h1)
                  have HRO3 := Lib.hid hro3
                  have h64 : (sts2.length : Int) ≤ 64 := Int.ofNat_le.mpr HS2.out.2.1
                  clear hk hro3 HCS
                  go_wp2_with (first | ((with_reducible refine gate_dst (N := 81) rfl ?_); go_must (refine eqnil_no rfl 94 94 95 (.tmp 80) ⟨gl, 0, none⟩ its.length cpl rfl Tryd.underlying94 rfl ?_)) | (go_at_call 96; go_must (refine HCL.out.mono ?_); rintro e w3 ⟨g1, cap1, rfl, ho3, hb3, hg3⟩; have HL3 := Lib.hid (blk_grown HL8.out hg3 (Kd.R_ne HO.out HL8.out (by decide))); have hq1 := (blk_cell HL3.out 0).trans (show _ = some (Value.slice (some ⟨gl, 0, none⟩) its.length cpl) from rfl); have hq2 := blk_frozen HL3.out 0; have HL4 := Lib.hid (blk_put HL3.out 0 (.slice (some ⟨g1, 0, none⟩) ys.length cap1) (show _ = #[Value.slice (some ⟨g1, 0, none⟩) ys.length cap1] from rfl)); have HR4 := Lib.hid (Kd.R_set ho3 HL3.out (by decide) 0 (.slice (some ⟨g1, 0, none⟩) ys.length cap1)); have HB4 := Lib.hid (below_set (g := WL.heap.size) (j := 0) (v := .slice (some ⟨g1, 0, none⟩) ys.length cap1) hb3 (Nat.le_refl _)); have HBI4 := Lib.hid (BI.own HBI.out HBI.out.below.size HB4.out); have hd1 := BI.c1 HBI4.out; have HIF := Lib.hid (idx_at HBI4.out HR4.out HL4.out HS2.out.2.1 HS2.out.2.2.1 HS2.out.2.2.2.1 HGY.out); clear ho3 hb3 hg3 hlv) | (go_at_call 98; go_must (refine HIF.out.mono ?_); rintro e w5 ⟨rfl, ⟨q5, hq5⟩⟩; have HB5 := Lib.hid (at_drawn hq5 (pw_below_drewN HB4.out q5)); have HL5 := Lib.hid (blk_at hq5.symm HL4.out); have HR5 := Lib.hid (R_at hq5 HR4.out); have HBI5 := Lib.hid (BI.own HBI.out HBI.out.below.size HB5.out); have hz1 := BI.c1 HBI5.out; have hz2 := (blk_cell HL5.out 0).trans (show _ = some (Value.slice (some ⟨g1, 0, none⟩) ys.length cap1) from rfl); clear hd1 hq1 hq2 hq5; obtain ⟨GM, cpm, mb, ms0, hgv, hgc, hcm, hbm, hgm, hmb⟩ := BI.map_at HBI5.out i (by rw [List.length_append, HI.out.1]; exact Nat.lt_succ_self i); rw [List.getElem?_append_right (by rw [HI.out.1]; exact Nat.le_refl _), HI.out.1, Nat.sub_self] at hgm; cases hgm; obtain ⟨hfr, hlt2, hno2⟩ := fresh_key (k := (findI sts2 ys 0)) (by rw [← HLT.out.2.1]; exact HMS.out) HLT.out.1 HLT.out.2.2; obtain ⟨W9, hrun9, hm9, hg9⟩ := map_put w5 mb ms hmb HMS.out.1 c (findI sts2 ys 0) HLT.out.1 hfr; have HB9 := Lib.hid (BI.put HBI5.out hbm (by rw [List.getElem?_append_right (by rw [HI.out.1]; exact Nat.le_refl _), HI.out.1, Nat.sub_self]; rfl) hm9 hg9); rw [set_last _ _ _ _ HI.out.1] at HB9; have HLB9 := Lib.hid (map_far (blk_below HLB.out HB5.out) hmb hg9); have hrun9' := Lib.hid hrun9; have HK9 := Lib.hid (And.intro hlt2 hno2); have hgl : (gos ++ [ms]).length = i + 1 := (by rw [List.length_append, HI.out.1]; rfl); rw [hgl] at hgv hgc; have hz3 := BI.c2 HBI5.out; rw [hgv] at hz3; have hcmI : (i : Int) < (i : Int) + 1 := Int.lt_succ i; have hi00 : (0 : Int) ≤ (i : Int) := Int.natCast_nonneg i; clear hgl hgv hbm hmb hfr hlt2 hno2 hrun9 hm9 hg9) | (at_mapUpdate; go_must (refine mapupd_event rfl 98 (.tmp 120) (.tmp 121) (.tmp 122) (.map (some mb)) (.int .u8 c) (.int .i64 (findI sts2 ys 0)) rfl rfl rfl rfl rfl hrun9'.out ?_)))
                  go_roundg (9 - (li + 1))
                  case measure => rw [hkq]; exact lt_sub9 hl9
                  case rel => exact ⟨li + 1, sts2, _, ms ++ [(c, findI sts2 ys 0)], rfl, rfl, hl9, HB9, HLB9, HS2, Lib.hid ⟨HK9.out.1, HK9.out.2⟩, HRO3⟩
        · have hl9e : li = 9 := Nat.le_antisymm hli (Nat.not_lt.1 hl9)
          have hro := HRO.out
          rw [hl9e] at hro
          have HRE := Lib.hid (HO2.out.2 _ _ (rowO_end hro))
          have hl9n : ¬ (li : Int) < 9 := fun h => hl9 (Int.ofNat_lt.mp h)
          clear hl9e hro HRO
          go_wp2
          go_roundg k1
          case measure => exact Nat.lt_succ_self k1
          case rel => exact ⟨i + 1, sts2, gos ++ [ms], _, _, bs2, rfl, HBI, Lib.hid ⟨by rw [List.length_append, HI.out.1]; rfl, HS2.out.1, HS2.out.2.1, HS2.out.2.2.1, HS2.out.2.2.2.1⟩, HRE⟩
    · have HRE := Lib.hid (buildO_end hlt HO.out)
      have hnI : ¬ (i : Int) < (sts.length : Int) := fun h => hlt (Int.ofNat_lt.mp h)
      have HLE := Lib.hid (show gos.length = sts.length from HI.out.1.trans (Nat.le_antisymm HI.out.2.1 (Nat.not_lt.1 hlt)))
      clear HO hmk hc2
      go_wp2
      go_ret2
      exact build_yes HRE.out HBI.out HI.out.2.2.2.2 HI.out.2.2.2.1 HLE.out
end Go.Proofs.YtpmmfckgfbdboaaDoor.G
end

section
namespace Go.Proofs.YtpmmfckgfbdboaaDoor.G
open Go.RowKit Go.Proofs.YtpmmfckgfbdboaaDoorW.PrintWords Go.Proofs.YtpmmfckgfbdboaaDoorW.PrintLast Go.Proofs.YtpmmfckgfbdboaaDoorW.PrintMore
open Go.Shelf Go.Lib
set_option linter.unusedVariables false
set_option linter.unusedSimpArgs false
theorem BI.lower {base base' : Nat} {w0 w1 W : World} {T : Nat} {GR SV GV : Value} {nx : List Nat} {sts : List (List S95)} {gos : List (List (Int × Int))} {bs : List Nat} (h : BI base w1 W T GR nx sts SV GV gos bs) (hb : base' ≤ base) (hB : Below base' w0 W) : BI base' w0 W T GR nx sts SV GV gos bs where
  tb := h.tb
  tbase := Nat.le_trans hb h.tbase
  srow := by
    obtain ⟨vs, h1, h2⟩ := h.srow
    exact ⟨vs, own_weaken h1 hb, fun i s hs => by
      obtain ⟨v, hv, hr⟩ := h2 i s hs
      exact ⟨v, hv, hr.lower hb⟩⟩
  grow := own_weaken h.grow hb
  blen := h.blen
  bnd := h.bnd
  maps := fun i b ms h1 h2 => ⟨(h.maps i b ms h1 h2).1, Nat.le_trans hb (h.maps i b ms h1 h2).2⟩
  below := hB
/-- What read leaves. -/
def ReadPost (l : List S56) (A : Option Addr) (c0 : Nat) (w : World) (e : Ending) (w' : World) : Prop :=
  (validB (gr56 l) = false ∧ e = .returned (.tuple #[.pointer none, .int .i64 2]) ∧ Below w.heap.size w w') ∨
  (validB (gr56 l) = true ∧ refStates (gr56 l) = none ∧ e = .returned (.tuple #[.pointer none, .int .i64 6]) ∧ Below w.heap.size w w') ∨
  (validB (gr56 l) = true ∧ ∃ F T SV GV bs, refStates (gr56 l) = some F ∧ e = .returned (.tuple #[.pointer (some ⟨T, 0, none⟩), .int .i64 0]) ∧ BI w.heap.size w w' T (.slice A l.length c0) (nextP (gr56 l)) F SV GV (gosOf (gr56 l) F F) bs ∧ F ≠ [])
theorem read_no {l : List S56} {A : Option Addr} {c0 : Nat} {w w' : World} (h : validB (gr56 l) = false) (hb : Below w.heap.size w w') : ReadPost l A c0 w (.returned (.tuple #[.pointer none, .int .i64 2])) w' := .inl ⟨h, rfl, hb⟩
theorem read_of {l : List S56} {A : Option Addr} {c0 : Nat} {w w1 w' : World} {e : Ending} (h : validB (gr56 l) = true) (hb : Below w.heap.size w w1) (hp : BuildPost l A c0 w1 ((refStates (gr56 l)).map fun F => (F, gosOf (gr56 l) F F)) e w') : ReadPost l A c0 w e w' := by
  cases hr : refStates (gr56 l) with
  | none =>
    rw [hr] at hp
    obtain ⟨h1, h2⟩ := hp.1 rfl
    exact .inr (.inl ⟨h, hr, h1, below_step hb h2⟩)
  | some F =>
    rw [hr] at hp
    obtain ⟨T, SV, GV, bs, h1, h2, h3, h4, h5⟩ := hp.2 F (gosOf (gr56 l) F F) rfl
    exact .inr (.inr ⟨h, F, T, SV, GV, bs, hr, h1, h2.lower hb.size (below_step hb h2.below), h4⟩)
theorem build_ref (l : List S56) (A : Option Addr) (c0 : Nat) (w : World) (hr0 : Kd.C k56 w A l.length l) (hc0 : l.length ≤ c0) (hv : validB (gr56 l) = true) :
    Calls Tryd.prog 59 #[.slice A l.length c0] w (BuildPost l A c0 w ((refStates (gr56 l)).map fun F => (F, gosOf (gr56 l) F F))) := by
  obtain ⟨hg, hne⟩ := validB_ok hv
  have hne' : 0 < l.length := by
    rcases Nat.eq_zero_or_pos l.length with h | h
    · rw [List.length_eq_zero_iff] at h
      subst h
      exact absurd rfl hne
    · exact h
  exact build_any l A c0 w hr0 hc0 hg hne' _ (buildP_ref hg)
set_option maxHeartbeats 1000000 in
theorem read_any (l : List S56) (A : Option Addr) (c0 : Nat) (w : World) (hr0 : Kd.C k56 w A l.length l) (hc0 : l.length ≤ c0) :
    Calls Tryd.prog 45 #[.slice A l.length c0] w (ReadPost l A c0 w) := by
  have hv := tables_grammar_valid.calls 40 A c0 l _ w hr0 hc0 (valid_f l 40 (Nat.le_refl _))
  have HBD := Lib.hid (fun (h : validB (gr56 l) = true) W (hb : Below w.heap.size w W) => build_ref l A c0 W (Kd.C_below hr0 hb) hc0 h)
  obtain ⟨b, hb⟩ : ∃ b, validB (gr56 l) = b := ⟨_, rfl⟩
  rw [hb] at hv
  have HV := Lib.hid hv
  have HBV := Lib.hid hb
  clear hv hr0 hb
  cases b
  · go_enter Tryd.func45, Tryd.ntmps45
    go_wp2_with (go_at_call 56; refine HV.out.mono ?_; rintro e w1 ⟨rfl, hbw⟩; have HB1 := Lib.hid hbw; clear hbw)
    go_ret2
    exact read_no HBV.out HB1.out
  · go_enter Tryd.func45, Tryd.ntmps45
    go_wp2_with (first | (go_at_call 56; refine HV.out.mono ?_; rintro e w1 ⟨rfl, hbw⟩; have HB1 := Lib.hid hbw; clear hbw) | (go_at_call 59; go_must (refine (HBD.out HBV.out _ HB1.out).mono ?_); intro e w2 hp; have hq := read_of HBV.out HB1.out hp; have HQ := Lib.hid hq; clear hp; rcases hq with ⟨h1, h2, h3⟩ | ⟨h1, h2, rfl, h3⟩ | ⟨h1, F, T, SV, GV, bs, h2, rfl, h3, h4⟩; exact absurd (HBV.out.symm.trans h1) (by decide); all_goals clear h1 h2 h3))
    all_goals (go_ret2; exact HQ.out)
theorem read_bad (l : List S56) (A : Option Addr) (c0 : Nat) (w : World) (hr0 : Kd.C k56 w A l.length l) (hc0 : l.length ≤ c0) (hv : validB (gr56 l) = false) :
    Calls Tryd.prog 45 #[.slice A l.length c0] w fun e w' => e = .returned (.tuple #[.pointer none, .int .i64 2]) ∧ Below w.heap.size w w' := by
  refine (read_any l A c0 w hr0 hc0).mono ?_
  rintro e w' (⟨h1, h2, h3⟩ | ⟨h1, _⟩ | ⟨h1, _⟩)
  · exact ⟨h2, h3⟩
  · exact absurd (hv.symm.trans h1) (by decide)
  · exact absurd (hv.symm.trans h1) (by decide)
theorem read_big (l : List S56) (A : Option Addr) (c0 : Nat) (w : World) (hr0 : Kd.C k56 w A l.length l) (hc0 : l.length ≤ c0) (hv : validB (gr56 l) = true) (hr : refStates (gr56 l) = none) :
    Calls Tryd.prog 45 #[.slice A l.length c0] w fun e w' => e = .returned (.tuple #[.pointer none, .int .i64 6]) ∧ Below w.heap.size w w' := by
  refine (read_any l A c0 w hr0 hc0).mono ?_
  rintro e w' (⟨h1, h2, h3⟩ | ⟨h1, h2, h3, h4⟩ | ⟨h1, F, T, SV, GV, bs, h2, _⟩)
  · exact absurd (hv.symm.trans h1) (by decide)
  · exact ⟨h3, h4⟩
  · exact absurd (hr.symm.trans h2) (fun h => by cases h)
theorem read_ok (l : List S56) (A : Option Addr) (c0 : Nat) (w : World) (hr0 : Kd.C k56 w A l.length l) (hc0 : l.length ≤ c0) (hv : validB (gr56 l) = true) {F : List (List S95)} (hr : refStates (gr56 l) = some F) :
    Calls Tryd.prog 45 #[.slice A l.length c0] w fun e w' => ∃ T SV GV bs, e = .returned (.tuple #[.pointer (some ⟨T, 0, none⟩), .int .i64 0]) ∧ BI w.heap.size w w' T (.slice A l.length c0) (nextP (gr56 l)) F SV GV (gosOf (gr56 l) F F) bs ∧ F ≠ [] := by
  refine (read_any l A c0 w hr0 hc0).mono ?_
  rintro e w' (⟨h1, h2, h3⟩ | ⟨h1, h2, h3, h4⟩ | ⟨h1, F', T, SV, GV, bs, h2, h3, h4, h5⟩)
  · exact absurd (hv.symm.trans h1) (by decide)
  · exact absurd (hr.symm.trans h2) (fun h => by cases h)
  · cases hr.symm.trans h2
    exact ⟨T, SV, GV, bs, h3, h4, h5⟩
/-- A row of states, as what is read. -/
theorem states_N {base : Nat} {w0 W : World} {T : Nat} {GR SV GV : Value} {nx : List Nat} {sts : List (List S95)} {gos : List (List (Int × Int))} {bs : List Nat} (h : BI base w0 W T GR nx sts SV GV gos bs) : Kd.N (Kd.slice 95 k95) 94 W base (fun k => base ≤ k) SV sts := by
  obtain ⟨vs, h1, h2⟩ := h.srow
  have hl : vs.length = sts.length := by have := h1.1; omega
  have hone : ∀ (j : Nat) v, vs[j]? = some v → (vs.drop (j * 1)).take 1 = [v] ∧ v.oneCell' = true := fun j v hv => by
    obtain ⟨hj, hv'⟩ := List.getElem?_eq_some_iff.1 hv
    obtain ⟨v2, hv2, hr⟩ := h2 j (sts[j]'(by omega)) (List.getElem?_eq_getElem (by omega))
    rw [hv] at hv2
    cases hv2
    obtain ⟨g, cap, cells, rfl, _⟩ := hr
    rw [Nat.mul_one, List.drop_eq_getElem_cons hj, hv']
    exact ⟨rfl, rfl⟩
  have hmap : ∀ (j : Nat) (p : List Value), (vs.map fun v => [v])[j]? = some p → ∃ v, vs[j]? = some v ∧ p = [v] := fun j p hp => by
    rw [List.getElem?_map] at hp
    obtain ⟨v, hv, e⟩ := Option.map_eq_some_iff.1 hp
    exact ⟨v, hv, e.symm⟩
  refine ⟨fun k hk => own_base h1 k hk, vs.map fun v => [v], by simp [hl], ⟨fun k hk => hk.symm, vs, ?_, ?_⟩, fun j x c hx hc => ?_⟩
  · rw [List.length_map, hl]; exact h1
  · refine ⟨by rw [List.length_map]; exact (Nat.mul_one _).symm, fun j p hp => ?_⟩
    obtain ⟨v, hv, rfl⟩ := hmap j p hp
    obtain ⟨e1, e2⟩ := hone j v hv
    show (vs.drop (j * 1)).take 1 = [v] ∧ ((vs.drop (j * 1)).take 1).length = 1 ∧ ∀ u ∈ (vs.drop (j * 1)).take 1, u.oneCell' = true
    rw [e1]
    exact ⟨rfl, rfl, fun u hu => by rw [List.mem_singleton.1 hu]; exact e2⟩
  · obtain ⟨v, hv, rfl⟩ := hmap j c hc
    obtain ⟨v2, hv2, hr⟩ := h2 j x hx
    rw [hv] at hv2
    cases hv2
    intro W' hW'
    have hr' : StRow W' base v x := hr.keep (fun g cells hg hgb => hW' g ⟨hgb, fun e => by
      obtain ⟨cells', hc'⟩ := own_typed h1 g e.symm
      exact blk_ne hg hc' (by decide) rfl⟩ (blk_lt hg))
    obtain ⟨g, cap, cells, rfl, q1, q2, q3, q4⟩ := hr'
    exact ⟨_, cap, rfl, q1, q4⟩
/-- What States returns. -/
def tables_States.f (l : List S56) : Option (List (List S95) × Int) :=
  if validB (gr56 l) = true then (match refStates (gr56 l) with | none => some ([], 6) | some F => some (F, 0)) else some ([], 2)
/-- What States leaves. -/
def StatesPost (w : World) (r1 : List (List S95)) (r2 : Int) (e : Ending) (w' : World) : Prop := ∃ v0_ : Value, e = .returned (.tuple #[v0_, .int .i64 r2]) ∧ Kd.N (Kd.slice 95 k95) 94 w' w.heap.size (fun k_ => (w.heap.size ≤ k_)) v0_ r1 ∧ Below w.heap.size w w'
theorem states_no {w w' : World} (r2 : Int) (h : Below w.heap.size w w') : StatesPost w [] r2 (.returned (.tuple #[.slice none 0 0, .int .i64 r2])) w' := ⟨_, rfl, Kd.N_nil _ _ _ _ _, h⟩
theorem states_yes {w w' : World} {T : Nat} {GR SV GV : Value} {nx : List Nat} {sts : List (List S95)} {gos : List (List (Int × Int))} {bs : List Nat} (h : BI w.heap.size w w' T GR nx sts SV GV gos bs) : StatesPost w sts 0 (.returned (.tuple #[SV, .int .i64 0])) w' := ⟨_, rfl, states_N h, h.below⟩
set_option maxHeartbeats 1000000 in
theorem states_any (A0 : Option Addr) (c0 : Nat) (l0 : List S56) (r1 : List (List S95)) (r2 : Int) (w : World) (hr0 : Kd.C k56 w A0 l0.length l0) (hc0 : l0.length ≤ c0) (h : tables_States.f l0 = some (r1, r2)) :
    Calls Tryd.prog 13 #[.slice A0 l0.length c0] w (StatesPost w r1 r2) := by
  unfold tables_States.f at h
  by_cases hv : validB (gr56 l0) = true
  · rw [if_pos hv] at h
    cases hr : refStates (gr56 l0) with
    | none =>
      rw [hr] at h
      cases h
      have HRD := Lib.hid (read_big l0 A0 c0 w hr0 hc0 hv hr)
      clear hr0 hv hr
      go_enter Tryd.func13, Tryd.ntmps13
      go_wp2_with (go_at_call 45; go_must (refine HRD.out.mono ?_); rintro e w1 ⟨rfl, hb⟩; have HB := Lib.hid hb; clear hb)
      go_ret2
      exact states_no 6 HB.out
    | some F =>
      rw [hr] at h
      cases h
      have HRD := Lib.hid (read_ok l0 A0 c0 w hr0 hc0 hv hr)
      clear hr0 hv hr
      go_enter Tryd.func13, Tryd.ntmps13
      go_wp2_with (go_at_call 45; go_must (refine HRD.out.mono ?_); rintro e w1 ⟨T, SV, GV, bs, rfl, hb, _⟩; have hd1 := BI.c1 hb; have HB := Lib.hid hb; clear hb)
      go_ret2
      exact states_yes HB.out
  · rw [if_neg hv] at h
    cases h
    have HRD := Lib.hid (read_bad l0 A0 c0 w hr0 hc0 (Bool.eq_false_iff.2 hv))
    clear hr0 hv
    go_enter Tryd.func13, Tryd.ntmps13
    go_wp2_with (go_at_call 45; go_must (refine HRD.out.mono ?_); rintro e w1 ⟨rfl, hb⟩; have HB := Lib.hid hb; clear hb)
    go_ret2
    exact states_no 2 HB.out
theorem tables_States.calls (A0 : Option Addr) (c0 : Nat) (l0 : List S56) (r1 : List (List S95)) (r2 : Int) (w : World) (hr0 : Kd.C k56 w A0 l0.length l0) (hc0 : l0.length ≤ c0) (h : tables_States.f l0 = some (r1, r2)) :
    Calls Tryd.prog 13 #[.slice A0 l0.length c0] w fun e w' => ∃ v0_ : Value, e = .returned (.tuple #[v0_, .int .i64 r2]) ∧ Kd.N (Kd.slice 95 k95) 94 w' w.heap.size (fun k_ => (w.heap.size ≤ k_)) v0_ r1 ∧ Below w.heap.size w w' :=
  states_any A0 c0 l0 r1 r2 w hr0 hc0 h
end Go.Proofs.YtpmmfckgfbdboaaDoor.G
end

section
namespace Go.Proofs.YtpmmfckgfbdboaaDoor.G
open Go.RowKit Go.Proofs.YtpmmfckgfbdboaaDoorW.PrintWords Go.Proofs.YtpmmfckgfbdboaaDoorW.PrintLast Go.Proofs.YtpmmfckgfbdboaaDoorW.PrintMore
open Go.Shelf Go.Lib
set_option linter.unusedVariables false
set_option linter.unusedSimpArgs false
def FirstPost (w : World) (s0 s1 s2 s3 s4 : Nat) (e : Ending) (w' : World) : Prop := e = .returned (.tuple #[.agg #[.int .i64 s0, .int .i64 s1, .int .i64 s2, .int .i64 s3, .int .i64 s4], .int .i64 0]) ∧ Below w.heap.size w w'
set_option maxHeartbeats 1000000 in
theorem first48 (l : List S56) (A : Option Addr) (c0 : Nat) (w : World) (hr0 : Kd.C k56 w A l.length l) (hc0 : l.length ≤ c0) (hv : validB (gr56 l) = true) (s0 s1 s2 s3 s4 : Nat) (hF : firstP (gr56 l) = [s0, s1, s2, s3, s4]) :
    Calls Tryd.prog 48 #[.slice A l.length c0] w (FirstPost w s0 s1 s2 s3 s4) := by
  have HV := Lib.hid (fun W (hb : Below w.heap.size w W) => tables_grammar_valid.calls 40 A c0 l _ W (Kd.C_below hr0 hb) hc0 (valid_f l 40 (Nat.le_refl _)))
  rw [hv] at HV
  have HF := Lib.hid (fun W (hb : Below w.heap.size w W) => first_any l A c0 W (Kd.C_below hr0 hb) hc0 (validB_ok hv).1)
  rw [hF] at HF
  replace HF : Hid (∀ W, Below w.heap.size w W → Calls Tryd.prog 82 #[.slice A l.length c0] W fun x w' => x = .returned (.agg #[.int .i64 s0, .int .i64 s1, .int .i64 s2, .int .i64 s3, .int .i64 s4]) ∧ Below W.heap.size W w') := HF
  have HZ0 := Lib.hid (blk_new w (.cells (arr [0, 0, 0, 0, 0]) 84))
  have HB0 := Lib.hid (below_alloc (Below.refl w.heap.size w) (.cells (arr [0, 0, 0, 0, 0]) 84))
  clear hr0 hv hF
  go_enter Tryd.func48, Tryd.ntmps48
  go_wp2_with (first | (go_at_call 56; go_must (refine (HV.out _ HB0.out).mono ?_); rintro e w1 ⟨rfl, hb⟩; have HB1 := Lib.hid (below_step HB0.out hb); have HZ1 := Lib.hid (blk_below HZ0.out hb); clear hb) | (go_at_call 82; go_must (refine (HF.out _ HB1.out).mono ?_); rintro e w2 ⟨rfl, hb⟩; have HB2 := Lib.hid (below_step HB1.out hb); have HZ2 := Lib.hid (blk_below HZ1.out hb); clear hb; have B1 := Lib.hid (blk_put HZ2.out 0 (.int .i64 s0) (arr_set [0, 0, 0, 0, 0] 0 s0)); have B2 := Lib.hid (blk_put B1.out 1 (.int .i64 s1) (arr_set _ 1 s1)); have B3 := Lib.hid (blk_put B2.out 2 (.int .i64 s2) (arr_set _ 2 s2)); have B4 := Lib.hid (blk_put B3.out 3 (.int .i64 s3) (arr_set _ 3 s3)); have B5 := Lib.hid (blk_put B4.out 4 (.int .i64 s4) (arr_set _ 4 s4)); have hb0 : w2.cell? ⟨w.heap.size, 0, none⟩ = some (.int .i64 0) := (blk_cell HZ2.out 0).trans rfl; have hb1 := (blk_cell B1.out 1).trans (show _ = some (Value.int .i64 0) from rfl); have hb2 := (blk_cell B2.out 2).trans (show _ = some (Value.int .i64 0) from rfl); have hb3 := (blk_cell B3.out 3).trans (show _ = some (Value.int .i64 0) from rfl); have hb4 := (blk_cell B4.out 4).trans (show _ = some (Value.int .i64 0) from rfl); have hf0 := blk_frozen HZ2.out 0; have hf1 := blk_frozen B1.out 1; have hf2 := blk_frozen B2.out 2; have hf3 := blk_frozen B3.out 3; have hf4 := blk_frozen B4.out 4))
  have HBL := Lib.hid (below_set (g := w.heap.size) (j := 4) (v := .int .i64 s4) (below_set (g := w.heap.size) (j := 3) (v := .int .i64 s3) (below_set (g := w.heap.size) (j := 2) (v := .int .i64 s2) (below_set (g := w.heap.size) (j := 1) (v := .int .i64 s1) (below_set (g := w.heap.size) (j := 0) (v := .int .i64 s0) HB2.out (Nat.le_refl _)) (Nat.le_refl _)) (Nat.le_refl _)) (Nat.le_refl _)) (Nat.le_refl _))
  refine bodyPost_ret (results_list (rs := [.cell 2 84, .tmp 3]) rfl (by show (2 : Nat) ≠ 1; decide) (.cell w.heap.size 84 _ _ _ rfl B5.out Tryd.underlying84 rfl ?_ (.tmp .nil))) rfl ⟨?_, HBL.out⟩
  · kernel_rfl
  · rfl
def awakeL : List S56 := [⟨65, ⟨#[98]⟩⟩]
theorem awake_valid : validB (gr56 awakeL) = true := by decide
theorem awake_first : firstP (gr56 awakeL) = [2, 0, 0, 0, 0] := by decide
theorem eq84i (W : World) : (Op.equalIn 10000 84 (.agg #[.int .i64 2, .int .i64 0, .int .i64 0, .int .i64 0, .int .i64 0]) (.agg #[.int .i64 2, .int .i64 0, .int .i64 0, .int .i64 0, .int .i64 0])).run Tryd.prog W = .ok true W := by kernel_rfl
set_option maxHeartbeats 1000000 in
set_option maxRecDepth 100000 in
theorem awake_any (w : World) : Calls Tryd.prog 16 #[] w fun e w' => e = .returned (.bool true) ∧ Below w.heap.size w w' := by
  have HF := Lib.hid (fun A c0 W hr hc => first48 awakeL A c0 W hr hc awake_valid 2 0 0 0 0 awake_first)
  have e84 := eq84i
  go_enter Tryd.func16, Tryd.ntmps16
  go_wp2_with (first | ((with_reducible refine gate_dst (N := 5) rfl ?_); go_must (refine Kd.R_lit k56 _ 56 ?hg (N := 5) ?hd (xs := awakeL) (inner := [.int .u8 65, .string ⟨#[98]⟩]) (ok := fun _ => True) (okp := fun _ => True) ?hr ?hp (fun _ hk => hk) trivial (Below.refl _ _) (Nat.le_refl _) (by decide) ?_); (case hd => rfl); (case hg => rfl); (case hr => first | (go_simp; done) | (go_simp; rfl)); (case hp => exact (Reps.c2 (show Kd.M k56 _ _ _ (⟨65, ⟨#[98]⟩⟩ : S56) [.int .u8 65, .string ⟨#[98]⟩] from (k56_mkM _ _ _ (⟨65, ⟨#[98]⟩⟩ : S56))) (Reps.none _ _))); intro v5 w3 ho hb hg_ hnew_; obtain ⟨A5, c5, rfl, hc5, hC5⟩ := Kd.R_reads ho; have HC5 := Lib.hid (And.intro hc5 hC5); have HB3 := Lib.hid hb; clear ho hb hg_ hnew_ hc5 hC5) | (go_at_call 48; go_must (refine (HF.out _ _ _ HC5.out.2 HC5.out.1).mono ?_); rintro e w4 ⟨rfl, hb⟩; have HB4 := Lib.hid (below_step HB3.out hb); clear hb))
  go_ret
  exact ⟨rfl, below_alloc HB4.out _⟩
def comfitlaw05_awake.f : Option Bool := some true
theorem comfitlaw05_awake.calls (r : Bool) (w : World) (h : comfitlaw05_awake.f = some r) : Calls Tryd.prog 16 #[] w fun e w' => e = .returned (.bool r) ∧ Below w.heap.size w w' := by
  cases h
  exact awake_any w
end Go.Proofs.YtpmmfckgfbdboaaDoor.G
end

section
namespace Go.Proofs.YtpmmfckgfbdboaaDoor.G
open Go.RowKit Go.Proofs.YtpmmfckgfbdboaaDoorW.PrintWords Go.Proofs.YtpmmfckgfbdboaaDoorW.PrintLast Go.Proofs.YtpmmfckgfbdboaaDoorW.PrintMore
attribute [local go_sem] max2_int min2_int max_two min_two max_three min_three max_four min_four   -- for this text's walks alone
set_option linter.unusedVariables false
set_option linter.unusedSimpArgs false

/-! ### comfitlaw05_TablesStates: function 3 -/
def comfitlaw05_TablesStates.f (k : Nat) (l0 : List (S41)) : Option (Bool) := (comfitlaw05_Of.f k l0).bind fun t199 => ((tables_States.f t199).bind fun bt202 => ((comfitref05_Grammar.f k l0).bind fun t206 => (if t206 = true then ((comfitref05_States.f k l0).bind fun bt208 => ((comfitlaw05_items.f k bt202.1).bind fun t212 => ((comfitref05_Item_18.f t212 bt208.1).bind fun t215 => (if t215 = true then (if bt202.2 = bt208.2 then ((comfitlaw05_awake.f).bind fun t216 => (some t216)) else (some false)) else (some false))))) else (if (bt202.1.length : Int) = 0 then (if bt202.2 = 2 then ((comfitlaw05_awake.f).bind fun t207 => (some t207)) else (some false)) else (some false)))))
theorem comfitlaw05_TablesStates.mono : ∀ a0 k, LeO (comfitlaw05_TablesStates.f k a0) (comfitlaw05_TablesStates.f (k + 1) a0) := by
  intro a0 k
  unfold comfitlaw05_TablesStates.f
  repeat' first
      | (with_reducible exact comfitlaw05_Of.mono _ _)
      | (with_reducible exact comfitlaw05_items.mono _ _)
      | (with_reducible exact comfitref05_Grammar.mono _ _)
      | (with_reducible exact comfitref05_States.mono _ _)
      | (with_reducible exact LeO.refl _)
      | (with_reducible exact LeO.none _)
      | (with_reducible refine LeO.ite ?_ ?_)
      | (with_reducible refine LeO.bind ?_ (fun _ => ?_))
      | exact comfitlaw05_Of.mono _ _
      | exact comfitlaw05_items.mono _ _
      | exact comfitref05_Grammar.mono _ _
      | exact comfitref05_States.mono _ _
      | exact LeO.none _
      | refine LeO.ite ?_ ?_
      | refine LeO.bind ?_ (fun _ => ?_)
set_option maxHeartbeats 8000000 in
set_option maxRecDepth 100000 in
theorem comfitlaw05_TablesStates.calls (k : Nat) (A0 : Option Addr) (c0 : Nat) (l0 : List (S41)) (r : Bool) (w : World) (hr0 : Kd.C k41 w A0 l0.length l0) (hc0 : l0.length ≤ c0) (h : comfitlaw05_TablesStates.f k l0 = some r) :
    Calls Tryd.prog 3 #[.slice A0 l0.length c0] w fun e w' => e = .returned (.bool r) ∧ Below w.heap.size w w' := by
  have HR0 := Aside0.mk hr0
  have HC0 := Aside0.mk hc0
  clear hr0 hc0
  have HB := Aside0.mk (Below.refl w.heap.size w)
  have H : ((comfitlaw05_Of.f k l0).bind fun t199 => ((tables_States.f t199).bind fun bt202 => ((comfitref05_Grammar.f k l0).bind fun t206 => (if t206 = true then ((comfitref05_States.f k l0).bind fun bt208 => ((comfitlaw05_items.f k bt202.1).bind fun t212 => ((comfitref05_Item_18.f t212 bt208.1).bind fun t215 => (if t215 = true then (if bt202.2 = bt208.2 then ((comfitlaw05_awake.f).bind fun t216 => (some t216)) else (some false)) else (some false))))) else (if (bt202.1.length : Int) = 0 then (if bt202.2 = 2 then ((comfitlaw05_awake.f).bind fun t207 => (some t207)) else (some false)) else (some false)))))) = some r := h
  clear h
  replace H := Option.bind_eq_some_iff.mp H
  obtain ⟨t199, A20, H⟩ := H
  replace H : ((tables_States.f t199).bind fun bt202 => ((comfitref05_Grammar.f k l0).bind fun t206 => (if t206 = true then ((comfitref05_States.f k l0).bind fun bt208 => ((comfitlaw05_items.f k bt202.1).bind fun t212 => ((comfitref05_Item_18.f t212 bt208.1).bind fun t215 => (if t215 = true then (if bt202.2 = bt208.2 then ((comfitlaw05_awake.f).bind fun t216 => (some t216)) else (some false)) else (some false))))) else (if (bt202.1.length : Int) = 0 then (if bt202.2 = 2 then ((comfitlaw05_awake.f).bind fun t207 => (some t207)) else (some false)) else (some false))))) = some r := H
  have A2 := Aside0.mk A20
  clear A20
  replace H := Option.bind_eq_some_iff.mp H
  obtain ⟨⟨t202, t205⟩, A30, H⟩ := H
  replace H : ((comfitref05_Grammar.f k l0).bind fun t206 => (if t206 = true then ((comfitref05_States.f k l0).bind fun bt208 => ((comfitlaw05_items.f k t202).bind fun t212 => ((comfitref05_Item_18.f t212 bt208.1).bind fun t215 => (if t215 = true then (if t205 = bt208.2 then ((comfitlaw05_awake.f).bind fun t216 => (some t216)) else (some false)) else (some false))))) else (if (t202.length : Int) = 0 then (if t205 = 2 then ((comfitlaw05_awake.f).bind fun t207 => (some t207)) else (some false)) else (some false)))) = some r := H
  have A3 := Aside0.mk A30
  clear A30
  replace H := Option.bind_eq_some_iff.mp H
  obtain ⟨t206, A40, H⟩ := H
  replace H : (if t206 = true then ((comfitref05_States.f k l0).bind fun bt208 => ((comfitlaw05_items.f k t202).bind fun t212 => ((comfitref05_Item_18.f t212 bt208.1).bind fun t215 => (if t215 = true then (if t205 = bt208.2 then ((comfitlaw05_awake.f).bind fun t216 => (some t216)) else (some false)) else (some false))))) else (if (t202.length : Int) = 0 then (if t205 = 2 then ((comfitlaw05_awake.f).bind fun t207 => (some t207)) else (some false)) else (some false))) = some r := H
  have A4 := Aside0.mk A40
  clear A40
  by_cases c5 : t206 = true
  · subst c5
    have H1 : ((comfitref05_States.f k l0).bind fun bt208 => ((comfitlaw05_items.f k t202).bind fun t212 => ((comfitref05_Item_18.f t212 bt208.1).bind fun t215 => (if t215 = true then (if t205 = bt208.2 then ((comfitlaw05_awake.f).bind fun t216 => (some t216)) else (some false)) else (some false))))) = some r := by rw [if_pos rfl] at H; exact H
    clear H
    have H := H1
    clear H1
    replace H := Option.bind_eq_some_iff.mp H
    obtain ⟨⟨t208, t211⟩, A60, H⟩ := H
    replace H : ((comfitlaw05_items.f k t202).bind fun t212 => ((comfitref05_Item_18.f t212 t208).bind fun t215 => (if t215 = true then (if t205 = t211 then ((comfitlaw05_awake.f).bind fun t216 => (some t216)) else (some false)) else (some false)))) = some r := H
    have A6 := Aside0.mk A60
    clear A60
    replace H := Option.bind_eq_some_iff.mp H
    obtain ⟨t212, A70, H⟩ := H
    replace H : ((comfitref05_Item_18.f t212 t208).bind fun t215 => (if t215 = true then (if t205 = t211 then ((comfitlaw05_awake.f).bind fun t216 => (some t216)) else (some false)) else (some false))) = some r := H
    have A7 := Aside0.mk A70
    clear A70
    replace H := Option.bind_eq_some_iff.mp H
    obtain ⟨t215, A80, H⟩ := H
    replace H : (if t215 = true then (if t205 = t211 then ((comfitlaw05_awake.f).bind fun t216 => (some t216)) else (some false)) else (some false)) = some r := H
    have A8 := Aside0.mk A80
    clear A80
    by_cases c9 : t215 = true
    · subst c9
      have H1 : (if t205 = t211 then ((comfitlaw05_awake.f).bind fun t216 => (some t216)) else (some false)) = some r := by rw [if_pos rfl] at H; exact H
      clear H
      have H := H1
      clear H1
      by_cases c10 : t205 = t211
      · rw [if_pos c10] at H
        have c10b0 : (t205 == t211) = true := beq_iff_eq.mpr c10
        have c10b1 : (t205 != t211) = false := bne_eq_false_iff_eq.mpr c10
        clear c10
        replace H := Option.bind_eq_some_iff.mp H
        obtain ⟨t216, A110, H⟩ := H
        replace H : (some t216) = some r := H
        have A11 := Aside0.mk A110
        clear A110
        obtain rfl := Option.some.inj H
        go_enter Tryd.func3, Tryd.ntmps3
        go_wp2_with (first | ((with_reducible refine gate_callee (f := 14) rfl ?_); refine goesL_ (some 9) rfl rfl Tryd.func14 (by kernel_rfl) rfl #[.slice A0 l0.length c0] rfl (by (try simp only [List.map_toArray, List.map_cons, List.map_nil]); first | done | rfl | (simp only [List.length_drop, List.length_take]; rfl)) ?_; (with_reducible refine (comfitlaw05_Of.calls k _ _ l0 t199 _ ?side1 ?side2 A2.out).mono ?_); (case side1 => repeat (first | exact HR0.out | (with_reducible refine Kd.C_alloc ?_ _) | (with_reducible refine Kd.C_drewN ?_ _) | (with_reducible refine Kd.C_drew ?_))); (case side2 => exact HC0.out); rintro e w12 ⟨v200, rfl, ho0, hb⟩; refine ⟨_, rfl, ?_⟩; have n0_ := Aside0.mk (Kd.R_lower ho0 (below_size (by repeat (first | (with_reducible first | exact HB.out | apply below_alloc | apply pw_below_drewN | apply below_drew1) | exact HB.out)))); have n1_ := Aside0.mk (below_step (by repeat (first | (with_reducible first | exact HB.out | apply below_alloc | apply pw_below_drewN | apply below_drew1) | exact HB.out)) hb); clear HB; have HO201 := n0_; have HB := n1_; clear n0_ n1_; (try clear hb); (try clear hb2); (try clear hk); (try clear hi); (try clear ho0); obtain ⟨Ao13, co13, eo13⟩ := Kd.R_slice HO201.out; subst eo13) | ((with_reducible refine gate_callee (f := 13) rfl ?_); refine goesL_ (some 10) rfl rfl Tryd.func13 (by kernel_rfl) rfl #[.slice Ao13 t199.length co13] rfl (by (try simp only [List.map_toArray, List.map_cons, List.map_nil]); first | done | rfl | (simp only [List.length_drop, List.length_take]; rfl)) ?_; (with_reducible refine (tables_States.calls _ _ t199 t202 t205 _ ?side1 ?side2 A3.out).mono ?_); (case side1 => repeat (first | exact (Kd.R_reads' HO201.out).2.2 | (with_reducible refine Kd.C_alloc ?_ _) | (with_reducible refine Kd.C_drewN ?_ _) | (with_reducible refine Kd.C_drew ?_))); (case side2 => exact (Kd.R_reads' HO201.out).2.1); rintro e w14 ⟨v203, rfl, ho0, hb⟩; refine ⟨_, rfl, ?_⟩; have n0_ := Aside0.mk (Kd.R_below (by (with_reducible repeat (first | apply Kd.R_alloc | apply Kd.R_drewN | apply Kd.R_drew)); exact HO201.out) hb); have n1_ := Aside0.mk (Kd.N_lower (Kd.N_mono (ok' := fun k_ => some k_ ≠ (.slice Ao13 t199.length co13 : Value).ownBlock) ho0 (fun k_ hk_ => (Kd.fresh' (Kd.R_lt (by (with_reducible repeat (first | apply Kd.R_alloc | apply Kd.R_drewN | apply Kd.R_drew)); exact HO201.out)) k_ hk_))) (below_size (by repeat (first | (with_reducible first | exact HB.out | apply below_alloc | apply pw_below_drewN | apply below_drew1) | exact HB.out)))); have n2_ := Aside0.mk (below_step (by repeat (first | (with_reducible first | exact HB.out | apply below_alloc | apply pw_below_drewN | apply below_drew1) | exact HB.out)) hb); clear HO201; clear HB; have HO201 := n0_; have HO204 := n1_; have HB := n2_; clear n0_ n1_ n2_; (try clear hb); (try clear hb2); (try clear hk); (try clear hi); (try clear ho0)) | ((with_reducible refine gate_callee (f := 15) rfl ?_); refine goesL_ (some 14) rfl rfl Tryd.func15 (by kernel_rfl) rfl #[.slice A0 l0.length c0] rfl (by (try simp only [List.map_toArray, List.map_cons, List.map_nil]); first | done | rfl | (simp only [List.length_drop, List.length_take]; rfl)) ?_; (with_reducible refine (comfitref05_Grammar.calls k _ _ l0 true _ ?side1 ?side2 A4.out).mono ?_); (case side1 => repeat (first | exact (Kd.C_below HR0.out HB.out) | (with_reducible refine Kd.C_alloc ?_ _) | (with_reducible refine Kd.C_drewN ?_ _) | (with_reducible refine Kd.C_drew ?_))); (case side2 => exact HC0.out); rintro e w15 ⟨rfl, hb⟩; refine ⟨_, rfl, ?_⟩; have n0_ := Aside0.mk (Kd.R_below (by (with_reducible repeat (first | apply Kd.R_alloc | apply Kd.R_drewN | apply Kd.R_drew)); exact HO201.out) hb); have n1_ := Aside0.mk (Kd.N_below (by (with_reducible repeat (first | apply Kd.N_alloc | apply Kd.N_drewN | apply Kd.N_drew)); exact HO204.out) hb); have n2_ := Aside0.mk (below_step (by repeat (first | (with_reducible first | exact HB.out | apply below_alloc | apply pw_below_drewN | apply below_drew1) | exact HB.out)) hb); clear HO201; clear HO204; clear HB; have HO201 := n0_; have HO204 := n1_; have HB := n2_; clear n0_ n1_ n2_; (try clear hb); (try clear hb2); (try clear hk); (try clear hi)) | ((with_reducible refine gate_callee (f := 17) rfl ?_); refine goesL_ (some 28) rfl rfl Tryd.func17 (by kernel_rfl) rfl #[.slice A0 l0.length c0] rfl (by (try simp only [List.map_toArray, List.map_cons, List.map_nil]); first | done | rfl | (simp only [List.length_drop, List.length_take]; rfl)) ?_; (with_reducible refine (comfitref05_States.calls k _ _ l0 t208 t211 _ ?side1 ?side2 A6.out).mono ?_); (case side1 => repeat (first | exact (Kd.C_below HR0.out HB.out) | (with_reducible refine Kd.C_alloc ?_ _) | (with_reducible refine Kd.C_drewN ?_ _) | (with_reducible refine Kd.C_drew ?_))); (case side2 => exact HC0.out); rintro e w16 ⟨v209, rfl, ho0, hb⟩; refine ⟨_, rfl, ?_⟩; have n0_ := Aside0.mk (Kd.R_below (by (with_reducible repeat (first | apply Kd.R_alloc | apply Kd.R_drewN | apply Kd.R_drew)); exact HO201.out) hb); have n1_ := Aside0.mk (Kd.N_elder' (by (with_reducible repeat (first | apply Kd.N_alloc | apply Kd.N_drewN | apply Kd.N_drew)); exact HO204.out) (by first | exact Kd.N_base ho0 | exact Kd.S_base ho0 | exact Kd.R_base ho0) hb); have n2_ := Aside0.mk (Kd.N_lower (Kd.N_mono (ok' := fun k_ => some k_ ≠ (.slice Ao13 t199.length co13 : Value).ownBlock ∧ some k_ ≠ (v203 : Value).ownBlock) ho0 (fun k_ hk_ => ⟨(Kd.fresh' (Kd.R_lt (by (with_reducible repeat (first | apply Kd.R_alloc | apply Kd.R_drewN | apply Kd.R_drew)); exact HO201.out)) k_ hk_), (Kd.fresh' (Kd.N_lt (by (with_reducible repeat (first | apply Kd.N_alloc | apply Kd.N_drewN | apply Kd.N_drew)); exact HO204.out)) k_ hk_)⟩)) (below_size (by repeat (first | (with_reducible first | exact HB.out | apply below_alloc | apply pw_below_drewN | apply below_drew1) | exact HB.out)))); have n3_ := Aside0.mk (below_step (by repeat (first | (with_reducible first | exact HB.out | apply below_alloc | apply pw_below_drewN | apply below_drew1) | exact HB.out)) hb); clear HO201; clear HO204; clear HB; have HO201 := n0_; have HO204 := n1_; have HO210 := n2_; have HB := n3_; clear n0_ n1_ n2_ n3_; (try clear hb); (try clear hb2); (try clear hk); (try clear hi); (try clear ho0); obtain ⟨Ao17, co17, eo17⟩ := Kd.N_slice HO204.out; subst eo17) | ((with_reducible refine gate_callee (f := 19) rfl ?_); refine goesL_ (some 32) rfl rfl Tryd.func19 (by kernel_rfl) rfl #[.slice Ao17 t202.length co17] rfl (by (try simp only [List.map_toArray, List.map_cons, List.map_nil]); first | done | rfl | (simp only [List.length_drop, List.length_take]; rfl)) ?_; (with_reducible refine (comfitlaw05_items.calls k _ _ t202 t212 _ ?side1 ?side2 A7.out).mono ?_); (case side1 => repeat (first | exact (Kd.N_reads' HO204.out).2.2 | (with_reducible refine Kd.C_alloc ?_ _) | (with_reducible refine Kd.C_drewN ?_ _) | (with_reducible refine Kd.C_drew ?_))); (case side2 => exact (Kd.N_reads' HO204.out).2.1); rintro e w18 ⟨v213, rfl, ho0, hb⟩; refine ⟨_, rfl, ?_⟩; have n0_ := Aside0.mk (Kd.R_below (by (with_reducible repeat (first | apply Kd.R_alloc | apply Kd.R_drewN | apply Kd.R_drew)); exact HO201.out) hb); have n1_ := Aside0.mk (Kd.N_elder' (by (with_reducible repeat (first | apply Kd.N_alloc | apply Kd.N_drewN | apply Kd.N_drew)); exact HO204.out) (by first | exact Kd.N_base ho0 | exact Kd.S_base ho0 | exact Kd.R_base ho0) hb); have n2_ := Aside0.mk (Kd.N_elder' (by (with_reducible repeat (first | apply Kd.N_alloc | apply Kd.N_drewN | apply Kd.N_drew)); exact HO210.out) (by first | exact Kd.N_base ho0 | exact Kd.S_base ho0 | exact Kd.R_base ho0) hb); have n3_ := Aside0.mk (Kd.N_lower (Kd.N_mono (ok' := fun k_ => some k_ ≠ (.slice Ao13 t199.length co13 : Value).ownBlock ∧ some k_ ≠ (.slice Ao17 t202.length co17 : Value).ownBlock ∧ some k_ ≠ (v209 : Value).ownBlock) (Kd.S_N (Kd.S_bound ho0)) (fun k_ hk_ => ⟨(Kd.fresh' (Kd.R_lt (by (with_reducible repeat (first | apply Kd.R_alloc | apply Kd.R_drewN | apply Kd.R_drew)); exact HO201.out)) k_ hk_.2.1), (Kd.fresh' (Kd.N_lt (by (with_reducible repeat (first | apply Kd.N_alloc | apply Kd.N_drewN | apply Kd.N_drew)); exact HO204.out)) k_ hk_.2.1), (Kd.fresh' (Kd.N_lt (by (with_reducible repeat (first | apply Kd.N_alloc | apply Kd.N_drewN | apply Kd.N_drew)); exact HO210.out)) k_ hk_.2.1)⟩)) (below_size (by repeat (first | (with_reducible first | exact HB.out | apply below_alloc | apply pw_below_drewN | apply below_drew1) | exact HB.out)))); have n4_ := Aside0.mk (below_step (by repeat (first | (with_reducible first | exact HB.out | apply below_alloc | apply pw_below_drewN | apply below_drew1) | exact HB.out)) hb); clear HO201; clear HO204; clear HO210; clear HB; have HO201 := n0_; have HO204 := n1_; have HO210 := n2_; have HO214 := n3_; have HB := n4_; clear n0_ n1_ n2_ n3_ n4_; (try clear hb); (try clear hb2); (try clear hk); (try clear hi); (try clear ho0); obtain ⟨Ao19, co19, eo19⟩ := Kd.N_slice HO214.out; subst eo19; obtain ⟨Ao20, co20, eo20⟩ := Kd.N_slice HO210.out; subst eo20) | ((with_reducible refine gate_callee (f := 18) rfl ?_); refine goesL_ (some 34) rfl rfl Tryd.func18 (by kernel_rfl) rfl #[.slice Ao19 t212.length co19, .slice Ao20 t208.length co20, .func (.func 20) #[] #[]] rfl (by (try simp only [List.map_toArray, List.map_cons, List.map_nil]); first | done | rfl | (simp only [List.length_drop, List.length_take]; rfl)) ?_; (with_reducible refine (comfitref05_Item_18.calls _ _ t212 _ _ t208  true _ ?side1 ?side2 ?side3 ?side4 A8.out).mono ?_); (case side1 => repeat (first | exact (Kd.N_reads' HO214.out).2.2 | (with_reducible refine Kd.C_alloc ?_ _) | (with_reducible refine Kd.C_drewN ?_ _) | (with_reducible refine Kd.C_drew ?_))); (case side2 => exact (Kd.N_reads' HO214.out).2.1); (case side3 => repeat (first | exact (Kd.N_reads' HO210.out).2.2 | (with_reducible refine Kd.C_alloc ?_ _) | (with_reducible refine Kd.C_drewN ?_ _) | (with_reducible refine Kd.C_drew ?_))); (case side4 => exact (Kd.N_reads' HO210.out).2.1); rintro e w21 ⟨rfl, hb⟩; refine ⟨_, rfl, ?_⟩; have n0_ := Aside0.mk (Kd.R_below (by (with_reducible repeat (first | apply Kd.R_alloc | apply Kd.R_drewN | apply Kd.R_drew)); exact HO201.out) hb); have n1_ := Aside0.mk (Kd.N_below (by (with_reducible repeat (first | apply Kd.N_alloc | apply Kd.N_drewN | apply Kd.N_drew)); exact HO204.out) hb); have n2_ := Aside0.mk (Kd.N_below (by (with_reducible repeat (first | apply Kd.N_alloc | apply Kd.N_drewN | apply Kd.N_drew)); exact HO210.out) hb); have n3_ := Aside0.mk (Kd.N_below (by (with_reducible repeat (first | apply Kd.N_alloc | apply Kd.N_drewN | apply Kd.N_drew)); exact HO214.out) hb); have n4_ := Aside0.mk (below_step (by repeat (first | (with_reducible first | exact HB.out | apply below_alloc | apply pw_below_drewN | apply below_drew1) | exact HB.out)) hb); clear HO201; clear HO204; clear HO210; clear HO214; clear HB; have HO201 := n0_; have HO204 := n1_; have HO210 := n2_; have HO214 := n3_; have HB := n4_; clear n0_ n1_ n2_ n3_ n4_; (try clear hb); (try clear hb2); (try clear hk); (try clear hi)) | (go_at_call 16; (with_reducible refine (comfitlaw05_awake.calls  t216 _ A11.out).mono ?_); rintro e w22 ⟨rfl, hb⟩; have n0_ := Aside0.mk (Kd.R_below (by (with_reducible repeat (first | apply Kd.R_alloc | apply Kd.R_drewN | apply Kd.R_drew)); exact HO201.out) hb); have n1_ := Aside0.mk (Kd.N_below (by (with_reducible repeat (first | apply Kd.N_alloc | apply Kd.N_drewN | apply Kd.N_drew)); exact HO204.out) hb); have n2_ := Aside0.mk (Kd.N_below (by (with_reducible repeat (first | apply Kd.N_alloc | apply Kd.N_drewN | apply Kd.N_drew)); exact HO210.out) hb); have n3_ := Aside0.mk (Kd.N_below (by (with_reducible repeat (first | apply Kd.N_alloc | apply Kd.N_drewN | apply Kd.N_drew)); exact HO214.out) hb); have n4_ := Aside0.mk (below_step (by repeat (first | (with_reducible first | exact HB.out | apply below_alloc | apply pw_below_drewN | apply below_drew1) | exact HB.out)) hb); clear HO201; clear HO204; clear HO210; clear HO214; clear HB; have HO201 := n0_; have HO204 := n1_; have HO210 := n2_; have HO214 := n3_; have HB := n4_; clear n0_ n1_ n2_ n3_ n4_; (try clear hb); (try clear hb2); (try clear hk); (try clear hi)))
        go_ret
        exact ⟨by first | rfl | (simp [errW_none, errW_some] <;> rfl) | (simp [*, errW_none, errW_some] <;> rfl), by repeat (first | (with_reducible first | exact HB.out | apply below_alloc | apply pw_below_drewN | apply below_drew1) | exact HB.out)⟩
      · rw [if_neg c10] at H
        have c10b0 : (t205 == t211) = false := beq_eq_false_iff_ne.mpr c10
        have c10b1 : (t205 != t211) = true := bne_iff_ne.mpr c10
        obtain rfl := Option.some.inj H
        go_enter Tryd.func3, Tryd.ntmps3
        go_wp2_with (first | ((with_reducible refine gate_callee (f := 14) rfl ?_); refine goesL_ (some 9) rfl rfl Tryd.func14 (by kernel_rfl) rfl #[.slice A0 l0.length c0] rfl (by (try simp only [List.map_toArray, List.map_cons, List.map_nil]); first | done | rfl | (simp only [List.length_drop, List.length_take]; rfl)) ?_; (with_reducible refine (comfitlaw05_Of.calls k _ _ l0 t199 _ ?side1 ?side2 A2.out).mono ?_); (case side1 => repeat (first | exact HR0.out | (with_reducible refine Kd.C_alloc ?_ _) | (with_reducible refine Kd.C_drewN ?_ _) | (with_reducible refine Kd.C_drew ?_))); (case side2 => exact HC0.out); rintro e w23 ⟨v200, rfl, ho0, hb⟩; refine ⟨_, rfl, ?_⟩; have n0_ := Aside0.mk (Kd.R_lower ho0 (below_size (by repeat (first | (with_reducible first | exact HB.out | apply below_alloc | apply pw_below_drewN | apply below_drew1) | exact HB.out)))); have n1_ := Aside0.mk (below_step (by repeat (first | (with_reducible first | exact HB.out | apply below_alloc | apply pw_below_drewN | apply below_drew1) | exact HB.out)) hb); clear HB; have HO201 := n0_; have HB := n1_; clear n0_ n1_; (try clear hb); (try clear hb2); (try clear hk); (try clear hi); (try clear ho0); obtain ⟨Ao24, co24, eo24⟩ := Kd.R_slice HO201.out; subst eo24) | ((with_reducible refine gate_callee (f := 13) rfl ?_); refine goesL_ (some 10) rfl rfl Tryd.func13 (by kernel_rfl) rfl #[.slice Ao24 t199.length co24] rfl (by (try simp only [List.map_toArray, List.map_cons, List.map_nil]); first | done | rfl | (simp only [List.length_drop, List.length_take]; rfl)) ?_; (with_reducible refine (tables_States.calls _ _ t199 t202 t205 _ ?side1 ?side2 A3.out).mono ?_); (case side1 => repeat (first | exact (Kd.R_reads' HO201.out).2.2 | (with_reducible refine Kd.C_alloc ?_ _) | (with_reducible refine Kd.C_drewN ?_ _) | (with_reducible refine Kd.C_drew ?_))); (case side2 => exact (Kd.R_reads' HO201.out).2.1); rintro e w25 ⟨v203, rfl, ho0, hb⟩; refine ⟨_, rfl, ?_⟩; have n0_ := Aside0.mk (Kd.R_below (by (with_reducible repeat (first | apply Kd.R_alloc | apply Kd.R_drewN | apply Kd.R_drew)); exact HO201.out) hb); have n1_ := Aside0.mk (Kd.N_lower (Kd.N_mono (ok' := fun k_ => some k_ ≠ (.slice Ao24 t199.length co24 : Value).ownBlock) ho0 (fun k_ hk_ => (Kd.fresh' (Kd.R_lt (by (with_reducible repeat (first | apply Kd.R_alloc | apply Kd.R_drewN | apply Kd.R_drew)); exact HO201.out)) k_ hk_))) (below_size (by repeat (first | (with_reducible first | exact HB.out | apply below_alloc | apply pw_below_drewN | apply below_drew1) | exact HB.out)))); have n2_ := Aside0.mk (below_step (by repeat (first | (with_reducible first | exact HB.out | apply below_alloc | apply pw_below_drewN | apply below_drew1) | exact HB.out)) hb); clear HO201; clear HB; have HO201 := n0_; have HO204 := n1_; have HB := n2_; clear n0_ n1_ n2_; (try clear hb); (try clear hb2); (try clear hk); (try clear hi); (try clear ho0)) | ((with_reducible refine gate_callee (f := 15) rfl ?_); refine goesL_ (some 14) rfl rfl Tryd.func15 (by kernel_rfl) rfl #[.slice A0 l0.length c0] rfl (by (try simp only [List.map_toArray, List.map_cons, List.map_nil]); first | done | rfl | (simp only [List.length_drop, List.length_take]; rfl)) ?_; (with_reducible refine (comfitref05_Grammar.calls k _ _ l0 true _ ?side1 ?side2 A4.out).mono ?_); (case side1 => repeat (first | exact (Kd.C_below HR0.out HB.out) | (with_reducible refine Kd.C_alloc ?_ _) | (with_reducible refine Kd.C_drewN ?_ _) | (with_reducible refine Kd.C_drew ?_))); (case side2 => exact HC0.out); rintro e w26 ⟨rfl, hb⟩; refine ⟨_, rfl, ?_⟩; have n0_ := Aside0.mk (Kd.R_below (by (with_reducible repeat (first | apply Kd.R_alloc | apply Kd.R_drewN | apply Kd.R_drew)); exact HO201.out) hb); have n1_ := Aside0.mk (Kd.N_below (by (with_reducible repeat (first | apply Kd.N_alloc | apply Kd.N_drewN | apply Kd.N_drew)); exact HO204.out) hb); have n2_ := Aside0.mk (below_step (by repeat (first | (with_reducible first | exact HB.out | apply below_alloc | apply pw_below_drewN | apply below_drew1) | exact HB.out)) hb); clear HO201; clear HO204; clear HB; have HO201 := n0_; have HO204 := n1_; have HB := n2_; clear n0_ n1_ n2_; (try clear hb); (try clear hb2); (try clear hk); (try clear hi)) | ((with_reducible refine gate_callee (f := 17) rfl ?_); refine goesL_ (some 28) rfl rfl Tryd.func17 (by kernel_rfl) rfl #[.slice A0 l0.length c0] rfl (by (try simp only [List.map_toArray, List.map_cons, List.map_nil]); first | done | rfl | (simp only [List.length_drop, List.length_take]; rfl)) ?_; (with_reducible refine (comfitref05_States.calls k _ _ l0 t208 t211 _ ?side1 ?side2 A6.out).mono ?_); (case side1 => repeat (first | exact (Kd.C_below HR0.out HB.out) | (with_reducible refine Kd.C_alloc ?_ _) | (with_reducible refine Kd.C_drewN ?_ _) | (with_reducible refine Kd.C_drew ?_))); (case side2 => exact HC0.out); rintro e w27 ⟨v209, rfl, ho0, hb⟩; refine ⟨_, rfl, ?_⟩; have n0_ := Aside0.mk (Kd.R_below (by (with_reducible repeat (first | apply Kd.R_alloc | apply Kd.R_drewN | apply Kd.R_drew)); exact HO201.out) hb); have n1_ := Aside0.mk (Kd.N_elder' (by (with_reducible repeat (first | apply Kd.N_alloc | apply Kd.N_drewN | apply Kd.N_drew)); exact HO204.out) (by first | exact Kd.N_base ho0 | exact Kd.S_base ho0 | exact Kd.R_base ho0) hb); have n2_ := Aside0.mk (Kd.N_lower (Kd.N_mono (ok' := fun k_ => some k_ ≠ (.slice Ao24 t199.length co24 : Value).ownBlock ∧ some k_ ≠ (v203 : Value).ownBlock) ho0 (fun k_ hk_ => ⟨(Kd.fresh' (Kd.R_lt (by (with_reducible repeat (first | apply Kd.R_alloc | apply Kd.R_drewN | apply Kd.R_drew)); exact HO201.out)) k_ hk_), (Kd.fresh' (Kd.N_lt (by (with_reducible repeat (first | apply Kd.N_alloc | apply Kd.N_drewN | apply Kd.N_drew)); exact HO204.out)) k_ hk_)⟩)) (below_size (by repeat (first | (with_reducible first | exact HB.out | apply below_alloc | apply pw_below_drewN | apply below_drew1) | exact HB.out)))); have n3_ := Aside0.mk (below_step (by repeat (first | (with_reducible first | exact HB.out | apply below_alloc | apply pw_below_drewN | apply below_drew1) | exact HB.out)) hb); clear HO201; clear HO204; clear HB; have HO201 := n0_; have HO204 := n1_; have HO210 := n2_; have HB := n3_; clear n0_ n1_ n2_ n3_; (try clear hb); (try clear hb2); (try clear hk); (try clear hi); (try clear ho0); obtain ⟨Ao28, co28, eo28⟩ := Kd.N_slice HO204.out; subst eo28) | ((with_reducible refine gate_callee (f := 19) rfl ?_); refine goesL_ (some 32) rfl rfl Tryd.func19 (by kernel_rfl) rfl #[.slice Ao28 t202.length co28] rfl (by (try simp only [List.map_toArray, List.map_cons, List.map_nil]); first | done | rfl | (simp only [List.length_drop, List.length_take]; rfl)) ?_; (with_reducible refine (comfitlaw05_items.calls k _ _ t202 t212 _ ?side1 ?side2 A7.out).mono ?_); (case side1 => repeat (first | exact (Kd.N_reads' HO204.out).2.2 | (with_reducible refine Kd.C_alloc ?_ _) | (with_reducible refine Kd.C_drewN ?_ _) | (with_reducible refine Kd.C_drew ?_))); (case side2 => exact (Kd.N_reads' HO204.out).2.1); rintro e w29 ⟨v213, rfl, ho0, hb⟩; refine ⟨_, rfl, ?_⟩; have n0_ := Aside0.mk (Kd.R_below (by (with_reducible repeat (first | apply Kd.R_alloc | apply Kd.R_drewN | apply Kd.R_drew)); exact HO201.out) hb); have n1_ := Aside0.mk (Kd.N_elder' (by (with_reducible repeat (first | apply Kd.N_alloc | apply Kd.N_drewN | apply Kd.N_drew)); exact HO204.out) (by first | exact Kd.N_base ho0 | exact Kd.S_base ho0 | exact Kd.R_base ho0) hb); have n2_ := Aside0.mk (Kd.N_elder' (by (with_reducible repeat (first | apply Kd.N_alloc | apply Kd.N_drewN | apply Kd.N_drew)); exact HO210.out) (by first | exact Kd.N_base ho0 | exact Kd.S_base ho0 | exact Kd.R_base ho0) hb); have n3_ := Aside0.mk (Kd.N_lower (Kd.N_mono (ok' := fun k_ => some k_ ≠ (.slice Ao24 t199.length co24 : Value).ownBlock ∧ some k_ ≠ (.slice Ao28 t202.length co28 : Value).ownBlock ∧ some k_ ≠ (v209 : Value).ownBlock) (Kd.S_N (Kd.S_bound ho0)) (fun k_ hk_ => ⟨(Kd.fresh' (Kd.R_lt (by (with_reducible repeat (first | apply Kd.R_alloc | apply Kd.R_drewN | apply Kd.R_drew)); exact HO201.out)) k_ hk_.2.1), (Kd.fresh' (Kd.N_lt (by (with_reducible repeat (first | apply Kd.N_alloc | apply Kd.N_drewN | apply Kd.N_drew)); exact HO204.out)) k_ hk_.2.1), (Kd.fresh' (Kd.N_lt (by (with_reducible repeat (first | apply Kd.N_alloc | apply Kd.N_drewN | apply Kd.N_drew)); exact HO210.out)) k_ hk_.2.1)⟩)) (below_size (by repeat (first | (with_reducible first | exact HB.out | apply below_alloc | apply pw_below_drewN | apply below_drew1) | exact HB.out)))); have n4_ := Aside0.mk (below_step (by repeat (first | (with_reducible first | exact HB.out | apply below_alloc | apply pw_below_drewN | apply below_drew1) | exact HB.out)) hb); clear HO201; clear HO204; clear HO210; clear HB; have HO201 := n0_; have HO204 := n1_; have HO210 := n2_; have HO214 := n3_; have HB := n4_; clear n0_ n1_ n2_ n3_ n4_; (try clear hb); (try clear hb2); (try clear hk); (try clear hi); (try clear ho0); obtain ⟨Ao30, co30, eo30⟩ := Kd.N_slice HO214.out; subst eo30; obtain ⟨Ao31, co31, eo31⟩ := Kd.N_slice HO210.out; subst eo31) | ((with_reducible refine gate_callee (f := 18) rfl ?_); refine goesL_ (some 34) rfl rfl Tryd.func18 (by kernel_rfl) rfl #[.slice Ao30 t212.length co30, .slice Ao31 t208.length co31, .func (.func 20) #[] #[]] rfl (by (try simp only [List.map_toArray, List.map_cons, List.map_nil]); first | done | rfl | (simp only [List.length_drop, List.length_take]; rfl)) ?_; (with_reducible refine (comfitref05_Item_18.calls _ _ t212 _ _ t208  true _ ?side1 ?side2 ?side3 ?side4 A8.out).mono ?_); (case side1 => repeat (first | exact (Kd.N_reads' HO214.out).2.2 | (with_reducible refine Kd.C_alloc ?_ _) | (with_reducible refine Kd.C_drewN ?_ _) | (with_reducible refine Kd.C_drew ?_))); (case side2 => exact (Kd.N_reads' HO214.out).2.1); (case side3 => repeat (first | exact (Kd.N_reads' HO210.out).2.2 | (with_reducible refine Kd.C_alloc ?_ _) | (with_reducible refine Kd.C_drewN ?_ _) | (with_reducible refine Kd.C_drew ?_))); (case side4 => exact (Kd.N_reads' HO210.out).2.1); rintro e w32 ⟨rfl, hb⟩; refine ⟨_, rfl, ?_⟩; have n0_ := Aside0.mk (Kd.R_below (by (with_reducible repeat (first | apply Kd.R_alloc | apply Kd.R_drewN | apply Kd.R_drew)); exact HO201.out) hb); have n1_ := Aside0.mk (Kd.N_below (by (with_reducible repeat (first | apply Kd.N_alloc | apply Kd.N_drewN | apply Kd.N_drew)); exact HO204.out) hb); have n2_ := Aside0.mk (Kd.N_below (by (with_reducible repeat (first | apply Kd.N_alloc | apply Kd.N_drewN | apply Kd.N_drew)); exact HO210.out) hb); have n3_ := Aside0.mk (Kd.N_below (by (with_reducible repeat (first | apply Kd.N_alloc | apply Kd.N_drewN | apply Kd.N_drew)); exact HO214.out) hb); have n4_ := Aside0.mk (below_step (by repeat (first | (with_reducible first | exact HB.out | apply below_alloc | apply pw_below_drewN | apply below_drew1) | exact HB.out)) hb); clear HO201; clear HO204; clear HO210; clear HO214; clear HB; have HO201 := n0_; have HO204 := n1_; have HO210 := n2_; have HO214 := n3_; have HB := n4_; clear n0_ n1_ n2_ n3_ n4_; (try clear hb); (try clear hb2); (try clear hk); (try clear hi)))
        go_ret
        exact ⟨by first | rfl | (simp [errW_none, errW_some] <;> rfl) | (simp [*, errW_none, errW_some] <;> rfl), by repeat (first | (with_reducible first | exact HB.out | apply below_alloc | apply pw_below_drewN | apply below_drew1) | exact HB.out)⟩
    · replace c9 := Bool.eq_false_iff.mpr c9
      subst c9
      have H1 : (some false) = some r := by rw [if_neg (show ¬ (false = true) by decide)] at H; exact H
      clear H
      have H := H1
      clear H1
      obtain rfl := Option.some.inj H
      go_enter Tryd.func3, Tryd.ntmps3
      go_wp2_with (first | ((with_reducible refine gate_callee (f := 14) rfl ?_); refine goesL_ (some 9) rfl rfl Tryd.func14 (by kernel_rfl) rfl #[.slice A0 l0.length c0] rfl (by (try simp only [List.map_toArray, List.map_cons, List.map_nil]); first | done | rfl | (simp only [List.length_drop, List.length_take]; rfl)) ?_; (with_reducible refine (comfitlaw05_Of.calls k _ _ l0 t199 _ ?side1 ?side2 A2.out).mono ?_); (case side1 => repeat (first | exact HR0.out | (with_reducible refine Kd.C_alloc ?_ _) | (with_reducible refine Kd.C_drewN ?_ _) | (with_reducible refine Kd.C_drew ?_))); (case side2 => exact HC0.out); rintro e w33 ⟨v200, rfl, ho0, hb⟩; refine ⟨_, rfl, ?_⟩; have n0_ := Aside0.mk (Kd.R_lower ho0 (below_size (by repeat (first | (with_reducible first | exact HB.out | apply below_alloc | apply pw_below_drewN | apply below_drew1) | exact HB.out)))); have n1_ := Aside0.mk (below_step (by repeat (first | (with_reducible first | exact HB.out | apply below_alloc | apply pw_below_drewN | apply below_drew1) | exact HB.out)) hb); clear HB; have HO201 := n0_; have HB := n1_; clear n0_ n1_; (try clear hb); (try clear hb2); (try clear hk); (try clear hi); (try clear ho0); obtain ⟨Ao34, co34, eo34⟩ := Kd.R_slice HO201.out; subst eo34) | ((with_reducible refine gate_callee (f := 13) rfl ?_); refine goesL_ (some 10) rfl rfl Tryd.func13 (by kernel_rfl) rfl #[.slice Ao34 t199.length co34] rfl (by (try simp only [List.map_toArray, List.map_cons, List.map_nil]); first | done | rfl | (simp only [List.length_drop, List.length_take]; rfl)) ?_; (with_reducible refine (tables_States.calls _ _ t199 t202 t205 _ ?side1 ?side2 A3.out).mono ?_); (case side1 => repeat (first | exact (Kd.R_reads' HO201.out).2.2 | (with_reducible refine Kd.C_alloc ?_ _) | (with_reducible refine Kd.C_drewN ?_ _) | (with_reducible refine Kd.C_drew ?_))); (case side2 => exact (Kd.R_reads' HO201.out).2.1); rintro e w35 ⟨v203, rfl, ho0, hb⟩; refine ⟨_, rfl, ?_⟩; have n0_ := Aside0.mk (Kd.R_below (by (with_reducible repeat (first | apply Kd.R_alloc | apply Kd.R_drewN | apply Kd.R_drew)); exact HO201.out) hb); have n1_ := Aside0.mk (Kd.N_lower (Kd.N_mono (ok' := fun k_ => some k_ ≠ (.slice Ao34 t199.length co34 : Value).ownBlock) ho0 (fun k_ hk_ => (Kd.fresh' (Kd.R_lt (by (with_reducible repeat (first | apply Kd.R_alloc | apply Kd.R_drewN | apply Kd.R_drew)); exact HO201.out)) k_ hk_))) (below_size (by repeat (first | (with_reducible first | exact HB.out | apply below_alloc | apply pw_below_drewN | apply below_drew1) | exact HB.out)))); have n2_ := Aside0.mk (below_step (by repeat (first | (with_reducible first | exact HB.out | apply below_alloc | apply pw_below_drewN | apply below_drew1) | exact HB.out)) hb); clear HO201; clear HB; have HO201 := n0_; have HO204 := n1_; have HB := n2_; clear n0_ n1_ n2_; (try clear hb); (try clear hb2); (try clear hk); (try clear hi); (try clear ho0)) | ((with_reducible refine gate_callee (f := 15) rfl ?_); refine goesL_ (some 14) rfl rfl Tryd.func15 (by kernel_rfl) rfl #[.slice A0 l0.length c0] rfl (by (try simp only [List.map_toArray, List.map_cons, List.map_nil]); first | done | rfl | (simp only [List.length_drop, List.length_take]; rfl)) ?_; (with_reducible refine (comfitref05_Grammar.calls k _ _ l0 true _ ?side1 ?side2 A4.out).mono ?_); (case side1 => repeat (first | exact (Kd.C_below HR0.out HB.out) | (with_reducible refine Kd.C_alloc ?_ _) | (with_reducible refine Kd.C_drewN ?_ _) | (with_reducible refine Kd.C_drew ?_))); (case side2 => exact HC0.out); rintro e w36 ⟨rfl, hb⟩; refine ⟨_, rfl, ?_⟩; have n0_ := Aside0.mk (Kd.R_below (by (with_reducible repeat (first | apply Kd.R_alloc | apply Kd.R_drewN | apply Kd.R_drew)); exact HO201.out) hb); have n1_ := Aside0.mk (Kd.N_below (by (with_reducible repeat (first | apply Kd.N_alloc | apply Kd.N_drewN | apply Kd.N_drew)); exact HO204.out) hb); have n2_ := Aside0.mk (below_step (by repeat (first | (with_reducible first | exact HB.out | apply below_alloc | apply pw_below_drewN | apply below_drew1) | exact HB.out)) hb); clear HO201; clear HO204; clear HB; have HO201 := n0_; have HO204 := n1_; have HB := n2_; clear n0_ n1_ n2_; (try clear hb); (try clear hb2); (try clear hk); (try clear hi)) | ((with_reducible refine gate_callee (f := 17) rfl ?_); refine goesL_ (some 28) rfl rfl Tryd.func17 (by kernel_rfl) rfl #[.slice A0 l0.length c0] rfl (by (try simp only [List.map_toArray, List.map_cons, List.map_nil]); first | done | rfl | (simp only [List.length_drop, List.length_take]; rfl)) ?_; (with_reducible refine (comfitref05_States.calls k _ _ l0 t208 t211 _ ?side1 ?side2 A6.out).mono ?_); (case side1 => repeat (first | exact (Kd.C_below HR0.out HB.out) | (with_reducible refine Kd.C_alloc ?_ _) | (with_reducible refine Kd.C_drewN ?_ _) | (with_reducible refine Kd.C_drew ?_))); (case side2 => exact HC0.out); rintro e w37 ⟨v209, rfl, ho0, hb⟩; refine ⟨_, rfl, ?_⟩; have n0_ := Aside0.mk (Kd.R_below (by (with_reducible repeat (first | apply Kd.R_alloc | apply Kd.R_drewN | apply Kd.R_drew)); exact HO201.out) hb); have n1_ := Aside0.mk (Kd.N_elder' (by (with_reducible repeat (first | apply Kd.N_alloc | apply Kd.N_drewN | apply Kd.N_drew)); exact HO204.out) (by first | exact Kd.N_base ho0 | exact Kd.S_base ho0 | exact Kd.R_base ho0) hb); have n2_ := Aside0.mk (Kd.N_lower (Kd.N_mono (ok' := fun k_ => some k_ ≠ (.slice Ao34 t199.length co34 : Value).ownBlock ∧ some k_ ≠ (v203 : Value).ownBlock) ho0 (fun k_ hk_ => ⟨(Kd.fresh' (Kd.R_lt (by (with_reducible repeat (first | apply Kd.R_alloc | apply Kd.R_drewN | apply Kd.R_drew)); exact HO201.out)) k_ hk_), (Kd.fresh' (Kd.N_lt (by (with_reducible repeat (first | apply Kd.N_alloc | apply Kd.N_drewN | apply Kd.N_drew)); exact HO204.out)) k_ hk_)⟩)) (below_size (by repeat (first | (with_reducible first | exact HB.out | apply below_alloc | apply pw_below_drewN | apply below_drew1) | exact HB.out)))); have n3_ := Aside0.mk (below_step (by repeat (first | (with_reducible first | exact HB.out | apply below_alloc | apply pw_below_drewN | apply below_drew1) | exact HB.out)) hb); clear HO201; clear HO204; clear HB; have HO201 := n0_; have HO204 := n1_; have HO210 := n2_; have HB := n3_; clear n0_ n1_ n2_ n3_; (try clear hb); (try clear hb2); (try clear hk); (try clear hi); (try clear ho0); obtain ⟨Ao38, co38, eo38⟩ := Kd.N_slice HO204.out; subst eo38) | ((with_reducible refine gate_callee (f := 19) rfl ?_); refine goesL_ (some 32) rfl rfl Tryd.func19 (by kernel_rfl) rfl #[.slice Ao38 t202.length co38] rfl (by (try simp only [List.map_toArray, List.map_cons, List.map_nil]); first | done | rfl | (simp only [List.length_drop, List.length_take]; rfl)) ?_; (with_reducible refine (comfitlaw05_items.calls k _ _ t202 t212 _ ?side1 ?side2 A7.out).mono ?_); (case side1 => repeat (first | exact (Kd.N_reads' HO204.out).2.2 | (with_reducible refine Kd.C_alloc ?_ _) | (with_reducible refine Kd.C_drewN ?_ _) | (with_reducible refine Kd.C_drew ?_))); (case side2 => exact (Kd.N_reads' HO204.out).2.1); rintro e w39 ⟨v213, rfl, ho0, hb⟩; refine ⟨_, rfl, ?_⟩; have n0_ := Aside0.mk (Kd.R_below (by (with_reducible repeat (first | apply Kd.R_alloc | apply Kd.R_drewN | apply Kd.R_drew)); exact HO201.out) hb); have n1_ := Aside0.mk (Kd.N_elder' (by (with_reducible repeat (first | apply Kd.N_alloc | apply Kd.N_drewN | apply Kd.N_drew)); exact HO204.out) (by first | exact Kd.N_base ho0 | exact Kd.S_base ho0 | exact Kd.R_base ho0) hb); have n2_ := Aside0.mk (Kd.N_elder' (by (with_reducible repeat (first | apply Kd.N_alloc | apply Kd.N_drewN | apply Kd.N_drew)); exact HO210.out) (by first | exact Kd.N_base ho0 | exact Kd.S_base ho0 | exact Kd.R_base ho0) hb); have n3_ := Aside0.mk (Kd.N_lower (Kd.N_mono (ok' := fun k_ => some k_ ≠ (.slice Ao34 t199.length co34 : Value).ownBlock ∧ some k_ ≠ (.slice Ao38 t202.length co38 : Value).ownBlock ∧ some k_ ≠ (v209 : Value).ownBlock) (Kd.S_N (Kd.S_bound ho0)) (fun k_ hk_ => ⟨(Kd.fresh' (Kd.R_lt (by (with_reducible repeat (first | apply Kd.R_alloc | apply Kd.R_drewN | apply Kd.R_drew)); exact HO201.out)) k_ hk_.2.1), (Kd.fresh' (Kd.N_lt (by (with_reducible repeat (first | apply Kd.N_alloc | apply Kd.N_drewN | apply Kd.N_drew)); exact HO204.out)) k_ hk_.2.1), (Kd.fresh' (Kd.N_lt (by (with_reducible repeat (first | apply Kd.N_alloc | apply Kd.N_drewN | apply Kd.N_drew)); exact HO210.out)) k_ hk_.2.1)⟩)) (below_size (by repeat (first | (with_reducible first | exact HB.out | apply below_alloc | apply pw_below_drewN | apply below_drew1) | exact HB.out)))); have n4_ := Aside0.mk (below_step (by repeat (first | (with_reducible first | exact HB.out | apply below_alloc | apply pw_below_drewN | apply below_drew1) | exact HB.out)) hb); clear HO201; clear HO204; clear HO210; clear HB; have HO201 := n0_; have HO204 := n1_; have HO210 := n2_; have HO214 := n3_; have HB := n4_; clear n0_ n1_ n2_ n3_ n4_; (try clear hb); (try clear hb2); (try clear hk); (try clear hi); (try clear ho0); obtain ⟨Ao40, co40, eo40⟩ := Kd.N_slice HO214.out; subst eo40; obtain ⟨Ao41, co41, eo41⟩ := Kd.N_slice HO210.out; subst eo41) | ((with_reducible refine gate_callee (f := 18) rfl ?_); refine goesL_ (some 34) rfl rfl Tryd.func18 (by kernel_rfl) rfl #[.slice Ao40 t212.length co40, .slice Ao41 t208.length co41, .func (.func 20) #[] #[]] rfl (by (try simp only [List.map_toArray, List.map_cons, List.map_nil]); first | done | rfl | (simp only [List.length_drop, List.length_take]; rfl)) ?_; (with_reducible refine (comfitref05_Item_18.calls _ _ t212 _ _ t208  false _ ?side1 ?side2 ?side3 ?side4 A8.out).mono ?_); (case side1 => repeat (first | exact (Kd.N_reads' HO214.out).2.2 | (with_reducible refine Kd.C_alloc ?_ _) | (with_reducible refine Kd.C_drewN ?_ _) | (with_reducible refine Kd.C_drew ?_))); (case side2 => exact (Kd.N_reads' HO214.out).2.1); (case side3 => repeat (first | exact (Kd.N_reads' HO210.out).2.2 | (with_reducible refine Kd.C_alloc ?_ _) | (with_reducible refine Kd.C_drewN ?_ _) | (with_reducible refine Kd.C_drew ?_))); (case side4 => exact (Kd.N_reads' HO210.out).2.1); rintro e w42 ⟨rfl, hb⟩; refine ⟨_, rfl, ?_⟩; have n0_ := Aside0.mk (Kd.R_below (by (with_reducible repeat (first | apply Kd.R_alloc | apply Kd.R_drewN | apply Kd.R_drew)); exact HO201.out) hb); have n1_ := Aside0.mk (Kd.N_below (by (with_reducible repeat (first | apply Kd.N_alloc | apply Kd.N_drewN | apply Kd.N_drew)); exact HO204.out) hb); have n2_ := Aside0.mk (Kd.N_below (by (with_reducible repeat (first | apply Kd.N_alloc | apply Kd.N_drewN | apply Kd.N_drew)); exact HO210.out) hb); have n3_ := Aside0.mk (Kd.N_below (by (with_reducible repeat (first | apply Kd.N_alloc | apply Kd.N_drewN | apply Kd.N_drew)); exact HO214.out) hb); have n4_ := Aside0.mk (below_step (by repeat (first | (with_reducible first | exact HB.out | apply below_alloc | apply pw_below_drewN | apply below_drew1) | exact HB.out)) hb); clear HO201; clear HO204; clear HO210; clear HO214; clear HB; have HO201 := n0_; have HO204 := n1_; have HO210 := n2_; have HO214 := n3_; have HB := n4_; clear n0_ n1_ n2_ n3_ n4_; (try clear hb); (try clear hb2); (try clear hk); (try clear hi)))
      go_ret
      exact ⟨by first | rfl | (simp [errW_none, errW_some] <;> rfl) | (simp [*, errW_none, errW_some] <;> rfl), by repeat (first | (with_reducible first | exact HB.out | apply below_alloc | apply pw_below_drewN | apply below_drew1) | exact HB.out)⟩
  · replace c5 := Bool.eq_false_iff.mpr c5
    subst c5
    have H1 : (if (t202.length : Int) = 0 then (if t205 = 2 then ((comfitlaw05_awake.f).bind fun t207 => (some t207)) else (some false)) else (some false)) = some r := by rw [if_neg (show ¬ (false = true) by decide)] at H; exact H
    clear H
    have H := H1
    clear H1
    by_cases c43 : (t202.length : Int) = 0
    · rw [if_pos c43] at H
      have c43b0 : ((t202.length : Int) == 0) = true := beq_iff_eq.mpr c43
      have c43b1 : ((t202.length : Int) != 0) = false := bne_eq_false_iff_eq.mpr c43
      clear c43
      by_cases c44 : t205 = 2
      · rw [if_pos c44] at H
        have c44b0 : (t205 == 2) = true := beq_iff_eq.mpr c44
        have c44b1 : (t205 != 2) = false := bne_eq_false_iff_eq.mpr c44
        clear c44
        replace H := Option.bind_eq_some_iff.mp H
        obtain ⟨t207, A450, H⟩ := H
        replace H : (some t207) = some r := H
        have A45 := Aside0.mk A450
        clear A450
        obtain rfl := Option.some.inj H
        go_enter Tryd.func3, Tryd.ntmps3
        go_wp2_with (first | ((with_reducible refine gate_callee (f := 14) rfl ?_); refine goesL_ (some 9) rfl rfl Tryd.func14 (by kernel_rfl) rfl #[.slice A0 l0.length c0] rfl (by (try simp only [List.map_toArray, List.map_cons, List.map_nil]); first | done | rfl | (simp only [List.length_drop, List.length_take]; rfl)) ?_; (with_reducible refine (comfitlaw05_Of.calls k _ _ l0 t199 _ ?side1 ?side2 A2.out).mono ?_); (case side1 => repeat (first | exact HR0.out | (with_reducible refine Kd.C_alloc ?_ _) | (with_reducible refine Kd.C_drewN ?_ _) | (with_reducible refine Kd.C_drew ?_))); (case side2 => exact HC0.out); rintro e w46 ⟨v200, rfl, ho0, hb⟩; refine ⟨_, rfl, ?_⟩; have n0_ := Aside0.mk (Kd.R_lower ho0 (below_size (by repeat (first | (with_reducible first | exact HB.out | apply below_alloc | apply pw_below_drewN | apply below_drew1) | exact HB.out)))); have n1_ := Aside0.mk (below_step (by repeat (first | (with_reducible first | exact HB.out | apply below_alloc | apply pw_below_drewN | apply below_drew1) | exact HB.out)) hb); clear HB; have HO201 := n0_; have HB := n1_; clear n0_ n1_; (try clear hb); (try clear hb2); (try clear hk); (try clear hi); (try clear ho0); obtain ⟨Ao47, co47, eo47⟩ := Kd.R_slice HO201.out; subst eo47) | ((with_reducible refine gate_callee (f := 13) rfl ?_); refine goesL_ (some 10) rfl rfl Tryd.func13 (by kernel_rfl) rfl #[.slice Ao47 t199.length co47] rfl (by (try simp only [List.map_toArray, List.map_cons, List.map_nil]); first | done | rfl | (simp only [List.length_drop, List.length_take]; rfl)) ?_; (with_reducible refine (tables_States.calls _ _ t199 t202 t205 _ ?side1 ?side2 A3.out).mono ?_); (case side1 => repeat (first | exact (Kd.R_reads' HO201.out).2.2 | (with_reducible refine Kd.C_alloc ?_ _) | (with_reducible refine Kd.C_drewN ?_ _) | (with_reducible refine Kd.C_drew ?_))); (case side2 => exact (Kd.R_reads' HO201.out).2.1); rintro e w48 ⟨v203, rfl, ho0, hb⟩; refine ⟨_, rfl, ?_⟩; have n0_ := Aside0.mk (Kd.R_below (by (with_reducible repeat (first | apply Kd.R_alloc | apply Kd.R_drewN | apply Kd.R_drew)); exact HO201.out) hb); have n1_ := Aside0.mk (Kd.N_lower (Kd.N_mono (ok' := fun k_ => some k_ ≠ (.slice Ao47 t199.length co47 : Value).ownBlock) ho0 (fun k_ hk_ => (Kd.fresh' (Kd.R_lt (by (with_reducible repeat (first | apply Kd.R_alloc | apply Kd.R_drewN | apply Kd.R_drew)); exact HO201.out)) k_ hk_))) (below_size (by repeat (first | (with_reducible first | exact HB.out | apply below_alloc | apply pw_below_drewN | apply below_drew1) | exact HB.out)))); have n2_ := Aside0.mk (below_step (by repeat (first | (with_reducible first | exact HB.out | apply below_alloc | apply pw_below_drewN | apply below_drew1) | exact HB.out)) hb); clear HO201; clear HB; have HO201 := n0_; have HO204 := n1_; have HB := n2_; clear n0_ n1_ n2_; (try clear hb); (try clear hb2); (try clear hk); (try clear hi); (try clear ho0)) | ((with_reducible refine gate_callee (f := 15) rfl ?_); refine goesL_ (some 14) rfl rfl Tryd.func15 (by kernel_rfl) rfl #[.slice A0 l0.length c0] rfl (by (try simp only [List.map_toArray, List.map_cons, List.map_nil]); first | done | rfl | (simp only [List.length_drop, List.length_take]; rfl)) ?_; (with_reducible refine (comfitref05_Grammar.calls k _ _ l0 false _ ?side1 ?side2 A4.out).mono ?_); (case side1 => repeat (first | exact (Kd.C_below HR0.out HB.out) | (with_reducible refine Kd.C_alloc ?_ _) | (with_reducible refine Kd.C_drewN ?_ _) | (with_reducible refine Kd.C_drew ?_))); (case side2 => exact HC0.out); rintro e w49 ⟨rfl, hb⟩; refine ⟨_, rfl, ?_⟩; have n0_ := Aside0.mk (Kd.R_below (by (with_reducible repeat (first | apply Kd.R_alloc | apply Kd.R_drewN | apply Kd.R_drew)); exact HO201.out) hb); have n1_ := Aside0.mk (Kd.N_below (by (with_reducible repeat (first | apply Kd.N_alloc | apply Kd.N_drewN | apply Kd.N_drew)); exact HO204.out) hb); have n2_ := Aside0.mk (below_step (by repeat (first | (with_reducible first | exact HB.out | apply below_alloc | apply pw_below_drewN | apply below_drew1) | exact HB.out)) hb); clear HO201; clear HO204; clear HB; have HO201 := n0_; have HO204 := n1_; have HB := n2_; clear n0_ n1_ n2_; (try clear hb); (try clear hb2); (try clear hk); (try clear hi); obtain ⟨Ao50, co50, eo50⟩ := Kd.N_slice HO204.out; subst eo50) | (go_at_call 16; (with_reducible refine (comfitlaw05_awake.calls  t207 _ A45.out).mono ?_); rintro e w51 ⟨rfl, hb⟩; have n0_ := Aside0.mk (Kd.R_below (by (with_reducible repeat (first | apply Kd.R_alloc | apply Kd.R_drewN | apply Kd.R_drew)); exact HO201.out) hb); have n1_ := Aside0.mk (Kd.N_below (by (with_reducible repeat (first | apply Kd.N_alloc | apply Kd.N_drewN | apply Kd.N_drew)); exact HO204.out) hb); have n2_ := Aside0.mk (below_step (by repeat (first | (with_reducible first | exact HB.out | apply below_alloc | apply pw_below_drewN | apply below_drew1) | exact HB.out)) hb); clear HO201; clear HO204; clear HB; have HO201 := n0_; have HO204 := n1_; have HB := n2_; clear n0_ n1_ n2_; (try clear hb); (try clear hb2); (try clear hk); (try clear hi)))
        go_ret
        exact ⟨by first | rfl | (simp [errW_none, errW_some] <;> rfl) | (simp [*, errW_none, errW_some] <;> rfl), by repeat (first | (with_reducible first | exact HB.out | apply below_alloc | apply pw_below_drewN | apply below_drew1) | exact HB.out)⟩
      · rw [if_neg c44] at H
        have c44b0 : (t205 == 2) = false := beq_eq_false_iff_ne.mpr c44
        have c44b1 : (t205 != 2) = true := bne_iff_ne.mpr c44
        obtain rfl := Option.some.inj H
        go_enter Tryd.func3, Tryd.ntmps3
        go_wp2_with (first | ((with_reducible refine gate_callee (f := 14) rfl ?_); refine goesL_ (some 9) rfl rfl Tryd.func14 (by kernel_rfl) rfl #[.slice A0 l0.length c0] rfl (by (try simp only [List.map_toArray, List.map_cons, List.map_nil]); first | done | rfl | (simp only [List.length_drop, List.length_take]; rfl)) ?_; (with_reducible refine (comfitlaw05_Of.calls k _ _ l0 t199 _ ?side1 ?side2 A2.out).mono ?_); (case side1 => repeat (first | exact HR0.out | (with_reducible refine Kd.C_alloc ?_ _) | (with_reducible refine Kd.C_drewN ?_ _) | (with_reducible refine Kd.C_drew ?_))); (case side2 => exact HC0.out); rintro e w52 ⟨v200, rfl, ho0, hb⟩; refine ⟨_, rfl, ?_⟩; have n0_ := Aside0.mk (Kd.R_lower ho0 (below_size (by repeat (first | (with_reducible first | exact HB.out | apply below_alloc | apply pw_below_drewN | apply below_drew1) | exact HB.out)))); have n1_ := Aside0.mk (below_step (by repeat (first | (with_reducible first | exact HB.out | apply below_alloc | apply pw_below_drewN | apply below_drew1) | exact HB.out)) hb); clear HB; have HO201 := n0_; have HB := n1_; clear n0_ n1_; (try clear hb); (try clear hb2); (try clear hk); (try clear hi); (try clear ho0); obtain ⟨Ao53, co53, eo53⟩ := Kd.R_slice HO201.out; subst eo53) | ((with_reducible refine gate_callee (f := 13) rfl ?_); refine goesL_ (some 10) rfl rfl Tryd.func13 (by kernel_rfl) rfl #[.slice Ao53 t199.length co53] rfl (by (try simp only [List.map_toArray, List.map_cons, List.map_nil]); first | done | rfl | (simp only [List.length_drop, List.length_take]; rfl)) ?_; (with_reducible refine (tables_States.calls _ _ t199 t202 t205 _ ?side1 ?side2 A3.out).mono ?_); (case side1 => repeat (first | exact (Kd.R_reads' HO201.out).2.2 | (with_reducible refine Kd.C_alloc ?_ _) | (with_reducible refine Kd.C_drewN ?_ _) | (with_reducible refine Kd.C_drew ?_))); (case side2 => exact (Kd.R_reads' HO201.out).2.1); rintro e w54 ⟨v203, rfl, ho0, hb⟩; refine ⟨_, rfl, ?_⟩; have n0_ := Aside0.mk (Kd.R_below (by (with_reducible repeat (first | apply Kd.R_alloc | apply Kd.R_drewN | apply Kd.R_drew)); exact HO201.out) hb); have n1_ := Aside0.mk (Kd.N_lower (Kd.N_mono (ok' := fun k_ => some k_ ≠ (.slice Ao53 t199.length co53 : Value).ownBlock) ho0 (fun k_ hk_ => (Kd.fresh' (Kd.R_lt (by (with_reducible repeat (first | apply Kd.R_alloc | apply Kd.R_drewN | apply Kd.R_drew)); exact HO201.out)) k_ hk_))) (below_size (by repeat (first | (with_reducible first | exact HB.out | apply below_alloc | apply pw_below_drewN | apply below_drew1) | exact HB.out)))); have n2_ := Aside0.mk (below_step (by repeat (first | (with_reducible first | exact HB.out | apply below_alloc | apply pw_below_drewN | apply below_drew1) | exact HB.out)) hb); clear HO201; clear HB; have HO201 := n0_; have HO204 := n1_; have HB := n2_; clear n0_ n1_ n2_; (try clear hb); (try clear hb2); (try clear hk); (try clear hi); (try clear ho0)) | ((with_reducible refine gate_callee (f := 15) rfl ?_); refine goesL_ (some 14) rfl rfl Tryd.func15 (by kernel_rfl) rfl #[.slice A0 l0.length c0] rfl (by (try simp only [List.map_toArray, List.map_cons, List.map_nil]); first | done | rfl | (simp only [List.length_drop, List.length_take]; rfl)) ?_; (with_reducible refine (comfitref05_Grammar.calls k _ _ l0 false _ ?side1 ?side2 A4.out).mono ?_); (case side1 => repeat (first | exact (Kd.C_below HR0.out HB.out) | (with_reducible refine Kd.C_alloc ?_ _) | (with_reducible refine Kd.C_drewN ?_ _) | (with_reducible refine Kd.C_drew ?_))); (case side2 => exact HC0.out); rintro e w55 ⟨rfl, hb⟩; refine ⟨_, rfl, ?_⟩; have n0_ := Aside0.mk (Kd.R_below (by (with_reducible repeat (first | apply Kd.R_alloc | apply Kd.R_drewN | apply Kd.R_drew)); exact HO201.out) hb); have n1_ := Aside0.mk (Kd.N_below (by (with_reducible repeat (first | apply Kd.N_alloc | apply Kd.N_drewN | apply Kd.N_drew)); exact HO204.out) hb); have n2_ := Aside0.mk (below_step (by repeat (first | (with_reducible first | exact HB.out | apply below_alloc | apply pw_below_drewN | apply below_drew1) | exact HB.out)) hb); clear HO201; clear HO204; clear HB; have HO201 := n0_; have HO204 := n1_; have HB := n2_; clear n0_ n1_ n2_; (try clear hb); (try clear hb2); (try clear hk); (try clear hi); obtain ⟨Ao56, co56, eo56⟩ := Kd.N_slice HO204.out; subst eo56))
        go_ret
        exact ⟨by first | rfl | (simp [errW_none, errW_some] <;> rfl) | (simp [*, errW_none, errW_some] <;> rfl), by repeat (first | (with_reducible first | exact HB.out | apply below_alloc | apply pw_below_drewN | apply below_drew1) | exact HB.out)⟩
    · rw [if_neg c43] at H
      have c43b0 : ((t202.length : Int) == 0) = false := beq_eq_false_iff_ne.mpr c43
      have c43b1 : ((t202.length : Int) != 0) = true := bne_iff_ne.mpr c43
      have c43b2 : ¬ (t202 = []) := fun h_ => c43 (by rw [h_]; rfl)
      obtain rfl := Option.some.inj H
      go_enter Tryd.func3, Tryd.ntmps3
      go_wp2_with (first | ((with_reducible refine gate_callee (f := 14) rfl ?_); refine goesL_ (some 9) rfl rfl Tryd.func14 (by kernel_rfl) rfl #[.slice A0 l0.length c0] rfl (by (try simp only [List.map_toArray, List.map_cons, List.map_nil]); first | done | rfl | (simp only [List.length_drop, List.length_take]; rfl)) ?_; (with_reducible refine (comfitlaw05_Of.calls k _ _ l0 t199 _ ?side1 ?side2 A2.out).mono ?_); (case side1 => repeat (first | exact HR0.out | (with_reducible refine Kd.C_alloc ?_ _) | (with_reducible refine Kd.C_drewN ?_ _) | (with_reducible refine Kd.C_drew ?_))); (case side2 => exact HC0.out); rintro e w57 ⟨v200, rfl, ho0, hb⟩; refine ⟨_, rfl, ?_⟩; have n0_ := Aside0.mk (Kd.R_lower ho0 (below_size (by repeat (first | (with_reducible first | exact HB.out | apply below_alloc | apply pw_below_drewN | apply below_drew1) | exact HB.out)))); have n1_ := Aside0.mk (below_step (by repeat (first | (with_reducible first | exact HB.out | apply below_alloc | apply pw_below_drewN | apply below_drew1) | exact HB.out)) hb); clear HB; have HO201 := n0_; have HB := n1_; clear n0_ n1_; (try clear hb); (try clear hb2); (try clear hk); (try clear hi); (try clear ho0); obtain ⟨Ao58, co58, eo58⟩ := Kd.R_slice HO201.out; subst eo58) | ((with_reducible refine gate_callee (f := 13) rfl ?_); refine goesL_ (some 10) rfl rfl Tryd.func13 (by kernel_rfl) rfl #[.slice Ao58 t199.length co58] rfl (by (try simp only [List.map_toArray, List.map_cons, List.map_nil]); first | done | rfl | (simp only [List.length_drop, List.length_take]; rfl)) ?_; (with_reducible refine (tables_States.calls _ _ t199 t202 t205 _ ?side1 ?side2 A3.out).mono ?_); (case side1 => repeat (first | exact (Kd.R_reads' HO201.out).2.2 | (with_reducible refine Kd.C_alloc ?_ _) | (with_reducible refine Kd.C_drewN ?_ _) | (with_reducible refine Kd.C_drew ?_))); (case side2 => exact (Kd.R_reads' HO201.out).2.1); rintro e w59 ⟨v203, rfl, ho0, hb⟩; refine ⟨_, rfl, ?_⟩; have n0_ := Aside0.mk (Kd.R_below (by (with_reducible repeat (first | apply Kd.R_alloc | apply Kd.R_drewN | apply Kd.R_drew)); exact HO201.out) hb); have n1_ := Aside0.mk (Kd.N_lower (Kd.N_mono (ok' := fun k_ => some k_ ≠ (.slice Ao58 t199.length co58 : Value).ownBlock) ho0 (fun k_ hk_ => (Kd.fresh' (Kd.R_lt (by (with_reducible repeat (first | apply Kd.R_alloc | apply Kd.R_drewN | apply Kd.R_drew)); exact HO201.out)) k_ hk_))) (below_size (by repeat (first | (with_reducible first | exact HB.out | apply below_alloc | apply pw_below_drewN | apply below_drew1) | exact HB.out)))); have n2_ := Aside0.mk (below_step (by repeat (first | (with_reducible first | exact HB.out | apply below_alloc | apply pw_below_drewN | apply below_drew1) | exact HB.out)) hb); clear HO201; clear HB; have HO201 := n0_; have HO204 := n1_; have HB := n2_; clear n0_ n1_ n2_; (try clear hb); (try clear hb2); (try clear hk); (try clear hi); (try clear ho0)) | ((with_reducible refine gate_callee (f := 15) rfl ?_); refine goesL_ (some 14) rfl rfl Tryd.func15 (by kernel_rfl) rfl #[.slice A0 l0.length c0] rfl (by (try simp only [List.map_toArray, List.map_cons, List.map_nil]); first | done | rfl | (simp only [List.length_drop, List.length_take]; rfl)) ?_; (with_reducible refine (comfitref05_Grammar.calls k _ _ l0 false _ ?side1 ?side2 A4.out).mono ?_); (case side1 => repeat (first | exact (Kd.C_below HR0.out HB.out) | (with_reducible refine Kd.C_alloc ?_ _) | (with_reducible refine Kd.C_drewN ?_ _) | (with_reducible refine Kd.C_drew ?_))); (case side2 => exact HC0.out); rintro e w60 ⟨rfl, hb⟩; refine ⟨_, rfl, ?_⟩; have n0_ := Aside0.mk (Kd.R_below (by (with_reducible repeat (first | apply Kd.R_alloc | apply Kd.R_drewN | apply Kd.R_drew)); exact HO201.out) hb); have n1_ := Aside0.mk (Kd.N_below (by (with_reducible repeat (first | apply Kd.N_alloc | apply Kd.N_drewN | apply Kd.N_drew)); exact HO204.out) hb); have n2_ := Aside0.mk (below_step (by repeat (first | (with_reducible first | exact HB.out | apply below_alloc | apply pw_below_drewN | apply below_drew1) | exact HB.out)) hb); clear HO201; clear HO204; clear HB; have HO201 := n0_; have HO204 := n1_; have HB := n2_; clear n0_ n1_ n2_; (try clear hb); (try clear hb2); (try clear hk); (try clear hi); obtain ⟨Ao61, co61, eo61⟩ := Kd.N_slice HO204.out; subst eo61))
      go_ret
      exact ⟨by first | rfl | (simp [errW_none, errW_some] <;> rfl) | (simp [*, errW_none, errW_some] <;> rfl), by repeat (first | (with_reducible first | exact HB.out | apply below_alloc | apply pw_below_drewN | apply below_drew1) | exact HB.out)⟩

end Go.Proofs.YtpmmfckgfbdboaaDoor.G
end

section
namespace Go.Proofs.YtpmmfckgfbdboaaDoor.G
open Go.RowKit Go.Proofs.YtpmmfckgfbdboaaDoorW.PrintWords Go.Proofs.YtpmmfckgfbdboaaDoorW.PrintLast Go.Proofs.YtpmmfckgfbdboaaDoorW.PrintMore
open Go.Shelf Go.Lib
set_option linter.unusedVariables false
set_option linter.unusedSimpArgs false
/-! items, and the law TablesStates as plain Lean. -/
theorem drop95 (xs : List S95) (i : Nat) (h1 : i < xs.length) : xs.drop i = rd_T95 xs (i : Int) :: xs.drop (i + 1) := by
  rw [List.drop_eq_getElem_cons h1]
  congr 1
  simp [rd_T95, List.getD_eq_getElem?_getD, h1]
theorem items_l1 (F : List (List S95)) (A : List (List S39)) (N i : Int) (s : List S95) (hl : s.length ≤ 1000) (hA : A.length ≤ 64) (K : Nat) (R : List (List S39)) (hc : ∀ k, K ≤ k → comfitlaw05_items.l0 k (A ++ [s.map to39]) F N (wrap64 (i + 1)) = some R) :
    ∀ (n j : Nat) (xs : List S39), s.length = j + n → xs.length ≤ j → xs ++ (s.drop j).map to39 = s.map to39 → ∀ k, K + n + 1 ≤ k → comfitlaw05_items.l1 k A xs F N i s (s.length : Int) (j : Int) = some R
  | 0, j, xs, h, hx, he, k, hk => by
    obtain ⟨k, rfl⟩ : ∃ m, k = m + 1 := ⟨k - 1, by omega⟩
    rw [List.drop_of_length_le (by omega)] at he
    simp only [List.map_nil, List.append_nil] at he
    subst he
    simp only [comfitlaw05_items.l1]
    rw [if_neg (by omega), if_pos (by omega)]
    exact hc k (by omega)
  | n + 1, j, xs, h, hx, he, k, hk => by
    obtain ⟨k, rfl⟩ : ∃ m, k = m + 1 := ⟨k - 1, by omega⟩
    have hj0 : (0 : Int) ≤ (j : Int) := by omega
    have hjI : (j : Int) < (s.length : Int) := by omega
    have hw : wrap64 ((j : Int) + 1) = ((j + 1 : Nat) : Int) := by rw [wrap64_succ (n := s.length) hj0 ⟨hjI, by omega⟩]; omega
    have hxl : xs.length < 8796093022208 := by omega
    have q1 : s.length = j + 1 + n := by omega
    have q2 : (xs ++ [(⟨(rd_T95 s (j : Int)).f0, (rd_T95 s (j : Int)).f1⟩ : S39)]).length ≤ j + 1 := by rw [List.length_append, List.length_singleton]; omega
    have q3 : K + n + 1 ≤ k := by omega
    have q4 : j < s.length := by omega
    simp only [comfitlaw05_items.l1]
    rw [if_pos hjI, if_pos hj0, if_pos hjI, if_pos hxl, hw]
    refine items_l1 F A N i s hl hA K R hc n (j + 1) _ q1 q2 ?_ k q3
    rw [← he, drop95 s j q4, List.append_assoc]
    rfl
theorem items_l0 (F : List (List S95)) (hF : F.length ≤ 64) (hs : ∀ s ∈ F, s.length ≤ 1000) : ∀ (n i : Nat), F.length = i + n → ∀ k, 1003 * n + 1 ≤ k → comfitlaw05_items.l0 k (mp (F.take i)) F (F.length : Int) (i : Int) = some (mp F)
  | 0, i, h, k, hk => by
    obtain ⟨k, rfl⟩ : ∃ m, k = m + 1 := ⟨k - 1, by omega⟩
    simp only [comfitlaw05_items.l0]
    rw [if_neg (by omega), List.take_of_length_le (by omega)]
  | n + 1, i, h, k, hk => by
    obtain ⟨k, rfl⟩ : ∃ m, k = m + 1 := ⟨k - 1, by omega⟩
    have hi0 : (0 : Int) ≤ (i : Int) := by omega
    have hiI : (i : Int) < (F.length : Int) := by omega
    have hlt : i < F.length := by omega
    have hw : wrap64 ((i : Int) + 1) = ((i + 1 : Nat) : Int) := by rw [wrap64_succ (n := F.length) hi0 ⟨hiI, by omega⟩]; omega
    have hrd : rd_L6 F (i : Int) = F[i] := by simp [rd_L6, List.getD_eq_getElem?_getD, hlt]
    have hsl := hs _ (List.getElem_mem hlt)
    have htk : mp (F.take i) ++ [(F[i]).map to39] = mp (F.take (i + 1)) := by
      rw [List.take_succ_eq_append_getElem hlt]
      unfold mp
      rw [List.map_append]
      rfl
    have q1 : F.length = i + 1 + n := by omega
    have q2 : (mp (F.take i)).length ≤ 64 := by simp only [mp, List.length_map, List.length_take]; omega
    have q3 : 1003 * n + 1 + (F[i]).length + 1 ≤ k := by omega
    have ih := items_l0 F hF hs n (i + 1) q1
    simp only [comfitlaw05_items.l0]
    rw [if_pos hiI, if_pos hi0, if_pos hiI, hrd]
    have := items_l1 F (mp (F.take i)) (F.length : Int) (i : Int) F[i] hsl q2 (1003 * n + 1) (mp F) (fun k hk => by rw [htk, hw]; exact ih k hk) (F[i]).length 0 [] (by omega) (by simp) (by simp) k q3
    have e0 : ((0 : Nat) : Int) = 0 := rfl
    rw [e0] at this
    exact this
theorem items_f (F : List (List S95)) (hF : F.length ≤ 64) (hs : ∀ s ∈ F, s.length ≤ 1000) (k : Nat) (hk : 65000 ≤ k) : comfitlaw05_items.f k F = some (mp F) := by
  have := items_l0 F hF hs F.length 0 (by omega) k (by omega)
  have e0 : ((0 : Nat) : Int) = 0 := rfl
  rw [e0] at this
  exact this
/-- The program's states of what Of copies. -/
theorem states_of (l : List S41) : tables_States.f (ofL l) = some (if validB (gr41 l) = true then (match refStates (gr41 l) with | none => (([] : List (List S95)), (6 : Int)) | some F => (F, 0)) else ([], 2)) := by
  unfold tables_States.f
  rw [ofL_gr, validB_of]
  by_cases h : validB (gr41 l) = true
  · rw [if_pos h, if_pos h, valid_same h]
    cases refStates (gr41 l) <;> rfl
  · rw [if_neg h, if_neg h]
theorem gr41_pos {l : List S41} (h : validB (gr41 l) = true) : okG (gr41 l) ∧ 0 < l.length := by
  obtain ⟨h1, h2⟩ := validB_ok h
  refine ⟨h1, ?_⟩
  rcases Nat.eq_zero_or_pos l.length with h3 | h3
  · rw [List.length_eq_zero_iff] at h3
    subst h3
    exact absurd rfl h2
  · exact h3
theorem outS_ok {g : List (Int × List Int)} (hg : okG g) (k : Nat) (hk : 65000 ≤ k) : ∀ (r : Option (List (List S95))), refStates g = r → ∃ A : List (List S39), comfitlaw05_items.f k (match r with | none => ([] : List (List S95)) | some F => F) = some A ∧ comfitref05_Item_18.f A (outS r).1 = some true
  | none, h => ⟨[], items_f [] (by simp) (fun s hs => by simp at hs) k hk, rfl⟩
  | some F, h => by
    obtain ⟨h1, h2, h3⟩ := refStates_good hg h
    have hs : ∀ s ∈ F, s.length ≤ 1000 := fun s hs => Nat.le_trans (goodSt_len hg (h2.2 s hs)) (by decide)
    refine ⟨mp F, items_f F h2.1 hs k hk, ?_⟩
    show comfitref05_Item_18.f (mp F) (mp F) = some true
    rw [equalFunc_f (by simp only [mp, List.length_map]; exact Nat.lt_of_le_of_lt h2.1 (by decide)) (fun s hs' => by
      obtain ⟨t, ht, rfl⟩ := List.mem_map.1 hs'
      rw [List.length_map]
      exact Nat.lt_of_le_of_lt (hs t ht) (by decide)), (eqLL_iff (mp F) (mp F)).2 rfl]
theorem tablesStates_pure (l : List S41) (hl : l.length < 2 ^ 61) : ∃ k, comfitlaw05_TablesStates.f k l = some true := by
  obtain ⟨k, hk⟩ : ∃ k, k = (l.length + 12) * l.length + l.length + 100000 := ⟨_, rfl⟩
  have k1 : l.length + 1 ≤ k := by omega
  have k2 : (l.length + 12) * l.length + 1 ≤ k := by omega
  have k3 : 80000 ≤ k := by omega
  have k4 : 65000 ≤ k := by omega
  have hl62 : l.length < 2 ^ 62 := Nat.lt_trans hl (by decide)
  refine ⟨k, ?_⟩
  unfold comfitlaw05_TablesStates.f
  rw [of_f l hl62 k k1]
  simp only [Option.bind_some]
  rw [states_of, grammar_f l hl k k2]
  simp only [Option.bind_some]
  by_cases h : validB (gr41 l) = true
  · obtain ⟨hg, hne⟩ := gr41_pos h
    rw [if_pos h, if_pos h, states_f l hg hne k k3]
    simp only [Option.bind_some]
    obtain ⟨r, hr⟩ : ∃ r, refStates (gr41 l) = r := ⟨_, rfl⟩
    obtain ⟨A, hA, hE⟩ := outS_ok hg k k4 r hr
    rw [hr]
    cases r with
    | none =>
      simp only at hA ⊢
      rw [hA]
      simp only [Option.bind_some]
      rw [hE]
      rfl
    | some F =>
      simp only at hA ⊢
      rw [hA]
      simp only [Option.bind_some]
      rw [hE]
      rfl
  · rw [if_neg h, if_neg h]
    rfl
end Go.Proofs.YtpmmfckgfbdboaaDoor.G
end

section
namespace Go.Proofs.YtpmmfckgfbdboaaDoor.tablesStates
open Go.ChangeShapes Go.WideShapes Go.ChangeAt Go.RowKit Go.Proofs.YtpmmfckgfbdboaaDoor.G
open Go.Proofs.YtpmmfckgfbdboaaDoorW.PrintWords
set_option linter.unusedVariables false
theorem own : ownKnob Tryd.prog.godebug = none := by kernel_rfl
theorem laidOut : laidOutB Tryd.prog = true := by kernel_rfl
theorem bound {n : Nat} (h : n * 24 ≤ 140737488351232) : n < 2 ^ 61 := by omega
theorem walk (A : Option Addr) (c : Nat) (l : List S41) (W : World) (hc : l.length ≤ c) (hC : Kd.C k41 W A l.length l) (hz : l.length * 24 ≤ 140737488351232) :
    Calls Tryd.prog 3 #[.slice A l.length c] W fun e w' => e = .returned (.bool true) ∧ Below W.heap.size W w' := by
  obtain ⟨k, hk⟩ := tablesStates_pure l (bound hz)
  exact comfitlaw05_TablesStates.calls k A c l true W hC hc hk
set_option maxRecDepth 100000 in
theorem lifted (os : Os) (started : os.Started) (H : Type) (enc : TypeId × Value → H) :
    ReturnsInHanded {} Tryd.checked os 3 .any (fun w args => (Rows.tablesStatesSpec.pre enc Tryd.prog Tryd.f3 Rows.tablesStatesRow.domain false w args ∧ laidMetH Tryd.prog Rows.tablesStatesRow.laid w) ∧ sizedMet enc Tryd.prog Tryd.f3 (OpenSpec.ofChange Rows.tablesStatesSpec) false w args)
      (Rows.tablesStatesSpec.post enc Tryd.prog Tryd.f3 false true false false) := by
  refine returnsInHanded_of_change_and (C := Tryd.checked) (X := fun w _ => laidMetH Tryd.prog Rows.tablesStatesRow.laid w) (fun _ _ _ hh h => h.of_heap hh) own started (by kernel_rfl) Tryd.func3
    (ChangeSpec.witness_shaped (enc := enc) (C := Tryd.checked) (os := os) (X := fun w _ => laidMetH Tryd.prog Rows.tablesStatesRow.laid w) false (World.laidAll Tryd.prog os Rows.tablesStatesRow.laid) #[.slice none 0 0] 8 (World.laidAll_os _ _ _)
      (World.shaped_of_ZipB (by kernel_rfl) (by kernel_rfl)) (by kernel_rfl) (by kernel_rfl) (by kernel_rfl)
      (by rw [MakeChecks.laidMetH_plain _ _ _ (by kernel_rfl)]; exact laidMet_laidAll _ (by kernel_rfl) (by kernel_rfl))) ?_
  intro W base args ds gs before hval0 hW hc hsz0 hL _
  have hsz : (DataW.weightsEach Tryd.prog (Tryd.f3.params.toList ++ Rows.tablesStatesSpec.plain.varTypes Tryd.prog) (ds ++ gs)).all (· ≤ reachBytes) = true := hsz0
  have hval : ∀ (j : Nat) t v, Tryd.f3.params[j]? = some t → args[j]? = some v → Value.okWide Tryd.prog W .any base t v := hval0
  have hW' := hW
  obtain ⟨p, q, hA0, hV, rfl, hfz, hnd⟩ := hW
  have hA : DataW.TrodAll enc Tryd.prog W 0 (fun _ => true) true Tryd.f3.params.toList args.toList ds p := hA0
  rw [Tryd.params3] at hA hval hsz
  obtain ⟨v0, vs0, d0, ds0, p0, q0, hargs, rfl, rfl, h0, r0⟩ := trodAll_cons hA
  obtain ⟨rfl, rfl, rfl⟩ := trodAll_nil r0
  obtain rfl : args = #[v0] := by cases args; simp_all
  obtain ⟨rfl, rfl⟩ := trodVars_none hV
  have k0 := h0
  have lt0 : ∀ x ∈ p0, x.block < W.heap.size := by obtain ⟨m, hm⟩ := k0; exact DataW.trod_lt m _ _ _ hm
  obtain ⟨A, c, l, rfl, hlc, hC, hz⟩ := open_rules (hval 0 22 v0 rfl rfl) h0 hsz (j := 0) rfl rfl
  clear hA0 hval0 hsz0 hsz
  refine (walk A c l W hlc hC hz).mono fun e W' ⟨he, bel⟩ => ?_
  subst he
  exact ⟨_, rfl, _, _, _, [], _, [], hW', trodAll_mk1 (shut_bool Tryd.underlying4 _), (trodAll_cons_mk (Below.trod laidOut (by kernel_rfl) (of_decide_eq_true (by kernel_rfl)) k0 bel lt0) trodAll_mk0), rfl, bel.frame _, fun h => by cases h⟩
theorem said : Rows.TablesStatesSaid :=
  OpenClaim.holds_of_wide 3 Tryd.f3 rfl rfl rfl rfl rfl rfl rfl ⟨rfl, rfl, rfl, rfl, rfl⟩ rfl rfl rfl rfl rfl (by kernel_rfl) Tryd.func3 (by kernel_rfl)
    (of_decide_eq_true (by kernel_rfl)) (by unfold Func.isWrapper; first | (rw [if_pos (by decide +kernel)]; kernel_rfl) | (rw [if_neg (by decide +kernel)]; exact ⟨rfl, rfl⟩))
    (fun os started H enc _ => lifted os started H enc)
theorem plain (f : FuncId) (fn : Func) (hf : Tryd.pinned.checked.prog.funcNamed "comfit/comfitlaw05.TablesStates" = some f) (hfn : Tryd.pinned.checked.prog.funcs[f]? = some fn) :
    false = Tryd.pinned.checked.prog.looks [] ∧ ∀ (j : Nat) t, fn.params[j]? = some t → Tryd.pinned.checked.prog.wantsStandIn t = false := by
  obtain rfl : f = 3 := Option.some.inj ((show Tryd.prog.funcNamed "comfit/comfitlaw05.TablesStates" = some 3 by kernel_rfl).symm.trans hf) |>.symm
  obtain rfl : fn = Tryd.f3 := (Option.some.inj (Tryd.func3.symm.trans hfn)).symm
  refine ⟨by kernel_rfl, fun j t ht => ?_⟩
  rw [Tryd.params3] at ht
  have hm : t ∈ [22] := by simpa using Array.mem_of_getElem? ht
  have hall : ([22].all fun u => !Tryd.prog.wantsStandIn u) = true := by kernel_rfl
  exact (show Tryd.prog.wantsStandIn t = false by simpa using List.all_eq_true.1 hall t hm)
end Go.Proofs.YtpmmfckgfbdboaaDoor.tablesStates
namespace Go.Proofs.YtpmmfckgfbdboaaDoor
/-- TablesStates holds: its tied card. -/
theorem tablesStates_holds : Rows.TablesStatesCardSaid :=
  Claim7.holds_tied_plain_at .later [] _ _ _ _ tablesStates.said (fun _ h => by cases h) (by kernel_rfl) (fun _ h => by cases h) tablesStates_row_tie rfl ⟨rfl, rfl⟩ (by kernel_rfl) rfl tablesStates.plain (by kernel_rfl)
#print axioms tablesStates_holds
end Go.Proofs.YtpmmfckgfbdboaaDoor
end
