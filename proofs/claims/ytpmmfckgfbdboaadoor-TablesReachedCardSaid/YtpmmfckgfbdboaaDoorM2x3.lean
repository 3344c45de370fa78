/- TablesReached: for every input the law returns true, and the rules that came in read afterwards as they did; two tables of Go's library are listed (laid) and tied to the program's text. -/
import Derived.Test.YtpmmfckgfbdboaaDoorM2x2
import Derived.Test.YtpmmfckgfbdboaaDoorM2x0
import Derived.Test.YtpmmfckgfbdboaaDoorRows
import Derived.Test.YtpmmfckgfbdboaaDoorCards
import Derived.Test.YtpmmfckgfbdboaaDoorTie
import Derived.LaidMore
import Derived.Lay
import Derived.SevenTiedAt
import Derived.Stop.Joined
section
namespace Go.Proofs.YtpmmfckgfbdboaaDoor.G
open Go.RowKit Go.Proofs.YtpmmfckgfbdboaaDoorW.PrintWords Go.Proofs.YtpmmfckgfbdboaaDoorW.PrintLast Go.Proofs.YtpmmfckgfbdboaaDoorW.PrintMore
open Go.Shelf Go.Lib
set_option linter.unusedVariables false
set_option linter.unusedSimpArgs false
/-! The program's Go: function 21. -/
theorem key_letters {c : Int} (h : c ∈ lettersP) : letterB c = true := by
  simp only [lettersP, List.mem_cons, List.mem_nil_iff, or_false] at h
  rcases h with rfl | rfl | rfl | rfl | rfl | rfl | rfl | rfl | rfl <;> decide
theorem zero3 (W : World) : (zeroValue 3).run Tryd.prog W = .ok (.int .i64 0) W := by kernel_rfl
set_option maxRecDepth 100000 in
theorem map_get (W : World) (b : Nat) (ms : List (Int × Int)) (h : MapB W b ms) (hl : lettered ms) (hnd : (ms.map (·.1)).Nodup) (c : Int) (hc : letterB c = true) :
    (Instr.lookup 98 (.map (some b)) (.int .u8 c) true).run Tryd.prog W = .ok (.tuple #[.int .i64 ((lookM ms c).getD 0), .bool (lookM ms c).isSome]) W := by
  obtain ⟨es, clock, hb, hes⟩ := h
  have K := Go.Maps.int_keyed Tryd.underlying5
  obtain ⟨kl, hkl⟩ := key_u8 c (letter_or hc)
  have hkeys := map_keys hes hl
  have hz := zero3 W
  rcases K.find W hkl es.toList (fun e he => (hkeys e he).elim fun p hp => hp.2.2.2) with ⟨h1, h2⟩ | ⟨j, e0, h1, h2, h3⟩
  · have hn : lookM ms c = none := by
      unfold lookM
      rw [List.find?_eq_none.2 ?_]
      · rfl
      intro p hp he
      have he' := eq_of_beq he
      have : (Value.int .u8 p.1, Value.int .i64 p.2) ∈ es.toList.map (fun e => (e.key, e.val)) := by rw [hes]; exact List.mem_map.2 ⟨p, hp, rfl⟩
      obtain ⟨e, hem, hee⟩ := List.mem_map.1 this
      have hk : e.key = Value.int .u8 p.1 := congrArg Prod.fst hee
      exact h2 e hem (by rw [hk, he'])
    rw [hn]
    simp [Instr.lookup, run_underlying Tryd.underlying98, MapKept.run_getObj_map hb, K.check W _ hkl, h1, hz, Result.andThen]
  · obtain ⟨p, hp, hk, hv, _⟩ := hkeys e0 (List.mem_of_getElem? h2)
    rw [h3] at hk
    injection hk with _ hk
    have hs : lookM ms c = some p.2 := by
      unfold lookM
      cases hf : ms.find? (fun q => q.1 == c) with
      | none =>
        have := List.find?_eq_none.1 hf p hp
        simp [hk] at this
      | some q =>
        have hq := List.mem_of_find?_eq_some hf
        have hqc0 : (q.1 == c) = true := List.find?_some (p := fun q : Int × Int => q.1 == c) hf
        have hqc : q.1 = c := eq_of_beq hqc0
        have : q = p := by
          obtain ⟨i, hi, rfl⟩ := List.getElem_of_mem hq
          obtain ⟨k, hk2, rfl⟩ := List.getElem_of_mem hp
          have hij : i = k := by
            have hpw := List.pairwise_iff_getElem.1 hnd
            rcases Nat.lt_trichotomy i k with hlt | he | hgt
            · have hne := hpw i k (by simpa using hi) (by simpa using hk2) hlt
              rw [List.getElem_map, List.getElem_map] at hne
              exact absurd (hqc.trans hk) hne
            · exact he
            · have hne := hpw k i (by simpa using hk2) (by simpa using hi) hgt
              rw [List.getElem_map, List.getElem_map] at hne
              exact absurd (hqc.trans hk).symm hne
          subst hij
          rfl
        rw [this]
        rfl
    rw [hs]
    simp [Instr.lookup, run_underlying Tryd.underlying98, MapKept.run_getObj_map hb, K.check W _ hkl, h1, hv, Result.andThen]
theorem goRow_keys (g : List (Int × List Int)) (s : List S95) (F : List (List S95)) : ∀ cs : List Int, ((goRow g s cs F).map (·.1)).Sublist cs
  | [] => by simp [goRow]
  | c :: cs => by
    have ih := goRow_keys g s F cs
    unfold goRow at ih ⊢
    rw [List.flatMap_cons, List.map_append]
    split
    · simpa using ih.cons c
    · simpa using ih
theorem gos_row {g : List (Int × List Int)} {F : List (List S95)} {i : Nat} {ms : List (Int × Int)} (h : (gosOf g F F)[i]? = some ms) : lettered ms ∧ (ms.map (·.1)).Nodup := by
  obtain ⟨s, _, rfl⟩ := List.mem_map.1 (List.mem_of_getElem? h)
  have hk := goRow_keys g s F lettersP
  exact ⟨fun p hp => key_letters (hk.subset (List.mem_map.2 ⟨p, hp, rfl⟩)), hk.nodup (by decide)⟩
section
variable {P : Program} {ops : Array Oper} {rest : List Oper} {o : Oper} {a : Act} {Q : Exit → Act → World → Prop}
theorem lookup_event {W : World} (hgd : o.guard = none) (t : TypeId) (m k : Operand) (ok : Bool) (mv kv rv : Value) (ho : o.op = .lookup t m k ok) (hm : a.eval m = mv) (hk : a.eval k = kv)
    (hrun : (Instr.lookup t mv kv ok).run P W = .ok rv W) (h : wpList P ops Q rest (a.put o.dst rv) W) : wpList P ops Q (o :: rest) a W := by
  refine Kd.event_run hgd ?_ h
  unfold execOp
  simp only [ho, hm, hk, Sem.run_bind, Sem.run_pure, Result.andThen_ok, hrun]
end
/-- What Go returns. -/
def goI (l : List S56) (s c : Int) : Int × Int :=
  if c ∉ lettersP then (0, 2) else if validB (gr56 l) = false then (0, 2) else
    match refStates (gr56 l) with
    | none => (0, 6)
    | some F => if s < 0 ∨ (F.length : Int) ≤ s then (0, 2) else
      match lookM ((gosOf (gr56 l) F F).getD s.toNat []) c with
      | none => (0, 4)
      | some k => (k, 0)
def tables_Go.f (l : List S56) (s c : Int) : Option (Int × Int) := some (goI l s c)
theorem conv0 (w : World) : (convert 42 42 (.slice (some ⟨w.heap.size, 0, none⟩) 9 9)).run Tryd.prog (w.alloc (.cells #[.int .u8 65, .int .u8 66, .int .u8 67, .int .u8 68, .int .u8 69, .int .u8 97, .int .u8 98, .int .u8 99, .int .u8 100] 5)) = .ok (.slice (some ⟨w.heap.size, 0, none⟩) 9 9) (w.alloc (.cells #[.int .u8 65, .int .u8 66, .int .u8 67, .int .u8 68, .int .u8 69, .int .u8 97, .int .u8 98, .int .u8 99, .int .u8 100] 5 (9, 10))) :=
  Lib.run_convert_bytes_const (P := Tryd.prog) w 42 5 lettersV 9 9 Tryd.underlying42 Tryd.underlying5
theorem letters_C (w : World) : Kd.C (Kd.int .u8) (w.alloc (.cells lettersV 5 (9, 10))) (some ⟨w.heap.size, 0, none⟩) 9 lettersP := by
  refine ⟨rfl, by decide, fun _ => ⟨_, rfl, fun j p hj => ⟨[.int .u8 p], rfl, rfl, fun i u hu => ?_⟩⟩⟩
  have hj9 : j < 9 := (List.getElem?_eq_some_iff.1 hj).1
  have hi : i = 0 := by
    have := (List.getElem?_eq_some_iff.1 hu).1
    simp at this
    exact this
  subst hi
  simp only [List.getElem?_cons_zero, Option.some.injEq] at hu
  subst hu
  have h1 := (cell_of_row _ w.heap.size j lettersV 5 (9, 10) (heap_alloc_new w _)).trans (letters_at j hj9).1
  have h2 : lettersP.getD j 0 = p := by rw [List.getD_eq_getElem?_getD, hj]; rfl
  rw [h2] at h1
  show (w.alloc (.cells lettersV 5 (9, 10))).cell? ((⟨w.heap.size, 0, none⟩ : Addr).add (j * 1 + 0)) = _
  rw [add_plain, Nat.mul_one, Nat.add_zero]
  exact h1
theorem contains_f (c : Int) : ∃ r, slices_Contains_byte_byte.f 20 lettersP c = some r ∧ (r = true ↔ c ∈ lettersP) := by
  by_cases h : c ∈ lettersP
  · refine ⟨true, ?_, by simp [h]⟩
    simp only [lettersP, List.mem_cons, List.mem_nil_iff, or_false] at h
    rcases h with rfl | rfl | rfl | rfl | rfl | rfl | rfl | rfl | rfl <;> kernel_rfl
  · refine ⟨false, ?_, by simp [h]⟩
    simp only [lettersP, List.mem_cons, List.mem_nil_iff, or_false, not_or] at h
    obtain ⟨h1, h2, h3, h4, h5, h6, h7, h8, h9⟩ := h
    simp [slices_Contains_byte_byte.f, slices_Index_byte_byte.f, slices_Index_byte_byte.l0, lettersP, rd, wrap64, h1, h2, h3, h4, h5, h6, h7, h8, h9]
def GoPost (w : World) (r : Int × Int) (e : Ending) (w' : World) : Prop := e = .returned (.tuple #[.int .i64 r.1, .int .i64 r.2]) ∧ Below w.heap.size w w'
theorem go_post {w w' : World} {r : Int × Int} (a b : Int) (h : r = (a, b)) (hb : Below w.heap.size w w') : GoPost w r (.returned (.tuple #[.int .i64 a, .int .i64 b])) w' := by
  subst h
  exact ⟨rfl, hb⟩
set_option maxHeartbeats 2000000 in
set_option maxRecDepth 100000 in
theorem go_any (l : List S56) (A : Option Addr) (c0 : Nat) (s c : Int) (w : World) (hr0 : Kd.C k56 w A l.length l) (hc0 : l.length ≤ c0) :
    Calls Tryd.prog 21 #[.slice A l.length c0, .int .i64 s, .int .u8 c] w (GoPost w (goI l s c)) := by
  have hcv := conv0 w
  have hb0 := below_alloc (Below.refl w.heap.size w) (.cells lettersV 5 (9, 10))
  obtain ⟨r, hr, hrc⟩ := contains_f c
  have HCT := Lib.hid (slices_Contains_byte_byte.calls 20 (some ⟨w.heap.size, 0, none⟩) 9 lettersP c r _ (letters_C w) (by decide) hr)
  replace HCT : Hid (Calls Tryd.prog 52 #[.slice (some ⟨w.heap.size, 0, none⟩) 9 9, .int .u8 c] (w.alloc (.cells #[.int .u8 65, .int .u8 66, .int .u8 67, .int .u8 68, .int .u8 69, .int .u8 97, .int .u8 98, .int .u8 99, .int .u8 100] 5 (9, 10))) fun e w' => e = .returned (.bool r) ∧ Drawn0 (w.alloc (.cells lettersV 5 (9, 10))) w') := HCT
  have HB0 := Lib.hid hb0
  have HR0 := Lib.hid hr0
  clear hb0 hr0 hr
  by_cases hmem : c ∈ lettersP
  · have hrt : r = true := hrc.2 hmem
    subst hrt
    have HM := Lib.hid hmem
    clear hrc hmem
    obtain ⟨v, hv⟩ : ∃ v, validB (gr56 l) = v := ⟨_, rfl⟩
    cases v
    · have HG := Lib.hid (show goI l s c = (0, 2) by simp [goI, HM.out, hv])
      have HRD := Lib.hid (fun W (hb : Below w.heap.size w W) => read_bad l A c0 W (Kd.C_below HR0.out hb) hc0 hv)
      clear hv
      go_enter Tryd.func21, Tryd.ntmps21
      go_wp2_with (first | (go_at_call 52; go_must (refine HCT.out.mono ?_); rintro e w1 ⟨rfl, hd⟩; have HB1 := Lib.hid (below_step HB0.out hd.below); clear hd hcv) | (go_at_call 45; go_must (refine (HRD.out _ HB1.out).mono ?_); rintro e w2 ⟨rfl, hb⟩; have HB2 := Lib.hid (below_step HB1.out hb); clear hb))
      go_ret2
      exact go_post 0 2 HG.out HB2.out
    · cases hrs : refStates (gr56 l) with
      | none =>
        have HG := Lib.hid (show goI l s c = (0, 6) by simp [goI, HM.out, hv, hrs])
        have HRD := Lib.hid (fun W (hb : Below w.heap.size w W) => read_big l A c0 W (Kd.C_below HR0.out hb) hc0 hv hrs)
        clear hv hrs
        go_enter Tryd.func21, Tryd.ntmps21
        go_wp2_with (first | (go_at_call 52; go_must (refine HCT.out.mono ?_); rintro e w1 ⟨rfl, hd⟩; have HB1 := Lib.hid (below_step HB0.out hd.below); clear hd hcv) | (go_at_call 45; go_must (refine (HRD.out _ HB1.out).mono ?_); rintro e w2 ⟨rfl, hb⟩; have HB2 := Lib.hid (below_step HB1.out hb); clear hb))
        go_ret2
        exact go_post 0 6 HG.out HB2.out
      | some F =>
        have HRD := Lib.hid (fun W (hb : Below w.heap.size w W) => read_ok l A c0 W (Kd.C_below HR0.out hb) hc0 hv hrs)
        have HV := Lib.hid (And.intro hv hrs)
        clear hv hrs
        by_cases hs0 : s < 0
        · have HG := Lib.hid (show goI l s c = (0, 2) by simp [goI, HM.out, HV.out.1, HV.out.2, hs0])
          go_enter Tryd.func21, Tryd.ntmps21
          go_wp2_with (first | (go_at_call 52; go_must (refine HCT.out.mono ?_); rintro e w1 ⟨rfl, hd⟩; have HB1 := Lib.hid (below_step HB0.out hd.below); clear hd hcv) | (go_at_call 45; go_must (refine (HRD.out _ HB1.out).mono ?_); rintro e w2 ⟨T, SV, GV, bs, rfl, hb, hne⟩; have HB2 := Lib.hid (below_step HB1.out hb.below); have hc1 := BI.c1 hb; clear hb hne))
          go_ret2
          exact go_post 0 2 HG.out HB2.out
        · by_cases hsF : s < (F.length : Int)
          · obtain ⟨q, rfl⟩ : ∃ q : Nat, s = (q : Int) := ⟨s.toNat, (Int.toNat_of_nonneg (Int.not_lt.1 hs0)).symm⟩
            have hqF : q < F.length := Int.ofNat_lt.mp hsF
            have hq0 : (0 : Int) ≤ (q : Int) := Int.natCast_nonneg q
            have hgl : (gosOf (gr56 l) F F).length = F.length := by simp [gosOf]
            have HQ := Lib.hid (And.intro hqF hgl)
            have hbig : ¬ ((F.length : Int) ≤ (q : Int)) := Int.not_le.2 hsF
            clear hqF
            obtain ⟨m, hm⟩ : ∃ m, lookM ((gosOf (gr56 l) F F).getD q []) c = m := ⟨_, rfl⟩
            have HMM := Lib.hid hm
            cases m with
            | none =>
              have HG := Lib.hid (show goI l q c = (0, 4) by have hm2 := hm; rw [List.getD_eq_getElem?_getD] at hm2; simp [goI, HM.out, HV.out.1, HV.out.2, hs0, hbig, hm2])
              clear hm hbig hgl
              go_enter Tryd.func21, Tryd.ntmps21
              go_wp2_with (first | (go_at_call 52; go_must (refine HCT.out.mono ?_); rintro e w1 ⟨rfl, hd⟩; have HB1 := Lib.hid (below_step HB0.out hd.below); clear hd hcv) | (go_at_call 45; go_must (refine (HRD.out _ HB1.out).mono ?_); rintro e w2 ⟨T, SV, GV, bs, rfl, hb, hne⟩; have HB2 := Lib.hid (below_step HB1.out hb.below); have hc1 := BI.c1 hb; have hc2 := BI.c2 hb; obtain ⟨G1, cp1, rfl, _⟩ := BI.rows hb hne; obtain ⟨GM, cpm, mb, ms, hgv, hgc, hcm, hbm, hgm, hmb⟩ := BI.map_at hb q (by rw [HQ.out.2]; exact HQ.out.1); rw [HQ.out.2] at hgv hgc; subst hgv; have hrow := gos_row hgm; have hmq := HMM.out; rw [List.getD_eq_getElem?_getD, hgm] at hmq; have hmg := map_get w2 mb ms hmb hrow.1 hrow.2 c (key_letters HM.out); rw [show lookM ms c = none from hmq] at hmg; have HMG := Lib.hid hmg; clear hb hne hbm hgm hmb hrow hmq hmg) | ((with_reducible refine gate_dst (N := 47) rfl ?_); go_must (refine lookup_event rfl 98 (.tmp 45) (.tmp 46) true (.map (some mb)) (.int .u8 c) _ rfl rfl rfl HMG.out ?_)))
              go_ret2
              exact go_post 0 4 HG.out HB2.out
            | some k =>
              have HG := Lib.hid (show goI l q c = (k, 0) by have hm2 := hm; rw [List.getD_eq_getElem?_getD] at hm2; simp [goI, HM.out, HV.out.1, HV.out.2, hs0, hbig, hm2])
              clear hm hbig hgl
              go_enter Tryd.func21, Tryd.ntmps21
              go_wp2_with (first | (go_at_call 52; go_must (refine HCT.out.mono ?_); rintro e w1 ⟨rfl, hd⟩; have HB1 := Lib.hid (below_step HB0.out hd.below); clear hd hcv) | (go_at_call 45; go_must (refine (HRD.out _ HB1.out).mono ?_); rintro e w2 ⟨T, SV, GV, bs, rfl, hb, hne⟩; have HB2 := Lib.hid (below_step HB1.out hb.below); have hc1 := BI.c1 hb; have hc2 := BI.c2 hb; obtain ⟨G1, cp1, rfl, _⟩ := BI.rows hb hne; obtain ⟨GM, cpm, mb, ms, hgv, hgc, hcm, hbm, hgm, hmb⟩ := BI.map_at hb q (by rw [HQ.out.2]; exact HQ.out.1); rw [HQ.out.2] at hgv hgc; subst hgv; have hrow := gos_row hgm; have hmq := HMM.out; rw [List.getD_eq_getElem?_getD, hgm] at hmq; have hmg := map_get w2 mb ms hmb hrow.1 hrow.2 c (key_letters HM.out); rw [show lookM ms c = some k from hmq] at hmg; have HMG := Lib.hid hmg; clear hb hne hbm hgm hmb hrow hmq hmg) | ((with_reducible refine gate_dst (N := 47) rfl ?_); go_must (refine lookup_event rfl 98 (.tmp 45) (.tmp 46) true (.map (some mb)) (.int .u8 c) _ rfl rfl rfl HMG.out ?_)))
              go_ret2
              exact go_post k 0 HG.out HB2.out
          · have hsF' : (F.length : Int) ≤ s := Int.not_lt.1 hsF
            have HG := Lib.hid (show goI l s c = (0, 2) by simp [goI, HM.out, HV.out.1, HV.out.2, hsF'])
            go_enter Tryd.func21, Tryd.ntmps21
            go_wp2_with (first | (go_at_call 52; go_must (refine HCT.out.mono ?_); rintro e w1 ⟨rfl, hd⟩; have HB1 := Lib.hid (below_step HB0.out hd.below); clear hd hcv) | (go_at_call 45; go_must (refine (HRD.out _ HB1.out).mono ?_); rintro e w2 ⟨T, SV, GV, bs, rfl, hb, hne⟩; have HB2 := Lib.hid (below_step HB1.out hb.below); have hc1 := BI.c1 hb; obtain ⟨G1, cp1, rfl, _⟩ := BI.rows hb hne; clear hb hne))
            go_ret2
            exact go_post 0 2 HG.out HB2.out
  · have hrf : r = false := Bool.eq_false_iff.2 (fun h => hmem (hrc.1 h))
    subst hrf
    have HG := Lib.hid (show goI l s c = (0, 2) by simp [goI, hmem])
    clear hrc hmem
    go_enter Tryd.func21, Tryd.ntmps21
    go_wp2_with (go_at_call 52; go_must (refine HCT.out.mono ?_); rintro e w1 ⟨rfl, hd⟩; have HB1 := Lib.hid (below_step HB0.out hd.below); clear hd hcv)
    go_ret2
    exact go_post 0 2 HG.out HB1.out
theorem tables_Go.calls (A0 : Option Addr) (c0 : Nat) (l0 : List S56) (s c : Int) (r1 r2 : Int) (w : World) (hr0 : Kd.C k56 w A0 l0.length l0) (hc0 : l0.length ≤ c0) (h : tables_Go.f l0 s c = some (r1, r2)) :
    Calls Tryd.prog 21 #[.slice A0 l0.length c0, .int .i64 s, .int .u8 c] w fun e w' => e = .returned (.tuple #[.int .i64 r1, .int .i64 r2]) ∧ Below w.heap.size w w' := by
  have h1 := go_any l0 A0 c0 s c w hr0 hc0
  have h2 : goI l0 s c = (r1, r2) := Option.some.inj h
  rw [h2] at h1
  exact h1
end Go.Proofs.YtpmmfckgfbdboaaDoor.G
end

section
namespace Go.Proofs.YtpmmfckgfbdboaaDoor.G
set_option linter.unusedVariables false
set_option linter.unusedSimpArgs false
/-- Where a letter leads from a state. -/
def goS (g : List (Int × List Int)) (F : List (List S95)) (q : Nat) (c : Int) : Option Int := lookM ((gosOf g F F).getD q []) c
structure Tab (g : List (Int × List Int)) (F : List (List S95)) : Prop where
  ok : okG g
  ne : g ≠ []
  st : refStates g = some F
theorem Tab.good {g : List (Int × List Int)} {F : List (List S95)} (h : Tab g F) {q : Nat} {s : List S95} (hs : F[q]? = some s) : goodSt g s := (refStates_good h.ok h.st).2.1.2 s (List.mem_of_getElem? hs)
theorem Tab.first {g : List (Int × List Int)} {F : List (List S95)} (h : Tab g F) : F[0]? = some (startS g) := getElem?_pre (refStates_good h.ok h.st).1 (by simp)
theorem goS_eq {g : List (Int × List Int)} {F : List (List S95)} {q : Nat} {s : List S95} {c : Int} (hq : F[q]? = some s) (hc : c ∈ lettersP) : goS g F q c = if movedP g c s = [] then none else some (findI F (refClo g (movedP g c s)) 0) := by
  unfold goS gosOf
  rw [List.getD_eq_getElem?_getD, List.getElem?_map, hq]
  exact lookM_goRow hc
theorem goS_some {g : List (Int × List Int)} {F : List (List S95)} (h : Tab g F) {q : Nat} {s : List S95} {c : Int} (hq : F[q]? = some s) (hc : c ∈ lettersP) (hm : movedP g c s ≠ []) : ∃ k : Nat, goS g F q c = some (k : Int) ∧ F[k]? = some (refClo g (movedP g c s)) := by
  have hin := (refStates_good h.ok h.st).2.2 s (List.mem_of_getElem? hq) c hc hm
  obtain ⟨h1, h2, h3⟩ := (findI_ge _ F 0 (Int.le_refl _)).2 hin
  rw [Int.sub_zero] at h3
  refine ⟨(findI F (refClo g (movedP g c s)) 0).toNat, ?_, h3⟩
  rw [goS_eq hq hc, if_neg hm, Int.toNat_of_nonneg h1]
theorem goS_inv {g : List (Int × List Int)} {F : List (List S95)} (h : Tab g F) {q : Nat} {c k : Int} (hc : c ∈ lettersP) (hk : goS g F q c = some k) : ∃ (s : List S95) (j : Nat), F[q]? = some s ∧ movedP g c s ≠ [] ∧ k = (j : Int) ∧ F[j]? = some (refClo g (movedP g c s)) := by
  cases hq : F[q]? with
  | none =>
    exfalso
    unfold goS gosOf at hk
    rw [List.getD_eq_getElem?_getD, List.getElem?_map, hq] at hk
    simp [lookM] at hk
  | some s =>
    rw [goS_eq hq hc] at hk
    split at hk
    · cases hk
    · rename_i hm
      obtain ⟨j, h1, h2⟩ := goS_some h hq hc hm
      rw [goS_eq hq hc, if_neg hm] at h1
      exact ⟨s, j, rfl, hm, (Option.some.inj hk).symm.trans (Option.some.inj h1), h2⟩
/-- The stack (its top first) and the letters by which it was reached. -/
inductive Path (g : List (Int × List Int)) (F : List (List S95)) : List Nat → List Int → Prop
  | nil : Path g F [0] []
  | cons {q : Nat} {st : List Nat} {X : List Int} {c : Int} {k : Nat} : Path g F (q :: st) X → c ∈ lettersP → goS g F q c = some (k : Int) → Path g F (k :: q :: st) (c :: X)
theorem Path.len {g : List (Int × List Int)} {F : List (List S95)} {st : List Nat} {X : List Int} (h : Path g F st X) : st.length = X.length + 1 := by
  induction h with
  | nil => rfl
  | cons h hc hk ih => simp only [List.length_cons] at *; omega
theorem Path.state {g : List (Int × List Int)} {F : List (List S95)} (ht : Tab g F) {q : Nat} {st : List Nat} {X : List Int} (h : Path g F (q :: st) X) : ∃ s, F[q]? = some s := by
  cases h with
  | nil => exact ⟨_, ht.first⟩
  | cons h hc hk =>
    obtain ⟨s, j, _, _, h3, h4⟩ := goS_inv ht hc hk
    have : j = q := by omega
    subst this
    exact ⟨_, h4⟩
theorem Path.drop {g : List (Int × List Int)} {F : List (List S95)} : ∀ {d : Nat} {st : List Nat} {X : List Int}, Path g F st X → d ≤ X.length → Path g F (st.drop d) (X.drop d)
  | 0, st, X, h, _ => h
  | d + 1, _, _, .nil, hd => by simp at hd
  | d + 1, _, _, .cons h hc hk, hd => by
    simp only [List.drop_succ_cons]
    exact h.drop (by simpa using hd)
theorem right_take {l : List Int} {d : Nat} {c : Int} (h : l.getD d 0 = c) (hd : d < l.length) : l.take (d + 1) = l.take d ++ [c] := by
  rw [List.take_succ_eq_append_getElem hd]
  congr 2
  rw [← h, List.getD_eq_getElem?_getD, List.getElem?_eq_getElem hd, Option.getD_some]
/-- What an item tells of the way to its state. -/
theorem Path.viable {g : List (Int × List Int)} {F : List (List S95)} (ht : Tab g F) : ∀ {st : List Nat} {X : List Int}, Path g F st X → ∀ {q : Nat} {st' : List Nat} {s : List S95} {x : S95}, st = q :: st' → F[q]? = some s → x ∈ s →
    x.f1.toNat ≤ X.length ∧ X.take x.f1.toNat = ((rightP g x.f0).take x.f1.toNat).reverse ∧ ∃ (p : Nat) (st2 : List Nat) (s2 : List S95), st.drop x.f1.toNat = p :: st2 ∧ F[p]? = some s2 ∧ (⟨x.f0, 0⟩ : S95) ∈ s2
  | _, _, .nil, q, st', s, x, hst, hq, hx => by
    cases hst
    rw [ht.first] at hq
    cases hq
    have h0 := start_dots ht.ok x hx
    obtain ⟨a, b⟩ := x
    simp only at h0
    subst h0
    exact ⟨by simp, by simp, 0, [], _, by simp, ht.first, hx⟩
  | _, _, .cons (q := p) (st := st1) (X := X1) (c := c) (k := k) h hc hk, q, st', s, x, hst, hq, hx => by
    cases hst
    by_cases h0 : x.f1 = 0
    · obtain ⟨a, b⟩ := x
      simp only at h0
      subst h0
      exact ⟨by simp, by simp, k, p :: st1, s, by simp, hq, hx⟩
    · obtain ⟨s1, j, e1, e2, e3, e4⟩ := goS_inv ht hc hk
      have hj : j = k := by omega
      subst hj
      rw [hq] at e4
      cases e4
      obtain ⟨m1, _, _⟩ := moved_good ht.ok (ht.good e1) (letters_ne0 c hc)
      obtain ⟨y, hy, hb, rfl⟩ := mem_moved.1 (der_dot ((refClo_mem ht.ok m1 x).1 hx) h0)
      have hy0 := state_nonneg (ht.good e1) y hy
      obtain ⟨i1, i2, p2, st2, s2, i3, i4, i5⟩ := h.viable ht rfl e1 hy
      have hn : (y.f1 + 1).toNat = y.f1.toNat + 1 := by omega
      have hlt := behind_dot hb (letters_ne0 c hc)
      simp only [hn]
      refine ⟨by simp; omega, ?_, p2, st2, s2, ?_, i4, i5⟩
      · rw [List.take_succ_cons, i2, right_take (c := c) (by unfold behindP at hb; exact hb) hlt]
        simp
      · rw [List.drop_succ_cons]; exact i3
theorem part_letter {c : Int} (h : isPartB c = true) : c ∈ lettersP := by
  have : c = 65 ∨ c = 66 ∨ c = 67 ∨ c = 68 ∨ c = 69 := by
    unfold isPartB at h
    simp only [decide_eq_true_eq] at h
    omega
  rcases this with h | h | h | h | h <;> rw [h] <;> decide
/-- A rule with its dot at 0 is there because its left side is behind a dot. -/
theorem left_moves {g : List (Int × List Int)} {F : List (List S95)} (ht : Tab g F) {q : Nat} {s : List S95} (hq : F[q]? = some s) {k : Nat} {r : Int × List Int} (hx : (⟨(k : Int), 0⟩ : S95) ∈ s) (hk : g[k]? = some r) : movedP g r.1 s ≠ [] := by
  have hkl : k < g.length := (List.getElem?_eq_some_iff.1 hk).1
  have main : ∀ xs, (∀ x ∈ xs, inM x ∧ x.f0 ≤ g.length) → (⟨(k : Int), 0⟩ : S95) ∉ xs → s = refClo g xs → movedP g r.1 s ≠ [] := by
    intro xs hxs hnot hs
    subst hs
    have hd := (refClo_mem ht.ok hxs _).1 hx
    generalize hz : (⟨(k : Int), 0⟩ : S95) = z at hd hnot
    cases hd with
    | base hb => exact absurd hb hnot
    | @step y k2 r2 hd hk2 hr2 =>
      simp only [S95.mk.injEq, and_true] at hz
      have : k2 = k := by omega
      subst this
      rw [hk] at hk2
      cases hk2
      have hy : y ∈ refClo g xs := (refClo_mem ht.ok hxs _).2 hd
      have hm : (⟨y.f0, y.f1 + 1⟩ : S95) ∈ movedP g r.1 (refClo g xs) := mem_moved.2 ⟨y, hy, hr2.symm, rfl⟩
      intro e
      rw [e] at hm
      simp at hm
  cases q with
  | zero =>
    rw [ht.first] at hq
    cases hq
    refine main _ (start_ok g) ?_ rfl
    simp only [List.mem_singleton, S95.mk.injEq, and_true]
    omega
  | succ q =>
    obtain ⟨j, s', c, h1, h2, h3, h4, h5⟩ := (refStates_comes ht.ok ht.st).2 (q + 1) s (by omega) hq
    obtain ⟨m1, _, _⟩ := moved_good ht.ok (ht.good h2) (letters_ne0 c h3)
    refine main _ m1 (fun hm => ?_) h5
    have := (ahead_moved (state_nonneg (ht.good h2)) hm (letters_ne0 c h3)).1
    simp at this
/-- What may come behind an item whose dot is at the end, as bits. -/
def afterP (g : List (Int × List Int)) (nx : List Nat) (x : S95) : Nat := if x.f0 = g.length then 16 else nx.getD (((g.getD x.f0.toNat (65, [])).1 - 65).toNat) 0
def reduceP (g : List (Int × List Int)) (nx : List Nat) (s : List S95) (word : Nat) : Option Int := (s.find? fun x => behindP g x == 0 && (afterP g nx x).testBit word).map (·.f0)
def wordP : List Int → Nat
  | [] => 4
  | c :: _ => (c - 97).toNat
def shiftP (g : List (Int × List Int)) (F : List (List S95)) (q : Nat) : List Int → Option (Nat × List Int)
  | [] => none
  | c :: s => (goS g F q c).map fun k => (k.toNat, s)
/-- The parser; its stack from the top on. 'none': not told; 'some none': no string. -/
def parseO (g : List (Int × List Int)) (F : List (List S95)) (nx : List Nat) : Nat → List Nat → List Int → List Int → Option (Option (List Int))
  | 0, _, _, _ => some none
  | n + 1, st, s, rs =>
    match st with
    | [] => none
    | q :: st' =>
      match shiftP g F q s with
      | some (k, s') => parseO g F nx n (k :: st) s' rs
      | none =>
        match reduceP g nx (F.getD q []) (wordP s) with
        | none => some none
        | some rule =>
          if rule = g.length then some (some rs) else
            match st.drop (rightP g rule).length with
            | [] => none
            | t :: st2 => parseO g F nx n (((goS g F t (g.getD rule.toNat (65, [])).1).getD 0).toNat :: t :: st2) s (rs ++ [rule])
/-- The last part of some letters, with what is before and behind it. -/
def lastPart : List Int → Option (List Int × Int × List Int)
  | [] => none
  | c :: s => match lastPart s with
    | some (a, x, b) => some (c :: a, x, b)
    | none => if isPartB c = true then some ([], c, s) else none
theorem lastPart_none : ∀ (s : List Int), (∀ c ∈ s, isPartB c = false) → lastPart s = none
  | [], _ => rfl
  | c :: s, h => by
    simp only [lastPart]
    rw [lastPart_none s (fun c' h' => h c' (by simp [h'])), h c (by simp)]
    rfl
theorem lastPart_mid {x : Int} (hx : isPartB x = true) {b : List Int} (hb : ∀ c ∈ b, isPartB c = false) : ∀ (a : List Int), lastPart (a ++ x :: b) = some (a, x, b)
  | [] => by
    simp only [List.nil_append, lastPart]
    rw [lastPart_none b hb, if_pos hx]
  | c :: a => by
    simp only [List.cons_append, lastPart]
    rw [lastPart_mid hx hb a]
def unroll (g : List (Int × List Int)) : List Int → List Int → Option (List Int)
  | [], now => some now
  | r :: rs, now => (lastPart now).bind fun p => if 0 ≤ r ∧ r < g.length ∧ (g.getD r.toNat (65, [])).1 = p.2.1 then unroll g rs (p.1 ++ (g.getD r.toNat (65, [])).2 ++ p.2.2) else none
theorem unroll_append (g : List (Int × List Int)) : ∀ (a b : List Int) (now : List Int), unroll g (a ++ b) now = (unroll g a now).bind (unroll g b)
  | [], b, now => rfl
  | r :: a, b, now => by
    simp only [List.cons_append, unroll]
    cases lastPart now with
    | none => rfl
    | some p =>
      simp only [Option.bind_some]
      split
      · exact unroll_append g a b _
      · rfl
theorem reduceP_some {g : List (Int × List Int)} {nx : List Nat} {s : List S95} {w : Nat} {r : Int} (h : reduceP g nx s w = some r) : ∃ x ∈ s, x.f0 = r ∧ behindP g x = 0 ∧ (afterP g nx x).testBit w = true := by
  unfold reduceP at h
  obtain ⟨x, hx, rfl⟩ := Option.map_eq_some_iff.1 h
  have h1 := List.find?_some hx
  simp only [Bool.and_eq_true, beq_iff_eq] at h1
  exact ⟨x, List.mem_of_find?_eq_some hx, rfl, h1.1, h1.2⟩
theorem letters_all {c : Int} (h : letterB c = true) : c ∈ lettersP := by
  unfold letterB isPartB isWordB at h
  simp only [Bool.or_eq_true, decide_eq_true_eq] at h
  have : c = 65 ∨ c = 66 ∨ c = 67 ∨ c = 68 ∨ c = 69 ∨ c = 97 ∨ c = 98 ∨ c = 99 ∨ c = 100 := by omega
  rcases this with h | h | h | h | h | h | h | h | h <;> rw [h] <;> decide
theorem right_letters {g : List (Int × List Int)} (hg : okG g) (hne : g ≠ []) (rule : Int) : ∀ c ∈ rightP g rule, letterB c = true := by
  unfold rightP
  split
  · cases g with
    | nil => exact absurd rfl hne
    | cons r g' =>
      intro c hc
      simp at hc
      subst hc
      unfold letterB
      rw [(hg.2 r (by simp)).1]
      rfl
  · cases h : g[rule.toNat]? with
    | none => intro c hc; simp at hc
    | some p => intro c hc; exact (hg.2 p (List.mem_of_getElem? h)).2.2 c (by simpa using hc)
/-- An item with no letter behind its dot has its dot at the end. -/
theorem dot_end {g : List (Int × List Int)} {F : List (List S95)} (ht : Tab g F) {q : Nat} {s : List S95} (hq : F[q]? = some s) {x : S95} (hx : x ∈ s) (hb : behindP g x = 0) : x.f1.toNat = (rightP g x.f0).length := by
  have h1 : x.f1 ≤ ((rightP g x.f0).length : Int) := by
    cases q with
    | zero =>
      rw [ht.first] at hq
      cases hq
      have := start_dots ht.ok x hx
      omega
    | succ q =>
      obtain ⟨j, s', c, h1, h2, h3, h4, h5⟩ := (refStates_comes ht.ok ht.st).2 (q + 1) s (by omega) hq
      subst h5
      exact (comes_dots ht.ok (ht.good h2) h3 x hx).2
  rcases Nat.lt_or_ge x.f1.toNat (rightP g x.f0).length with h2 | h2
  · exfalso
    unfold behindP at hb
    rw [List.getD_eq_getElem?_getD, List.getElem?_eq_getElem h2, Option.getD_some] at hb
    have := right_letters ht.ok ht.ne x.f0 _ (List.getElem_mem h2)
    rw [hb] at this
    exact absurd this (by decide)
  · omega
theorem drop_path {g : List (Int × List Int)} {F : List (List S95)} {st : List Nat} {X : List Int} (h : Path g F st X) {d : Nat} (hd : d ≤ X.length) : ∃ t st2, st.drop d = t :: st2 := by
  have := h.len
  cases hl : st.drop d with
  | nil =>
    have h2 := congrArg List.length hl
    simp at h2
    omega
  | cons t st2 => exact ⟨t, st2, rfl⟩
theorem right_rule {g : List (Int × List Int)} {k : Nat} {r : Int × List Int} (hk : g[k]? = some r) : rightP g (k : Int) = r.2 ∧ g.getD k (65, []) = r := by
  have hkl : k < g.length := (List.getElem?_eq_some_iff.1 hk).1
  unfold rightP
  rw [if_neg (by omega), List.getD_eq_getElem?_getD, Int.toNat_natCast, hk]
  exact ⟨rfl, rfl⟩
/-- One reduction. -/
theorem reduce_step {g : List (Int × List Int)} {F : List (List S95)} (ht : Tab g F) {nx : List Nat} {q : Nat} {st' : List Nat} {X : List Int} (hp : Path g F (q :: st') X) {w : Nat} {rule : Int} (h : reduceP g nx (F.getD q []) w = some rule) (hn : rule ≠ g.length) :
    ∃ (k : Nat) (r : Int × List Int) (t : Nat) (st2 : List Nat) (j : Nat), rule = (k : Int) ∧ g[k]? = some r ∧ r.2.length ≤ X.length ∧ X.take r.2.length = r.2.reverse ∧ (q :: st').drop r.2.length = t :: st2 ∧ goS g F t r.1 = some (j : Int) ∧ Path g F (j :: t :: st2) (r.1 :: X.drop r.2.length) := by
  obtain ⟨s, hs⟩ := hp.state ht
  rw [List.getD_eq_getElem?_getD, hs, Option.getD_some] at h
  obtain ⟨x, hx, rfl, hb, hw⟩ := reduceP_some h
  obtain ⟨⟨a0, a1, a2⟩, a3⟩ := (ht.good hs).2 x hx
  obtain ⟨v1, v2, t, st2, s2, v3, v4, v5⟩ := hp.viable ht rfl hs hx
  have hde := dot_end ht hs hx hb
  have hlt : x.f0.toNat < g.length := by omega
  have hk : g[x.f0.toNat]? = some (g[x.f0.toNat]'hlt) := List.getElem?_eq_getElem hlt
  generalize g[x.f0.toNat]'hlt = r at hk
  obtain ⟨e1, e2⟩ := right_rule hk
  rw [Int.toNat_of_nonneg a0] at e1
  rw [e1] at hde v2
  rw [hde] at v1 v2 v3
  rw [List.take_of_length_le (Nat.le_refl _)] at v2
  have hm := left_moves ht v4 (k := x.f0.toNat) (r := r) (by rw [Int.toNat_of_nonneg a0]; exact v5) hk
  have hin : r.1 ∈ lettersP := part_letter (ht.ok.2 r (List.mem_of_getElem? hk)).1
  obtain ⟨j, hj, hj2⟩ := goS_some ht v4 hin hm
  refine ⟨x.f0.toNat, r, t, st2, j, (Int.toNat_of_nonneg a0).symm, hk, v1, v2, v3, hj, .cons ?_ hin hj⟩
  have := hp.drop v1
  rw [v3] at this
  exact this
theorem word_letter {c : Int} (h : isWordB c = true) : c ∈ lettersP := letters_all (by unfold letterB; rw [h]; simp)
theorem word_part {c : Int} (h : isWordB c = true) : isPartB c = false := by
  unfold isWordB at h
  unfold isPartB
  simp only [decide_eq_true_eq] at h
  simp only [decide_eq_false_iff_not]
  omega
theorem shift_step {g : List (Int × List Int)} {F : List (List S95)} (ht : Tab g F) {q : Nat} {st' : List Nat} {X : List Int} (hp : Path g F (q :: st') X) {s s' : List Int} {k : Nat} (hs : ∀ c ∈ s, isWordB c = true) (h : shiftP g F q s = some (k, s')) : ∃ c, s = c :: s' ∧ Path g F (k :: q :: st') (c :: X) := by
  cases s with
  | nil => cases h
  | cons c s =>
    simp only [shiftP] at h
    obtain ⟨k2, hk2, he⟩ := Option.map_eq_some_iff.1 h
    cases he
    have hin := word_letter (hs c (by simp))
    obtain ⟨s1, j, e1, e2, e3, e4⟩ := goS_inv ht hin hk2
    subst e3
    exact ⟨c, rfl, .cons hp hin hk2⟩
/-- The parser never leaves its stack. -/
theorem parseO_told {g : List (Int × List Int)} {F : List (List S95)} (ht : Tab g F) (nx : List Nat) : ∀ (n : Nat) (st : List Nat) (X s rs : List Int), Path g F st X → (∀ c ∈ s, isWordB c = true) → ∃ r, parseO g F nx n st s rs = some r
  | 0, st, X, s, rs, _, _ => ⟨none, rfl⟩
  | n + 1, st, X, s, rs, hp, hs => by
    cases st with
    | nil => have := hp.len; simp at this
    | cons q st' =>
      simp only [parseO]
      cases hsh : shiftP g F q s with
      | some p =>
        obtain ⟨k, s'⟩ := p
        obtain ⟨c, e1, e2⟩ := shift_step ht hp hs hsh
        exact parseO_told ht nx n _ _ s' rs e2 (fun c' h' => hs c' (by rw [e1]; simp [h']))
      | none =>
        cases hr : reduceP g nx (F.getD q []) (wordP s) with
        | none => exact ⟨none, rfl⟩
        | some rule =>
          by_cases hn : rule = g.length
          · simp only [if_pos hn]; exact ⟨some rs, rfl⟩
          · obtain ⟨k, r, t, st2, j, h1, h2, h3, h4, h5, h6, h7⟩ := reduce_step ht hp hr hn
            subst h1
            obtain ⟨e1, e2⟩ := right_rule h2
            simp only [if_neg hn, e1, h5, Int.toNat_natCast, e2, h6, Option.getD_some]
            exact parseO_told ht nx n _ _ s _ h7 hs
/-- The rules of Read, from the last one on, make the string. -/
theorem parseO_makes {g : List (Int × List Int)} {F : List (List S95)} (ht : Tab g F) (nx : List Nat) (start : Int) (hst : start = (g.head?.map (·.1)).getD 65) : ∀ (n : Nat) (st : List Nat) (X s rs out : List Int), Path g F st X → (∀ c ∈ s, isWordB c = true) → (∀ x w, (afterP g nx x).testBit w = true → x.f0 = g.length → w = 4) →
    parseO g F nx n st s rs = some (some out) → ∃ more, out = rs ++ more ∧ unroll g more.reverse [start] = some (X.reverse ++ s)
  | 0, st, X, s, rs, out, _, _, _, h => by cases h
  | n + 1, st, X, s, rs, out, hp, hs, hw4, h => by
    cases st with
    | nil => cases h
    | cons q st' =>
      simp only [parseO] at h
      cases hsh : shiftP g F q s with
      | some p =>
        obtain ⟨k, s'⟩ := p
        rw [hsh] at h
        obtain ⟨c, e1, e2⟩ := shift_step ht hp hs hsh
        obtain ⟨more, m1, m2⟩ := parseO_makes ht nx start hst n _ _ s' rs out e2 (fun c' h' => hs c' (by rw [e1]; simp [h'])) hw4 h
        exact ⟨more, m1, by rw [m2, e1]; simp⟩
      | none =>
        rw [hsh] at h
        cases hr : reduceP g nx (F.getD q []) (wordP s) with
        | none => rw [hr] at h; cases h
        | some rule =>
          rw [hr] at h
          by_cases hn : rule = g.length
          · simp only [if_pos hn, Option.some.injEq] at h
            subst h
            refine ⟨[], by simp, ?_⟩
            simp only [List.reverse_nil, unroll, Option.some.injEq]
            obtain ⟨s0, hs0⟩ := hp.state ht
            rw [List.getD_eq_getElem?_getD, hs0, Option.getD_some] at hr
            obtain ⟨x, hx, rfl, hb, hw⟩ := reduceP_some hr
            have h4 := hw4 x _ hw hn
            have hsn : s = [] := by
              cases s with
              | nil => rfl
              | cons c s =>
                have := hs c (by simp)
                unfold isWordB at this
                simp only [decide_eq_true_eq] at this
                simp only [wordP] at h4
                omega
            subst hsn
            obtain ⟨v1, v2, t, st2, s2, v3, v4, v5⟩ := hp.viable ht rfl hs0 hx
            have hde := dot_end ht hs0 hx hb
            have hrt : rightP g x.f0 = [start] := by unfold rightP; rw [if_pos hn, hst]
            rw [hrt] at hde v2
            rw [hde] at v1 v2 v3
            simp only [List.length_singleton] at v1 v2 v3
            cases hX : X with
            | nil => rw [hX] at v1; simp at v1
            | cons c X' =>
              rw [hX] at v2
              simp at v2
              subst v2
              -- the item with its dot at 0 stands in the first state alone
              have ht0 : t = 0 := by
                cases t with
                | zero => rfl
                | succ t =>
                  exfalso
                  obtain ⟨j, s', c, g1, g2, g3, g4, g5⟩ := (refStates_comes ht.ok ht.st).2 (t + 1) s2 (by omega) v4
                  obtain ⟨m1, _, _⟩ := moved_good ht.ok (ht.good g2) (letters_ne0 c g3)
                  rw [g5] at v5
                  have hd := (refClo_mem ht.ok m1 _).1 v5
                  generalize hz : (⟨x.f0, 0⟩ : S95) = z at hd
                  cases hd with
                  | base hb =>
                    have := (ahead_moved (state_nonneg (ht.good g2)) hb (letters_ne0 c g3)).1
                    rw [← hz] at this
                    simp at this
                  | @step y k2 r2 hd hk2 hr2 =>
                    simp only [S95.mk.injEq, and_true] at hz
                    have := (List.getElem?_eq_some_iff.1 hk2).1
                    omega
              have hX' : X' = [] := by
                have hpd := hp.drop (d := 1) (by rw [hX]; simp)
                rw [v3, hX] at hpd
                simp only [List.drop_succ_cons, List.drop_zero] at hpd
                subst ht0
                cases hpd with
                | nil => rfl
                | cons h5 hc5 hk5 =>
                  exfalso
                  obtain ⟨s5, j5, q1, q2, q3, q4⟩ := goS_inv ht hc5 hk5
                  have : j5 = 0 := by omega
                  subst this
                  rw [ht.first] at q4
                  obtain ⟨x5, w1, w2, _⟩ := comes_some ht.ok (ht.good q1) hc5 q2
                  rw [← Option.some.inj q4] at w1
                  have := start_dots ht.ok x5 w1
                  omega
              subst hX'
              simp
          · obtain ⟨k, r, t, st2, j, h1, h2, h3, h4, h5, h6, h7⟩ := reduce_step ht hp hr hn
            subst h1
            obtain ⟨e1, e2⟩ := right_rule h2
            simp only [if_neg hn, e1, h5, Int.toNat_natCast, e2, h6, Option.getD_some] at h
            obtain ⟨more, m1, m2⟩ := parseO_makes ht nx start hst n _ _ s _ out h7 hs hw4 h
            refine ⟨(k : Int) :: more, by rw [m1]; simp, ?_⟩
            rw [List.reverse_cons, unroll_append, m2]
            simp only [Option.bind_some, List.reverse_cons, List.append_assoc, List.singleton_append]
            simp only [unroll]
            rw [lastPart_mid (ht.ok.2 r (List.mem_of_getElem? h2)).1 (fun c hc => word_part (hs c hc))]
            have hkl := (List.getElem?_eq_some_iff.1 h2).1
            simp only [Option.bind_some, Int.toNat_natCast, e2]
            rw [if_pos ⟨by omega, by omega, trivial⟩]
            congr 1
            have : X.reverse = (X.drop r.2.length).reverse ++ r.2 := by
              conv => lhs; rw [← List.take_append_drop r.2.length X, List.reverse_append, h4, List.reverse_reverse]
            rw [this]
end Go.Proofs.YtpmmfckgfbdboaaDoor.G
end

section
namespace Go.Proofs.YtpmmfckgfbdboaaDoor.G
open Go.RowKit Go.Proofs.YtpmmfckgfbdboaaDoorW.PrintWords Go.Proofs.YtpmmfckgfbdboaaDoorW.PrintLast Go.Proofs.YtpmmfckgfbdboaaDoorW.PrintMore
open Go.Shelf Go.Lib
set_option linter.unusedVariables false
set_option linter.unusedSimpArgs false
/-! The reference's Grammar, and Of. -/
theorem part_f (c : Int) : comfitref05_part.f c = some (isPartB c) := by
  unfold comfitref05_part.f isPartB
  by_cases h : c ≥ 65
  · rw [if_pos h]
    congr 1
    rw [decide_eq_decide]
    omega
  · rw [if_neg h]
    congr 1
    symm
    rw [decide_eq_false_iff_not]
    omega
theorem word_f (c : Int) : comfitref05_word.f c = some (isWordB c) := by
  unfold comfitref05_word.f isWordB
  by_cases h : c ≥ 97
  · rw [if_pos h]
    congr 1
    rw [decide_eq_decide]
    omega
  · rw [if_neg h]
    congr 1
    symm
    rw [decide_eq_false_iff_not]
    omega
def dup41 (xs : List S41) (a : Int) (b : ByteArray) : Bool := xs.any fun y => y.f0 == a && bytesOf y.f1 == bytesOf b
theorem dup41_eq (xs : List S41) (a : Int) (b : ByteArray) : dup41 xs a b = dupB (gr41 xs) (a, bytesOf b) := by
  unfold dup41 dupB gr41
  rw [List.any_map]
  rfl
theorem gr41_take (xs : List S41) (n : Nat) : gr41 (xs.take n) = (gr41 xs).take n := by unfold gr41; rw [List.map_take]
theorem drop41' (xs : List S41) (i : Nat) (h1 : i < xs.length) : xs.drop i = rd_T41 xs (i : Int) :: xs.drop (i + 1) := by
  rw [List.drop_eq_getElem_cons h1]
  congr 1
  simp [rd_T41, List.getD_eq_getElem?_getD, h1]
theorem gram_l2 (l xs : List S41) (N : Int) (i : Int) (a : Int) (b : ByteArray) (hl : xs.length < 2 ^ 62) (K : Nat) (R : Bool) (hc : ∀ k, K ≤ k → comfitref05_Grammar.l0 k l l N (wrap64 (i + 1)) = some R) :
    ∀ (n j : Nat), j ≤ xs.length → xs.length < j + n → ∀ k, K + n ≤ k → comfitref05_Grammar.l2 k l l N i xs (xs.length : Int) (j : Int) a b = some (!dup41 (xs.drop j) a b && R)
  | 0, j, h1, h, k, hk => by omega
  | n + 1, j, h1, h, k, hk => by
    obtain ⟨k, rfl⟩ : ∃ m, k = m + 1 := ⟨k - 1, by omega⟩
    simp only [comfitref05_Grammar.l2]
    by_cases hlt : j < xs.length
    · have ih := gram_l2 l xs N i a b hl K R hc n (j + 1) (by omega) (by omega) k (by omega)
      have hjI : (j : Int) < (xs.length : Int) := by omega
      have hj0 : (0 : Int) ≤ (j : Int) := by omega
      rw [if_pos hjI, if_pos hj0, if_pos hjI, wrap64_succ (n := xs.length) hj0 ⟨hjI, hl⟩, drop41' xs j hlt, bytes_eq]
      simp only [dup41, List.any_cons]
      by_cases he : (a == (rd_T41 xs (j : Int)).f0 && (bytesOf b == bytesOf (rd_T41 xs (j : Int)).f1)) = true
      · rw [if_pos he]
        simp only [Bool.and_eq_true, beq_iff_eq] at he
        simp [he.1, he.2]
      · rw [if_neg he]
        have : ((rd_T41 xs (j : Int)).f0 == a && bytesOf (rd_T41 xs (j : Int)).f1 == bytesOf b) = false := by
          rw [Bool.eq_false_iff]
          intro h2
          apply he
          simp only [Bool.and_eq_true, beq_iff_eq] at h2 ⊢
          exact ⟨h2.1.symm, h2.2.symm⟩
        rw [this, Bool.false_or, show ((j : Int) + 1) = ((j + 1 : Nat) : Int) by omega, ih]
        rfl
    · rw [if_neg (by omega), hc k (by omega), List.drop_of_length_le (by omega)]
      rfl
theorem gram_l1 (l : List S41) (N i x9 x10 : Int) (a : Int) (b : ByteArray) (hb : b.size < 2 ^ 62) (K : Nat) (R : Bool) (h0 : 0 ≤ i) (hi : i ≤ l.length) (hc : ∀ k, K ≤ k → comfitref05_Grammar.l2 k l l x9 x10 (l.take i.toNat) ((l.take i.toNat).length : Int) 0 a b = some R) :
    ∀ (n j : Nat), j ≤ b.size → b.size < j + n → ∀ k, K + n ≤ k → comfitref05_Grammar.l1 k l i l x9 x10 (b.size : Int) (j : Int) a b = some (((bytesOf b).drop j).all letterB && R)
  | 0, j, h1, h, k, hk => by omega
  | n + 1, j, h1, h, k, hk => by
    obtain ⟨k, rfl⟩ : ∃ m, k = m + 1 := ⟨k - 1, by omega⟩
    simp only [comfitref05_Grammar.l1]
    by_cases hlt : j < b.size
    · have ih := gram_l1 l N i x9 x10 a b hb K R h0 hi hc n (j + 1) (by omega) (by omega) k (by omega)
      have hjI : (j : Int) < (b.size : Int) := by omega
      have hj0 : (0 : Int) ≤ (j : Int) := by omega
      rw [if_pos hjI, if_pos hj0, if_pos hjI, part_f, wrap64_succ (n := b.size) hj0 ⟨hjI, hb⟩, drop_bytes b j hlt, word_f, show ((j : Int) + 1) = ((j + 1 : Nat) : Int) by omega]
      simp only [Option.bind_some, List.all_cons, letterB]
      cases hp : isPartB (bt b (j : Int))
      · rw [if_neg (by simp)]
        cases hw : isWordB (bt b (j : Int))
        · rw [if_neg (by simp)]
          simp
        · rw [if_pos rfl, ih]
          simp [letterB]
      · rw [if_pos rfl, ih]
        simp [letterB]
    · rw [if_neg (by omega), if_pos h0, if_pos hi]
      simp only [Option.bind_some]
      rw [hc k (by omega), List.drop_of_length_le (by rw [bytesOf_length]; omega)]
      rfl
theorem gram_l0 (l : List S41) (hl : l.length < 2 ^ 61) : ∀ (n i : Nat), i ≤ l.length → l.length = i + n → ∀ k, (l.length + 12) * n + 1 ≤ k →
    comfitref05_Grammar.l0 k l l (l.length : Int) (i : Int) = some (rulesB ((gr41 l).take i) ((gr41 l).drop i) && (decide (1 ≤ l.length) && decide (l.length ≤ 8)))
  | 0, i, h1, h, k, hk => by
    obtain ⟨k, rfl⟩ : ∃ m, k = m + 1 := ⟨k - 1, by omega⟩
    simp only [comfitref05_Grammar.l0]
    rw [if_neg (by omega), List.drop_of_length_le (by rw [gr41_len]; omega)]
    simp only [rulesB, Bool.true_and]
    by_cases h1 : (l.length : Int) ≥ 1
    · rw [if_pos h1]
      have e1 : decide (1 ≤ l.length) = true := by rw [decide_eq_true_eq]; omega
      rw [e1]
      congr 1
      rw [Bool.true_and, decide_eq_decide]
      omega
    · rw [if_neg h1]
      have e1 : decide (1 ≤ l.length) = false := by rw [decide_eq_false_iff_not]; omega
      rw [e1]
      rfl
  | n + 1, i, h1, h, k, hk => by
    obtain ⟨k, rfl⟩ : ∃ m, k = m + 1 := ⟨k - 1, by omega⟩
    have hlt : i < l.length := by omega
    have hi0 : (0 : Int) ≤ (i : Int) := by omega
    have hiI : (i : Int) < (l.length : Int) := by omega
    have hmul : (l.length + 12) * (n + 1) = (l.length + 12) * n + (l.length + 12) := by rw [Nat.mul_add, Nat.mul_one]
    have ih := gram_l0 l hl n (i + 1) (by omega) (by omega)
    have hd := drop41 l i hlt
    have htk : (gr41 l).take (i + 1) = (gr41 l).take i ++ [((rd_T41 l (i : Int)).f0, bytesOf (rd_T41 l (i : Int)).f1)] := by
      have h2 : i < (gr41 l).length := by rw [gr41_len]; omega
      rw [List.take_succ_eq_append_getElem h2]
      rw [List.drop_eq_getElem_cons h2] at hd
      rw [(List.cons.inj hd).1]
    simp only [comfitref05_Grammar.l0]
    rw [if_pos hiI, if_pos hi0, if_pos hiI, part_f, hd]
    generalize rd_T41 l (i : Int) = r at *
    simp only [Option.bind_some, rulesB, ruleB]
    cases hp : isPartB r.f0
    · rw [if_neg (by simp)]
      obtain ⟨k, rfl⟩ : ∃ m, k = m + 1 := ⟨k - 1, by omega⟩
      simp only [comfitref05_Grammar.j1]
      simp
    · rw [if_pos rfl]
      obtain ⟨k, rfl⟩ : ∃ m, k = m + 1 := ⟨k - 1, by omega⟩
      simp only [comfitref05_Grammar.j1, Bool.true_and]
      by_cases h4 : (r.f1.size : Int) > 4
      · rw [if_pos (by simpa using h4)]
        have : decide ((bytesOf r.f1).length ≤ 4) = false := by rw [bytesOf_length, decide_eq_false_iff_not]; omega
        rw [this]
        simp
      · rw [if_neg (by simpa using h4)]
        have h44 : decide ((bytesOf r.f1).length ≤ 4) = true := by rw [bytesOf_length, decide_eq_true_eq]; omega
        rw [h44]
        simp only [Bool.true_and]
        have hw : wrap64 ((i : Int) + 1) = ((i + 1 : Nat) : Int) := by rw [wrap64_succ (n := l.length) hi0 ⟨hiI, by omega⟩]; omega
        have hlen : (l.take i).length = i := by rw [List.length_take]; omega
        have h2 := gram_l2 l (l.take i) (l.length : Int) (i : Int) r.f0 r.f1 (by omega) ((l.length + 12) * n + 1) _ (fun k hk => by rw [hw]; exact ih k hk) (i + 1) 0 (Nat.zero_le _) (by omega)
        have h3 := gram_l1 l (l.length : Int) (i : Int) (l.length : Int) (i : Int) r.f0 r.f1 (by omega) ((l.length + 12) * n + 1 + (i + 1)) _ hi0 (by omega) (fun k hk => by rw [Int.toNat_natCast]; exact h2 k hk) (r.f1.size + 1) 0 (Nat.zero_le _) (by omega) k (by omega)
        have e0 : ((0 : Nat) : Int) = 0 := rfl
        rw [e0] at h3
        rw [h3, dup41_eq, List.drop_zero, List.drop_zero, gr41_take, htk]
        cases (bytesOf r.f1).all letterB
        · simp
        · cases dupB ((gr41 l).take i) (r.f0, bytesOf r.f1)
          · simp
          · simp
theorem grammar_f (l : List S41) (hl : l.length < 2 ^ 61) (k : Nat) (hk : (l.length + 12) * l.length + 1 ≤ k) : comfitref05_Grammar.f k l = some (validB (gr41 l)) := by
  unfold comfitref05_Grammar.f validB
  have := gram_l0 l hl l.length 0 (Nat.zero_le _) (by omega) k hk
  have e0 : ((0 : Nat) : Int) = 0 := rfl
  rw [e0] at this
  rw [this, gr41_len, List.take_zero, List.drop_zero]
  congr 1
  cases decide (1 ≤ l.length) <;> cases decide (l.length ≤ 8) <;> simp
/-! Of. -/
def ofL (l : List S41) : List S56 := (l.take 11).map fun r => ⟨r.f0, r.f1.extract 0 (min r.f1.size 12)⟩
theorem bytes_take (b : ByteArray) (n : Nat) : bytesOf (b.extract 0 n) = (bytesOf b).take n := by
  unfold bytesOf
  rw [← List.map_take]
  congr 1
  simp [ByteArray.data_extract]
theorem ofL_gr (l : List S41) : gr56 (ofL l) = ofG (gr41 l) := by
  unfold gr56 ofL ofG gr41
  rw [List.map_map, ← List.map_take, List.map_map]
  refine List.map_congr_left fun r _ => ?_
  simp only [Function.comp]
  rw [bytes_take]
  congr 1
  rw [← bytesOf_length]
  rcases Nat.le_total (bytesOf r.f1).length 12 with h | h
  · rw [Nat.min_eq_left h, List.take_of_length_le (Nat.le_refl _), List.take_of_length_le h]
  · rw [Nat.min_eq_right h]
def of1 (r : S41) : S56 := ⟨r.f0, r.f1.extract 0 (min r.f1.size 12)⟩
theorem text_f (b : ByteArray) : comfitlaw05_text.f b = some (b.extract 0 (min b.size 12)) := by
  unfold comfitlaw05_text.f mn
  by_cases h : (b.size : Int) < 12
  · have e : (if (b.size : Int) < 12 then (b.size : Int) else 12) = (b.size : Int) := if_pos h
    first
      | (simp only [e]; rw [if_pos (by omega), if_pos (by omega)]; congr 2; omega)
      | (split <;> (try split) <;> (try split) <;> first | (congr 2; omega) | (exfalso; omega))
  · first
      | (have e : (if (b.size : Int) < 12 then (b.size : Int) else 12) = 12 := if_neg h
         simp only [e]; rw [if_pos (by omega), if_pos (by omega)]; congr 2; omega)
      | (split <;> (try split) <;> (try split) <;> first | (congr 2; omega) | (exfalso; omega))
theorem of_loop (l : List S41) (hl : l.length < 2 ^ 62) : ∀ (n i : Nat) (xs : List S56), l.length = i + n → xs.length ≤ 11 → xs.length ≤ i → ∀ k, n + 1 ≤ k → comfitlaw05_Of.l0 k xs l (l.length : Int) (i : Int) = some (xs ++ ((l.take 11).drop i).map of1)
  | 0, i, xs, h, hx, hxi, k, hk => by
    obtain ⟨k, rfl⟩ : ∃ m, k = m + 1 := ⟨k - 1, by omega⟩
    simp only [comfitlaw05_Of.l0]
    rw [if_neg (by omega), List.drop_of_length_le (by rw [List.length_take]; omega)]
    simp
  | n + 1, i, xs, h, hx, hxi, k, hk => by
    obtain ⟨k, rfl⟩ : ∃ m, k = m + 1 := ⟨k - 1, by omega⟩
    have hi0 : (0 : Int) ≤ (i : Int) := by omega
    have hiI : (i : Int) < (l.length : Int) := by omega
    have hw : wrap64 ((i : Int) + 1) = ((i + 1 : Nat) : Int) := by rw [wrap64_succ (n := l.length) hi0 ⟨hiI, hl⟩]; omega
    simp only [comfitlaw05_Of.l0]
    rw [if_pos hiI, if_pos hi0, if_pos hiI, hw]
    by_cases h11 : (i : Int) < 11
    · rw [if_pos h11, text_f]
      simp only [Option.bind_some]
      rw [if_pos (by omega), of_loop l hl n (i + 1) _ (by omega) (by rw [List.length_append, List.length_singleton]; omega) (by rw [List.length_append, List.length_singleton]; omega) k (by omega)]
      have hlt : i < (l.take 11).length := by rw [List.length_take]; omega
      have e : (l.take 11)[i] = rd_T41 l (i : Int) := by
        have h2 : i < l.length := by omega
        simp [rd_T41, List.getD_eq_getElem?_getD, h2]
      rw [List.drop_eq_getElem_cons hlt, e]
      simp [of1]
    · rw [if_neg h11, of_loop l hl n (i + 1) xs (by omega) hx (by omega) k (by omega)]
      rw [List.drop_of_length_le (by rw [List.length_take]; omega), List.drop_of_length_le (by rw [List.length_take]; omega)]
theorem of_f (l : List S41) (hl : l.length < 2 ^ 62) (k : Nat) (hk : l.length + 1 ≤ k) : comfitlaw05_Of.f k l = some (ofL l) := by
  have := of_loop l hl l.length 0 [] (by omega) (by simp) (by simp) k hk
  unfold comfitlaw05_Of.f
  have e0 : ((0 : Nat) : Int) = 0 := rfl
  rw [e0] at this
  rw [this, List.nil_append, List.drop_zero]
  rfl
end Go.Proofs.YtpmmfckgfbdboaaDoor.G
end

section
namespace Go.Proofs.YtpmmfckgfbdboaaDoor.G
open Go.RowKit Go.Proofs.YtpmmfckgfbdboaaDoorW.PrintWords Go.Proofs.YtpmmfckgfbdboaaDoorW.PrintLast Go.Proofs.YtpmmfckgfbdboaaDoorW.PrintMore
attribute [local go_sem] max2_int min2_int max_two min_two max_three min_three max_four min_four   -- for this text's walks alone
set_option linter.unusedVariables false
set_option linter.unusedSimpArgs false

/-! ### comfitlaw05_items: function 19 -/
mutual
def comfitlaw05_items.l0 : Nat → List (List (S39)) → List (List (S95)) → Int → Int → Option ((List (List (S39))))
  | 0, _, _, _, _ => none
  | k + 1, x3, x9, x10, x11 => if x11 < x10 then (if 0 ≤ x11 then (if x11 < (x9.length : Int) then (comfitlaw05_items.l1 k x3 ([] : List (S39)) x9 x10 x11 (rd_L6 x9 x11) ((rd_L6 x9 x11).length : Int) 0) else (none)) else (none)) else (some x3)
def comfitlaw05_items.l1 : Nat → List (List (S39)) → List (S39) → List (List (S95)) → Int → Int → List (S95) → Int → Int → Option ((List (List (S39))))
  | 0, _, _, _, _, _, _, _, _ => none
  | k + 1, x3, x6, x9, x10, x11, x15, x16, x17 => if x17 < x16 then (if 0 ≤ x17 then (if x17 < (x15.length : Int) then (if x6.length < 8796093022208 then (comfitlaw05_items.l1 k x3 (x6 ++ [(⟨(rd_T95 x15 x17).f0, (rd_T95 x15 x17).f1⟩ : S39)]) x9 x10 x11 x15 x16 (wrap64 (x17 + 1))) else (none)) else (none)) else (none)) else (if x3.length < 5864062014805 then (comfitlaw05_items.l0 k (x3 ++ [x6]) x9 x10 (wrap64 (x11 + 1))) else (none))
end
def comfitlaw05_items.f (k : Nat) (l0 : List (List (S95))) : Option ((List (List (S39)))) := comfitlaw05_items.l0 k ([] : List (List (S39))) l0 (l0.length : Int) 0
theorem comfitlaw05_items.mono_l : ∀ k, (∀ y0 y1 y2 y3, LeO (comfitlaw05_items.l0 k y0 y1 y2 y3) (comfitlaw05_items.l0 (k + 1) y0 y1 y2 y3)) ∧ (∀ y0 y1 y2 y3 y4 y5 y6 y7, LeO (comfitlaw05_items.l1 k y0 y1 y2 y3 y4 y5 y6 y7) (comfitlaw05_items.l1 (k + 1) y0 y1 y2 y3 y4 y5 y6 y7))
  | 0 => ⟨fun _ _ _ _ r h => by simp [comfitlaw05_items.l0] at h, fun _ _ _ _ _ _ _ _ r h => by simp [comfitlaw05_items.l1] at h⟩
  | k + 1 => by
    obtain ⟨ih0, ih1⟩ := comfitlaw05_items.mono_l k
    refine ⟨?_, ?_⟩
    · intro y0 y1 y2 y3
      unfold comfitlaw05_items.l0
      repeat' first
      | (with_reducible exact ih0 _ _ _ _)
      | (with_reducible exact ih1 _ _ _ _ _ _ _ _)
      | (with_reducible exact LeO.refl _)
      | (with_reducible exact LeO.none _)
      | (with_reducible refine LeO.ite ?_ ?_)
      | (with_reducible refine LeO.bind ?_ (fun _ => ?_))
      | exact ih0 _ _ _ _
      | exact ih1 _ _ _ _ _ _ _ _
      | exact LeO.none _
      | refine LeO.ite ?_ ?_
      | refine LeO.bind ?_ (fun _ => ?_)
    · intro y0 y1 y2 y3 y4 y5 y6 y7
      unfold comfitlaw05_items.l1
      repeat' first
      | (with_reducible exact ih0 _ _ _ _)
      | (with_reducible exact ih1 _ _ _ _ _ _ _ _)
      | (with_reducible exact LeO.refl _)
      | (with_reducible exact LeO.none _)
      | (with_reducible refine LeO.ite ?_ ?_)
      | (with_reducible refine LeO.bind ?_ (fun _ => ?_))
      | exact ih0 _ _ _ _
      | exact ih1 _ _ _ _ _ _ _ _
      | exact LeO.none _
      | refine LeO.ite ?_ ?_
      | refine LeO.bind ?_ (fun _ => ?_)
theorem comfitlaw05_items.mono : ∀ a0 k, LeO (comfitlaw05_items.f k a0) (comfitlaw05_items.f (k + 1) a0) := by
  intro a0 k
  obtain ⟨ih0, ih1⟩ := comfitlaw05_items.mono_l k
  unfold comfitlaw05_items.f
  repeat' first
      | (with_reducible exact ih0 _ _ _ _)
      | (with_reducible exact ih1 _ _ _ _ _ _ _ _)
      | (with_reducible exact LeO.refl _)
      | (with_reducible exact LeO.none _)
      | (with_reducible refine LeO.ite ?_ ?_)
      | (with_reducible refine LeO.bind ?_ (fun _ => ?_))
      | exact ih0 _ _ _ _
      | exact ih1 _ _ _ _ _ _ _ _
      | exact LeO.none _
      | refine LeO.ite ?_ ?_
      | refine LeO.bind ?_ (fun _ => ?_)
set_option maxHeartbeats 8000000 in
set_option maxRecDepth 100000 in
theorem comfitlaw05_items.calls (k : Nat) (A0 : Option Addr) (c0 : Nat) (l0 : List (List (S95))) (r : List (List (S39))) (w : World) (hr0 : Kd.C (Kd.slice 95 k95) w A0 l0.length l0) (hc0 : l0.length ≤ c0) (h : comfitlaw05_items.f k l0 = some r) :
    Calls Tryd.prog 19 #[.slice A0 l0.length c0] w fun e w' => ∃ v0_ : Value, e = .returned (v0_) ∧ Kd.S (Kd.slice 39 k39) 35 w' w.heap.size (fun _ => True) v0_ r ∧ Below w.heap.size w w' := by
  have hu95 := Tryd.underlying95
  have hu39 := Tryd.underlying39
  have HR0 := Aside0.mk hr0
  have HC0 := Aside0.mk hc0
  clear hr0 hc0
  have HB := Aside0.mk (Below.refl w.heap.size w)
  have H : (comfitlaw05_items.l0 k ([] : List (List (S39))) l0 (l0.length : Int) 0) = some r := h
  clear h
  have H' := Aside0.mk H
  clear H
  go_enter Tryd.func19, Tryd.ntmps19
  go_wp2
  go_loopg [3, 11] k (fun kq v3 v11 w' => ∃ (x3_1 : List (List (S39))) (x11_1 : Int), v11 = .int .i64 x11_1 ∧ Aside0 (comfitlaw05_items.l0 kq x3_1 l0 (l0.length : Int) x11_1 = some r) ∧ Aside0 (kq ≤ k) ∧ Aside0 (Kd.S (Kd.slice 39 k39) 35 w' w.heap.size (fun _ => True) v3 x3_1) ∧ Aside0 (Below w.heap.size w w'))
  case atStart => exact ⟨(([] : List (List (S39)))), (0), (by first | rfl | (simp; done) | (simp [*]; done)), H', ⟨Nat.le_refl _⟩, ⟨by first | exact Kd.S_nil _ _ _ _ _ | exact Kd.N_nil _ _ _ _ _ | exact Kd.V_nil _ _ _ _ _ | exact Kd.Q_nil _ _ _ _ _ | exact Kd.R_nil _ _ _ _ _⟩, ⟨by repeat (first | (with_reducible first | exact HB.out | apply below_alloc | apply pw_below_drewN | apply below_drew1) | exact HB.out)⟩⟩
  case round =>
    clear H'
    try clear c1
    obtain ⟨x3_1, x11_1, rfl, HA, HK1, HO_3, HB⟩ := hrel
    cases gk with
    | zero => exact absurd HA.out (by simp [comfitlaw05_items.l0])
    | succ k1 =>
      have H := HA.out
      clear HA
      simp only [comfitlaw05_items.l0] at H
      by_cases c2 : x11_1 < (l0.length : Int)
      · rw [if_pos c2] at H
        have c2b0 : decide (x11_1 < (l0.length : Int)) = true := decide_eq_true c2
        clear c2
        by_cases c3 : 0 ≤ x11_1
        · rw [if_pos c3] at H
          have c3b0 : decide (0 ≤ x11_1) = true := decide_eq_true c3
          clear c3
          by_cases c4 : x11_1 < (l0.length : Int)
          · rw [if_pos c4] at H
            have c4b0 : decide (x11_1 < (l0.length : Int)) = true := decide_eq_true c4
            clear c4
            have H' := Aside0.mk H
            clear H
            have p188 : 0 ≤ (x11_1 : Int) := of_decide_eq_true (by first | (with_reducible assumption) | assumption)
            have q188 : x11_1 < (l0.length : Int) := of_decide_eq_true (by first | (with_reducible assumption) | assumption)
            obtain ⟨ad188, A188_0, c188_0, e188, hx188_0, hl188_0, hi188_0⟩ := at_L6 HR0.out x11_1 p188 q188
            cases e188
            replace hx188_0 := (HB.out.cell (World.block_lt_of_cell? w _ hx188_0)).trans hx188_0
            have HR188_0 := Aside0.mk hi188_0
            have HC188_0 := Aside0.mk hl188_0
            clear hi188_0 hl188_0
            replace p188 := eq_true p188
            replace q188 := eq_true q188
            go_wp2
            go_loopg [6, 17] k1 (fun kq v6 v17 w' => ∃ (x6_2 : List (S39)) (x17_2 : Int), v17 = .int .i64 x17_2 ∧ Aside0 (comfitlaw05_items.l1 kq x3_1 x6_2 l0 (l0.length : Int) x11_1 (rd_L6 l0 x11_1) ((rd_L6 l0 x11_1).length : Int) x17_2 = some r) ∧ Aside0 (kq ≤ k1) ∧ Aside0 (Kd.S (Kd.slice 39 k39) 35 w' w.heap.size (fun k_ => some k_ ≠ (v6 : Value).ownBlock) u3 x3_1) ∧ Aside0 (Kd.R k39 39 w' w.heap.size (fun _ => True) v6 x6_2) ∧ Aside0 (Below w.heap.size w w'))
            case atStart => exact ⟨(([] : List (S39))), (0), (by first | rfl | (simp; done) | (simp [*]; done)), H', ⟨Nat.le_refl _⟩, ⟨by (with_reducible repeat (first | apply Kd.S_alloc | apply Kd.S_drewN | apply Kd.S_drew)); exact Kd.S_mono HO_3.out (fun _ hk => (by simp [Value.ownBlock]))⟩, ⟨by first | exact Kd.R_nil _ _ _ _ _ | exact Kd.N_nil _ _ _ _ _ | exact Kd.V_nil _ _ _ _ _ | exact Kd.Q_nil _ _ _ _ _ | exact Kd.S_nil _ _ _ _ _⟩, ⟨by repeat (first | (with_reducible first | exact HB.out | apply below_alloc | apply pw_below_drewN | apply below_drew1) | exact HB.out)⟩⟩
            case round =>
              clear H'
              try clear c1
              try clear p1
              try clear q1
              try clear hx1
              try clear c2
              try clear c2b0
              try clear p2
              try clear c3
              try clear c3b0
              try clear c4
              try clear c4b0
              try clear hx188_0
              try clear p188
              try clear q188
              obtain ⟨x6_2, x17_2, rfl, HA, HK2, HO_3, HO_6, HB⟩ := hrel
              cases gk with
              | zero => exact absurd HA.out (by simp [comfitlaw05_items.l1])
              | succ k2 =>
                have H := HA.out
                clear HA
                simp only [comfitlaw05_items.l1] at H
                by_cases c5 : x17_2 < ((rd_L6 l0 x11_1).length : Int)
                · rw [if_pos c5] at H
                  have c5b0 : decide (x17_2 < ((rd_L6 l0 x11_1).length : Int)) = true := decide_eq_true c5
                  clear c5
                  by_cases c6 : 0 ≤ x17_2
                  · rw [if_pos c6] at H
                    have c6b0 : decide (0 ≤ x17_2) = true := decide_eq_true c6
                    clear c6
                    by_cases c7 : x17_2 < ((rd_L6 l0 x11_1).length : Int)
                    · rw [if_pos c7] at H
                      have c7b0 : decide (x17_2 < ((rd_L6 l0 x11_1).length : Int)) = true := decide_eq_true c7
                      clear c7
                      by_cases c8 : x6_2.length < 8796093022208
                      · rw [if_pos c8] at H
                        have LMc8 := Aside0.mk c8
                        clear c8
                        obtain ⟨y191, hy191⟩ : ∃ y_ : List (S39), y_ = (x6_2 ++ [(⟨(rd_T95 (rd_L6 l0 x11_1) x17_2).f0, (rd_T95 (rd_L6 l0 x11_1) x17_2).f1⟩ : S39)]) := ⟨_, rfl⟩
                        replace H : (comfitlaw05_items.l1 k2 x3_1 y191 l0 (l0.length : Int) x11_1 (rd_L6 l0 x11_1) ((rd_L6 l0 x11_1).length : Int) (wrap64 (x17_2 + 1))) = some r := by first | (rw [hy191]; with_reducible exact H) | (have H2_ := (Option.bind_some _ _).symm.trans H; rw [hy191]; with_reducible exact H2_) | (have H2_ := (Option.bind_some _ _).symm.trans H; with_reducible exact H2_) | with_reducible exact H | (rw [hy191]; exact H) | exact H
                        have Ny191 := Aside0.mk hy191
                        clear hy191
                        have H' := Aside0.mk H
                        clear H
                        have p189 : 0 ≤ (x17_2 : Int) := of_decide_eq_true (by first | (with_reducible assumption) | assumption)
                        have q189 : x17_2 < ((rd_L6 l0 x11_1).length : Int) := of_decide_eq_true (by first | (with_reducible assumption) | assumption)
                        obtain ⟨ad189, e189, hx189_0, hx189_1⟩ := at_T95 HR188_0.out x17_2 p189 q189
                        cases e189
                        replace hx189_0 := (HB.out.cell (World.block_lt_of_cell? w _ hx189_0)).trans hx189_0
                        replace hx189_1 := (HB.out.cell (World.block_lt_of_cell? w _ hx189_1)).trans hx189_1
                        replace p189 := eq_true p189
                        replace q189 := eq_true q189
                        go_wp2_with (first | ((with_reducible refine gate_dst (N := 8) rfl ?_); refine box_event ?hg (N := 8) ?hd (cs := #[.int .i64 0, .int .i64 0]) (t := 95) ?hr ?_; (case hd => rfl); (case hg => rfl); (case hr => first | (go_simp; done) | (go_simp; rfl)); intro gb190 hg w9 hbox hb; have n0_ := Aside0.mk (Kd.S_below (by (with_reducible repeat (first | apply Kd.S_alloc | apply Kd.S_drewN | apply Kd.S_drew)); exact HO_3.out) hb); have n1_ := Aside0.mk (Kd.R_below (by (with_reducible repeat (first | apply Kd.R_alloc | apply Kd.R_drewN | apply Kd.R_drew)); exact HO_6.out) hb); have n2_ := Aside0.mk (below_step (by repeat (first | (with_reducible first | exact HB.out | apply below_alloc | apply pw_below_drewN | apply below_drew1) | exact HB.out)) hb); have n3_ := Aside0.mk (hbox); have n4_ := Aside0.mk ((by rw [hg]; exact (below_size (by repeat (first | (with_reducible first | exact HB.out | apply below_alloc | apply pw_below_drewN | apply below_drew1) | exact HB.out))) : w.heap.size ≤ gb190)); have n5_ := Aside0.mk ((by rw [hg]; exact (below_size (by repeat (first | (with_reducible first | exact HB.out | apply below_alloc | apply pw_below_drewN | apply below_drew1) | exact HB.out))) : w.heap.size ≤ gb190)); clear HO_3; clear HO_6; clear HB; have HO_3 := n0_; have HO_6 := n1_; have HB := n2_; have BK190 := n3_; have GW190 := n4_; have GE190 := n5_; clear n0_ n1_ n2_ n3_ n4_ n5_; clear hb hbox hg; have hcz10_0 : w9.cell? ⟨gb190, 0, none⟩ = some (.int .i64 0) := (blk_cell BK190.out 0).trans rfl; have hcz10_1 : w9.cell? ⟨gb190, 1, none⟩ = some (.int .i64 0) := (blk_cell BK190.out 1).trans rfl; have hfz10_0 := blk_frozen BK190.out 0; have hfz10_1 := blk_frozen BK190.out 1) | ((with_reducible refine gate_builtin (b := .append) (xs := #[.tmp 21, .tmp 27]) rfl ?_); at_builtin; refine Kd.R_append k39 (w0 := w) w.heap.size rfl (.tmp 21) (.tmp 27) 35 39 (.agg #[(.int .i64 0), (.int .i64 0)]) 16 rfl Tryd.underlying35 info39 rfl (by decide) (by omega) u6 x6_2 (⟨(rd_T95 (rd_L6 l0 x11_1) x17_2).f0, (rd_T95 (rd_L6 l0 x11_1) x17_2).f1⟩ : S39) [.int .i64 ((rd_T95 (rd_L6 l0 x11_1) x17_2).f0), .int .i64 ((rd_T95 (rd_L6 l0 x11_1) x17_2).f1)] (fun _ => True) (fun _ => False) rfl (by first | (go_simp; done) | (go_simp; rfl)) ?aP (fun _ hk => hk.elim) ?aF ?aO ?aB ?aS ?aL ?_; (case aP => exact k39_mkM _ _ _ (⟨(rd_T95 (rd_L6 l0 x11_1) x17_2).f0, (rd_T95 (rd_L6 l0 x11_1) x17_2).f1⟩ : S39)); (case aB => exact (by repeat (first | (with_reducible first | exact HB.out | apply below_alloc | apply pw_below_drewN | apply below_drew1 | refine below_set ?_ GE190.out) | exact HB.out))); (case aF => exact (fun _ _ => trivial)); (case aO => exact (by (with_reducible repeat (first | apply Kd.R_alloc | apply Kd.R_drewN | apply Kd.R_drew)); exact Kd.R_mono (Kd.R_far (p := ⟨gb190, 1, none⟩) (Kd.R_far (p := ⟨gb190, 0, none⟩) (Kd.R_types HO_6.out BK190.out (by decide)) (fun _ hk => hk.2) (.int .i64 ((rd_T95 (rd_L6 l0 x11_1) x17_2).f0))) (fun _ hk => hk.2) (.int .i64 ((rd_T95 (rd_L6 l0 x11_1) x17_2).f1))) (fun _ hk => trivial))); (case aS => exact (below_size (by repeat (first | (with_reducible first | exact HB.out | apply below_alloc | apply pw_below_drewN | apply below_drew1 | refine below_set ?_ GE190.out) | exact HB.out)))); (case aL => have := LMc8.out; omega); intro v192 w11 ho hb hg hat; rw [← Ny191.out] at ho; have n0_ := Aside0.mk (Kd.S_after (ok := (fun _ => True)) (by (with_reducible repeat (first | apply Kd.S_alloc | apply Kd.S_drewN | apply Kd.S_drew)); exact Kd.S_mono (Kd.S_far (p := ⟨gb190, 1, none⟩) (Kd.S_far (p := ⟨gb190, 0, none⟩) (Kd.S_types HO_3.out BK190.out (by decide)) (fun _ hk => hk.2) (.int .i64 ((rd_T95 (rd_L6 l0 x11_1) x17_2).f0))) (fun _ hk => hk.2) (.int .i64 ((rd_T95 (rd_L6 l0 x11_1) x17_2).f1))) (fun _ hk => ⟨trivial, hk.1⟩)) hg hat); have n1_ := Aside0.mk (blk_grown (g := gb190) (o := .cells #[.int .i64 ((rd_T95 (rd_L6 l0 x11_1) x17_2).f0), .int .i64 ((rd_T95 (rd_L6 l0 x11_1) x17_2).f1)] 95 (0, 0)) (by (with_reducible repeat (first | refine blk_drewN ?_ _ | refine blk_drew ?_ | refine blk_alloc ?_ _)); refine blk_put (cs := #[.int .i64 ((rd_T95 (rd_L6 l0 x11_1) x17_2).f0), .int .i64 0]) ?_ 1 _ rfl; (with_reducible repeat (first | refine blk_drewN ?_ _ | refine blk_drew ?_ | refine blk_alloc ?_ _)); refine blk_put (cs := #[.int .i64 0, .int .i64 0]) ?_ 0 _ rfl; (with_reducible repeat (first | refine blk_drewN ?_ _ | refine blk_drew ?_ | refine blk_alloc ?_ _)); exact BK190.out) hg (Kd.R_ne HO_6.out BK190.out (by decide))); have n2_ := Aside0.mk (hb); have n3_ := Aside0.mk (ho); clear HO_3; clear BK190; clear HB; clear HO_6; have HO_3 := n0_; have BK190 := n1_; have HB := n2_; have HO193 := n3_; clear n0_ n1_ n2_ n3_; clear ho hb hg hat))
                        go_roundg k2
                        case measure => have := HK1.out; have := HK2.out; omega
                        case rel => exact ⟨(y191), (wrap64 (x17_2 + 1)), (by first | rfl | (simp; done) | (simp [*]; done)), H', ⟨by have := HK1.out; have := HK2.out; omega⟩, ⟨by (with_reducible repeat (first | apply Kd.S_alloc | apply Kd.S_drewN | apply Kd.S_drew)); exact Kd.S_mono HO_3.out (fun _ hk => hk.2)⟩, ⟨by (with_reducible repeat (first | apply Kd.R_alloc | apply Kd.R_drewN | apply Kd.R_drew)); exact HO193.out⟩, ⟨by repeat (first | (with_reducible first | exact HB.out | apply below_alloc | apply pw_below_drewN | apply below_drew1 | refine below_set ?_ GE190.out) | exact HB.out)⟩⟩
                      · rw [if_neg c8] at H
                        exact absurd H (by simp)
                    · rw [if_neg c7] at H
                      exact absurd H (by simp)
                  · rw [if_neg c6] at H
                    exact absurd H (by simp)
                · rw [if_neg c5] at H
                  have c5b0 : decide (x17_2 < ((rd_L6 l0 x11_1).length : Int)) = false := decide_eq_false c5
                  clear c5
                  by_cases c12 : x3_1.length < 5864062014805
                  · rw [if_pos c12] at H
                    have LMc12 := Aside0.mk c12
                    clear c12
                    obtain ⟨y194, hy194⟩ : ∃ y_ : List (List (S39)), y_ = (x3_1 ++ [x6_2]) := ⟨_, rfl⟩
                    replace H : (comfitlaw05_items.l0 k2 y194 l0 (l0.length : Int) (wrap64 (x11_1 + 1))) = some r := by first | (rw [hy194]; with_reducible exact H) | (have H2_ := (Option.bind_some _ _).symm.trans H; rw [hy194]; with_reducible exact H2_) | (have H2_ := (Option.bind_some _ _).symm.trans H; with_reducible exact H2_) | with_reducible exact H | (rw [hy194]; exact H) | exact H
                    have Ny194 := Aside0.mk hy194
                    clear hy194
                    have H' := Aside0.mk H
                    clear H
                    obtain ⟨Ao14, co14, eo14⟩ := Kd.R_slice HO_6.out
                    subst eo14
                    go_wp2_with (first | ((with_reducible refine gate_builtin (b := .append) (xs := #[.tmp 30, .tmp 32]) rfl ?_); at_builtin; refine Kd.S_append (Kd.slice 39 k39) (w0 := w) w.heap.size rfl (.tmp 30) (.tmp 32) 31 35 (.slice none 0 0) 24 rfl Tryd.underlying31 info35 rfl (by decide) (by omega) u3 x3_1 x6_2 [.slice Ao14 x6_2.length co14] (fun _ => True) (fun k_ => some k_ = (.slice Ao14 x6_2.length co14 : Value).ownBlock) rfl rfl ?aP (fun k_ hk_ => ((Kd.R_mono (ok' := fun k_ => ((fun _ => True)) k_ ∧ some k_ ≠ (u3 : Value).ownBlock) (Kd.R_apart' (HO_6.out) (Kd.S_typed HO_3.out) (by decide)) (fun k_ hk => ⟨trivial, hk.2⟩))).1 k_ hk_.symm) ?aF ?aO ?aB ?aS ?aL ?_; (case aP => exact Kd.M_row (Kd.R_mono (Kd.R_tight rfl (Kd.R_mono (ok' := fun k_ => ((fun _ => True)) k_ ∧ some k_ ≠ (u3 : Value).ownBlock) (Kd.R_apart' (HO_6.out) (Kd.S_typed HO_3.out) (by decide)) (fun k_ hk => ⟨trivial, hk.2⟩))) (fun _ h_ => h_))); (case aB => exact (by repeat (first | (with_reducible first | exact HB.out | apply below_alloc | apply pw_below_drewN | apply below_drew1) | exact HB.out))); (case aF => exact (fun _ _ => trivial)); (case aO => exact (by (with_reducible repeat (first | apply Kd.S_alloc | apply Kd.S_drewN | apply Kd.S_drew)); exact Kd.S_mono HO_3.out (fun k_ hk => ⟨trivial, fun e_ => hk e_⟩))); (case aS => exact (below_size (by repeat (first | (with_reducible first | exact HB.out | apply below_alloc | apply pw_below_drewN | apply below_drew1) | exact HB.out)))); (case aL => have := LMc12.out; omega); intro v195 w13 ho hb hg hat; rw [← Ny194.out] at ho; have n0_ := Aside0.mk (hb); have n1_ := Aside0.mk (ho); clear HB; clear HO_3; clear HO_6; have HB := n0_; have HO196 := n1_; clear n0_ n1_; clear ho hb hg hat))
                    go_roundg k2
                    case measure => have := HK1.out; have := HK2.out; omega
                    case rel => exact ⟨(y194), (wrap64 (x11_1 + 1)), (by first | rfl | (simp; done) | (simp [*]; done)), H', ⟨by have := HK1.out; have := HK2.out; omega⟩, ⟨by (with_reducible repeat (first | apply Kd.S_alloc | apply Kd.S_drewN | apply Kd.S_drew)); exact HO196.out⟩, ⟨by repeat (first | (with_reducible first | exact HB.out | apply below_alloc | apply pw_below_drewN | apply below_drew1) | exact HB.out)⟩⟩
                  · rw [if_neg c12] at H
                    exact absurd H (by simp)
          · rw [if_neg c4] at H
            exact absurd H (by simp)
        · rw [if_neg c3] at H
          exact absurd H (by simp)
      · rw [if_neg c2] at H
        have c2b0 : decide (x11_1 < (l0.length : Int)) = false := decide_eq_false c2
        clear c2
        obtain rfl := Option.some.inj H
        go_wp2
        go_ret
        exact ⟨_, by first | rfl | (simp [errW_none, errW_some] <;> rfl) | (simp [*, errW_none, errW_some] <;> rfl), by (with_reducible repeat (first | apply Kd.S_alloc | apply Kd.S_drewN | apply Kd.S_drew)); exact HO_3.out, by repeat (first | (with_reducible first | exact HB.out | apply below_alloc | apply pw_below_drewN | apply below_drew1) | exact HB.out)⟩

end Go.Proofs.YtpmmfckgfbdboaaDoor.G
end

section
namespace Go.Proofs.YtpmmfckgfbdboaaDoor.G
open Go.RowKit Go.Proofs.YtpmmfckgfbdboaaDoorW.PrintWords Go.Proofs.YtpmmfckgfbdboaaDoorW.PrintLast Go.Proofs.YtpmmfckgfbdboaaDoorW.PrintMore
open Go.Shelf Go.Lib
set_option linter.unusedVariables false
set_option linter.unusedSimpArgs false
/-! items, told without the law TablesStates (the same lemmas as in Xf: never import both). -/
def mp (sts : List (List S95)) : List (List S39) := sts.map fun s => s.map to39
theorem drop95 (xs : List S95) (i : Nat) (h1 : i < xs.length) : xs.drop i = rd_T95 xs (i : Int) :: xs.drop (i + 1) := by
  rw [List.drop_eq_getElem_cons h1]
  congr 1
  simp [rd_T95, List.getD_eq_getElem?_getD, h1]
theorem items_l1 (F : List (List S95)) (A : List (List S39)) (N i : Int) (s : List S95) (hl : s.length ≤ 1000) (hA : A.length ≤ 64) (K : Nat) (R : List (List S39)) (hc : ∀ k, K ≤ k → comfitlaw05_items.l0 k (A ++ [s.map to39]) F N (wrap64 (i + 1)) = some R) :
    ∀ (n j : Nat) (xs : List S39), s.length = j + n → xs.length ≤ j → xs ++ (s.drop j).map to39 = s.map to39 → ∀ k, K + n + 1 ≤ k → comfitlaw05_items.l1 k A xs F N i s (s.length : Int) (j : Int) = some R
  | 0, j, xs, h, hx, he, k, hk => by
    obtain ⟨k, rfl⟩ : ∃ m, k = m + 1 := ⟨k - 1, by omega⟩
    rw [List.drop_of_length_le (by omega)] at he
    simp only [List.map_nil, List.append_nil] at he
    subst he
    simp only [comfitlaw05_items.l1]
    rw [if_neg (by omega), if_pos (by omega)]
    exact hc k (by omega)
  | n + 1, j, xs, h, hx, he, k, hk => by
    obtain ⟨k, rfl⟩ : ∃ m, k = m + 1 := ⟨k - 1, by omega⟩
    have hj0 : (0 : Int) ≤ (j : Int) := by omega
    have hjI : (j : Int) < (s.length : Int) := by omega
    have hw : wrap64 ((j : Int) + 1) = ((j + 1 : Nat) : Int) := by rw [wrap64_succ (n := s.length) hj0 ⟨hjI, by omega⟩]; omega
    have hxl : xs.length < 8796093022208 := by omega
    have q1 : s.length = j + 1 + n := by omega
    have q2 : (xs ++ [(⟨(rd_T95 s (j : Int)).f0, (rd_T95 s (j : Int)).f1⟩ : S39)]).length ≤ j + 1 := by rw [List.length_append, List.length_singleton]; omega
    have q3 : K + n + 1 ≤ k := by omega
    have q4 : j < s.length := by omega
    simp only [comfitlaw05_items.l1]
    rw [if_pos hjI, if_pos hj0, if_pos hjI, if_pos hxl, hw]
    refine items_l1 F A N i s hl hA K R hc n (j + 1) _ q1 q2 ?_ k q3
    rw [← he, drop95 s j q4, List.append_assoc]
    rfl
theorem items_l0 (F : List (List S95)) (hF : F.length ≤ 64) (hs : ∀ s ∈ F, s.length ≤ 1000) : ∀ (n i : Nat), F.length = i + n → ∀ k, 1003 * n + 1 ≤ k → comfitlaw05_items.l0 k (mp (F.take i)) F (F.length : Int) (i : Int) = some (mp F)
  | 0, i, h, k, hk => by
    obtain ⟨k, rfl⟩ : ∃ m, k = m + 1 := ⟨k - 1, by omega⟩
    simp only [comfitlaw05_items.l0]
    rw [if_neg (by omega), List.take_of_length_le (by omega)]
  | n + 1, i, h, k, hk => by
    obtain ⟨k, rfl⟩ : ∃ m, k = m + 1 := ⟨k - 1, by omega⟩
    have hi0 : (0 : Int) ≤ (i : Int) := by omega
    have hiI : (i : Int) < (F.length : Int) := by omega
    have hlt : i < F.length := by omega
    have hw : wrap64 ((i : Int) + 1) = ((i + 1 : Nat) : Int) := by rw [wrap64_succ (n := F.length) hi0 ⟨hiI, by omega⟩]; omega
    have hrd : rd_L6 F (i : Int) = F[i] := by simp [rd_L6, List.getD_eq_getElem?_getD, hlt]
    have hsl := hs _ (List.getElem_mem hlt)
    have htk : mp (F.take i) ++ [(F[i]).map to39] = mp (F.take (i + 1)) := by
      rw [List.take_succ_eq_append_getElem hlt]
      unfold mp
      rw [List.map_append]
      rfl
    have q1 : F.length = i + 1 + n := by omega
    have q2 : (mp (F.take i)).length ≤ 64 := by simp only [mp, List.length_map, List.length_take]; omega
    have q3 : 1003 * n + 1 + (F[i]).length + 1 ≤ k := by omega
    have ih := items_l0 F hF hs n (i + 1) q1
    simp only [comfitlaw05_items.l0]
    rw [if_pos hiI, if_pos hi0, if_pos hiI, hrd]
    have := items_l1 F (mp (F.take i)) (F.length : Int) (i : Int) F[i] hsl q2 (1003 * n + 1) (mp F) (fun k hk => by rw [htk, hw]; exact ih k hk) (F[i]).length 0 [] (by omega) (by simp) (by simp) k q3
    have e0 : ((0 : Nat) : Int) = 0 := rfl
    rw [e0] at this
    exact this
theorem items_f (F : List (List S95)) (hF : F.length ≤ 64) (hs : ∀ s ∈ F, s.length ≤ 1000) (k : Nat) (hk : 65000 ≤ k) : comfitlaw05_items.f k F = some (mp F) := by
  have := items_l0 F hF hs F.length 0 (by omega) k (by omega)
  have e0 : ((0 : Nat) : Int) = 0 := rfl
  rw [e0] at this
  exact this
/-- The program's states of what Of copies. -/
theorem states_of (l : List S41) : tables_States.f (ofL l) = some (if validB (gr41 l) = true then (match refStates (gr41 l) with | none => (([] : List (List S95)), (6 : Int)) | some F => (F, 0)) else ([], 2)) := by
  unfold tables_States.f
  rw [ofL_gr, validB_of]
  by_cases h : validB (gr41 l) = true
  · rw [if_pos h, if_pos h, valid_same h]
    cases refStates (gr41 l) <;> rfl
  · rw [if_neg h, if_neg h]
theorem gr41_pos {l : List S41} (h : validB (gr41 l) = true) : okG (gr41 l) ∧ 0 < l.length := by
  obtain ⟨h1, h2⟩ := validB_ok h
  refine ⟨h1, ?_⟩
  rcases Nat.eq_zero_or_pos l.length with h3 | h3
  · rw [List.length_eq_zero_iff] at h3
    subst h3
    exact absurd rfl h2
  · exact h3
end Go.Proofs.YtpmmfckgfbdboaaDoor.G
end

section
namespace Go.Proofs.YtpmmfckgfbdboaaDoor.G
open Go.RowKit Go.Proofs.YtpmmfckgfbdboaaDoorW.PrintWords Go.Proofs.YtpmmfckgfbdboaaDoorW.PrintLast Go.Proofs.YtpmmfckgfbdboaaDoorW.PrintMore
open Go.Shelf Go.Lib
set_option linter.unusedVariables false
set_option linter.unusedSimpArgs false
def FirstPost (w : World) (s0 s1 s2 s3 s4 : Nat) (e : Ending) (w' : World) : Prop := e = .returned (.tuple #[.agg #[.int .i64 s0, .int .i64 s1, .int .i64 s2, .int .i64 s3, .int .i64 s4], .int .i64 0]) ∧ Below w.heap.size w w'
set_option maxHeartbeats 1000000 in
theorem first48 (l : List S56) (A : Option Addr) (c0 : Nat) (w : World) (hr0 : Kd.C k56 w A l.length l) (hc0 : l.length ≤ c0) (hv : validB (gr56 l) = true) (s0 s1 s2 s3 s4 : Nat) (hF : firstP (gr56 l) = [s0, s1, s2, s3, s4]) :
    Calls Tryd.prog 48 #[.slice A l.length c0] w (FirstPost w s0 s1 s2 s3 s4) := by
  have HV := Lib.hid (fun W (hb : Below w.heap.size w W) => tables_grammar_valid.calls 40 A c0 l _ W (Kd.C_below hr0 hb) hc0 (valid_f l 40 (Nat.le_refl _)))
  rw [hv] at HV
  have HF := Lib.hid (fun W (hb : Below w.heap.size w W) => first_any l A c0 W (Kd.C_below hr0 hb) hc0 (validB_ok hv).1)
  rw [hF] at HF
  replace HF : Hid (∀ W, Below w.heap.size w W → Calls Tryd.prog 82 #[.slice A l.length c0] W fun x w' => x = .returned (.agg #[.int .i64 s0, .int .i64 s1, .int .i64 s2, .int .i64 s3, .int .i64 s4]) ∧ Below W.heap.size W w') := HF
  have HZ0 := Lib.hid (blk_new w (.cells (arr [0, 0, 0, 0, 0]) 84))
  have HB0 := Lib.hid (below_alloc (Below.refl w.heap.size w) (.cells (arr [0, 0, 0, 0, 0]) 84))
  clear hr0 hv hF
  go_enter Tryd.func48, Tryd.ntmps48
  go_wp2_with (first | (go_at_call 56; go_must (refine (HV.out _ HB0.out).mono ?_); rintro e w1 ⟨rfl, hb⟩; have HB1 := Lib.hid (below_step HB0.out hb); have HZ1 := Lib.hid (blk_below HZ0.out hb); clear hb) | (go_at_call 82; go_must (refine (HF.out _ HB1.out).mono ?_); rintro e w2 ⟨rfl, hb⟩; have HB2 := Lib.hid (below_step HB1.out hb); have HZ2 := Lib.hid (blk_below HZ1.out hb); clear hb; have B1 := Lib.hid (blk_put HZ2.out 0 (.int .i64 s0) (arr_set [0, 0, 0, 0, 0] 0 s0)); have B2 := Lib.hid (blk_put B1.out 1 (.int .i64 s1) (arr_set _ 1 s1)); have B3 := Lib.hid (blk_put B2.out 2 (.int .i64 s2) (arr_set _ 2 s2)); have B4 := Lib.hid (blk_put B3.out 3 (.int .i64 s3) (arr_set _ 3 s3)); have B5 := Lib.hid (blk_put B4.out 4 (.int .i64 s4) (arr_set _ 4 s4)); have hb0 : w2.cell? ⟨w.heap.size, 0, none⟩ = some (.int .i64 0) := (blk_cell HZ2.out 0).trans rfl; have hb1 := (blk_cell B1.out 1).trans (show _ = some (Value.int .i64 0) from rfl); have hb2 := (blk_cell B2.out 2).trans (show _ = some (Value.int .i64 0) from rfl); have hb3 := (blk_cell B3.out 3).trans (show _ = some (Value.int .i64 0) from rfl); have hb4 := (blk_cell B4.out 4).trans (show _ = some (Value.int .i64 0) from rfl); have hf0 := blk_frozen HZ2.out 0; have hf1 := blk_frozen B1.out 1; have hf2 := blk_frozen B2.out 2; have hf3 := blk_frozen B3.out 3; have hf4 := blk_frozen B4.out 4))
  have HBL := Lib.hid (below_set (g := w.heap.size) (j := 4) (v := .int .i64 s4) (below_set (g := w.heap.size) (j := 3) (v := .int .i64 s3) (below_set (g := w.heap.size) (j := 2) (v := .int .i64 s2) (below_set (g := w.heap.size) (j := 1) (v := .int .i64 s1) (below_set (g := w.heap.size) (j := 0) (v := .int .i64 s0) HB2.out (Nat.le_refl _)) (Nat.le_refl _)) (Nat.le_refl _)) (Nat.le_refl _)) (Nat.le_refl _))
  refine bodyPost_ret (results_list (rs := [.cell 2 84, .tmp 3]) rfl (by show (2 : Nat) ≠ 1; decide) (.cell w.heap.size 84 _ _ _ rfl B5.out Tryd.underlying84 rfl ?_ (.tmp .nil))) rfl ⟨?_, HBL.out⟩
  · kernel_rfl
  · rfl
def awakeL : List S56 := [⟨65, ⟨#[98]⟩⟩]
theorem awake_valid : validB (gr56 awakeL) = true := by decide
theorem awake_first : firstP (gr56 awakeL) = [2, 0, 0, 0, 0] := by decide
theorem eq84i (W : World) : (Op.equalIn 10000 84 (.agg #[.int .i64 2, .int .i64 0, .int .i64 0, .int .i64 0, .int .i64 0]) (.agg #[.int .i64 2, .int .i64 0, .int .i64 0, .int .i64 0, .int .i64 0])).run Tryd.prog W = .ok true W := by kernel_rfl
set_option maxHeartbeats 1000000 in
set_option maxRecDepth 100000 in
theorem awake_any (w : World) : Calls Tryd.prog 16 #[] w fun e w' => e = .returned (.bool true) ∧ Below w.heap.size w w' := by
  have HF := Lib.hid (fun A c0 W hr hc => first48 awakeL A c0 W hr hc awake_valid 2 0 0 0 0 awake_first)
  have e84 := eq84i
  go_enter Tryd.func16, Tryd.ntmps16
  go_wp2_with (first | ((with_reducible refine gate_dst (N := 5) rfl ?_); go_must (refine Kd.R_lit k56 _ 56 ?hg (N := 5) ?hd (xs := awakeL) (inner := [.int .u8 65, .string ⟨#[98]⟩]) (ok := fun _ => True) (okp := fun _ => True) ?hr ?hp (fun _ hk => hk) trivial (Below.refl _ _) (Nat.le_refl _) (by decide) ?_); (case hd => rfl); (case hg => rfl); (case hr => first | (go_simp; done) | (go_simp; rfl)); (case hp => exact (Reps.c2 (show Kd.M k56 _ _ _ (⟨65, ⟨#[98]⟩⟩ : S56) [.int .u8 65, .string ⟨#[98]⟩] from (k56_mkM _ _ _ (⟨65, ⟨#[98]⟩⟩ : S56))) (Reps.none _ _))); intro v5 w3 ho hb hg_ hnew_; obtain ⟨A5, c5, rfl, hc5, hC5⟩ := Kd.R_reads ho; have HC5 := Lib.hid (And.intro hc5 hC5); have HB3 := Lib.hid hb; clear ho hb hg_ hnew_ hc5 hC5) | (go_at_call 48; go_must (refine (HF.out _ _ _ HC5.out.2 HC5.out.1).mono ?_); rintro e w4 ⟨rfl, hb⟩; have HB4 := Lib.hid (below_step HB3.out hb); clear hb))
  go_ret
  exact ⟨rfl, below_alloc HB4.out _⟩
def comfitlaw05_awake.f : Option Bool := some true
theorem comfitlaw05_awake.calls (r : Bool) (w : World) (h : comfitlaw05_awake.f = some r) : Calls Tryd.prog 16 #[] w fun e w' => e = .returned (.bool r) ∧ Below w.heap.size w w' := by
  cases h
  exact awake_any w
end Go.Proofs.YtpmmfckgfbdboaaDoor.G
end

section
namespace Go.Proofs.YtpmmfckgfbdboaaDoor.G
open Go.RowKit Go.Proofs.YtpmmfckgfbdboaaDoorW.PrintWords Go.Proofs.YtpmmfckgfbdboaaDoorW.PrintLast Go.Proofs.YtpmmfckgfbdboaaDoorW.PrintMore
open Go.Shelf Go.Lib
set_option linter.unusedVariables false
set_option linter.unusedSimpArgs false
/-! What TablesReached asks, as plain Lean. -/
theorem goI_of {l : List S41} (hv : validB (gr41 l) = true) {F : List (List S95)} (hr : refStates (gr41 l) = some F) {c : Int} (hc : c ∈ lettersP) {j : Nat} (hj : j < F.length) :
    goI (ofL l) (j : Int) c = match goS (gr41 l) F j c with | none => (0, 4) | some k => (k, 0) := by
  have e : gr56 (ofL l) = gr41 l := by rw [ofL_gr, valid_same hv]
  have h1 : ¬ ((j : Int) < 0 ∨ (F.length : Int) ≤ (j : Int)) := by omega
  unfold goI goS
  rw [if_neg (by simpa using hc), e, if_neg (by rw [hv]; decide), hr]
  simp only [if_neg h1, Int.toNat_natCast]
  all_goals (cases lookM ((gosOf (gr41 l) F F).getD j []) c <;> rfl)
theorem goI_code {l : List S41} (hv : validB (gr41 l) = true) {F : List (List S95)} (hr : refStates (gr41 l) = some F) {c : Int} (hc : c ∈ lettersP) {j : Nat} (hj : j < F.length) :
    (goI (ofL l) (j : Int) c).2 = 0 ∨ (goI (ofL l) (j : Int) c).2 = 4 := by
  rw [goI_of hv hr hc hj]
  cases goS (gr41 l) F j c
  · exact .inr rfl
  · exact .inl rfl
/-- What is told of a state. -/
def Told (l : List S41) (F : List (List S95)) (q : Nat) (s : List S95) (b : Int) : Prop :=
  (∀ x ∈ s, 0 ≤ x.f0 ∧ x.f0 ≤ (l.length : Int) ∧ 0 ≤ x.f1 ∧ x.f1 ≤ ((rightP (gr41 l) x.f0).length : Int) ∧ (x.f1 ≠ 0 → 0 < x.f1 ∧ aheadP (gr41 l) x = b)) ∧
  ((q = 0 ∧ ∀ x ∈ s, x.f1 = 0) ∨ (0 < q ∧ b ≠ 0 ∧ (∃ x ∈ s, x.f1 ≠ 0) ∧ (∃ j : Nat, j < q ∧ goI (ofL l) (j : Int) b = ((q : Int), 0)) ∧ ∀ j : Nat, j < F.length → (goI (ofL l) (j : Int) b).2 = 0 ∨ (goI (ofL l) (j : Int) b).2 = 4))
theorem gr41_length (l : List S41) : (gr41 l).length = l.length := by simp [gr41]
theorem told {l : List S41} (hv : validB (gr41 l) = true) {F : List (List S95)} (hr : refStates (gr41 l) = some F) {q : Nat} {s : List S95} (hq : F[q]? = some s) : ∃ b, Told l F q s b := by
  obtain ⟨hg, hne⟩ := validB_ok hv
  have ht : Tab (gr41 l) F := ⟨hg, hne, hr⟩
  have hgd := ht.good hq
  have hbase : ∀ x ∈ s, 0 ≤ x.f0 ∧ x.f0 ≤ (l.length : Int) ∧ 0 ≤ x.f1 := fun x hx => by
    obtain ⟨⟨h1, h2, h3⟩, h4⟩ := hgd.2 x hx
    rw [gr41_length] at h4
    exact ⟨h1, h4, h2⟩
  cases q with
  | zero =>
    have h0 := ht.first
    rw [hq] at h0
    have he := Option.some.inj h0
    have hz : ∀ x ∈ s, x.f1 = 0 := fun x hx => start_dots hg x (he ▸ hx)
    refine ⟨0, fun x hx => ?_, .inl ⟨rfl, hz⟩⟩
    obtain ⟨a1, a2, a3⟩ := hbase x hx
    exact ⟨a1, a2, a3, by rw [hz x hx]; exact Int.natCast_nonneg _, fun h => absurd (hz x hx) h⟩
  | succ q =>
    obtain ⟨j, s', c, h1, h2, h3, h4, h5⟩ := (refStates_comes hg hr).2 (q + 1) s (by omega) hq
    have hgs := ht.good h2
    have hqF : q + 1 < F.length := (List.getElem?_eq_some_iff.1 hq).1
    refine ⟨c, fun x hx => ?_, .inr ⟨by omega, letters_ne0 c h3, ?_, ⟨j, h1, ?_⟩, fun i hi => goI_code hv hr h3 hi⟩⟩
    · obtain ⟨a1, a2, a3⟩ := hbase x hx
      obtain ⟨d1, d2⟩ := comes_dots hg hgs h3 x (h5 ▸ hx)
      refine ⟨a1, a2, a3, d2, fun h => ?_⟩
      rcases d1 with d1 | d1
      · exact absurd d1 h
      · exact d1
    · obtain ⟨x, hx, hx1, _⟩ := comes_some hg hgs h3 h4
      exact ⟨x, h5 ▸ hx, by omega⟩
    · rw [goI_of hv hr h3 (by omega), goS_eq h2 h3, if_neg h4, ← h5, findI_at (refStates_comes hg hr).1 hq]
/-- The letter that has been seen. -/
def seenL (b : Int) (s : List S95) : Int := if s.any (fun x => x.f1 != 0) then b else 0
theorem seenL_nil (b : Int) : seenL b [] = 0 := rfl
theorem seenL_or (b : Int) (s : List S95) : seenL b s = 0 ∨ seenL b s = b := by
  unfold seenL
  split
  · exact .inr rfl
  · exact .inl rfl
theorem seenL_zero {b : Int} {s : List S95} (h : ∀ x ∈ s, x.f1 = 0) : seenL b s = 0 := by
  unfold seenL
  rw [if_neg]
  simp only [List.any_eq_true, bne_iff_ne, not_exists, not_and, Decidable.not_not]
  exact h
theorem seenL_some {b : Int} {s : List S95} (h : ∃ x ∈ s, x.f1 ≠ 0) : seenL b s = b := by
  unfold seenL
  rw [if_pos]
  simpa only [List.any_eq_true, bne_iff_ne] using h
theorem seenL_stay {b : Int} {s : List S95} {j : Nat} {x : S95} (hx : s[j]? = some x) (h : x.f1 = 0) : seenL b (s.take (j + 1)) = seenL b (s.take j) := by
  unfold seenL
  rw [List.take_add_one, hx, List.any_append]
  simp [h]
theorem seenL_go {b : Int} {s : List S95} {j : Nat} {x : S95} (hx : s[j]? = some x) (h : x.f1 ≠ 0) : seenL b (s.take (j + 1)) = b := by
  refine seenL_some ⟨x, ?_, h⟩
  rw [List.take_add_one, hx]
  simp
/-- A rule's right side, as the law reads it. -/
def rstr (l : List S41) (rule : Int) : ByteArray := if rule = l.length then strOfNums [(rd_T41 l 0).f0] else (rd_T41 l rule).f1
theorem rstr_bytes {l : List S41} (hv : validB (gr41 l) = true) (rule : Int) (h0 : 0 ≤ rule) (h1 : rule ≤ (l.length : Int)) : bytesOf (rstr l rule) = rightP (gr41 l) rule := by
  obtain ⟨hg, hne⟩ := gr41_pos hv
  unfold rstr rightP
  rw [gr41_len]
  by_cases h : rule = l.length
  · rw [if_pos h, if_pos h]
    cases l with
    | nil => simp at hne
    | cons a l =>
      have hp := (hg.2 (a.f0, bytesOf a.f1) (by simp [gr41])).1
      exact part_str hp
  · rw [if_neg h, if_neg h]
    have h2 : rule.toNat < l.length := by omega
    simp [gr41, rd_T41, List.getD_eq_getElem?_getD, h2]
theorem bt_bytes (t : ByteArray) (i : Int) : bt t i = (bytesOf t).getD i.toNat 0 := by
  unfold bt
  split
  · rename_i h
    have h2 : i.toNat < (bytesOf t).length := by rw [bytesOf_length]; exact h
    rw [List.getD_eq_getElem?_getD, List.getElem?_eq_getElem h2]
    simp [bytesOf]
    rfl
  · rename_i h
    rw [List.getD_eq_getElem?_getD, List.getElem?_eq_none (by rw [bytesOf_length]; omega)]
    rfl
/-- All that a round asks of an item. -/
theorem item_told {l : List S41} (hv : validB (gr41 l) = true) {F : List (List S95)} {q : Nat} {s : List S95} {b : Int} (ht : Told l F q s b) {x : S95} (hx : x ∈ s) :
    0 ≤ x.f0 ∧ x.f0 ≤ (l.length : Int) ∧ 0 ≤ x.f1 ∧ x.f1 ≤ ((rstr l x.f0).size : Int) ∧ (x.f1 ≠ 0 → 0 < x.f1 ∧ bt (rstr l x.f0) (x.f1 - 1) = b) ∧ (rstr l x.f0).size ≤ 4 := by
  obtain ⟨a1, a2, a3, a4, a5⟩ := ht.1 x hx
  obtain ⟨hg, hne⟩ := gr41_pos hv
  have hb := rstr_bytes hv x.f0 a1 a2
  have hl := bytesOf_length (rstr l x.f0)
  rw [hb] at hl
  have h4 := right_len hg x.f0
  refine ⟨a1, a2, a3, by omega, fun h => ?_, by omega⟩
  obtain ⟨b1, b2⟩ := a5 h
  refine ⟨b1, ?_⟩
  rw [bt_bytes, hb, ← b2]
  unfold aheadP
  rw [show (x.f1 - 1).toNat = x.f1.toNat - 1 by omega]
end Go.Proofs.YtpmmfckgfbdboaaDoor.G
end

section
namespace Go.Proofs.YtpmmfckgfbdboaaDoor.G
open Go.RowKit Go.Proofs.YtpmmfckgfbdboaaDoorW.PrintWords Go.Proofs.YtpmmfckgfbdboaaDoorW.PrintLast Go.Proofs.YtpmmfckgfbdboaaDoorW.PrintMore
open Go.Shelf Go.Lib
set_option linter.unusedVariables false
set_option linter.unusedSimpArgs false
/-! The walk of TablesReached: function 4. -/
def ReachPost (w : World) (e : Ending) (w' : World) : Prop := e = .returned (.bool true) ∧ Below w.heap.size w w'
theorem rd_mp (F : List (List S95)) (q : Nat) (s : List S95) (hq : F[q]? = some s) : rd_L12 (mp F) (q : Int) = s.map to39 := by
  unfold rd_L12 mp
  rw [List.getD_eq_getElem?_getD, Int.toNat_natCast, List.getElem?_map, hq]
  rfl
theorem rd_map39 (s : List S95) (j : Nat) (x : S95) (hj : s[j]? = some x) : rd_T39 (s.map to39) (j : Int) = ⟨x.f0, x.f1⟩ := by
  unfold rd_T39
  rw [List.getD_eq_getElem?_getD, Int.toNat_natCast, List.getElem?_map, hj]
  rfl
theorem mp_length (F : List (List S95)) : (mp F).length = F.length := by simp [mp]
set_option maxHeartbeats 4000000 in
set_option maxRecDepth 100000 in
theorem reached_bad (l : List S41) (A : Option Addr) (c0 : Nat) (w : World) (hr0 : Kd.C k41 w A l.length l) (hc0 : l.length ≤ c0) (hl : l.length < 2 ^ 61) (r2 : Int) (h2 : r2 = 2 ∨ r2 = 6) (hst : tables_States.f (ofL l) = some ([], r2)) :
    Calls Tryd.prog 4 #[.slice A l.length c0] w (ReachPost w) := by
  have HOF := Lib.hid (fun W (hb : Below w.heap.size w W) => comfitlaw05_Of.calls (l.length + 1) A c0 l (ofL l) W (Kd.C_below hr0 hb) hc0 (of_f l (Nat.lt_trans hl (by decide)) _ (Nat.le_refl _)))
  have HST := Lib.hid (fun A' c' W h1 h2 => tables_States.calls A' c' (ofL l) [] r2 W h1 h2 hst)
  clear hr0 hst
  rcases h2 with rfl | rfl
  all_goals
    go_enter Tryd.func4, Tryd.ntmps4
    go_wp2_with (first | (go_at_call 14; go_must (refine (HOF.out _ (Below.refl _ _)).mono ?_); rintro e w1 ⟨v1, rfl, ho, hb⟩; obtain ⟨A1, c1, rfl, hc1, hC1⟩ := Kd.R_reads ho; have HC1 := Lib.hid (And.intro hc1 hC1); have HB1 := Lib.hid hb; clear ho hb hc1 hC1) | (go_at_call 13; go_must (refine (HST.out _ _ _ HC1.out.2 HC1.out.1).mono ?_); rintro e w2 ⟨v2, rfl, ho, hb⟩; obtain ⟨A2, c2, rfl, _, _⟩ := Kd.N_reads ho; have HB2 := Lib.hid (below_step HB1.out hb); clear ho hb) | (go_at_call 16; go_must (refine (awake_any _).mono ?_); rintro e w3 ⟨rfl, hb⟩; have HB3 := Lib.hid (below_step HB2.out hb); clear hb))
    go_ret
    exact ⟨rfl, HB3.out⟩
theorem cell_at {W : World} {g : Nat} {a b : Value} {t : Nat} (h : W.heap[g]? = some (.cells #[a, b] t (0, 0))) : W.cell? ⟨g, 0, none⟩ = some a ∧ W.cell? ⟨g, 1, none⟩ = some b :=
  ⟨(blk_cell h 0).trans rfl, (blk_cell h 1).trans rfl⟩
theorem at_str {t : ByteArray} {x1 b : Int} (h : x1 ≠ 0 → 0 < x1 ∧ bt t (x1 - 1) = b) (h0 : x1 ≠ 0) (h1 : x1 ≤ (t.size : Int)) : 0 ≤ x1 - 1 ∧ x1 - 1 < (t.size : Int) ∧ ∀ h : x1.toNat - 1 < t.size, ((t[x1.toNat - 1]'h).toNat : Int) = b := by
  obtain ⟨h2, h3⟩ := h h0
  have e : (x1 - 1).toNat = x1.toNat - 1 := by omega
  refine ⟨by omega, by omega, fun h => ?_⟩
  have h4 := bt_at t (x1 - 1)
  rw [e] at h4
  exact (h4 h).trans h3
theorem nat_pos_int {q : Nat} (h : 0 < q) : ((q : Int) == 0) = false := beq_eq_false_iff_ne.mpr (by omega)
theorem size_small {t : ByteArray} {x : Int} (h : x ≤ (t.size : Int)) (h4 : t.size ≤ 4) : x ≤ 4 ∧ (t.size : Int) ≤ 4 := by omega
set_option maxHeartbeats 8000000 in
set_option maxRecDepth 100000 in
theorem reached_ok (l : List S41) (A : Option Addr) (c0 : Nat) (w : World) (hr0 : Kd.C k41 w A l.length l) (hc0 : l.length ≤ c0) (hl : l.length < 2 ^ 61) (hv : validB (gr41 l) = true) (F : List (List S95)) (hr : refStates (gr41 l) = some F) :
    Calls Tryd.prog 4 #[.slice A l.length c0] w (ReachPost w) := by
  have HR0 := Lib.hid hr0
  have HV := Lib.hid (And.intro hv hr)
  obtain ⟨hg, hne⟩ := gr41_pos hv
  obtain ⟨_, hG, _⟩ := refStates_good hg hr
  have h2F : 2 ≤ F.length := two_states hg (validB_ok hv).2 hr
  have hs : ∀ s ∈ F, s.length ≤ 1000 := fun s hs => Nat.le_trans (goodSt_len hg (hG.2 s hs)) (by decide)
  have HOF := Lib.hid (fun W (hb : Below w.heap.size w W) => comfitlaw05_Of.calls (l.length + 1) A c0 l (ofL l) W (Kd.C_below hr0 hb) hc0 (of_f l (Nat.lt_trans hl (by decide)) _ (Nat.le_refl _)))
  have hst := states_of l
  rw [if_pos hv, hr] at hst
  have HST := Lib.hid (fun A' c' W h1 h2 => tables_States.calls A' c' (ofL l) F 0 W h1 h2 hst)
  have hgr := grammar_f l hl ((l.length + 12) * l.length + 1) (Nat.le_refl _)
  rw [hv] at hgr
  have HGR := Lib.hid (fun W (hb : Below w.heap.size w W) => comfitref05_Grammar.calls _ A c0 l true W (Kd.C_below hr0 hb) hc0 hgr)
  have HIT := Lib.hid (fun A' c' W h1 h2 => comfitlaw05_items.calls 65000 A' c' F (mp F) W h1 h2 (items_f F hG.1 hs 65000 (Nat.le_refl _)))
  have h2I : (2 : Int) ≤ (F.length : Int) := Int.ofNat_le.mpr h2F
  have h64 : (F.length : Int) ≤ 64 := Int.ofNat_le.mpr hG.1
  have HS := Lib.hid hs
  have hne0 : 0 < (l.length : Int) := Int.ofNat_lt.mpr hne
  have hneN : (0 < l.length) = True := eq_true hne
  obtain ⟨ad0, eA0, _, _⟩ := at_T41 hr0 0 (Int.le_refl 0) hne0
  subst eA0
  clear hr0 hst hgr hG h2F hs hg hv hr hne
  go_enter Tryd.func4, Tryd.ntmps4
  go_wp2_with (first | (go_at_call 14; go_must (refine (HOF.out _ (Below.refl _ _)).mono ?_); rintro e w1 ⟨v1, rfl, ho, hb⟩; obtain ⟨A1, c1, rfl, hc1, hC1⟩ := Kd.R_reads ho; have HC1 := Lib.hid (And.intro hc1 hC1); have HB1 := Lib.hid hb; clear ho hb hc1 hC1) | (go_at_call 13; go_must (refine (HST.out _ _ _ HC1.out.2 HC1.out.1).mono ?_); rintro e w2 ⟨v2, rfl, ho, hb⟩; obtain ⟨A2, c2, rfl, hc2, hC2⟩ := Kd.N_reads ho; have HC2 := Lib.hid (And.intro hc2 hC2); have HB2 := Lib.hid (below_step HB1.out hb); clear ho hb hc2 hC2) | (go_at_call 15; go_must (refine (HGR.out _ HB2.out).mono ?_); rintro e w3 ⟨rfl, hb⟩; have HB3 := Lib.hid (below_step HB2.out hb); have HC3 := Lib.hid (And.intro HC2.out.1 (Kd.C_below HC2.out.2 hb)); clear hb) | (go_at_call 19; go_must (refine (HIT.out _ _ _ HC3.out.2 HC3.out.1).mono ?_); rintro e w4 ⟨v4, rfl, ho, hb⟩; obtain ⟨A4, c4, rfl, hc4, hC4⟩ := Kd.S_reads ho; have HC4 := Lib.hid (And.intro hc4 hC4); have HB4 := Lib.hid (below_step HB3.out hb); clear ho hb hc4 hC4))
  rw [mp_length]
  have HC5 : Hid (F.length ≤ c4 ∧ Kd.C (Kd.slice 39 k39) w4 A4 F.length (mp F)) := Lib.hid (by have h := HC4.out; rw [mp_length] at h; exact h)
  clear HC4 HC3 HC2 HC1 HB1 HB2 HB3 HGR HST HIT
  have HBS := Lib.hid (Below.refl w4.heap.size w4)
  go_loopg [48] F.length (fun kq v48 w' => ∃ q : Nat, v48 = .int .i64 (q : Int) ∧ kq = F.length - q ∧ q ≤ F.length ∧ Hid (Below w4.heap.size w4 w'))
  case atStart => exact ⟨0, rfl, rfl, Nat.zero_le _, HBS⟩
  case round =>
    clear HBS
    obtain ⟨q, rfl, hkq, hqF, HBQ⟩ := hrel
    by_cases hlt : q < F.length
    · have hltI : (q : Int) < (F.length : Int) := Int.ofNat_lt.mpr hlt
      have hq0 : (0 : Int) ≤ (q : Int) := Int.natCast_nonneg q
      obtain ⟨s, hs⟩ : ∃ s, F[q]? = some s := ⟨F[q], List.getElem?_eq_getElem hlt⟩
      obtain ⟨b, htold⟩ := told HV.out.1 HV.out.2 hs
      have HT := Lib.hid htold
      obtain ⟨ad, As, cs, eA, hx, hcs, hCs⟩ := at_L12 (Kd.C_below HC5.out.2 HBQ.out) (q : Int) hq0 hltI
      subst eA
      rw [rd_mp F q s hs, List.length_map] at hx hcs hCs
      have hsl := HS.out s (List.mem_of_getElem? hs)
      have HCs := Lib.hid (And.intro hcs hCs)
      clear htold hs hcs hCs
      rw [Int.toNat_natCast] at hx
      go_wp2
      obtain ⟨WL, rfl⟩ : ∃ WL, WL = wr := ⟨_, rfl⟩
      have HB0 := Lib.hid (Below.refl WL.heap.size WL)
      have hslI : (s.length : Int) ≤ 1000 := Int.ofNat_le.mpr hsl
      go_loopg [55, 7] s.length (fun kq v55 v7 w' => ∃ j : Nat, v55 = .int .i64 (j : Int) ∧ v7 = .int .u8 (seenL b (s.take j)) ∧ kq = s.length - j ∧ j ≤ s.length ∧ Hid (Below WL.heap.size WL w'))
      case atStart => exact ⟨0, rfl, rfl, rfl, Nat.zero_le _, HB0⟩
      case round =>
        clear HB0 hx
        obtain ⟨j, rfl, rfl, hkq2, hjs, HBJ⟩ := hrel
        by_cases hjl : j < s.length
        · have hjI : (j : Int) < (s.length : Int) := Int.ofNat_lt.mpr hjl
          have hj0 : (0 : Int) ≤ (j : Int) := Int.natCast_nonneg j
          obtain ⟨x, hxj⟩ : ∃ x, s[j]? = some x := ⟨s[j], List.getElem?_eq_getElem hjl⟩
          obtain ⟨ad2, eA2, hx0, hx1⟩ := at_T39 (Kd.C_below HCs.out.2 HBJ.out) (j : Int) hj0 hjI
          subst eA2
          rw [rd_map39 s j x hxj] at hx0 hx1
          obtain ⟨i1, i2, i3, i4, i5, i6⟩ := item_told HV.out.1 HT.out (List.mem_of_getElem? hxj)
          have HXJ := Lib.hid hxj
          clear hxj
          obtain ⟨x0, x1⟩ := x
          simp only [Int.toNat_natCast] at hx0 hx1 i1 i2 i3 i4 i5 i6
          have HW1 := Lib.hid (blk_new wr (.cells #[.int .i64 x0, .int .i64 x1] 39))
          have HB1 := Lib.hid (below_alloc HBJ.out (.cells #[.int .i64 x0, .int .i64 x1] 39))
          obtain ⟨hy0, hy1⟩ := cell_at HW1.out
          obtain ⟨ad3, e3, hl0, _⟩ := at_T41 (Kd.C_below HR0.out (below_step HB4.out (below_step HBQ.out HB1.out))) 0 (Int.le_refl 0) hne0
          cases e3
          rw [show ((0 : Int)).toNat = 0 from rfl, show 0 * 2 = 0 from rfl, Addr.add_zero'] at hl0
          obtain ⟨t, ht⟩ : ∃ t, rstr l x0 = t := ⟨_, rfl⟩
          rw [ht] at i4 i5 i6
          obtain ⟨k1, k2⟩ := size_small i4 i6
          by_cases hxe : x0 = (l.length : Int)
          · have hst : strOfNums [(rd_T41 l 0).f0] = t := by rw [← ht, rstr, if_pos hxe]
            subst hxe
            generalize (rd_T41 l 0).f0 = a0 at hst hl0
            clear ht
            by_cases hx10 : x1 = 0
            · subst hx10
              have hsk := seenL_stay (b := b) HXJ.out rfl
              have HSK := Lib.hid hsk
              clear hsk i5
              generalize seenL b (s.take j) = v7 at HSK ⊢
              go_wp2_with ((with_reducible refine gate_dst (N := 78) rfl ?_); refine Kd.R_lit (Kd.int .u8) _ 5 ?hg (N := 78) ?hd (xs := ([a0] : List Int)) (inner := [.int .u8 a0]) (ok := fun _ => True) (okp := fun _ => True) ?hr ?hp (fun _ hk => hk) trivial (Below.refl _ _) (Nat.le_refl _) (by simp) ?_; (case hd => rfl); (case hg => rfl); (case hr => first | (go_simp; done) | (go_simp; rfl)); (case hp => exact (Reps.one (show Kd.M (Kd.int .u8) _ _ _ a0 [.int .u8 a0] from rfl) (Reps.none _ _))); intro v5 w5 ho6 hb hg_ hnew_; have hcv := own_string (P := Tryd.prog) Tryd.underlying42 Tryd.underlying5 Tryd.underlying9 (Kd.own_of_R ho6); rw [hst] at hcv; have hz := cell_at (blk_below HW1.out hb); obtain ⟨hz0, hz1⟩ := hz; have HB5 := Lib.hid (below_step HB1.out hb); skip; clear ho6 hb hg_ hnew_ hl0)
              go_roundg (s.length - (j + 1))
              case measure => rw [hkq2]; exact Nat.sub_lt_sub_left hjl (Nat.lt_succ_self j)
              case rel => exact ⟨j + 1, rfl, by rw [HSK.out], rfl, hjl, HB5⟩
            · obtain ⟨p1, q1, hix⟩ := at_str i5 hx10 i4
              have hsk := seenL_go (b := b) HXJ.out hx10
              have HSK := Lib.hid hsk
              have hxb0 : (x1 == 0) = false := beq_eq_false_iff_ne.mpr hx10
              replace p1 := eq_true p1
              replace q1 := eq_true q1
              have hvo := seenL_or b (s.take j)
              clear hsk i5
              generalize seenL b (s.take j) = v7 at hvo ⊢
              by_cases hv0 : v7 = 0
              · subst hv0
                clear hvo
                go_wp2_with ((with_reducible refine gate_dst (N := 78) rfl ?_); refine Kd.R_lit (Kd.int .u8) _ 5 ?hg (N := 78) ?hd (xs := ([a0] : List Int)) (inner := [.int .u8 a0]) (ok := fun _ => True) (okp := fun _ => True) ?hr ?hp (fun _ hk => hk) trivial (Below.refl _ _) (Nat.le_refl _) (by simp) ?_; (case hd => rfl); (case hg => rfl); (case hr => first | (go_simp; done) | (go_simp; rfl)); (case hp => exact (Reps.one (show Kd.M (Kd.int .u8) _ _ _ a0 [.int .u8 a0] from rfl) (Reps.none _ _))); intro v5 w5 ho6 hb hg_ hnew_; have hcv := own_string (P := Tryd.prog) Tryd.underlying42 Tryd.underlying5 Tryd.underlying9 (Kd.own_of_R ho6); rw [hst] at hcv; have hz := cell_at (blk_below HW1.out hb); obtain ⟨hz0, hz1⟩ := hz; have HB5 := Lib.hid (below_step HB1.out hb); skip; clear ho6 hb hg_ hnew_ hl0)
                go_roundg (s.length - (j + 1))
                case measure => rw [hkq2]; exact Nat.sub_lt_sub_left hjl (Nat.lt_succ_self j)
                case rel => exact ⟨j + 1, rfl, by rw [HSK.out], rfl, hjl, HB5⟩
              · obtain rfl : v7 = b := hvo.resolve_left hv0
                have hvb0 : (v7 == 0) = false := beq_eq_false_iff_ne.mpr hv0
                have hvb1 : (v7 != 0) = true := bne_iff_ne.mpr hv0
                clear hvo
                go_wp2_with ((with_reducible refine gate_dst (N := 78) rfl ?_); refine Kd.R_lit (Kd.int .u8) _ 5 ?hg (N := 78) ?hd (xs := ([a0] : List Int)) (inner := [.int .u8 a0]) (ok := fun _ => True) (okp := fun _ => True) ?hr ?hp (fun _ hk => hk) trivial (Below.refl _ _) (Nat.le_refl _) (by simp) ?_; (case hd => rfl); (case hg => rfl); (case hr => first | (go_simp; done) | (go_simp; rfl)); (case hp => exact (Reps.one (show Kd.M (Kd.int .u8) _ _ _ a0 [.int .u8 a0] from rfl) (Reps.none _ _))); intro v5 w5 ho6 hb hg_ hnew_; have hcv := own_string (P := Tryd.prog) Tryd.underlying42 Tryd.underlying5 Tryd.underlying9 (Kd.own_of_R ho6); rw [hst] at hcv; have hz := cell_at (blk_below HW1.out hb); obtain ⟨hz0, hz1⟩ := hz; have HB5 := Lib.hid (below_step HB1.out hb); skip; clear ho6 hb hg_ hnew_ hl0)
                go_roundg (s.length - (j + 1))
                case measure => rw [hkq2]; exact Nat.sub_lt_sub_left hjl (Nat.lt_succ_self j)
                case rel => exact ⟨j + 1, rfl, by rw [HSK.out], rfl, hjl, HB5⟩
          · have hxl : x0 < (l.length : Int) := by omega
            have hrt : (rd_T41 l x0).f1 = t := by rw [← ht, rstr, if_neg hxe]
            generalize (rd_T41 l 0).f0 = a0 at hl0
            clear ht hxe
            by_cases hx10 : x1 = 0
            · subst hx10
              have hsk := seenL_stay (b := b) HXJ.out rfl
              have HSK := Lib.hid hsk
              clear hsk i5
              generalize seenL b (s.take j) = v7 at HSK ⊢
              go_wp2_with ((with_reducible refine gate_dst (N := 78) rfl ?_); refine Kd.R_lit (Kd.int .u8) _ 5 ?hg (N := 78) ?hd (xs := ([a0] : List Int)) (inner := [.int .u8 a0]) (ok := fun _ => True) (okp := fun _ => True) ?hr ?hp (fun _ hk => hk) trivial (Below.refl _ _) (Nat.le_refl _) (by simp) ?_; (case hd => rfl); (case hg => rfl); (case hr => first | (go_simp; done) | (go_simp; rfl)); (case hp => exact (Reps.one (show Kd.M (Kd.int .u8) _ _ _ a0 [.int .u8 a0] from rfl) (Reps.none _ _))); intro v5 w5 ho6 hb hg_ hnew_; have hcv := own_string (P := Tryd.prog) Tryd.underlying42 Tryd.underlying5 Tryd.underlying9 (Kd.own_of_R ho6); skip; have hz := cell_at (blk_below HW1.out hb); obtain ⟨hz0, hz1⟩ := hz; have HB5 := Lib.hid (below_step HB1.out hb); obtain ⟨ad4, e4, _, hr1⟩ := at_T41 (Kd.C_below HR0.out (below_step HB4.out (below_step HBQ.out HB5.out))) x0 i1 hxl; cases e4; rw [hrt] at hr1; clear ho6 hb hg_ hnew_ hl0)
              go_roundg (s.length - (j + 1))
              case measure => rw [hkq2]; exact Nat.sub_lt_sub_left hjl (Nat.lt_succ_self j)
              case rel => exact ⟨j + 1, rfl, by rw [HSK.out], rfl, hjl, HB5⟩
            · obtain ⟨p1, q1, hix⟩ := at_str i5 hx10 i4
              have hsk := seenL_go (b := b) HXJ.out hx10
              have HSK := Lib.hid hsk
              have hxb0 : (x1 == 0) = false := beq_eq_false_iff_ne.mpr hx10
              replace p1 := eq_true p1
              replace q1 := eq_true q1
              have hvo := seenL_or b (s.take j)
              clear hsk i5
              generalize seenL b (s.take j) = v7 at hvo ⊢
              by_cases hv0 : v7 = 0
              · subst hv0
                clear hvo
                go_wp2_with ((with_reducible refine gate_dst (N := 78) rfl ?_); refine Kd.R_lit (Kd.int .u8) _ 5 ?hg (N := 78) ?hd (xs := ([a0] : List Int)) (inner := [.int .u8 a0]) (ok := fun _ => True) (okp := fun _ => True) ?hr ?hp (fun _ hk => hk) trivial (Below.refl _ _) (Nat.le_refl _) (by simp) ?_; (case hd => rfl); (case hg => rfl); (case hr => first | (go_simp; done) | (go_simp; rfl)); (case hp => exact (Reps.one (show Kd.M (Kd.int .u8) _ _ _ a0 [.int .u8 a0] from rfl) (Reps.none _ _))); intro v5 w5 ho6 hb hg_ hnew_; have hcv := own_string (P := Tryd.prog) Tryd.underlying42 Tryd.underlying5 Tryd.underlying9 (Kd.own_of_R ho6); skip; have hz := cell_at (blk_below HW1.out hb); obtain ⟨hz0, hz1⟩ := hz; have HB5 := Lib.hid (below_step HB1.out hb); obtain ⟨ad4, e4, _, hr1⟩ := at_T41 (Kd.C_below HR0.out (below_step HB4.out (below_step HBQ.out HB5.out))) x0 i1 hxl; cases e4; rw [hrt] at hr1; clear ho6 hb hg_ hnew_ hl0)
                go_roundg (s.length - (j + 1))
                case measure => rw [hkq2]; exact Nat.sub_lt_sub_left hjl (Nat.lt_succ_self j)
                case rel => exact ⟨j + 1, rfl, by rw [HSK.out], rfl, hjl, HB5⟩
              · obtain rfl : v7 = b := hvo.resolve_left hv0
                have hvb0 : (v7 == 0) = false := beq_eq_false_iff_ne.mpr hv0
                have hvb1 : (v7 != 0) = true := bne_iff_ne.mpr hv0
                clear hvo
                go_wp2_with ((with_reducible refine gate_dst (N := 78) rfl ?_); refine Kd.R_lit (Kd.int .u8) _ 5 ?hg (N := 78) ?hd (xs := ([a0] : List Int)) (inner := [.int .u8 a0]) (ok := fun _ => True) (okp := fun _ => True) ?hr ?hp (fun _ hk => hk) trivial (Below.refl _ _) (Nat.le_refl _) (by simp) ?_; (case hd => rfl); (case hg => rfl); (case hr => first | (go_simp; done) | (go_simp; rfl)); (case hp => exact (Reps.one (show Kd.M (Kd.int .u8) _ _ _ a0 [.int .u8 a0] from rfl) (Reps.none _ _))); intro v5 w5 ho6 hb hg_ hnew_; have hcv := own_string (P := Tryd.prog) Tryd.underlying42 Tryd.underlying5 Tryd.underlying9 (Kd.own_of_R ho6); skip; have hz := cell_at (blk_below HW1.out hb); obtain ⟨hz0, hz1⟩ := hz; have HB5 := Lib.hid (below_step HB1.out hb); obtain ⟨ad4, e4, _, hr1⟩ := at_T41 (Kd.C_below HR0.out (below_step HB4.out (below_step HBQ.out HB5.out))) x0 i1 hxl; cases e4; rw [hrt] at hr1; clear ho6 hb hg_ hnew_ hl0)
                go_roundg (s.length - (j + 1))
                case measure => rw [hkq2]; exact Nat.sub_lt_sub_left hjl (Nat.lt_succ_self j)
                case rel => exact ⟨j + 1, rfl, by rw [HSK.out], rfl, hjl, HB5⟩
        · have hjn : ¬ (j : Int) < (s.length : Int) := fun h => hjl (Int.ofNat_lt.mp h)
          have htk : s.take j = s := List.take_of_length_le (Nat.not_lt.1 hjl)
          rw [htk]
          clear htk
          rcases HT.out.2 with ⟨hq, hz⟩ | ⟨hqp, hb0, hsome, ⟨j0, hj0q, hgo⟩, hcode⟩
          · rw [seenL_zero hz]
            subst hq
            clear hz
            go_wp2
            go_loopg [124, 11] 0 (fun kq v124 v11 w' => v124 = .int .i64 0 ∧ v11 = .bool true ∧ Hid (Below WL.heap.size WL w'))
            case atStart => exact ⟨rfl, rfl, HBJ⟩
            case round =>
              clear HBJ
              obtain ⟨rfl, rfl, HBI⟩ := hrel
              go_wp2
              go_roundg (F.length - (0 + 1))
              case measure => rw [hkq]; exact Nat.sub_lt_sub_left hlt (Nat.lt_succ_self 0)
              case rel => exact ⟨0 + 1, rfl, rfl, hlt, Lib.hid (below_step HBQ.out HBI.out)⟩
          · rw [seenL_some hsome]
            have hqb0 : ((q : Int) == 0) = false := nat_pos_int hqp
            have hbb0 : (b == 0) = false := beq_eq_false_iff_ne.mpr hb0
            have HGO := Lib.hid (And.intro hgo hcode)
            clear hsome hgo hcode hqp hb0
            go_wp2
            go_loopg [124, 11] (j0 + 1) (fun kq v124 v11 w' => ∃ i : Nat, v124 = .int .i64 (i : Int) ∧ v11 = .bool false ∧ kq = j0 + 1 - i ∧ i ≤ j0 ∧ Hid (Below WL.heap.size WL w'))
            case atStart => exact ⟨0, rfl, rfl, rfl, Nat.zero_le _, HBJ⟩
            case round =>
              clear HBJ hqb0 hbb0
              obtain ⟨i, rfl, rfl, hki, hij, HBI⟩ := hrel
              have hiq : (i : Int) < (q : Int) := Int.ofNat_lt.mpr (Nat.lt_of_le_of_lt hij hj0q)
              have hi0 : (0 : Int) ≤ (i : Int) := Int.natCast_nonneg i
              have hq64 : (q : Int) ≤ 64 := Int.le_trans (Int.le_of_lt hltI) h64
              obtain ⟨a, f, hgi⟩ : ∃ a f, goI (ofL l) (i : Int) b = (a, f) := ⟨_, _, rfl⟩
              have hcd := HGO.out.2 i (Nat.lt_of_le_of_lt hij (Nat.lt_trans hj0q hlt))
              rw [hgi] at hcd
              have hij2 : ¬ (a = (q : Int) ∧ f = 0) → i + 1 ≤ j0 := fun hn => by
                rcases Nat.lt_or_ge i j0 with h | h
                · exact h
                · have e : i = j0 := Nat.le_antisymm hij h
                  subst e
                  have h2 := hgi.symm.trans HGO.out.1
                  exact absurd ⟨congrArg Prod.fst h2, congrArg Prod.snd h2⟩ hn
              have HI2 := Lib.hid hij2
              have HCG := Lib.hid (fun A' c' W h1 h2 => tables_Go.calls A' c' (ofL l) (i : Int) b a f W h1 h2 (congrArg some hgi))
              have HBW := Lib.hid (below_step HB4.out (below_step HBQ.out HBI.out))
              clear hgi hij2 HGO
              rcases hcd with hcd | hcd
              · have hf : f = 0 := hcd
                subst hf
                clear hcd
                by_cases haq : a = (q : Int)
                · subst haq
                  clear HI2
                  go_wp2_with (first | (go_at_call 14; go_must (refine (HOF.out _ HBW.out).mono ?_); rintro e w6 ⟨v6, rfl, ho, hb⟩; obtain ⟨A6, c6, rfl, hc6, hC6⟩ := Kd.R_reads ho; have HC6 := Lib.hid (And.intro hc6 hC6); have HB6 := Lib.hid (below_step HBI.out hb); clear ho hb hc6 hC6) | (go_at_call 21; go_must (refine (HCG.out _ _ _ HC6.out.2 HC6.out.1).mono ?_); rintro e w7 ⟨rfl, hb⟩; have HB7 := Lib.hid (below_step HB6.out hb); clear hb))
                  go_roundg (F.length - (q + 1))
                  case measure => rw [hkq]; exact Nat.sub_lt_sub_left hlt (Nat.lt_succ_self q)
                  case rel => exact ⟨q + 1, rfl, rfl, hlt, Lib.hid (below_step HBQ.out HB7.out)⟩
                · have haq0 : (a == (q : Int)) = false := beq_eq_false_iff_ne.mpr haq
                  have HI3 := Lib.hid (HI2.out (fun h => haq h.1))
                  clear HI2
                  go_wp2_with (first | (go_at_call 14; go_must (refine (HOF.out _ HBW.out).mono ?_); rintro e w6 ⟨v6, rfl, ho, hb⟩; obtain ⟨A6, c6, rfl, hc6, hC6⟩ := Kd.R_reads ho; have HC6 := Lib.hid (And.intro hc6 hC6); have HB6 := Lib.hid (below_step HBI.out hb); clear ho hb hc6 hC6) | (go_at_call 21; go_must (refine (HCG.out _ _ _ HC6.out.2 HC6.out.1).mono ?_); rintro e w7 ⟨rfl, hb⟩; have HB7 := Lib.hid (below_step HB6.out hb); clear hb))
                  go_roundg (j0 + 1 - (i + 1))
                  case measure => rw [hki]; exact Nat.sub_lt_sub_left (Nat.lt_succ_of_le hij) (Nat.lt_succ_self i)
                  case rel => exact ⟨i + 1, rfl, rfl, rfl, HI3.out, HB7⟩
              · have hf : f = 4 := hcd
                subst hf
                have HI3 := Lib.hid (HI2.out (fun h => absurd h.2 (by decide)))
                clear HI2 hcd
                go_wp2_with (first | (go_at_call 14; go_must (refine (HOF.out _ HBW.out).mono ?_); rintro e w6 ⟨v6, rfl, ho, hb⟩; obtain ⟨A6, c6, rfl, hc6, hC6⟩ := Kd.R_reads ho; have HC6 := Lib.hid (And.intro hc6 hC6); have HB6 := Lib.hid (below_step HBI.out hb); clear ho hb hc6 hC6) | (go_at_call 21; go_must (refine (HCG.out _ _ _ HC6.out.2 HC6.out.1).mono ?_); rintro e w7 ⟨rfl, hb⟩; have HB7 := Lib.hid (below_step HB6.out hb); clear hb))
                go_roundg (j0 + 1 - (i + 1))
                case measure => rw [hki]; exact Nat.sub_lt_sub_left (Nat.lt_succ_of_le hij) (Nat.lt_succ_self i)
                case rel => exact ⟨i + 1, rfl, rfl, rfl, HI3.out, HB7⟩
    · have hnI : ¬ (q : Int) < (F.length : Int) := fun h => hlt (Int.ofNat_lt.mp h)
      have hbw := below_step HB4.out HBQ.out
      have HBW := Lib.hid hbw
      clear hbw
      go_wp2_with (go_at_call 16; go_must (refine (awake_any _).mono ?_); rintro e w5 ⟨rfl, hb⟩; have HB5 := Lib.hid (below_step HBW.out hb); clear hb)
      go_ret
      exact ⟨rfl, HB5.out⟩
theorem reached_any (l : List S41) (A : Option Addr) (c0 : Nat) (w : World) (hr0 : Kd.C k41 w A l.length l) (hc0 : l.length ≤ c0) (hl : l.length < 2 ^ 61) : Calls Tryd.prog 4 #[.slice A l.length c0] w (ReachPost w) := by
  have hst := states_of l
  by_cases hv : validB (gr41 l) = true
  · rw [if_pos hv] at hst
    cases hr : refStates (gr41 l) with
    | none =>
      rw [hr] at hst
      exact reached_bad l A c0 w hr0 hc0 hl 6 (.inr rfl) hst
    | some F => exact reached_ok l A c0 w hr0 hc0 hl hv F hr
  · rw [if_neg hv] at hst
    exact reached_bad l A c0 w hr0 hc0 hl 2 (.inl rfl) hst
end Go.Proofs.YtpmmfckgfbdboaaDoor.G
end

section
namespace Go.Proofs.YtpmmfckgfbdboaaDoor.tablesReached
open Go.ChangeShapes Go.WideShapes Go.ChangeAt Go.RowKit Go.Proofs.YtpmmfckgfbdboaaDoor.G
open Go.Proofs.YtpmmfckgfbdboaaDoorW.PrintWords
set_option linter.unusedVariables false
theorem own : ownKnob Tryd.prog.godebug = none := by kernel_rfl
theorem laidOut : laidOutB Tryd.prog = true := by kernel_rfl
theorem bound {n : Nat} (h : n * 24 ≤ 140737488351232) : n < 2 ^ 61 := by omega
theorem walk (A : Option Addr) (c : Nat) (l : List S41) (W : World) (hc : l.length ≤ c) (hC : Kd.C k41 W A l.length l) (hz : l.length * 24 ≤ 140737488351232) :
    Calls Tryd.prog 4 #[.slice A l.length c] W fun e w' => e = .returned (.bool true) ∧ Below W.heap.size W w' := by
  exact reached_any l A c W hC hc (bound hz)
set_option maxRecDepth 100000 in
theorem lifted (os : Os) (started : os.Started) (H : Type) (enc : TypeId × Value → H) :
    ReturnsInHanded {} Tryd.checked os 4 .any (fun w args => (Rows.tablesReachedSpec.pre enc Tryd.prog Tryd.f4 Rows.tablesReachedRow.domain false w args ∧ laidMetH Tryd.prog Rows.tablesReachedRow.laid w) ∧ sizedMet enc Tryd.prog Tryd.f4 (OpenSpec.ofChange Rows.tablesReachedSpec) false w args)
      (Rows.tablesReachedSpec.post enc Tryd.prog Tryd.f4 false true false false) := by
  refine returnsInHanded_of_change_and (C := Tryd.checked) (X := fun w _ => laidMetH Tryd.prog Rows.tablesReachedRow.laid w) (fun _ _ _ hh h => h.of_heap hh) own started (by kernel_rfl) Tryd.func4
    (ChangeSpec.witness_shaped (enc := enc) (C := Tryd.checked) (os := os) (X := fun w _ => laidMetH Tryd.prog Rows.tablesReachedRow.laid w) false (World.laidAll Tryd.prog os Rows.tablesReachedRow.laid) #[.slice none 0 0] 8 (World.laidAll_os _ _ _)
      (World.shaped_of_ZipB (by kernel_rfl) (by kernel_rfl)) (by kernel_rfl) (by kernel_rfl) (by kernel_rfl)
      (by rw [MakeChecks.laidMetH_plain _ _ _ (by kernel_rfl)]; exact laidMet_laidAll _ (by kernel_rfl) (by kernel_rfl))) ?_
  intro W base args ds gs before hval0 hW hc hsz0 hL _
  have hsz : (DataW.weightsEach Tryd.prog (Tryd.f4.params.toList ++ Rows.tablesReachedSpec.plain.varTypes Tryd.prog) (ds ++ gs)).all (· ≤ reachBytes) = true := hsz0
  have hval : ∀ (j : Nat) t v, Tryd.f4.params[j]? = some t → args[j]? = some v → Value.okWide Tryd.prog W .any base t v := hval0
  have hW' := hW
  obtain ⟨p, q, hA0, hV, rfl, hfz, hnd⟩ := hW
  have hA : DataW.TrodAll enc Tryd.prog W 0 (fun _ => true) true Tryd.f4.params.toList args.toList ds p := hA0
  rw [Tryd.params4] at hA hval hsz
  obtain ⟨v0, vs0, d0, ds0, p0, q0, hargs, rfl, rfl, h0, r0⟩ := trodAll_cons hA
  obtain ⟨rfl, rfl, rfl⟩ := trodAll_nil r0
  obtain rfl : args = #[v0] := by cases args; simp_all
  obtain ⟨rfl, rfl⟩ := trodVars_none hV
  have k0 := h0
  have lt0 : ∀ x ∈ p0, x.block < W.heap.size := by obtain ⟨m, hm⟩ := k0; exact DataW.trod_lt m _ _ _ hm
  obtain ⟨A, c, l, rfl, hlc, hC, hz⟩ := open_rules (hval 0 22 v0 rfl rfl) h0 hsz (j := 0) rfl rfl
  clear hA0 hval0 hsz0 hsz
  refine (walk A c l W hlc hC hz).mono fun e W' ⟨he, bel⟩ => ?_
  subst he
  exact ⟨_, rfl, _, _, _, [], _, [], hW', trodAll_mk1 (shut_bool Tryd.underlying4 _), (trodAll_cons_mk (Below.trod laidOut (by kernel_rfl) (of_decide_eq_true (by kernel_rfl)) k0 bel lt0) trodAll_mk0), rfl, bel.frame _, fun h => by cases h⟩
theorem said : Rows.TablesReachedSaid :=
  OpenClaim.holds_of_wide 4 Tryd.f4 rfl rfl rfl rfl rfl rfl rfl ⟨rfl, rfl, rfl, rfl, rfl⟩ rfl rfl rfl rfl rfl (by kernel_rfl) Tryd.func4 (by kernel_rfl)
    (of_decide_eq_true (by kernel_rfl)) (by unfold Func.isWrapper; first | (rw [if_pos (by decide +kernel)]; kernel_rfl) | (rw [if_neg (by decide +kernel)]; exact ⟨rfl, rfl⟩))
    (fun os started H enc _ => lifted os started H enc)
theorem plain (f : FuncId) (fn : Func) (hf : Tryd.pinned.checked.prog.funcNamed "comfit/comfitlaw05.TablesReached" = some f) (hfn : Tryd.pinned.checked.prog.funcs[f]? = some fn) :
    false = Tryd.pinned.checked.prog.looks [] ∧ ∀ (j : Nat) t, fn.params[j]? = some t → Tryd.pinned.checked.prog.wantsStandIn t = false := by
  obtain rfl : f = 4 := Option.some.inj ((show Tryd.prog.funcNamed "comfit/comfitlaw05.TablesReached" = some 4 by kernel_rfl).symm.trans hf) |>.symm
  obtain rfl : fn = Tryd.f4 := (Option.some.inj (Tryd.func4.symm.trans hfn)).symm
  refine ⟨by kernel_rfl, fun j t ht => ?_⟩
  rw [Tryd.params4] at ht
  have hm : t ∈ [22] := by simpa using Array.mem_of_getElem? ht
  have hall : ([22].all fun u => !Tryd.prog.wantsStandIn u) = true := by kernel_rfl
  exact (show Tryd.prog.wantsStandIn t = false by simpa using List.all_eq_true.1 hall t hm)
end Go.Proofs.YtpmmfckgfbdboaaDoor.tablesReached
namespace Go.Proofs.YtpmmfckgfbdboaaDoor
/-- TablesReached holds: its tied card. -/
theorem tablesReached_holds : Rows.TablesReachedCardSaid :=
  Claim7.holds_tied_plain_at .later [] _ _ _ _ tablesReached.said (fun _ h => by cases h) (by kernel_rfl) (fun _ h => by cases h) tablesReached_row_tie rfl ⟨rfl, rfl⟩ (by kernel_rfl) rfl tablesReached.plain (by kernel_rfl)
#print axioms tablesReached_holds
end Go.Proofs.YtpmmfckgfbdboaaDoor
end
