import Derived.Test.YtpmmfckgfbdboaaDoorProg
import Derived.Below
import Derived.Deep.Draws
import Derived.Deep.AppendLies
import Derived.Maps.AppendAt
import Derived.OwnWalk
import Derived.Laws.BytesArg
import Derived.Laws.MakeOwn
import Derived.Laws.OwnMore
import Derived.Deep.OwnRows
import Derived.Tactics
import Derived.Lib.ConvBytes
import Derived.Laws.Slices
import Derived.WalkKit
import Derived.KernelRfl
import Derived.RowKit3
import Derived.Deep.LoopGhost
import Derived.Deep.QuietTactic
import Derived.BigQuiet
import Derived.WideLaws
import Derived.Deep.DeepCutAuto
import Derived.Deep.CutBlock
import Derived.Deep.RegionHeld3
import Derived.Laws.Rows
import Derived.Lib.AppendStr
import Derived.ArgAppend
import Derived.Laws.IdiomCopy
import Derived.OrdersHeld
import Derived.Laws.BitsLemmas
import Derived.RowKit
import Derived.Laws.Shifts
import Derived.Test.YtpmmfckgfbdboaaDoorWWords
import Derived.Test.YtpmmfckgfbdboaaDoorWLast
import Derived.Test.YtpmmfckgfbdboaaDoorWTab
import Derived.Test.YtpmmfckgfbdboaaDoorWQPut
import Derived.Test.YtpmmfckgfbdboaaDoorWApart
import Derived.Test.YtpmmfckgfbdboaaDoorWArr
import Derived.Test.YtpmmfckgfbdboaaDoorWZeros
import Derived.Test.YtpmmfckgfbdboaaDoorWFoot
import Derived.Test.YtpmmfckgfbdboaaDoorWKept
import Derived.Test.YtpmmfckgfbdboaaDoorWShare
import Derived.Test.YtpmmfckgfbdboaaDoorWN
import Derived.Test.YtpmmfckgfbdboaaDoorWFootNe
import Derived.Test.YtpmmfckgfbdboaaDoorWAt
import Derived.Test.YtpmmfckgfbdboaaDoorWEqStruct
import Derived.Test.YtpmmfckgfbdboaaDoorWRepsOne
import Derived.Test.YtpmmfckgfbdboaaDoorWGuard
import Derived.Test.YtpmmfckgfbdboaaDoorWNEv
import Derived.Test.YtpmmfckgfbdboaaDoorWMore
import Derived.ProofKit
import Derived.OpenShut
import Derived.ShutString
import Derived.ChangeOld
import Derived.SizedLaws
import Derived.Deep.Slices
import Derived.Deep.Fields
import Derived.ChangeSame
import Derived.Shelf.SlGeneric
import Derived.Shelf.GgClosure.StringsIndexFuncTop
import Derived.Shelf.SlSortCmp.WholeK
import Derived.Outline
import Derived.Lib.Hide
import Derived.WalkLawsBesides
import Derived.Deep.DeepFit
import Derived.Deep.DeepMust
import Derived.Shelf.SlSortCmp.NoneTotal
import Derived.Laws.RangeString
import Derived.Maps.Own
import Derived.WalkSpells
section
namespace Go.Proofs.YtpmmfckgfbdboaaDoor.G
open Go.RowKit Go.Proofs.YtpmmfckgfbdboaaDoorW.PrintWords Go.Proofs.YtpmmfckgfbdboaaDoorW.PrintLast Go.Proofs.YtpmmfckgfbdboaaDoorW.PrintMore
attribute [local go_sem] max2_int min2_int max_two min_two max_three min_three max_four min_four   -- for this text's walks alone
set_option linter.unusedVariables false
set_option linter.unusedSimpArgs false



def errW : Option Int → Value
  | none => .nilIface
  | some c => .iface 0 (.int .i64 c)
theorem errW_none : errW none = .nilIface := rfl
theorem errW_some (c : Int) : errW (some c) = .iface 0 (.int .i64 c) := rfl

theorem info5 : (Tryd.prog.info? 5).map (fun i => (i.zero, i.size, i.bytes)) = some (some (.int .u8 0), 1, 1) := by kernel_rfl
theorem info35 : (Tryd.prog.info? 35).map (fun i => (i.zero, i.size, i.bytes)) = some (some (.slice none 0 0), 1, 24) := by kernel_rfl
theorem info39 : (Tryd.prog.info? 39).map (fun i => (i.zero, i.size, i.bytes)) = some (some (.agg #[(.int .i64 0), (.int .i64 0)]), 2, 16) := by kernel_rfl
theorem info41 : (Tryd.prog.info? 41).map (fun i => (i.zero, i.size, i.bytes)) = some (some (.agg #[(.int .u8 0), (.string ⟨#[]⟩)]), 2, 24) := by kernel_rfl
theorem info56 : (Tryd.prog.info? 56).map (fun i => (i.zero, i.size, i.bytes)) = some (some (.agg #[(.int .u8 0), (.string ⟨#[]⟩)]), 2, 24) := by kernel_rfl
theorem info65 : (Tryd.prog.info? 65).map (fun i => (i.zero, i.size, i.bytes)) = some (some (.agg #[(.int .i64 0), (.int .i64 0)]), 2, 16) := by kernel_rfl
-- the values' own types
/-! #### struct type 56 -/
structure S56 where
  f0 : Int
  f1 : ByteArray
def z56 : S56 := ⟨(0 : Int), (⟨#[]⟩ : ByteArray)⟩
def k56 : Kd S56 := Kd.iso (Kd.pair (Kd.int .u8) Kd.string) (fun x : S56 => (x.f0, x.f1))
theorem k56_open {w : World} {x : S56} {cs : List Value} (h : k56.K w x cs) : cs = [.int .u8 x.f0, .string x.f1] := by
  obtain ⟨_, _, rfl, rfl, rfl⟩ := h
  exact rfl
theorem k56_openM {w : World} {base : Nat} {ok : Nat → Prop} {x : S56} {cs : List Value} (h : k56.M w base ok x cs) : cs = [.int .u8 x.f0, .string x.f1] := by
  obtain ⟨_, _, rfl, rfl, rfl⟩ := h
  exact rfl
theorem k56_mk (w : World) (x : S56)  : k56.K w x [.int .u8 x.f0, .string x.f1] := ⟨[.int .u8 x.f0], [.string x.f1], rfl, rfl, rfl⟩
theorem k56_mkM (w : World) (base : Nat) (ok : Nat → Prop) (x : S56)  : k56.M w base ok x [.int .u8 x.f0, .string x.f1] := ⟨[.int .u8 x.f0], [.string x.f1], rfl, rfl, rfl⟩
theorem k56_mkF (W : World) (ok : Nat → Prop) (x : S56) : Kd.FK k56 W ok x [.int .u8 x.f0, .string x.f1] := fun W2 _ => k56_mk W2 x
def rd_T56 (xs : List S56) (i : Int) : S56 := xs.getD i.toNat z56
theorem at_T56 {w : World} {A : Option Addr} {n : Nat} {xs : List S56} (h : Kd.C k56 w A n xs) (i : Int) (h0 : 0 ≤ i) (h1 : i < n) : ∃ ad , A = some ad ∧ w.cell? (ad.add (i.toNat * 2)) = some (.int .u8 (rd_T56 xs i).f0) ∧ w.cell? ⟨(ad.add (i.toNat * 2)).block, (ad.add (i.toNat * 2)).off + 1, none⟩ = some (.string (rd_T56 xs i).f1) := by
  obtain ⟨ad, c, e, _, hK, hc0⟩ := Kd.C_get h z56 i h0 h1
  have hc : ∀ j u, c[j]? = some u → w.cell? (ad.add (i.toNat * 2 + j)) = some u := hc0
  obtain rfl := k56_open hK
  exact ⟨ad, e, hc 0 _ rfl, by rw [← add_field _ _ 1 (by omega)]; exact hc 1 _ rfl⟩

def rd_L3 (xs : List (List S56)) (i : Int) : (List S56) := xs.getD i.toNat ([] : List S56)
theorem at_L3 {w : World} {A : Option Addr} {n : Nat} {xs : List (List S56)} (h : Kd.C (Kd.slice 56 k56) w A n xs) (i : Int) (h0 : 0 ≤ i) (h1 : i < n) : ∃ ad A0 c0, A = some ad ∧ w.cell? (ad.add i.toNat) = some (.slice A0 (rd_L3 xs i).length c0) ∧ (rd_L3 xs i).length ≤ c0 ∧ k56.C w A0 (rd_L3 xs i).length (rd_L3 xs i) := by
  obtain ⟨ad, c, e, _, hK, hc0⟩ := Kd.C_get h ([] : List S56) i h0 h1
  have hc : ∀ j u, c[j]? = some u → w.cell? (ad.add (i.toNat * 1 + j)) = some u := hc0
  obtain ⟨A0, c0, rfl, l0, g0⟩ := hK
  exact ⟨ad, A0, c0, e, by have hq := hc 0 _ rfl; rwa [Nat.mul_one, Nat.add_zero] at hq, l0, g0⟩

/-! #### struct type 95 -/
structure S95 where
  f0 : Int
  f1 : Int
def z95 : S95 := ⟨(0 : Int), (0 : Int)⟩
def k95 : Kd S95 := Kd.iso (Kd.pair (Kd.int .i64) (Kd.int .i64)) (fun x : S95 => (x.f0, x.f1))
theorem k95_open {w : World} {x : S95} {cs : List Value} (h : k95.K w x cs) : cs = [.int .i64 x.f0, .int .i64 x.f1] := by
  obtain ⟨_, _, rfl, rfl, rfl⟩ := h
  exact rfl
theorem k95_openM {w : World} {base : Nat} {ok : Nat → Prop} {x : S95} {cs : List Value} (h : k95.M w base ok x cs) : cs = [.int .i64 x.f0, .int .i64 x.f1] := by
  obtain ⟨_, _, rfl, rfl, rfl⟩ := h
  exact rfl
theorem k95_mk (w : World) (x : S95)  : k95.K w x [.int .i64 x.f0, .int .i64 x.f1] := ⟨[.int .i64 x.f0], [.int .i64 x.f1], rfl, rfl, rfl⟩
theorem k95_mkM (w : World) (base : Nat) (ok : Nat → Prop) (x : S95)  : k95.M w base ok x [.int .i64 x.f0, .int .i64 x.f1] := ⟨[.int .i64 x.f0], [.int .i64 x.f1], rfl, rfl, rfl⟩
theorem k95_mkF (W : World) (ok : Nat → Prop) (x : S95) : Kd.FK k95 W ok x [.int .i64 x.f0, .int .i64 x.f1] := fun W2 _ => k95_mk W2 x
def rd_T95 (xs : List S95) (i : Int) : S95 := xs.getD i.toNat z95
theorem at_T95 {w : World} {A : Option Addr} {n : Nat} {xs : List S95} (h : Kd.C k95 w A n xs) (i : Int) (h0 : 0 ≤ i) (h1 : i < n) : ∃ ad , A = some ad ∧ w.cell? (ad.add (i.toNat * 2)) = some (.int .i64 (rd_T95 xs i).f0) ∧ w.cell? ⟨(ad.add (i.toNat * 2)).block, (ad.add (i.toNat * 2)).off + 1, none⟩ = some (.int .i64 (rd_T95 xs i).f1) := by
  obtain ⟨ad, c, e, _, hK, hc0⟩ := Kd.C_get h z95 i h0 h1
  have hc : ∀ j u, c[j]? = some u → w.cell? (ad.add (i.toNat * 2 + j)) = some u := hc0
  obtain rfl := k95_open hK
  exact ⟨ad, e, hc 0 _ rfl, by rw [← add_field _ _ 1 (by omega)]; exact hc 1 _ rfl⟩

def rd_L6 (xs : List (List S95)) (i : Int) : (List S95) := xs.getD i.toNat ([] : List S95)
theorem at_L6 {w : World} {A : Option Addr} {n : Nat} {xs : List (List S95)} (h : Kd.C (Kd.slice 95 k95) w A n xs) (i : Int) (h0 : 0 ≤ i) (h1 : i < n) : ∃ ad A0 c0, A = some ad ∧ w.cell? (ad.add i.toNat) = some (.slice A0 (rd_L6 xs i).length c0) ∧ (rd_L6 xs i).length ≤ c0 ∧ k95.C w A0 (rd_L6 xs i).length (rd_L6 xs i) := by
  obtain ⟨ad, c, e, _, hK, hc0⟩ := Kd.C_get h ([] : List S95) i h0 h1
  have hc : ∀ j u, c[j]? = some u → w.cell? (ad.add (i.toNat * 1 + j)) = some u := hc0
  obtain ⟨A0, c0, rfl, l0, g0⟩ := hK
  exact ⟨ad, A0, c0, e, by have hq := hc 0 _ rfl; rwa [Nat.mul_one, Nat.add_zero] at hq, l0, g0⟩

def rd_L7 (xs : List (List (List S95))) (i : Int) : (List (List S95)) := xs.getD i.toNat ([] : List (List S95))
theorem at_L7 {w : World} {A : Option Addr} {n : Nat} {xs : List (List (List S95))} (h : Kd.C (Kd.slice 94 (Kd.slice 95 k95)) w A n xs) (i : Int) (h0 : 0 ≤ i) (h1 : i < n) : ∃ ad A0 c0, A = some ad ∧ w.cell? (ad.add i.toNat) = some (.slice A0 (rd_L7 xs i).length c0) ∧ (rd_L7 xs i).length ≤ c0 ∧ (Kd.slice 95 k95).C w A0 (rd_L7 xs i).length (rd_L7 xs i) := by
  obtain ⟨ad, c, e, _, hK, hc0⟩ := Kd.C_get h ([] : List (List S95)) i h0 h1
  have hc : ∀ j u, c[j]? = some u → w.cell? (ad.add (i.toNat * 1 + j)) = some u := hc0
  obtain ⟨A0, c0, rfl, l0, g0⟩ := hK
  exact ⟨ad, A0, c0, e, by have hq := hc 0 _ rfl; rwa [Nat.mul_one, Nat.add_zero] at hq, l0, g0⟩

/-! #### struct type 41 -/
structure S41 where
  f0 : Int
  f1 : ByteArray
def z41 : S41 := ⟨(0 : Int), (⟨#[]⟩ : ByteArray)⟩
def k41 : Kd S41 := Kd.iso (Kd.pair (Kd.int .u8) Kd.string) (fun x : S41 => (x.f0, x.f1))
theorem k41_open {w : World} {x : S41} {cs : List Value} (h : k41.K w x cs) : cs = [.int .u8 x.f0, .string x.f1] := by
  obtain ⟨_, _, rfl, rfl, rfl⟩ := h
  exact rfl
theorem k41_openM {w : World} {base : Nat} {ok : Nat → Prop} {x : S41} {cs : List Value} (h : k41.M w base ok x cs) : cs = [.int .u8 x.f0, .string x.f1] := by
  obtain ⟨_, _, rfl, rfl, rfl⟩ := h
  exact rfl
theorem k41_mk (w : World) (x : S41)  : k41.K w x [.int .u8 x.f0, .string x.f1] := ⟨[.int .u8 x.f0], [.string x.f1], rfl, rfl, rfl⟩
theorem k41_mkM (w : World) (base : Nat) (ok : Nat → Prop) (x : S41)  : k41.M w base ok x [.int .u8 x.f0, .string x.f1] := ⟨[.int .u8 x.f0], [.string x.f1], rfl, rfl, rfl⟩
theorem k41_mkF (W : World) (ok : Nat → Prop) (x : S41) : Kd.FK k41 W ok x [.int .u8 x.f0, .string x.f1] := fun W2 _ => k41_mk W2 x
def rd_T41 (xs : List S41) (i : Int) : S41 := xs.getD i.toNat z41
theorem at_T41 {w : World} {A : Option Addr} {n : Nat} {xs : List S41} (h : Kd.C k41 w A n xs) (i : Int) (h0 : 0 ≤ i) (h1 : i < n) : ∃ ad , A = some ad ∧ w.cell? (ad.add (i.toNat * 2)) = some (.int .u8 (rd_T41 xs i).f0) ∧ w.cell? ⟨(ad.add (i.toNat * 2)).block, (ad.add (i.toNat * 2)).off + 1, none⟩ = some (.string (rd_T41 xs i).f1) := by
  obtain ⟨ad, c, e, _, hK, hc0⟩ := Kd.C_get h z41 i h0 h1
  have hc : ∀ j u, c[j]? = some u → w.cell? (ad.add (i.toNat * 2 + j)) = some u := hc0
  obtain rfl := k41_open hK
  exact ⟨ad, e, hc 0 _ rfl, by rw [← add_field _ _ 1 (by omega)]; exact hc 1 _ rfl⟩

def rd_L10 (xs : List (List S41)) (i : Int) : (List S41) := xs.getD i.toNat ([] : List S41)
theorem at_L10 {w : World} {A : Option Addr} {n : Nat} {xs : List (List S41)} (h : Kd.C (Kd.slice 41 k41) w A n xs) (i : Int) (h0 : 0 ≤ i) (h1 : i < n) : ∃ ad A0 c0, A = some ad ∧ w.cell? (ad.add i.toNat) = some (.slice A0 (rd_L10 xs i).length c0) ∧ (rd_L10 xs i).length ≤ c0 ∧ k41.C w A0 (rd_L10 xs i).length (rd_L10 xs i) := by
  obtain ⟨ad, c, e, _, hK, hc0⟩ := Kd.C_get h ([] : List S41) i h0 h1
  have hc : ∀ j u, c[j]? = some u → w.cell? (ad.add (i.toNat * 1 + j)) = some u := hc0
  obtain ⟨A0, c0, rfl, l0, g0⟩ := hK
  exact ⟨ad, A0, c0, e, by have hq := hc 0 _ rfl; rwa [Nat.mul_one, Nat.add_zero] at hq, l0, g0⟩

/-! #### struct type 39 -/
structure S39 where
  f0 : Int
  f1 : Int
def z39 : S39 := ⟨(0 : Int), (0 : Int)⟩
def k39 : Kd S39 := Kd.iso (Kd.pair (Kd.int .i64) (Kd.int .i64)) (fun x : S39 => (x.f0, x.f1))
theorem k39_open {w : World} {x : S39} {cs : List Value} (h : k39.K w x cs) : cs = [.int .i64 x.f0, .int .i64 x.f1] := by
  obtain ⟨_, _, rfl, rfl, rfl⟩ := h
  exact rfl
theorem k39_openM {w : World} {base : Nat} {ok : Nat → Prop} {x : S39} {cs : List Value} (h : k39.M w base ok x cs) : cs = [.int .i64 x.f0, .int .i64 x.f1] := by
  obtain ⟨_, _, rfl, rfl, rfl⟩ := h
  exact rfl
theorem k39_mk (w : World) (x : S39)  : k39.K w x [.int .i64 x.f0, .int .i64 x.f1] := ⟨[.int .i64 x.f0], [.int .i64 x.f1], rfl, rfl, rfl⟩
theorem k39_mkM (w : World) (base : Nat) (ok : Nat → Prop) (x : S39)  : k39.M w base ok x [.int .i64 x.f0, .int .i64 x.f1] := ⟨[.int .i64 x.f0], [.int .i64 x.f1], rfl, rfl, rfl⟩
theorem k39_mkF (W : World) (ok : Nat → Prop) (x : S39) : Kd.FK k39 W ok x [.int .i64 x.f0, .int .i64 x.f1] := fun W2 _ => k39_mk W2 x
def rd_T39 (xs : List S39) (i : Int) : S39 := xs.getD i.toNat z39
theorem at_T39 {w : World} {A : Option Addr} {n : Nat} {xs : List S39} (h : Kd.C k39 w A n xs) (i : Int) (h0 : 0 ≤ i) (h1 : i < n) : ∃ ad , A = some ad ∧ w.cell? (ad.add (i.toNat * 2)) = some (.int .i64 (rd_T39 xs i).f0) ∧ w.cell? ⟨(ad.add (i.toNat * 2)).block, (ad.add (i.toNat * 2)).off + 1, none⟩ = some (.int .i64 (rd_T39 xs i).f1) := by
  obtain ⟨ad, c, e, _, hK, hc0⟩ := Kd.C_get h z39 i h0 h1
  have hc : ∀ j u, c[j]? = some u → w.cell? (ad.add (i.toNat * 2 + j)) = some u := hc0
  obtain rfl := k39_open hK
  exact ⟨ad, e, hc 0 _ rfl, by rw [← add_field _ _ 1 (by omega)]; exact hc 1 _ rfl⟩

def rd_L12 (xs : List (List S39)) (i : Int) : (List S39) := xs.getD i.toNat ([] : List S39)
theorem at_L12 {w : World} {A : Option Addr} {n : Nat} {xs : List (List S39)} (h : Kd.C (Kd.slice 39 k39) w A n xs) (i : Int) (h0 : 0 ≤ i) (h1 : i < n) : ∃ ad A0 c0, A = some ad ∧ w.cell? (ad.add i.toNat) = some (.slice A0 (rd_L12 xs i).length c0) ∧ (rd_L12 xs i).length ≤ c0 ∧ k39.C w A0 (rd_L12 xs i).length (rd_L12 xs i) := by
  obtain ⟨ad, c, e, _, hK, hc0⟩ := Kd.C_get h ([] : List S39) i h0 h1
  have hc : ∀ j u, c[j]? = some u → w.cell? (ad.add (i.toNat * 1 + j)) = some u := hc0
  obtain ⟨A0, c0, rfl, l0, g0⟩ := hK
  exact ⟨ad, A0, c0, e, by have hq := hc 0 _ rfl; rwa [Nat.mul_one, Nat.add_zero] at hq, l0, g0⟩

def rd_L13 (xs : List (List (List S39))) (i : Int) : (List (List S39)) := xs.getD i.toNat ([] : List (List S39))
theorem at_L13 {w : World} {A : Option Addr} {n : Nat} {xs : List (List (List S39))} (h : Kd.C (Kd.slice 35 (Kd.slice 39 k39)) w A n xs) (i : Int) (h0 : 0 ≤ i) (h1 : i < n) : ∃ ad A0 c0, A = some ad ∧ w.cell? (ad.add i.toNat) = some (.slice A0 (rd_L13 xs i).length c0) ∧ (rd_L13 xs i).length ≤ c0 ∧ (Kd.slice 39 k39).C w A0 (rd_L13 xs i).length (rd_L13 xs i) := by
  obtain ⟨ad, c, e, _, hK, hc0⟩ := Kd.C_get h ([] : List (List S39)) i h0 h1
  have hc : ∀ j u, c[j]? = some u → w.cell? (ad.add (i.toNat * 1 + j)) = some u := hc0
  obtain ⟨A0, c0, rfl, l0, g0⟩ := hK
  exact ⟨ad, A0, c0, e, by have hq := hc 0 _ rfl; rwa [Nat.mul_one, Nat.add_zero] at hq, l0, g0⟩

/-! #### struct type 110 -/
structure S110 where
  f0 : Int
  f1 : Int
def z110 : S110 := ⟨(0 : Int), (0 : Int)⟩
def k110 : Kd S110 := Kd.iso (Kd.pair (Kd.int .i64) (Kd.int .i64)) (fun x : S110 => (x.f0, x.f1))
theorem k110_open {w : World} {x : S110} {cs : List Value} (h : k110.K w x cs) : cs = [.int .i64 x.f0, .int .i64 x.f1] := by
  obtain ⟨_, _, rfl, rfl, rfl⟩ := h
  exact rfl
theorem k110_openM {w : World} {base : Nat} {ok : Nat → Prop} {x : S110} {cs : List Value} (h : k110.M w base ok x cs) : cs = [.int .i64 x.f0, .int .i64 x.f1] := by
  obtain ⟨_, _, rfl, rfl, rfl⟩ := h
  exact rfl
theorem k110_mk (w : World) (x : S110)  : k110.K w x [.int .i64 x.f0, .int .i64 x.f1] := ⟨[.int .i64 x.f0], [.int .i64 x.f1], rfl, rfl, rfl⟩
theorem k110_mkM (w : World) (base : Nat) (ok : Nat → Prop) (x : S110)  : k110.M w base ok x [.int .i64 x.f0, .int .i64 x.f1] := ⟨[.int .i64 x.f0], [.int .i64 x.f1], rfl, rfl, rfl⟩
theorem k110_mkF (W : World) (ok : Nat → Prop) (x : S110) : Kd.FK k110 W ok x [.int .i64 x.f0, .int .i64 x.f1] := fun W2 _ => k110_mk W2 x
def rd_T110 (xs : List S110) (i : Int) : S110 := xs.getD i.toNat z110
theorem at_T110 {w : World} {A : Option Addr} {n : Nat} {xs : List S110} (h : Kd.C k110 w A n xs) (i : Int) (h0 : 0 ≤ i) (h1 : i < n) : ∃ ad , A = some ad ∧ w.cell? (ad.add (i.toNat * 2)) = some (.int .i64 (rd_T110 xs i).f0) ∧ w.cell? ⟨(ad.add (i.toNat * 2)).block, (ad.add (i.toNat * 2)).off + 1, none⟩ = some (.int .i64 (rd_T110 xs i).f1) := by
  obtain ⟨ad, c, e, _, hK, hc0⟩ := Kd.C_get h z110 i h0 h1
  have hc : ∀ j u, c[j]? = some u → w.cell? (ad.add (i.toNat * 2 + j)) = some u := hc0
  obtain rfl := k110_open hK
  exact ⟨ad, e, hc 0 _ rfl, by rw [← add_field _ _ 1 (by omega)]; exact hc 1 _ rfl⟩

/-! #### struct type 65 -/
structure S65 where
  f0 : Int
  f1 : Int
def z65 : S65 := ⟨(0 : Int), (0 : Int)⟩
def k65 : Kd S65 := Kd.iso (Kd.pair (Kd.int .i64) (Kd.int .i64)) (fun x : S65 => (x.f0, x.f1))
theorem k65_open {w : World} {x : S65} {cs : List Value} (h : k65.K w x cs) : cs = [.int .i64 x.f0, .int .i64 x.f1] := by
  obtain ⟨_, _, rfl, rfl, rfl⟩ := h
  exact rfl
theorem k65_openM {w : World} {base : Nat} {ok : Nat → Prop} {x : S65} {cs : List Value} (h : k65.M w base ok x cs) : cs = [.int .i64 x.f0, .int .i64 x.f1] := by
  obtain ⟨_, _, rfl, rfl, rfl⟩ := h
  exact rfl
theorem k65_mk (w : World) (x : S65)  : k65.K w x [.int .i64 x.f0, .int .i64 x.f1] := ⟨[.int .i64 x.f0], [.int .i64 x.f1], rfl, rfl, rfl⟩
theorem k65_mkM (w : World) (base : Nat) (ok : Nat → Prop) (x : S65)  : k65.M w base ok x [.int .i64 x.f0, .int .i64 x.f1] := ⟨[.int .i64 x.f0], [.int .i64 x.f1], rfl, rfl, rfl⟩
theorem k65_mkF (W : World) (ok : Nat → Prop) (x : S65) : Kd.FK k65 W ok x [.int .i64 x.f0, .int .i64 x.f1] := fun W2 _ => k65_mk W2 x
def rd_T65 (xs : List S65) (i : Int) : S65 := xs.getD i.toNat z65
theorem at_T65 {w : World} {A : Option Addr} {n : Nat} {xs : List S65} (h : Kd.C k65 w A n xs) (i : Int) (h0 : 0 ≤ i) (h1 : i < n) : ∃ ad , A = some ad ∧ w.cell? (ad.add (i.toNat * 2)) = some (.int .i64 (rd_T65 xs i).f0) ∧ w.cell? ⟨(ad.add (i.toNat * 2)).block, (ad.add (i.toNat * 2)).off + 1, none⟩ = some (.int .i64 (rd_T65 xs i).f1) := by
  obtain ⟨ad, c, e, _, hK, hc0⟩ := Kd.C_get h z65 i h0 h1
  have hc : ∀ j u, c[j]? = some u → w.cell? (ad.add (i.toNat * 2 + j)) = some u := hc0
  obtain rfl := k65_open hK
  exact ⟨ad, e, hc 0 _ rfl, by rw [← add_field _ _ 1 (by omega)]; exact hc 1 _ rfl⟩

end Go.Proofs.YtpmmfckgfbdboaaDoor.G
end

section
namespace Go.Proofs.YtpmmfckgfbdboaaDoor.G
open Go.RowKit Go.ChangeShapes Go.WideShapes Go.ChangeAt Go.Deep Go.Proofs.YtpmmfckgfbdboaaDoorW.PrintWords Go.Proofs.YtpmmfckgfbdboaaDoorW.PrintLast Go.Proofs.YtpmmfckgfbdboaaDoorW.PrintMore
set_option linter.unusedVariables false
set_option linter.unusedSimpArgs false
section
variable {H : Type} {enc : TypeId × Value → H} {P : Program} {w : World} {base : Nat} {spare : Nat → Bool} {held : Bool}
theorem open_slice_fields {t e : TypeId} {fs : Array Field} {fuel : Nat} {cs : List Value} {x : DataW H × List MemPlace} (ht : P.underlying t = some (.slice e)) (he : P.underlying e = some (.struct fs))
    (hone : oneCellFields P fs = true) (hC : P.cellsOf e = fs.size) (h : DataW.trod enc P w base spare held fuel t cs = some x) :
    (cs = [.slice none 0 0] ∧ x = (.nil, [])) ∨
    ∃ (a : Addr) (len cap m : Nat) (D : Nat → DataW H) (Pl : Nat → List MemPlace), cs = [.slice (some a) len cap] ∧ base ≤ a.block ∧ len ≤ cap ∧ cap ≤ maxLen ∧ m = (if spare a.block then cap else len) ∧
      x = (.slice ((List.range len).map D) ((List.range (m - len)).map fun j => D (len + j)), MemPlace.row a (m * fs.size) ++ (List.range m).flatMap Pl) ∧
      ∀ i, i < m → ∃ (ys : List (DataW H × List MemPlace)) (n : Nat), D i = .agg (ys.map (·.1)) ∧ Pl i = ys.flatMap (·.2) ∧ ys.length = fs.size ∧
        ∀ (j : Nat) (f : Field), fs[j]? = some f → ∃ (v : Value) (y : DataW H × List MemPlace), w.cell? (a.add (i * fs.size + j)) = some v ∧ ys[j]? = some y ∧ DataW.trod enc P w base spare held n f.type [v] = some y := by
  rcases open_slice ht h with h0 | ⟨a, len, cap, m, n, D, Pl, hcs, hb, hl, hm, hmm, hx, hi⟩
  · exact .inl h0
  · refine .inr ⟨a, len, cap, m, D, Pl, hcs, hb, hl, hm, hmm, by rw [hC] at hx; exact hx, fun i him => ?_⟩
    obtain ⟨cs', hc, ht'⟩ := hi i him
    rw [hC] at hc
    obtain ⟨ys, n', hn', hy, hlen, hyl, hf⟩ := DataW.trod_struct he ht'
    obtain ⟨_, hcl, hat⟩ := World.cells?_some hc
    simp only [Prod.mk.injEq] at hy
    refine ⟨ys, n', hy.1, hy.2, hyl, fun j f hj => ?_⟩
    obtain ⟨ho, hk⟩ := hone_of hone j f hj
    have hjl : j < fs.size := (Array.getElem?_eq_some_iff.1 hj).1
    have hcell := hat j hjl
    have hv : cs'[j]? = some (cs'[j]'(by omega)) := List.getElem?_eq_getElem (by omega)
    have h1 := hf j f hj
    rw [ho, hk] at h1
    have hone' : (cs'.drop j).take 1 = [cs'[j]'(by omega)] := by
      rw [List.drop_eq_getElem_cons (by omega)]
      rfl
    rw [hone'] at h1
    have hys : ys[j]? = some (ys[j]'(by omega)) := List.getElem?_eq_getElem (by omega)
    refine ⟨_, _, ?_, hys, h1.trans hys⟩
    rw [← Go.Deep.add_add, hcell, hv]
end
theorem choose_list {α : Type} (Q : Nat → α → Prop) : ∀ n : Nat, (∀ i, i < n → ∃ x, Q i x) → ∃ l : List α, l.length = n ∧ ∀ (i : Nat) x, l[i]? = some x → Q i x
  | 0, _ => ⟨[], rfl, fun i x h => by simp at h⟩
  | n + 1, h => by
    obtain ⟨l, hl, hq⟩ := choose_list Q n (fun i hi => h i (by omega))
    obtain ⟨x, hx⟩ := h n (by omega)
    refine ⟨l ++ [x], by simp [hl], fun i y hy => ?_⟩
    by_cases hi : i < l.length
    · rw [List.getElem?_append_left hi] at hy
      exact hq i y hy
    · rw [List.getElem?_append_right (by omega)] at hy
      have h0 : i - l.length = 0 := by
        have := (List.getElem?_eq_some_iff.1 hy).1
        simp at this
        omega
      rw [h0] at hy
      simp at hy
      subst hy
      rw [show i = n by omega]
      exact hx
theorem rec41 : ∃ f0 f1 : Field, Tryd.prog.underlying 41 = some (.struct #[f0, f1]) ∧ f0.type = 5 ∧ f1.type = 9 ∧ oneCellFields Tryd.prog #[f0, f1] = true := ⟨_, _, Tryd.underlying41, rfl, rfl, by kernel_rfl⟩
theorem zero_big (n : Nat) : ([] : List S41).length ≤ n := Nat.zero_le n
theorem zero_mul_big (n : Nat) : ([] : List S41).length * 24 ≤ n := by
  rw [List.length_nil, Nat.zero_mul]
  exact Nat.zero_le n
theorem nil_C (W : World) : Kd.C k41 W none ([] : List S41).length [] := by
  unfold Kd.C ReadsRow
  exact ⟨rfl, zero_big _, fun h => absurd h (Nat.lt_irrefl 0)⟩
set_option maxRecDepth 100000 in
/-- The law's argument: rules that came in. -/
theorem open_rules {H : Type} {enc : TypeId × Value → H} {W : World} {base : Nat} {v : Value} {d : DataW H} {p : List MemPlace} {ts : List TypeId} {ds : List (DataW H)} {j : Nat} (hv : Value.okWide Tryd.prog W .any base 22 v)
    (h : DataW.Trod enc Tryd.prog W 0 (fun _ => true) true 22 v d p) (hsz : (DataW.weightsEach Tryd.prog ts ds).all (· ≤ reachBytes) = true) (ht : ts[j]? = some 22) (hd : ds[j]? = some d) :
    ∃ (A : Option Addr) (c : Nat) (l : List S41), v = .slice A l.length c ∧ l.length ≤ c ∧ Kd.C k41 W A l.length l ∧ l.length * 24 ≤ 140737488351232 := by
  obtain ⟨a, len, cap, rfl⟩ := okWide_slice Tryd.underlying22 hv
  obtain ⟨f0, f1, he, e0, e1, hone⟩ := rec41
  obtain ⟨fuel, hf⟩ := h
  rcases open_slice_fields Tryd.underlying22 he hone (by kernel_rfl) hf with ⟨hcs, hx⟩ | ⟨x, l, c, m, D, Pl, hcs, _, hl, hm, hmm, hx, hi⟩
  · simp [Value.cells] at hcs
    obtain ⟨rfl, rfl, rfl⟩ := hcs
    exact ⟨none, 0, [], rfl, Nat.le_refl _, nil_C W, zero_mul_big _⟩
  · simp [Value.cells] at hcs
    obtain ⟨rfl, rfl, rfl⟩ := hcs
    simp only [if_true] at hmm
    subst hmm
    obtain ⟨rfl, _⟩ := Prod.mk.inj hx
    have hz := sized_slice hsz ht hd Tryd.underlying22
    rw [show Tryd.prog.bytesOf 41 = 24 by kernel_rfl] at hz
    simp only [List.length_map, List.length_range] at hz
    have hcell : ∀ i, i < len → ∃ y : S41, W.cell? (x.add (i * 2 + 0)) = some (.int .u8 y.f0) ∧ W.cell? (x.add (i * 2 + 1)) = some (.string y.f1) := fun i hil => by
      obtain ⟨ys, n, _, _, _, hj⟩ := hi i (by omega)
      obtain ⟨v0, y0, hc0, _, ht0⟩ := hj 0 f0 rfl
      obtain ⟨v1, y1, hc1, _, ht1⟩ := hj 1 f1 rfl
      rw [e0] at ht0
      rw [e1] at ht1
      obtain ⟨z, hz0, _, _⟩ := DataW.trod_int Tryd.underlying5 ht0
      obtain ⟨s, hs0, _, _⟩ := DataW.trod_string Tryd.underlying9 ht1
      cases hz0
      cases hs0
      exact ⟨⟨z, s⟩, hc0, hc1⟩
    obtain ⟨l, hlen, hq⟩ := choose_list _ len hcell
    subst hlen
    refine ⟨some x, _, l, rfl, hl, ⟨rfl, by unfold maxLen at hm; omega, fun _ => ⟨x, rfl, fun j p hp => ⟨[.int .u8 p.f0, .string p.f1], rfl, k41_mk W p, fun i u hu => ?_⟩⟩⟩, ?_⟩
    · obtain ⟨q0, q1⟩ := hq j p hp
      cases i with
      | zero => cases hu; exact q0
      | succ i =>
        cases i with
        | zero => cases hu; exact q1
        | succ i => simp at hu
    · have : reachBytes = 140737488351232 := by decide
      rw [this] at hz
      exact Nat.le_trans (Nat.mul_le_mul_right 24 (Nat.le_add_right l.length _)) hz
end Go.Proofs.YtpmmfckgfbdboaaDoor.G
end

section
namespace Go.Proofs.YtpmmfckgfbdboaaDoor.G
open Go.RowKit Go.Shelf
def laysIF_ren : Go.Shelf.Ren := ⟨fun | 15 => 134 | 20 => 165 | n => n, fun | 9 => 9 | 23 => 194 | 3 => 3 | 4 => 4 | 0 => 0 | 21 => 21 | n => n, fun | n => n⟩
theorem laysIF : Go.Proofs.LaysGw.n15 Tryd.prog laysIF_ren := {
  mixed := by kernel_rfl
  f15 := Tryd.func134.trans (congrArg some (by kernel_rfl))
  f20 := Tryd.func165.trans (congrArg some (by kernel_rfl))
  t0 := Tryd.underlying0
  a0 := Tryd.isAgg0
  z0 := Tryd.sizeOf0
  v0 := Tryd.zeroValue0
  i0 := by kernel_rfl
  t3 := Tryd.underlying3
  a3 := Tryd.isAgg3
  z3 := Tryd.sizeOf3
  v3 := Tryd.zeroValue3
  i3 := by kernel_rfl
  t4 := Tryd.underlying4
  a4 := Tryd.isAgg4
  z4 := Tryd.sizeOf4
  v4 := Tryd.zeroValue4
  i4 := by kernel_rfl
  t9 := Tryd.underlying9
  a9 := Tryd.isAgg9
  z9 := Tryd.sizeOf9
  v9 := Tryd.zeroValue9
  i9 := by kernel_rfl
  t21 := Tryd.underlying21
  a21 := Tryd.isAgg21
  z21 := Tryd.sizeOf21
  v21 := Tryd.zeroValue21
  i21 := by kernel_rfl
  t23 := Tryd.underlying194
  a23 := Tryd.isAgg194
  z23 := Tryd.sizeOf194
  v23 := Tryd.zeroValue194
  i23 := by kernel_rfl }
def laysSF_ren : Go.Shelf.Ren := ⟨fun | 6 => 122 | 15 => 129 | 14 => 142 | 28 => 155 | 29 => 156 | 20 => 169 | 21 => 170 | 22 => 171 | 23 => 172 | 24 => 173 | 25 => 174 | 26 => 175 | 27 => 176 | 46 => 189 | 47 => 179 | 48 => 180 | 49 => 190 | 50 => 191 | 57 => 195 | n => n, fun | 22 => 94 | 24 => 95 | 25 => 184 | 3 => 3 | 39 => 54 | 0 => 0 | 53 => 211 | 55 => 213 | 4 => 4 | 46 => 204 | 45 => 203 | 50 => 97 | 5 => 5 | 9 => 9 | 66 => 227 | 70 => 231 | 76 => 243 | 77 => 112 | n => n, fun | n => n⟩
theorem laysSF : Go.Proofs.SlLaysF0.n6 Tryd.prog laysSF_ren := {
  mixed := by kernel_rfl
  f6 := ⟨Tryd.f122.name, by decide, Tryd.func122.trans (congrArg some (by kernel_rfl))⟩
  f14 := ⟨Tryd.f142.name, by decide, Tryd.func142.trans (congrArg some (by kernel_rfl))⟩
  f15 := Tryd.func129.trans (congrArg some (by kernel_rfl))
  f20 := ⟨Tryd.f169.name, by decide, Tryd.func169.trans (congrArg some (by kernel_rfl))⟩
  f21 := ⟨Tryd.f170.name, by decide, Tryd.func170.trans (congrArg some (by kernel_rfl))⟩
  f22 := ⟨Tryd.f171.name, by decide, Tryd.func171.trans (congrArg some (by kernel_rfl))⟩
  f23 := ⟨Tryd.f172.name, by decide, Tryd.func172.trans (congrArg some (by kernel_rfl))⟩
  f24 := ⟨Tryd.f173.name, by decide, Tryd.func173.trans (congrArg some (by kernel_rfl))⟩
  f25 := ⟨Tryd.f174.name, by decide, Tryd.func174.trans (congrArg some (by kernel_rfl))⟩
  f26 := ⟨Tryd.f175.name, by decide, Tryd.func175.trans (congrArg some (by kernel_rfl))⟩
  f27 := ⟨Tryd.f176.name, by decide, Tryd.func176.trans (congrArg some (by kernel_rfl))⟩
  f28 := Tryd.func155.trans (congrArg some (by kernel_rfl))
  f29 := Tryd.func156.trans (congrArg some (by kernel_rfl))
  f46 := ⟨Tryd.f189.name, by decide, Tryd.func189.trans (congrArg some (by kernel_rfl))⟩
  f47 := Tryd.func179.trans (congrArg some (by kernel_rfl))
  f48 := Tryd.func180.trans (congrArg some (by kernel_rfl))
  f49 := ⟨Tryd.f190.name, by decide, Tryd.func190.trans (congrArg some (by kernel_rfl))⟩
  f50 := ⟨Tryd.f191.name, by decide, Tryd.func191.trans (congrArg some (by kernel_rfl))⟩
  f57 := ⟨Tryd.f195.name, by decide, Tryd.func195.trans (congrArg some (by kernel_rfl))⟩
  t0 := Tryd.underlying0
  a0 := Tryd.isAgg0
  z0 := Tryd.sizeOf0
  v0 := Tryd.zeroValue0
  t3 := Tryd.underlying3
  a3 := Tryd.isAgg3
  z3 := Tryd.sizeOf3
  v3 := Tryd.zeroValue3
  t4 := Tryd.underlying4
  a4 := Tryd.isAgg4
  z4 := Tryd.sizeOf4
  v4 := Tryd.zeroValue4
  t5 := Tryd.underlying5
  a5 := Tryd.isAgg5
  z5 := Tryd.sizeOf5
  v5 := Tryd.zeroValue5
  t9 := Tryd.underlying9
  a9 := Tryd.isAgg9
  z9 := Tryd.sizeOf9
  v9 := Tryd.zeroValue9
  t22 := Tryd.underlying94
  a22 := Tryd.isAgg94
  z22 := Tryd.sizeOf94
  v22 := Tryd.zeroValue94
  t25 := Tryd.underlying184
  a25 := Tryd.isAgg184
  z25 := Tryd.sizeOf184
  v25 := Tryd.zeroValue184
  t39 := Tryd.underlying54
  a39 := Tryd.isAgg54
  z39 := Tryd.sizeOf54
  v39 := Tryd.zeroValue54
  t45 := Tryd.underlying203
  a45 := Tryd.isAgg203
  z45 := Tryd.sizeOf203
  v45 := Tryd.zeroValue203
  t46 := Tryd.underlying204
  a46 := Tryd.isAgg204
  z46 := Tryd.sizeOf204
  v46 := Tryd.zeroValue204
  t50 := Tryd.underlying97
  a50 := Tryd.isAgg97
  z50 := Tryd.sizeOf97
  v50 := Tryd.zeroValue97
  t53 := Tryd.underlying211
  a53 := Tryd.isAgg211
  z53 := Tryd.sizeOf211
  v53 := Tryd.zeroValue211
  t55 := Tryd.underlying213
  a55 := Tryd.isAgg213
  z55 := Tryd.sizeOf213
  v55 := Tryd.zeroValue213
  t66 := Tryd.underlying227
  a66 := Tryd.isAgg227
  z66 := Tryd.sizeOf227
  v66 := Tryd.zeroValue227
  t70 := Tryd.underlying231
  a70 := Tryd.isAgg231
  z70 := Tryd.sizeOf231
  v70 := Tryd.zeroValue231
  t76 := Tryd.underlying243
  a76 := Tryd.isAgg243
  z76 := Tryd.sizeOf243
  v76 := Tryd.zeroValue243
  t77 := Tryd.underlying112
  a77 := Tryd.isAgg112
  z77 := Tryd.sizeOf112
  v77 := Tryd.zeroValue112 }
end Go.Proofs.YtpmmfckgfbdboaaDoor.G
end

section
namespace Go.Proofs.YtpmmfckgfbdboaaDoor.G
open Go.RowKit Go.Proofs.YtpmmfckgfbdboaaDoorW.PrintWords Go.Proofs.YtpmmfckgfbdboaaDoorW.PrintLast Go.Proofs.YtpmmfckgfbdboaaDoorW.PrintMore
set_option linter.unusedVariables false
set_option linter.unusedSimpArgs false
theorem wraps_i64 (n : Int) (h₀ : 0 ≤ n) (h₁ : n < 2 ^ 62) : IntKind.i64.wrap n = n := by rw [IntKind.wrap_i64]; omega
theorem i64_and_nat (a b : Nat) (ha : a < 2 ^ 62) (hb : b < 2 ^ 62) : bits .and .i64 (a : Int) (b : Int) = ((a &&& b : Nat) : Int) := (bits_nat .i64 62 (by decide) wraps_i64 a b ha hb).1
theorem i64_or_nat (a b : Nat) (ha : a < 2 ^ 62) (hb : b < 2 ^ 62) : bits .or .i64 (a : Int) (b : Int) = ((a ||| b : Nat) : Int) := (bits_nat .i64 62 (by decide) wraps_i64 a b ha hb).2
def isPartB (c : Int) : Bool := decide (65 ≤ c ∧ c ≤ 69)
def isWordB (c : Int) : Bool := decide (97 ≤ c ∧ c ≤ 100)
def letterB (c : Int) : Bool := isPartB c || isWordB c
theorem isPartB_iff {c : Int} : isPartB c = true ↔ 65 ≤ c ∧ c ≤ 69 := by simp [isPartB]
theorem isPartB_cases {c : Int} (h : isPartB c = true) : c = 65 ∨ c = 66 ∨ c = 67 ∨ c = 68 ∨ c = 69 := by rw [isPartB_iff] at h; omega
theorem isWordB_cases {c : Int} (h : isWordB c = true) : c = 97 ∨ c = 98 ∨ c = 99 ∨ c = 100 := by simp [isWordB] at h; omega
theorem isPart_any (c : Int) (w : World) : Calls Tryd.prog 89 #[.int .u8 c] w fun e w' => e = .returned (.bool (isPartB c)) ∧ w = w' := by
  unfold isPartB
  by_cases h : 65 ≤ c
  · by_cases h2 : c ≤ 69
    · go_enter Tryd.func89, Tryd.ntmps89
      go_wp2
      go_ret
      exact ⟨by simp [h, h2], rfl⟩
    · go_enter Tryd.func89, Tryd.ntmps89
      go_wp2
      go_ret
      exact ⟨by simp [h, h2], rfl⟩
  · go_enter Tryd.func89, Tryd.ntmps89
    go_wp2
    go_ret
    exact ⟨by simp [h]; omega, rfl⟩
def hasP (e : Nat) (c : Int) : Bool := isPartB c && e.testBit (c - 65).toNat
theorem and1_test (e k : Nat) (h : e < 2 ^ 62) : (bits .and .i64 ((e : Int) / ((2 ^ k : Nat) : Int)) 1 == 1) = e.testBit k := by
  have h1 : ((e : Int) / ((2 ^ k : Nat) : Int)) = ((e / 2 ^ k : Nat) : Int) := by simp
  have h2 : e / 2 ^ k < 2 ^ 62 := Nat.lt_of_le_of_lt (Nat.div_le_self _ _) h
  rw [h1, show (1 : Int) = ((1 : Nat) : Int) from rfl, i64_and_nat _ _ h2 (by decide), Nat.testBit_eq_decide_div_mod_eq, Nat.and_one_is_mod]
  by_cases h3 : e / 2 ^ k % 2 = 1
  · simp [h3]
  · have : e / 2 ^ k % 2 = 0 := by omega
    simp [this]
theorem has_any (e : Nat) (he : e < 2 ^ 62) (c : Int) (w : World) : Calls Tryd.prog 136 #[.int .i64 e, .int .u8 c] w fun x w' => x = .returned (.bool (hasP e c)) ∧ w = w' := by
  cases hc : isPartB c
  · have HC := Lib.hid hc
    have hR : hasP e c = false := by simp [hasP, hc]
    have HR := Lib.hid hR
    clear hc hR
    go_enter Tryd.func136, Tryd.ntmps136
    go_wp2_with (go_at_call 89; refine (isPart_any _ _).mono ?_; rintro e w' ⟨rfl, rfl⟩; rw [HC.out])
    go_ret
    exact ⟨by rw [HR.out]; rfl, rfl⟩
  · have HC := Lib.hid hc
    have h0 := and1_test e 0 he
    have h1 := and1_test e 1 he
    have h2 := and1_test e 2 he
    have h3 := and1_test e 3 he
    have h4 := and1_test e 4 he
    have H0 := Lib.hid h0
    have H1 := Lib.hid h1
    have H2 := Lib.hid h2
    have H3 := Lib.hid h3
    have H4 := Lib.hid h4
    clear h0 h1 h2 h3 h4
    rcases isPartB_cases hc with rfl | rfl | rfl | rfl | rfl
    all_goals
      clear hc
      go_enter Tryd.func136, Tryd.ntmps136
      go_wp2_with (go_at_call 89; refine (isPart_any _ _).mono ?_; rintro e w' ⟨rfl, rfl⟩; rw [HC.out])
      go_ret
      refine ⟨?_, rfl⟩
    · simpa [hasP, isPartB] using H0.out
    · simpa [hasP, isPartB] using H1.out
    · simpa [hasP, isPartB] using H2.out
    · simpa [hasP, isPartB] using H3.out
    · simpa [hasP, isPartB] using H4.out
def beginsP (s : List Nat) (e : Nat) : List Int → Nat → Nat × Bool
  | [], x => (x, true)
  | c :: cs, x => if isPartB c then (if hasP e c then beginsP s e cs (x ||| s.getD (c - 65).toNat 0) else (x ||| s.getD (c - 65).toNat 0, false)) else (x ||| 2 ^ (c - 97).toNat, false)
theorem drop_bytes (r : ByteArray) (k : Nat) (h : k < r.size) : (bytesOf r).drop k = bt r k :: (bytesOf r).drop (k + 1) := by
  have hl : k < (bytesOf r).length := by rw [bytesOf_length]; exact h
  rw [List.drop_eq_getElem_cons hl]
  congr 1
  have := rd_bytesOf r k
  rw [← this]
  simp [rd, List.getD_eq_getElem?_getD, List.getElem?_eq_getElem hl]
theorem or_lt62 {a b : Nat} (ha : a < 2 ^ 62) (hb : b < 2 ^ 62) : a ||| b < 2 ^ 62 := Nat.or_lt_two_pow ha hb
set_option maxHeartbeats 1000000 in
theorem begins_any (s0 s1 s2 s3 s4 e : Nat) (r : ByteArray) (w : World) (hr : r.size ≤ 4) (he : e < 2 ^ 62) (hl : ∀ c ∈ bytesOf r, letterB c = true)
    (b0 : s0 < 2 ^ 62) (b1 : s1 < 2 ^ 62) (b2 : s2 < 2 ^ 62) (b3 : s3 < 2 ^ 62) (b4 : s4 < 2 ^ 62) (res : Nat × Bool) (hres : beginsP [s0, s1, s2, s3, s4] e (bytesOf r) 0 = res) :
    Calls Tryd.prog 111 #[.agg #[.int .i64 s0, .int .i64 s1, .int .i64 s2, .int .i64 s3, .int .i64 s4], .string r, .int .i64 e] w
      fun x w' => x = .returned (.tuple #[.int .i64 res.1, .bool res.2]) ∧ Below w.heap.size w w' := by
  have HL := Lib.hid hl
  have HRS := Lib.hid hres
  have B0 := Lib.hid b0
  have B1 := Lib.hid b1
  have B2 := Lib.hid b2
  have B3 := Lib.hid b3
  have B4 := Lib.hid b4
  have HE := Lib.hid he
  clear hl hres b0 b1 b2 b3 b4 he
  have kb := fun W => print_bytes (P := Tryd.prog) 9 42 5 Tryd.underlying9 Tryd.underlying42 Tryd.underlying5 r W
  have HB : Hid (Below w.heap.size w (Lib.bytesWorld (w.alloc (.cells #[.int .i64 s0, .int .i64 s1, .int .i64 s2, .int .i64 s3, .int .i64 s4] 85)) 5 r)) :=
    bytes_below (below_alloc (Below.refl _ _) _) (by simp) 5 r
  have HC : Hid (∀ j, j < r.size → (Lib.bytesWorld (w.alloc (.cells #[.int .i64 s0, .int .i64 s1, .int .i64 s2, .int .i64 s3, .int .i64 s4] 85)) 5 r).cell? ⟨w.heap.size + 1, j, none⟩ = some (.int .u8 (bt r j))) := fun j hj => by
    obtain ⟨ad, hA, hc⟩ := (bytes_reads (w.alloc (.cells #[.int .i64 s0, .int .i64 s1, .int .i64 s2, .int .i64 s3, .int .i64 s4] 85)) 5 r (by omega)).2.2 (by omega)
    cases hA
    have := hc j hj
    rw [add_plain] at this
    rw [World.size_alloc] at this
    rw [this, ← rd_bytesOf r j]
    simp [rd]
  have HS : Hid (∀ i v, (#[.int .i64 s0, .int .i64 s1, .int .i64 s2, .int .i64 s3, .int .i64 s4] : Array Value)[i]? = some v → (Lib.bytesWorld (w.alloc (.cells #[.int .i64 s0, .int .i64 s1, .int .i64 s2, .int .i64 s3, .int .i64 s4] 85)) 5 r).cell? ⟨w.heap.size, i, none⟩ = some v) := fun i v hv => by
    unfold World.cell?
    simp only
    rw [Lib.bytesWorld_at_old _ _ _ _ (by simp), heap_alloc_new]
    simpa using hv
  go_enter Tryd.func111, Tryd.ntmps111
  go_wp2
  generalize hW : Lib.bytesWorld (w.alloc (.cells #[.int .i64 s0, .int .i64 s1, .int .i64 s2, .int .i64 s3, .int .i64 s4] 85)) 5 r = W at HB HC HS ⊢
  clear hW kb
  go_loop [6, 13] (fun v6 v13 => ∃ (k : Nat) (x : Nat), k ≤ r.size ∧ v13 = .int .i64 k ∧ v6 = .int .i64 x ∧ Hid (x < 2 ^ 62) ∧ Hid (beginsP [s0, s1, s2, s3, s4] e ((bytesOf r).drop k) x = res)) (fun _ i => r.size - (intOf i).toNat)
  case atStart => exact ⟨0, 0, Nat.zero_le _, rfl, rfl, Lib.hid (by decide), by simpa using HRS⟩
  case round =>
    obtain ⟨k, x, hk, rfl, rfl, HX, HR⟩ := hrel
    by_cases hlt : k < r.size
    · have hd := drop_bytes r k hlt
      obtain ⟨c, hc⟩ : ∃ c, bt r k = c := ⟨_, rfl⟩
      have hcell := HC.out k hlt
      rw [hc] at hd hcell
      have hR := HR.out
      rw [hd] at hR
      have hcl : letterB c = true := HL.out c (List.mem_of_mem_drop (i := k) (by rw [hd]; simp))
      have HD := Lib.hid hd
      have HR1 := Lib.hid hR
      clear hd hR HR hc
      have HCL := Lib.hid hcl
      clear hcl
      cases hp : isPartB c
      · have hw : isWordB c = true := by simpa [letterB, hp] using HCL.out
        have hR := HR1.out
        simp only [beginsP, hp] at hR
        have HR2 := Lib.hid hR
        have HP := Lib.hid hp
        clear hR hp HR1
        rcases isWordB_cases hw with rfl | rfl | rfl | rfl
        all_goals
          clear hw
          have ho0 : bits .or .i64 (x : Int) 1 = ((x ||| 1 : Nat) : Int) := i64_or_nat x 1 HX.out (by decide)
          have ho1 : bits .or .i64 (x : Int) 2 = ((x ||| 2 : Nat) : Int) := i64_or_nat x 2 HX.out (by decide)
          have ho2 : bits .or .i64 (x : Int) 4 = ((x ||| 4 : Nat) : Int) := i64_or_nat x 4 HX.out (by decide)
          have ho3 : bits .or .i64 (x : Int) 8 = ((x ||| 8 : Nat) : Int) := i64_or_nat x 8 HX.out (by decide)
          go_wp2_with (go_at_call 89; refine (isPart_any _ _).mono ?_; rintro e w' ⟨rfl, rfl⟩; rw [HP.out])
          go_ret2
          refine ⟨?_, HB.out⟩
          rw [← HR2.out]
          simp
      · have hR := HR1.out
        simp only [beginsP, hp, if_true] at hR
        have HR2 := Lib.hid hR
        have HP := Lib.hid hp
        clear hR HR1
        cases hh : hasP e c
        · have HH := Lib.hid hh
          have hR := HR2.out
          simp only [hh] at hR
          have HR3 := Lib.hid hR
          clear hR hh HR2
          rcases isPartB_cases hp with rfl | rfl | rfl | rfl | rfl
          all_goals
            clear hp
            have hs0 := HS.out 0 _ rfl
            have hs1 := HS.out 1 _ rfl
            have hs2 := HS.out 2 _ rfl
            have hs3 := HS.out 3 _ rfl
            have hs4 := HS.out 4 _ rfl
            have ho0 := i64_or_nat x s0 HX.out B0.out
            have ho1 := i64_or_nat x s1 HX.out B1.out
            have ho2 := i64_or_nat x s2 HX.out B2.out
            have ho3 := i64_or_nat x s3 HX.out B3.out
            have ho4 := i64_or_nat x s4 HX.out B4.out
            go_wp2_with (first | (go_at_call 89; refine (isPart_any _ _).mono ?_; rintro e w' ⟨rfl, rfl⟩; rw [HP.out]) | (go_at_call 136; refine (has_any _ HE.out _ _).mono ?_; rintro e w' ⟨rfl, rfl⟩; rw [HH.out]))
            go_ret2
            refine ⟨?_, HB.out⟩
            rw [← HR3.out]
            simp
        · have HH := Lib.hid hh
          have hR := HR2.out
          simp only [hh, if_true] at hR
          have HR3 := Lib.hid hR
          clear hR hh HR2
          rcases isPartB_cases hp with rfl | rfl | rfl | rfl | rfl
          all_goals
            clear hp
            have hs0 := HS.out 0 _ rfl
            have hs1 := HS.out 1 _ rfl
            have hs2 := HS.out 2 _ rfl
            have hs3 := HS.out 3 _ rfl
            have hs4 := HS.out 4 _ rfl
            have ho0 := i64_or_nat x s0 HX.out B0.out
            have ho1 := i64_or_nat x s1 HX.out B1.out
            have ho2 := i64_or_nat x s2 HX.out B2.out
            have ho3 := i64_or_nat x s3 HX.out B3.out
            have ho4 := i64_or_nat x s4 HX.out B4.out
            go_wp2_with (first | (go_at_call 89; refine (isPart_any _ _).mono ?_; rintro e w' ⟨rfl, rfl⟩; rw [HP.out]) | (go_at_call 136; refine (has_any _ HE.out _ _).mono ?_; rintro e w' ⟨rfl, rfl⟩; rw [HH.out]))
            go_round
          case rel => exact ⟨k + 1, x ||| s0, by omega, by go_num, rfl, Lib.hid (or_lt62 HX.out B0.out), by simpa using HR3⟩
          case measure => simp [intOf]; omega
          case rel => exact ⟨k + 1, x ||| s1, by omega, by go_num, rfl, Lib.hid (or_lt62 HX.out B1.out), by simpa using HR3⟩
          case measure => simp [intOf]; omega
          case rel => exact ⟨k + 1, x ||| s2, by omega, by go_num, rfl, Lib.hid (or_lt62 HX.out B2.out), by simpa using HR3⟩
          case measure => simp [intOf]; omega
          case rel => exact ⟨k + 1, x ||| s3, by omega, by go_num, rfl, Lib.hid (or_lt62 HX.out B3.out), by simpa using HR3⟩
          case measure => simp [intOf]; omega
          case rel => exact ⟨k + 1, x ||| s4, by omega, by go_num, rfl, Lib.hid (or_lt62 HX.out B4.out), by simpa using HR3⟩
          case measure => simp [intOf]; omega
    · have hkr : k = r.size := by omega
      have hR := HR.out
      rw [List.drop_of_length_le (by rw [bytesOf_length]; omega)] at hR
      have HR2 := Lib.hid hR
      clear hR HR hkr
      go_wp2
      go_ret2
      refine ⟨?_, HB.out⟩
      rw [← HR2.out]
      rfl
end Go.Proofs.YtpmmfckgfbdboaaDoor.G
end

section
namespace Go.Proofs.YtpmmfckgfbdboaaDoor.G
open Go.RowKit Go.Proofs.YtpmmfckgfbdboaaDoorW.PrintWords Go.Proofs.YtpmmfckgfbdboaaDoorW.PrintLast Go.Proofs.YtpmmfckgfbdboaaDoorW.PrintMore
attribute [local go_sem] max2_int min2_int max_two min_two max_three min_three max_four min_four   -- for this text's walks alone
set_option linter.unusedVariables false
set_option linter.unusedSimpArgs false

/-! ### cmp_isNaN_int: function 143 -/
def cmp_isNaN_int.f (a0 : Int) : Option (Bool) := some (a0 != a0)
set_option maxHeartbeats 8000000 in
set_option maxRecDepth 100000 in
theorem cmp_isNaN_int.calls (a0 : Int) (r : Bool) (w : World) (h : cmp_isNaN_int.f a0 = some r) :
    Calls Tryd.prog 143 #[.int .i64 a0] w fun e w' => e = .returned (.bool r) ∧ Drawn0 w w' := by
  have H : (some (a0 != a0)) = some r := h
  clear h
  obtain rfl := Option.some.inj H
  go_enter Tryd.func143, Tryd.ntmps143
  go_wp2
  go_ret
  exact ⟨by first | rfl | (simp; done) | (simp [*]; done), by repeat (first | exact Drawn0.refl _ | apply Drawn0.step)⟩

end Go.Proofs.YtpmmfckgfbdboaaDoor.G
end

section
namespace Go.Proofs.YtpmmfckgfbdboaaDoor.G
open Go.RowKit Go.Proofs.YtpmmfckgfbdboaaDoorW.PrintWords Go.Proofs.YtpmmfckgfbdboaaDoorW.PrintLast Go.Proofs.YtpmmfckgfbdboaaDoorW.PrintMore
attribute [local go_sem] max2_int min2_int max_two min_two max_three min_three max_four min_four   -- for this text's walks alone
set_option linter.unusedVariables false
set_option linter.unusedSimpArgs false

/-! ### cmp_Compare_int: function 125 -/
def cmp_Compare_int.f (a0 : Int) (a1 : Int) : Option (Int) := (cmp_isNaN_int.f a0).bind fun t347 => ((cmp_isNaN_int.f a1).bind fun t348 => (if t347 = true then (if t348 = true then (some 0) else (some (-1))) else (if t348 = true then (some 1) else (if a0 < a1 then (some (-1)) else (if a0 > a1 then (some 1) else (some 0))))))
set_option maxHeartbeats 8000000 in
set_option maxRecDepth 100000 in
theorem cmp_Compare_int.calls (a0 : Int) (a1 : Int) (r : Int) (w : World) (h : cmp_Compare_int.f a0 a1 = some r) :
    Calls Tryd.prog 125 #[.int .i64 a0, .int .i64 a1] w fun e w' => e = .returned (.int .i64 r) ∧ Drawn0 w w' := by
  have H : ((cmp_isNaN_int.f a0).bind fun t347 => ((cmp_isNaN_int.f a1).bind fun t348 => (if t347 = true then (if t348 = true then (some 0) else (some (-1))) else (if t348 = true then (some 1) else (if a0 < a1 then (some (-1)) else (if a0 > a1 then (some 1) else (some 0))))))) = some r := h
  clear h
  replace H := Option.bind_eq_some_iff.mp H
  obtain ⟨t347, A30, H⟩ := H
  replace H : ((cmp_isNaN_int.f a1).bind fun t348 => (if t347 = true then (if t348 = true then (some 0) else (some (-1))) else (if t348 = true then (some 1) else (if a0 < a1 then (some (-1)) else (if a0 > a1 then (some 1) else (some 0)))))) = some r := H
  have A3 := Aside0.mk A30
  clear A30
  replace H := Option.bind_eq_some_iff.mp H
  obtain ⟨t348, A40, H⟩ := H
  replace H : (if t347 = true then (if t348 = true then (some 0) else (some (-1))) else (if t348 = true then (some 1) else (if a0 < a1 then (some (-1)) else (if a0 > a1 then (some 1) else (some 0))))) = some r := H
  have A4 := Aside0.mk A40
  clear A40
  by_cases c5 : t347 = true
  · subst c5
    have H1 : (if t348 = true then (some 0) else (some (-1))) = some r := by rw [if_pos rfl] at H; exact H
    clear H
    have H := H1
    clear H1
    by_cases c6 : t348 = true
    · subst c6
      have H1 : (some 0) = some r := by rw [if_pos rfl] at H; exact H
      clear H
      have H := H1
      clear H1
      obtain rfl := Option.some.inj H
      go_enter Tryd.func125, Tryd.ntmps125
      go_wp2_with (first | ((with_reducible refine gate_callee (f := 143) rfl ?_); refine goesL_ (some 8) rfl rfl Tryd.func143 (by kernel_rfl) rfl #[.int .i64 a0] rfl (by (try simp only [List.map_toArray, List.map_cons, List.map_nil]); first | done | rfl | (simp only [List.length_drop, List.length_take]; rfl)) ?_; (with_reducible refine (cmp_isNaN_int.calls a0 true _ A3.out).mono ?_); rintro e w' ⟨rfl, ⟨nd, rfl⟩⟩; refine ⟨_, rfl, ?_⟩) | ((with_reducible refine gate_callee (f := 143) rfl ?_); refine goesL_ (some 10) rfl rfl Tryd.func143 (by kernel_rfl) rfl #[.int .i64 a1] rfl (by (try simp only [List.map_toArray, List.map_cons, List.map_nil]); first | done | rfl | (simp only [List.length_drop, List.length_take]; rfl)) ?_; (with_reducible refine (cmp_isNaN_int.calls a1 true _ A4.out).mono ?_); rintro e w' ⟨rfl, ⟨nd, rfl⟩⟩; refine ⟨_, rfl, ?_⟩))
      go_ret
      exact ⟨by first | rfl | (simp; done) | (simp [*]; done), by repeat (first | exact Drawn0.refl _ | apply Drawn0.step)⟩
    · replace c6 := Bool.eq_false_iff.mpr c6
      subst c6
      have H1 : (some (-1)) = some r := by rw [if_neg (show ¬ (false = true) by decide)] at H; exact H
      clear H
      have H := H1
      clear H1
      obtain rfl := Option.some.inj H
      go_enter Tryd.func125, Tryd.ntmps125
      go_wp2_with (first | ((with_reducible refine gate_callee (f := 143) rfl ?_); refine goesL_ (some 8) rfl rfl Tryd.func143 (by kernel_rfl) rfl #[.int .i64 a0] rfl (by (try simp only [List.map_toArray, List.map_cons, List.map_nil]); first | done | rfl | (simp only [List.length_drop, List.length_take]; rfl)) ?_; (with_reducible refine (cmp_isNaN_int.calls a0 true _ A3.out).mono ?_); rintro e w' ⟨rfl, ⟨nd, rfl⟩⟩; refine ⟨_, rfl, ?_⟩) | ((with_reducible refine gate_callee (f := 143) rfl ?_); refine goesL_ (some 10) rfl rfl Tryd.func143 (by kernel_rfl) rfl #[.int .i64 a1] rfl (by (try simp only [List.map_toArray, List.map_cons, List.map_nil]); first | done | rfl | (simp only [List.length_drop, List.length_take]; rfl)) ?_; (with_reducible refine (cmp_isNaN_int.calls a1 false _ A4.out).mono ?_); rintro e w' ⟨rfl, ⟨nd, rfl⟩⟩; refine ⟨_, rfl, ?_⟩))
      go_ret
      exact ⟨by first | rfl | (simp; done) | (simp [*]; done), by repeat (first | exact Drawn0.refl _ | apply Drawn0.step)⟩
  · replace c5 := Bool.eq_false_iff.mpr c5
    subst c5
    have H1 : (if t348 = true then (some 1) else (if a0 < a1 then (some (-1)) else (if a0 > a1 then (some 1) else (some 0)))) = some r := by rw [if_neg (show ¬ (false = true) by decide)] at H; exact H
    clear H
    have H := H1
    clear H1
    by_cases c7 : t348 = true
    · subst c7
      have H1 : (some 1) = some r := by rw [if_pos rfl] at H; exact H
      clear H
      have H := H1
      clear H1
      obtain rfl := Option.some.inj H
      go_enter Tryd.func125, Tryd.ntmps125
      go_wp2_with (first | ((with_reducible refine gate_callee (f := 143) rfl ?_); refine goesL_ (some 8) rfl rfl Tryd.func143 (by kernel_rfl) rfl #[.int .i64 a0] rfl (by (try simp only [List.map_toArray, List.map_cons, List.map_nil]); first | done | rfl | (simp only [List.length_drop, List.length_take]; rfl)) ?_; (with_reducible refine (cmp_isNaN_int.calls a0 false _ A3.out).mono ?_); rintro e w' ⟨rfl, ⟨nd, rfl⟩⟩; refine ⟨_, rfl, ?_⟩) | ((with_reducible refine gate_callee (f := 143) rfl ?_); refine goesL_ (some 10) rfl rfl Tryd.func143 (by kernel_rfl) rfl #[.int .i64 a1] rfl (by (try simp only [List.map_toArray, List.map_cons, List.map_nil]); first | done | rfl | (simp only [List.length_drop, List.length_take]; rfl)) ?_; (with_reducible refine (cmp_isNaN_int.calls a1 true _ A4.out).mono ?_); rintro e w' ⟨rfl, ⟨nd, rfl⟩⟩; refine ⟨_, rfl, ?_⟩))
      go_ret
      exact ⟨by first | rfl | (simp; done) | (simp [*]; done), by repeat (first | exact Drawn0.refl _ | apply Drawn0.step)⟩
    · replace c7 := Bool.eq_false_iff.mpr c7
      subst c7
      have H1 : (if a0 < a1 then (some (-1)) else (if a0 > a1 then (some 1) else (some 0))) = some r := by rw [if_neg (show ¬ (false = true) by decide)] at H; exact H
      clear H
      have H := H1
      clear H1
      by_cases c8 : a0 < a1
      · rw [if_pos c8] at H
        have c8b0 : decide (a0 < a1) = true := decide_eq_true c8
        clear c8
        obtain rfl := Option.some.inj H
        go_enter Tryd.func125, Tryd.ntmps125
        go_wp2_with (first | ((with_reducible refine gate_callee (f := 143) rfl ?_); refine goesL_ (some 8) rfl rfl Tryd.func143 (by kernel_rfl) rfl #[.int .i64 a0] rfl (by (try simp only [List.map_toArray, List.map_cons, List.map_nil]); first | done | rfl | (simp only [List.length_drop, List.length_take]; rfl)) ?_; (with_reducible refine (cmp_isNaN_int.calls a0 false _ A3.out).mono ?_); rintro e w' ⟨rfl, ⟨nd, rfl⟩⟩; refine ⟨_, rfl, ?_⟩) | ((with_reducible refine gate_callee (f := 143) rfl ?_); refine goesL_ (some 10) rfl rfl Tryd.func143 (by kernel_rfl) rfl #[.int .i64 a1] rfl (by (try simp only [List.map_toArray, List.map_cons, List.map_nil]); first | done | rfl | (simp only [List.length_drop, List.length_take]; rfl)) ?_; (with_reducible refine (cmp_isNaN_int.calls a1 false _ A4.out).mono ?_); rintro e w' ⟨rfl, ⟨nd, rfl⟩⟩; refine ⟨_, rfl, ?_⟩))
        go_ret
        exact ⟨by first | rfl | (simp; done) | (simp [*]; done), by repeat (first | exact Drawn0.refl _ | apply Drawn0.step)⟩
      · rw [if_neg c8] at H
        have c8b0 : decide (a0 < a1) = false := decide_eq_false c8
        clear c8
        by_cases c9 : a0 > a1
        · rw [if_pos c9] at H
          have c9b0 : decide (a1 < a0) = true := decide_eq_true c9
          clear c9
          obtain rfl := Option.some.inj H
          go_enter Tryd.func125, Tryd.ntmps125
          go_wp2_with (first | ((with_reducible refine gate_callee (f := 143) rfl ?_); refine goesL_ (some 8) rfl rfl Tryd.func143 (by kernel_rfl) rfl #[.int .i64 a0] rfl (by (try simp only [List.map_toArray, List.map_cons, List.map_nil]); first | done | rfl | (simp only [List.length_drop, List.length_take]; rfl)) ?_; (with_reducible refine (cmp_isNaN_int.calls a0 false _ A3.out).mono ?_); rintro e w' ⟨rfl, ⟨nd, rfl⟩⟩; refine ⟨_, rfl, ?_⟩) | ((with_reducible refine gate_callee (f := 143) rfl ?_); refine goesL_ (some 10) rfl rfl Tryd.func143 (by kernel_rfl) rfl #[.int .i64 a1] rfl (by (try simp only [List.map_toArray, List.map_cons, List.map_nil]); first | done | rfl | (simp only [List.length_drop, List.length_take]; rfl)) ?_; (with_reducible refine (cmp_isNaN_int.calls a1 false _ A4.out).mono ?_); rintro e w' ⟨rfl, ⟨nd, rfl⟩⟩; refine ⟨_, rfl, ?_⟩))
          go_ret
          exact ⟨by first | rfl | (simp; done) | (simp [*]; done), by repeat (first | exact Drawn0.refl _ | apply Drawn0.step)⟩
        · rw [if_neg c9] at H
          have c9b0 : decide (a1 < a0) = false := decide_eq_false c9
          clear c9
          obtain rfl := Option.some.inj H
          go_enter Tryd.func125, Tryd.ntmps125
          go_wp2_with (first | ((with_reducible refine gate_callee (f := 143) rfl ?_); refine goesL_ (some 8) rfl rfl Tryd.func143 (by kernel_rfl) rfl #[.int .i64 a0] rfl (by (try simp only [List.map_toArray, List.map_cons, List.map_nil]); first | done | rfl | (simp only [List.length_drop, List.length_take]; rfl)) ?_; (with_reducible refine (cmp_isNaN_int.calls a0 false _ A3.out).mono ?_); rintro e w' ⟨rfl, ⟨nd, rfl⟩⟩; refine ⟨_, rfl, ?_⟩) | ((with_reducible refine gate_callee (f := 143) rfl ?_); refine goesL_ (some 10) rfl rfl Tryd.func143 (by kernel_rfl) rfl #[.int .i64 a1] rfl (by (try simp only [List.map_toArray, List.map_cons, List.map_nil]); first | done | rfl | (simp only [List.length_drop, List.length_take]; rfl)) ?_; (with_reducible refine (cmp_isNaN_int.calls a1 false _ A4.out).mono ?_); rintro e w' ⟨rfl, ⟨nd, rfl⟩⟩; refine ⟨_, rfl, ?_⟩))
          go_ret
          exact ⟨by first | rfl | (simp; done) | (simp [*]; done), by repeat (first | exact Drawn0.refl _ | apply Drawn0.step)⟩

end Go.Proofs.YtpmmfckgfbdboaaDoor.G
end

section
namespace Go.Proofs.YtpmmfckgfbdboaaDoor.G
open Go.RowKit Go.Proofs.YtpmmfckgfbdboaaDoorW.PrintWords Go.Proofs.YtpmmfckgfbdboaaDoorW.PrintLast Go.Proofs.YtpmmfckgfbdboaaDoorW.PrintMore
open Go.Shelf Go.Lib Go.Sort
set_option linter.unusedVariables false
set_option linter.unusedSimpArgs false
def orP (a b : Int) : Int := if a = 0 then b else a
theorem or_any (a b : Int) (g : Nat) (w : World) (h0 : w.cell? ⟨g, 0, none⟩ = some (.int .i64 a)) (h1 : w.cell? ⟨g, 1, none⟩ = some (.int .i64 b)) :
    Calls Tryd.prog 124 #[.slice (some ⟨g, 0, none⟩) 2 2] w fun e w' => e = .returned (.int .i64 (orP a b)) ∧ w' = w := by
  unfold orP
  go_enter Tryd.func124, Tryd.ntmps124
  go_wp2
  go_loopg [8] 3 (fun kq v8 w' => ∃ i : Nat, v8 = .int .i64 (i : Int) ∧ kq = 3 - i ∧ (i = 0 ∨ i = 1 ∧ a = 0 ∨ i = 2 ∧ a = 0 ∧ b = 0) ∧ w' = w)
  case atStart => exact ⟨0, rfl, rfl, .inl rfl, rfl⟩
  case round =>
    obtain ⟨i, rfl, hk, hi, rfl⟩ := hrel
    rcases hi with rfl | ⟨rfl, rfl⟩ | ⟨rfl, rfl, rfl⟩
    · by_cases ha : a = 0
      · subst ha
        go_wp2
        go_roundg 2
        case measure => omega
        case rel => exact ⟨1, rfl, rfl, by simp, rfl⟩
      · have hb : (a == 0) = false := beq_eq_false_iff_ne.mpr ha
        have hb2 : (a != 0) = true := bne_iff_ne.mpr ha
        go_wp2
        go_ret
        exact ⟨rfl, rfl⟩
    · by_cases ha : b = 0
      · subst ha
        go_wp2
        go_roundg 1
        case measure => omega
        case rel => exact ⟨2, rfl, rfl, by simp, rfl⟩
      · have hb : (b == 0) = false := beq_eq_false_iff_ne.mpr ha
        have hb2 : (b != 0) = true := bne_iff_ne.mpr ha
        go_wp2
        go_ret
        exact ⟨rfl, rfl⟩
    · go_wp2
      go_ret
      exact ⟨rfl, rfl⟩
theorem compare_any (a b : Int) (w : World) : Calls Tryd.prog 125 #[.int .i64 a, .int .i64 b] w fun e w' => e = .returned (.int .i64 (compareInt a b)) ∧ Drawn0 w w' := by
  refine cmp_Compare_int.calls a b _ w ?_
  unfold cmp_Compare_int.f cmp_isNaN_int.f compareInt
  simp
  split
  · rfl
  · split <;> rfl
def cfItem (x y : S95) : Int := orP (compareInt x.f0 y.f0) (compareInt x.f1 y.f1)
def encI (x : S95) : List Value := [.int .i64 x.f0, .int .i64 x.f1]
theorem grow_drew {W V : World} (h : ∃ q os', V = Sort.grow (W.drewN q) os') : ∃ q os', V.drew = Sort.grow (W.drewN q) os' := by
  obtain ⟨q, os, rfl⟩ := h
  exact ⟨q + 1, os, rfl⟩
theorem grow_drewN {W V : World} (h : ∃ q os', V = Sort.grow (W.drewN q) os') (n : Nat) : ∃ q os', V.drewN n = Sort.grow (W.drewN q) os' := by
  obtain ⟨q, os, rfl⟩ := h
  exact ⟨q + n, os, by rw [← World.drewN_drewN]; rfl⟩
theorem grow_alloc {W V : World} (h : ∃ q os', V = Sort.grow (W.drewN q) os') (o : Obj) : ∃ q os', V.alloc o = Sort.grow (W.drewN q) os' := by
  obtain ⟨q, os, rfl⟩ := h
  exact ⟨q, _, by rw [alloc_eq_grow, grow_grow]⟩
def reg123.T1 : Bool × List (List Nat × List Nat) := (true, [([], []), ([0], [0]), ([], []), ([2], [2]), ([1, 3], [1, 3]), ([], []), ([5], [5]), ([], []), ([7], [7]), ([6, 8, 4], [6, 8]), ([4, 9], [4, 9]), ([10, 9], [10]), ([11, 11, 0, 1, 2, 3, 4, 5, 6, 7, 8, 9, 10, 11], [11])])
def reg123.B1 : List Nat := [0, 1, 0, 4, 15, 0, 32, 0, 128, 511, 1023, 2047, 4095]
theorem reg123.tab1 : rtab .any (opsOf Tryd.f123 1) = reg123.T1 := by kernel_rfl
theorem reg123.bits1 : waitsOk reg123.T1.2 reg123.B1 = true := by kernel_rfl
set_option maxHeartbeats 2000000 in
set_option maxRecDepth 100000 in
theorem fn123 (x y : S95) (W : World) : Calls Tryd.prog 123 #[.agg #[.int .i64 x.f0, .int .i64 x.f1], .agg #[.int .i64 y.f0, .int .i64 y.f1]] W fun e w' => e = .returned (.int .i64 (cfItem x y)) ∧ ∃ q os', w' = Sort.grow (W.drewN q) os' := by
  have HC := Lib.hid compare_any
  have HO := Lib.hid or_any
  have HW := Lib.hid (show ∃ q os', (W.alloc (.cells #[.int .i64 x.f0, .int .i64 x.f1] 95)).alloc (.cells #[.int .i64 y.f0, .int .i64 y.f1] 95) = Sort.grow (W.drewN q) os' from ⟨0, _, by rw [alloc_eq_grow, alloc_eq_grow, grow_grow]; rfl⟩)
  have HX := Lib.hid (blk_alloc (blk_new W (.cells #[.int .i64 x.f0, .int .i64 x.f1] 95)) (.cells #[.int .i64 y.f0, .int .i64 y.f1] 95))
  have HY := Lib.hid (blk_new (W.alloc (.cells #[.int .i64 x.f0, .int .i64 x.f1] 95)) (.cells #[.int .i64 y.f0, .int .i64 y.f1] 95))
  rw [World.size_alloc] at HY
  unfold cfItem
  obtain ⟨x0, x1⟩ := x
  obtain ⟨y0, y1⟩ := y
  simp only at HW HX HY ⊢
  generalize hc0 : compareInt x0 y0 = r0
  generalize hc1 : compareInt x1 y1 = r1
  have hC0 := Lib.hid (HC.out x0 y0)
  have hC1 := Lib.hid (HC.out x1 y1)
  rw [hc0] at hC0
  rw [hc1] at hC1
  clear HC hc0 hc1
  go_enter Tryd.func123, Tryd.ntmps123
  go_wp2
  generalize (W.alloc (.cells #[.int .i64 x0, .int .i64 x1] 95)).alloc (.cells #[.int .i64 y0, .int .i64 y1] 95) = V at HW HX HY ⊢
  generalize hG : W.heap.size = G at HX HY ⊢
  have hx0 := (blk_cell HX.out 0).trans (show _ = some (Value.int .i64 x0) from rfl)
  have hx1 := (blk_cell HX.out 1).trans (show _ = some (Value.int .i64 x1) from rfl)
  have hy0 := (blk_cell HY.out 0).trans (show _ = some (Value.int .i64 y0) from rfl)
  have hy1 := (blk_cell HY.out 1).trans (show _ = some (Value.int .i64 y1) from rfl)
  refine start_ (n := 13) (S := fun w' => w'.cell? ⟨G, 0, none⟩ = some (.int .i64 x0) ∧ w'.cell? ⟨G, 1, none⟩ = some (.int .i64 x1) ∧ w'.cell? ⟨G + 1, 0, none⟩ = some (.int .i64 y0) ∧ w'.cell? ⟨G + 1, 1, none⟩ = some (.int .i64 y1)) (ds := []) #[false, false, false, false, false, false, false, false, false, false, false, false, false] (by kernel_rfl) rfl rfl ⟨hx0, hx1, hy0, hy1⟩ (fun hHeld => ?_); refine with_tabW reg123.tab1 reg123.bits1 (fun HT_ HW_ => ?_)
  clear hx0 hx1 hy0 hy1
  have HX2 := Lib.hid (blk_drew HX.out)
  have HY2 := Lib.hid (blk_drew HY.out)
  have HW2 : Hid (∃ q os', V.drew = Sort.grow (W.drewN q) os') := Lib.hid (grow_drew HW.out)
  clear HX HY HW
  generalize V.drew = V2 at hHeld HX2 HY2 HW2 ⊢
  refine pure_ (i := 0) (N := some 5) (v := ?_) (a' := ?_) #[true, false, false, false, false, false, false, false, false, false, false, false, false] rfl rfl (any_of HT_.out (by kernel_rfl)) (fun _ _ _ h => h) (Or.inl ⟨by rfl, ?_⟩) ?_ ?_
  rotate_left
  · intro w'
    go_simp
    with_reducible rfl
  rotate_left
  · simp only [Act.put, List.setIfInBounds_toArray, List.set_cons_zero, List.set_cons_succ, i64_w, i32_w]
    rfl
  refine pure_ (i := 2) (N := some 7) (v := ?_) (a' := ?_) #[true, false, true, false, false, false, false, false, false, false, false, false, false] rfl rfl (any_of HT_.out (by kernel_rfl)) (fun _ _ _ h => h) (Or.inl ⟨by rfl, ?_⟩) ?_ ?_
  rotate_left
  · intro w'
    go_simp
    with_reducible rfl
  rotate_left
  · simp only [Act.put, List.setIfInBounds_toArray, List.set_cons_zero, List.set_cons_succ, i64_w, i32_w]
    rfl
  refine pure_ (i := 5) (N := some 10) (v := ?_) (a' := ?_) #[true, false, true, false, false, true, false, false, false, false, false, false, false] rfl rfl (any_of HT_.out (by kernel_rfl)) (fun _ _ _ h => h) (Or.inl ⟨by rfl, ?_⟩) ?_ ?_
  rotate_left
  · intro w'
    go_simp
    with_reducible rfl
  rotate_left
  · simp only [Act.put, List.setIfInBounds_toArray, List.set_cons_zero, List.set_cons_succ, i64_w, i32_w]
    rfl
  refine pure_ (i := 7) (N := some 12) (v := ?_) (a' := ?_) #[true, false, true, false, false, true, false, true, false, false, false, false, false] rfl rfl (any_of HT_.out (by kernel_rfl)) (fun _ _ _ h => h) (Or.inl ⟨by rfl, ?_⟩) ?_ ?_
  rotate_left
  · intro w'
    go_simp
    with_reducible rfl
  rotate_left
  · simp only [Act.put, List.setIfInBounds_toArray, List.set_cons_zero, List.set_cons_succ, i64_w, i32_w]
    rfl
  refine take_ (i := 1) (N := some 6) (v := ?_) (a' := ?_) #[true, true, true, false, false, true, false, true, false, false, false, false, false] rfl rfl (take_ofW HT_.out HW_.out (by kernel_rfl)) (fun _ _ _ h => h) (Or.inl ⟨by rfl, ?_⟩) hHeld ?_ ?_
  rotate_left
  · rintro w' ⟨s0, s1, s2, s3⟩
    go_simp
    with_reducible rfl
  rotate_left
  · simp only [Act.put, List.setIfInBounds_toArray, List.set_cons_zero, List.set_cons_succ, i64_w, i32_w]
    rfl
  refine take_ (i := 3) (N := some 8) (v := ?_) (a' := ?_) #[true, true, true, true, false, true, false, true, false, false, false, false, false] rfl rfl (take_ofW HT_.out HW_.out (by kernel_rfl)) (fun _ _ _ h => h) (Or.inl ⟨by rfl, ?_⟩) hHeld ?_ ?_
  rotate_left
  · rintro w' ⟨s0, s1, s2, s3⟩
    go_simp
    with_reducible rfl
  rotate_left
  · simp only [Act.put, List.setIfInBounds_toArray, List.set_cons_zero, List.set_cons_succ, i64_w, i32_w]
    rfl
  refine take_ (i := 6) (N := some 11) (v := ?_) (a' := ?_) #[true, true, true, true, false, true, true, true, false, false, false, false, false] rfl rfl (take_ofW HT_.out HW_.out (by kernel_rfl)) (fun _ _ _ h => h) (Or.inl ⟨by rfl, ?_⟩) hHeld ?_ ?_
  rotate_left
  · rintro w' ⟨s0, s1, s2, s3⟩
    go_simp
    with_reducible rfl
  rotate_left
  · simp only [Act.put, List.setIfInBounds_toArray, List.set_cons_zero, List.set_cons_succ, i64_w, i32_w]
    rfl
  refine take_ (i := 8) (N := some 13) (v := ?_) (a' := ?_) #[true, true, true, true, false, true, true, true, true, false, false, false, false] rfl rfl (take_ofW HT_.out HW_.out (by kernel_rfl)) (fun _ _ _ h => h) (Or.inl ⟨by rfl, ?_⟩) hHeld ?_ ?_
  rotate_left
  · rintro w' ⟨s0, s1, s2, s3⟩
    go_simp
    with_reducible rfl
  rotate_left
  · simp only [Act.put, List.setIfInBounds_toArray, List.set_cons_zero, List.set_cons_succ, i64_w, i32_w]
    rfl
  refine one_ (i := 4) (N := some 9) #[true, true, true, true, true, true, true, true, true, false, false, false, false] rfl rfl (one_of HT_.out (by kernel_rfl)) (by decide) (fun K hK => ?_)
  refine goes_ Tryd.func125 (by kernel_rfl) rfl #[.int .i64 x0, .int .i64 y0] (by rfl) rfl rfl (by simp only [List.map_toArray, List.map_cons, List.map_nil]; rfl) ?_
  with_reducible refine (hC0.out _).mono ?_
  rintro e w3 ⟨rfl, ⟨q, rfl⟩⟩
  refine ⟨_, rfl, ?_⟩
  have HX3 := Lib.hid (blk_drewN HX2.out q)
  have HY3 := Lib.hid (blk_drewN HY2.out q)
  have HW3 := Lib.hid (grow_drewN HW2.out q)
  clear HX2 HY2 HW2
  generalize V2.drewN q = V3 at HX3 HY3 HW3 ⊢
  refine hK.out _ _ ⟨((blk_cell HX3.out 0).trans rfl), ((blk_cell HX3.out 1).trans rfl), ((blk_cell HY3.out 0).trans rfl), ((blk_cell HY3.out 1).trans rfl)⟩ (fun hHeld => ?_)
  clear hK K
  refine norm_ (a' := ?_) ?_ ?_
  rotate_left
  · show Act.put _ (some 9) _ = _
    simp only [Act.put, List.setIfInBounds_toArray, List.set_cons_zero, List.set_cons_succ, i64_w, i32_w]
    rfl
  refine one_ (i := 9) (N := some 14) #[true, true, true, true, true, true, true, true, true, true, false, false, false] rfl rfl (one_of HT_.out (by kernel_rfl)) (by decide) (fun K hK => ?_)
  refine goes_ Tryd.func125 (by kernel_rfl) rfl #[.int .i64 x1, .int .i64 y1] (by rfl) rfl rfl (by simp only [List.map_toArray, List.map_cons, List.map_nil]; rfl) ?_
  with_reducible refine (hC1.out _).mono ?_
  rintro e w3 ⟨rfl, ⟨q, rfl⟩⟩
  refine ⟨_, rfl, ?_⟩
  have HX4 := Lib.hid (blk_drewN HX3.out q)
  have HY4 := Lib.hid (blk_drewN HY3.out q)
  have HW4 := Lib.hid (grow_drewN HW3.out q)
  clear HX3 HY3 HW3
  generalize V3.drewN q = V4 at HX4 HY4 HW4 ⊢
  refine hK.out _ _ ⟨((blk_cell HX4.out 0).trans rfl), ((blk_cell HX4.out 1).trans rfl), ((blk_cell HY4.out 0).trans rfl), ((blk_cell HY4.out 1).trans rfl)⟩ (fun hHeld => ?_)
  clear hK K
  refine norm_ (a' := ?_) ?_ ?_
  rotate_left
  · show Act.put _ (some 14) _ = _
    simp only [Act.put, List.setIfInBounds_toArray, List.set_cons_zero, List.set_cons_succ, i64_w, i32_w]
    rfl
  refine one_ (i := 10) (N := some 15) #[true, true, true, true, true, true, true, true, true, true, true, false, false] rfl rfl (one_of HT_.out (by kernel_rfl)) (by decide) (fun K hK => ?_)
  refine value_ (w1 := ?_) (v := ?_) (by rfl) rfl ?_ ?_
  rotate_left 2
  · go_simp
    constructor
    · rfl
    · rfl
  have HX5 := Lib.hid (blk_alloc HX4.out (.cells #[.int .i64 r0, .int .i64 r1] 3))
  have HY5 := Lib.hid (blk_alloc HY4.out (.cells #[.int .i64 r0, .int .i64 r1] 3))
  have HW5 := Lib.hid (grow_alloc HW4.out (.cells #[.int .i64 r0, .int .i64 r1] 3))
  have HZ5 := Lib.hid (blk_new V4 (.cells #[.int .i64 r0, .int .i64 r1] 3))
  refine hK.out _ _ ⟨((blk_cell HX5.out 0).trans rfl), ((blk_cell HX5.out 1).trans rfl), ((blk_cell HY5.out 0).trans rfl), ((blk_cell HY5.out 1).trans rfl)⟩ (fun hHeld => ?_)
  clear hK K
  refine norm_ (a' := ?_) ?_ ?_
  rotate_left
  · show Act.put _ (some 15) _ = _
    simp only [Act.put, List.setIfInBounds_toArray, List.set_cons_zero, List.set_cons_succ, i64_w, i32_w]
    rfl
  refine one_ (i := 11) (N := some 16) #[true, true, true, true, true, true, true, true, true, true, true, true, false] rfl rfl (one_of HT_.out (by kernel_rfl)) (by decide) (fun K hK => ?_)
  refine goes_ Tryd.func124 (by kernel_rfl) rfl #[.slice (some ⟨V4.heap.size, 0, none⟩) 2 2] (by rfl) rfl rfl (by simp only [List.map_toArray, List.map_cons, List.map_nil]; rfl) ?_
  with_reducible refine (HO.out r0 r1 _ _ (blk_cell HZ5.out 0) (blk_cell HZ5.out 1)).mono ?_
  rintro e w3 ⟨rfl, rfl⟩
  refine ⟨_, rfl, ?_⟩
  refine hK.out _ _ ⟨((blk_cell HX5.out 0).trans rfl), ((blk_cell HX5.out 1).trans rfl), ((blk_cell HY5.out 0).trans rfl), ((blk_cell HY5.out 1).trans rfl)⟩ (fun hHeld => ?_)
  clear hK K
  refine norm_ (a' := ?_) ?_ ?_
  rotate_left
  · show Act.put _ (some 16) _ = _
    simp only [Act.put, List.setIfInBounds_toArray, List.set_cons_zero, List.set_cons_succ, i64_w, i32_w]
    rfl
  refine pure_ (i := 12) (N := some 4) (v := ?_) (a' := ?_) #[true, true, true, true, true, true, true, true, true, true, true, true, true] rfl rfl (any_of HT_.out (by kernel_rfl)) (fun _ _ _ h => h) (Or.inl ⟨by rfl, ?_⟩) ?_ ?_
  rotate_left
  · intro w'
    go_simp
    with_reducible rfl
  rotate_left
  · simp only [Act.put, List.setIfInBounds_toArray, List.set_cons_zero, List.set_cons_succ, i64_w, i32_w]
    rfl
  refine done_ (done_of HT_.out (by kernel_rfl)) ?_

  go_wp2
  go_ret
  exact ⟨rfl, HW5.out⟩
theorem encI_len (x : S95) : (encI x).length = 2 := rfl
theorem flat_get : ∀ (xs : List S95) (t : Nat), (xs.flatMap encI)[t]? = (xs[t / 2]?).bind fun x => (encI x)[t % 2]?
  | [], t => by simp
  | x :: xs, 0 => by simp [encI]
  | x :: xs, 1 => by simp [encI]
  | x :: xs, t + 2 => by
    rw [List.flatMap_cons, List.getElem?_append_right (by simp [encI]), encI_len]
    rw [show t + 2 - 2 = t by omega, flat_get xs t, show (t + 2) / 2 = t / 2 + 1 by omega, show (t + 2) % 2 = t % 2 by omega]
    simp
theorem flat_len : ∀ (xs : List S95), (xs.flatMap encI).length = xs.length * 2
  | [] => rfl
  | x :: xs => by rw [List.flatMap_cons, List.length_append, flat_len xs, encI_len, List.length_cons]; omega
instance : Inhabited S95 := ⟨z95⟩
theorem flatK_list (xs : List S95) : flatK encI 2 xs.toArray = (xs.flatMap encI).toArray := by
  refine ext_get! (by rw [size_flatK]; simp only [List.size_toArray, flat_len]) fun t ht => ?_
  have ht' : t < xs.length * 2 := by simpa using ht
  rw [get_flatK _ _ _ t (by simpa using ht')]
  have h2 : t / 2 < xs.length := by omega
  have := flat_get xs t
  rw [List.getElem?_eq_getElem h2] at this
  simp only [Option.bind_some] at this
  rw [getElem!_def, getElem!_def, getElem!_def]
  rw [List.getElem?_toArray, List.getElem?_toArray, this, List.getElem?_eq_getElem h2]
theorem reps_flat : ∀ (xs : List S95) (inner : List Value), inner.length = xs.length * 2 → (∀ j p, xs[j]? = some p → (inner.drop (j * 2)).take 2 = encI p) → inner = xs.flatMap encI
  | [], inner, h, _ => by simpa using h
  | x :: xs, inner, h, hr => by
    have h0 := hr 0 x rfl
    simp only [Nat.zero_mul, List.drop_zero] at h0
    have ih := reps_flat xs (inner.drop 2) (by simp at h ⊢; omega) (fun j p hj => by
      have := hr (j + 1) p (by simpa using hj)
      rw [List.drop_drop]
      rw [show 2 + j * 2 = (j + 1) * 2 by omega]
      exact this)
    rw [List.flatMap_cons, ← ih, ← h0, List.take_append_drop]
theorem flat_reps (xs : List S95) (j : Nat) (p : S95) (h : xs[j]? = some p) : ((xs.flatMap encI).drop (j * 2)).take 2 = encI p := by
  apply List.ext_getElem?
  intro i
  by_cases hi : i < 2
  · rw [List.getElem?_take_of_lt hi, List.getElem?_drop, flat_get, show (j * 2 + i) / 2 = j by omega, show (j * 2 + i) % 2 = i by omega, h]
    rfl
  · rw [List.getElem?_take_eq_none (by omega), List.getElem?_eq_none (by rw [encI_len]; omega)]
theorem take_putCells_id (cur F : Array Value) (h : F.size ≤ cur.size) : (putCells id 0 F cur).toList.take F.size = F.toList := by
  apply List.ext_getElem?
  intro j
  by_cases hj : j < F.size
  · rw [List.getElem?_take_of_lt hj, Array.getElem?_toList, Array.getElem?_toList]
    simp [putCells, hj, show j < cur.size by omega]
  · rw [List.getElem?_take_eq_none (by omega), List.getElem?_eq_none (by simp; omega)]
theorem heap_sorted_id {w : World} {g n : Nat} {os : Array Obj} {cur : Array Value} {e : TypeId} {fr : Nat × Nat} (F : Array Value) (hb : w.heap[g]? = some (.cells cur e fr)) :
    (grow (putRow id (Sort.ahead w n) g 0 F) os).heap[g]? = some (.cells (putCells id 0 F cur) e fr) := by
  have hg : g < w.heap.size := (Array.getElem?_eq_some_iff.1 hb).1
  rw [heap_grow_old _ _ (by simpa using hg)]
  simp [putRow, mapBlock, Sort.ahead, Array.getElem?_modify, hb, onCells]
theorem grownBy_sorted_id {w : World} {g n : Nat} {os : Array Obj} (F : Array Value) : w.grownBy (grow (putRow id (Sort.ahead w n) g 0 F) os) (some g) := by
  refine ⟨rfl, rfl, rfl, by simp, fun k hk hne => ?_⟩
  rw [heap_grow_old _ _ (by simpa using hk)]
  have : g ≠ k := fun e => hne (by rw [e])
  simp [putRow, mapBlock, Sort.ahead, Array.getElem?_modify, this]
def ltItem (x y : S95) : Bool := ltOf cfItem x y
theorem ltItem_iff (x y : S95) : ltItem x y = true ↔ x.f0 < y.f0 ∨ x.f0 = y.f0 ∧ x.f1 < y.f1 := by
  unfold ltItem ltOf cfItem orP compareInt
  by_cases h1 : x.f0 < y.f0
  · simp [h1]
  · by_cases h2 : y.f0 < x.f0
    · simp [h1, h2]; omega
    · have : x.f0 = y.f0 := by omega
      simp [this]
      by_cases h3 : x.f1 < y.f1
      · simp [h3]
      · by_cases h4 : y.f1 < x.f1
        · simp [h3, h4]
        · simp [h3, h4]
theorem swoItem : SWO (ltOf cfItem) where
  irrefl x := by
    have := ltItem_iff x x
    cases h : ltOf cfItem x x
    · rfl
    · have := this.1 h; omega
  trans x y z h1 h2 := by
    have a := (ltItem_iff x y).1 h1
    have b := (ltItem_iff y z).1 h2
    exact (ltItem_iff x z).2 (by omega)
  ntrans x y z h1 h2 := by
    have a : ¬ _ := fun h => by rw [(ltItem_iff x y).2 h |> (show ltItem x y = ltOf cfItem x y from rfl).symm.trans] at h1; cases h1
    have b : ¬ _ := fun h => by rw [(ltItem_iff y z).2 h |> (show ltItem y z = ltOf cfItem y z from rfl).symm.trans] at h2; cases h2
    cases h : ltOf cfItem x z
    · rfl
    · have := (ltItem_iff x z).1 h; omega
def sortI (xs : List S95) : List S95 := xs.mergeSort fun x y => !ltItem y x
theorem sort_R (v : Value) (xs : List S95) (w0 w : World) (ok : Nat → Prop) (hne : xs ≠ []) (HO : Kd.R k95 95 w w0.heap.size ok v xs) (HB : Below w0.heap.size w0 w) (hsz : xs.length < 4611686018427387904) :
    Calls Tryd.prog 122 #[v, .func (.func 123) #[] #[]] w fun e w' => e = .returned (.tuple #[]) ∧ Kd.R k95 95 w' w0.heap.size ok v (sortI xs) ∧ Below w0.heap.size w0 w' ∧ w.grownBy w' v.ownBlock := by
  obtain ⟨hok, inner, ⟨hil, hown⟩, hreps⟩ := HO
  rcases hown with ⟨_, hn⟩ | ⟨g, cap, cur, rfl, hg, hblk, hncap, hcap, hcs, htake⟩
  · exact absurd (List.length_eq_zero_iff.1 hn) hne
  have hsz2 : k95.sz = 2 := rfl
  rw [hsz2] at hcs htake hil
  have hinner : inner = xs.flatMap encI := reps_flat xs inner hil (fun j p hj => k95_openM (hreps.2 j p hj))
  have e123 : ∀ args w, (callFunc 123 args).run Tryd.prog w = .ok (.enter 123 args) w := enters_of Tryd.func123 (by kernel_rfl) rfl
  have hH : HoldsK encI 2 w g 0 xs.toArray := by
    intro j hj
    rw [flatK_list] at hj ⊢
    have hj' : j < (xs.flatMap encI).length := by simpa using hj
    have hj2 : j < xs.length * 2 := by rw [flat_len] at hj'; exact hj'
    refine ⟨?_, by rw [Nat.zero_add]; exact blk_frozen hblk j⟩
    rw [Nat.zero_add, blk_cell hblk j]
    have h1 : (cur.toList.take (xs.length * 2))[j]? = (xs.flatMap encI)[j]? := by rw [htake, hinner]
    rw [List.getElem?_take_of_lt hj2, Array.getElem?_toList] at h1
    rw [h1, List.getElem?_eq_getElem hj', getElem!_def, List.getElem?_toArray, List.getElem?_eq_getElem hj']
    rfl
  have hcon := AnyQ.slices_SortFunc_total (P := Tryd.prog) laysSF 2 Tryd.isAgg95 Tryd.sizeOf95 encI encI_len (fun x u hu => by simp [encI] at hu; rcases hu with rfl | rfl <;> rfl) cfItem swoItem 123 #[] g 0 cap xs.toArray w e123 (fun _ _ _ _ x y => fn123 x y _) hH (blk_lt hblk) (by simpa using hsz)
    (fun x y h1 h2 => by
      have a : ¬ _ := fun h => by have := (ltItem_iff x y).2 h; unfold ltItem at this; rw [h1] at this; cases this
      have b : ¬ _ := fun h => by have := (ltItem_iff y x).2 h; unfold ltItem at this; rw [h2] at this; cases this
      obtain ⟨x0, x1⟩ := x
      obtain ⟨y0, y1⟩ := y
      simp only [S95.mk.injEq]
      simp only at a b
      omega)
  have hcon2 : Calls Tryd.prog 122 #[.slice (some ⟨g, 0, none⟩) xs.length cap, .func (.func 123) #[] #[]] w _ := hcon
  refine hcon2.mono ?_
  rintro e w' ⟨rfl, n, os, rfl⟩
  have hsl : (sortI xs).length = xs.length := List.length_mergeSort _
  have hF : flatK encI 2 (xs.mergeSort fun x y => !ltItem y x).toArray = ((sortI xs).flatMap encI).toArray := flatK_list _
  unfold sortWorldK putRowK
  rw [show (xs.toArray.toList.mergeSort fun x y => !(ltOf cfItem) y x) = (xs.mergeSort fun x y => !ltItem y x) from rfl, hF]
  have hgb := grownBy_sorted_id (w := w) (g := g) (n := n) (os := os) ((sortI xs).flatMap encI).toArray
  refine ⟨rfl, ⟨hok, (sortI xs).flatMap encI, ⟨by rw [flat_len]; rfl, .inr ⟨g, cap, _, by rw [hsl], hg, heap_sorted_id _ hblk, by rw [hsl]; exact hncap, hcap, by rw [hsz2]; simpa [putCells] using hcs, ?_⟩⟩, flat_len _, fun j p hj => ?_⟩, ?_, hgb⟩
  · rw [hsz2]
    have := take_putCells_id cur ((sortI xs).flatMap encI).toArray (by simp only [List.size_toArray, flat_len]; rw [hcs, hsl]; omega)
    simp only [List.size_toArray, flat_len] at this
    exact this
  · have h1 : (((sortI xs).flatMap encI).drop (j * 2)).take 2 = encI p := flat_reps _ j p hj
    rw [hsz2, h1]
    exact k95_mkM _ _ _ p
  · exact ⟨hgb.os.trans HB.os, hgb.tape.trans HB.tape, hgb.output.trans HB.output, Nat.le_trans HB.size hgb.size, fun k hk => (hgb.block k (Nat.lt_of_lt_of_le hk HB.size) (fun h => by
      have : k = g := Option.some.inj h
      omega)).trans (HB.block k hk)⟩
end Go.Proofs.YtpmmfckgfbdboaaDoor.G
end

section
namespace Go.Proofs.YtpmmfckgfbdboaaDoor.G
open Go.RowKit Go.Proofs.YtpmmfckgfbdboaaDoorW.PrintWords Go.Proofs.YtpmmfckgfbdboaaDoorW.PrintLast Go.Proofs.YtpmmfckgfbdboaaDoorW.PrintMore
open Go.Shelf Go.Lib
set_option linter.unusedVariables false
set_option linter.unusedSimpArgs false
def emptyB (e : Nat) (s : List Int) : Bool := s.all (hasP e)
def notP (e : Nat) (x : Nat) : Bool := !hasP e ((x : Int) % 256)
theorem fn135 (e : Nat) (he : e < 2 ^ 62) (x : Nat) (ad : Addr) (W : World) (hc : W.cell? ad = some (.int .i64 e)) :
    Calls Tryd.prog 135 #[.int .i32 (x : Int), .pointer (some ad)] W fun r w' => r = .returned (.bool (notP e x)) ∧ ∃ q, w' = W.drewN q := by
  have hh := has_any e he ((x : Int) % 256)
  unfold notP
  generalize hasP e ((x : Int) % 256) = b at hh ⊢
  go_enter Tryd.func135, Tryd.ntmps135
  go_wp2_with (go_at_call 136; refine (hh _).mono ?_; rintro e w' ⟨rfl, rfl⟩)
  go_ret
  exact ⟨rfl, 0, rfl⟩
theorem letterB_ascii {c : Int} (h : letterB c = true) : 0 ≤ c ∧ c < 128 := by
  simp [letterB, isPartB, isWordB] at h; omega
theorem bt_nat (r : ByteArray) (k : Nat) (h : k < r.size) : bt r k = ((r[k]'h).toNat : Int) := by
  have hl : k < (bytesOf r).length := by rw [bytesOf_length]; exact h
  rw [← rd_bytesOf r k]
  simp [rd, List.getD_eq_getElem?_getD, bytesOf]
  have : r.data[k]? = some (r[k]'h) := by
    rw [Array.getElem?_eq_getElem (by simpa using h)]; rfl
  rw [this]; rfl
theorem idx_from (e : Nat) (r : ByteArray) (hl : ∀ c ∈ bytesOf r, letterB c = true) : ∀ (f pos : Nat), r.size ≤ pos + f → (idxFuncFrom (notP e) true r f pos < 0 ↔ emptyB e ((bytesOf r).drop pos) = true)
  | 0, pos, h => by
    rw [List.drop_of_length_le (by rw [bytesOf_length]; omega)]
    simp [idxFuncFrom, emptyB]
  | f + 1, pos, h => by
    by_cases hp : pos < r.size
    · have hd := drop_bytes r pos hp
      have hcl : letterB (bt r pos) = true := hl _ (List.mem_of_mem_drop (i := pos) (by rw [hd]; simp))
      obtain ⟨h0, h1⟩ := letterB_ascii hcl
      have hb := bt_nat r pos hp
      have hdec := decode_ascii r pos hp (by omega)
      have ih := idx_from e r hl f (pos + 1) (by omega)
      have hn : notP e ((r[pos]'hp).toNat) = !hasP e (bt r pos) := by
        unfold notP
        rw [hb, show (((r[pos]'hp).toNat : Int) % 256) = ((r[pos]'hp).toNat : Int) by omega]
      rw [hd]
      simp only [idxFuncFrom, hp, if_true, hdec, hn]
      cases hx : hasP e (bt r pos)
      · simp [emptyB, hx]
      · simp only [Bool.not_true, Bool.false_eq_true, if_false, ih]
        simp [emptyB, hx]
    · rw [idxFuncFrom_end _ _ _ _ _ hp, List.drop_of_length_le (by rw [bytesOf_length]; omega)]
      simp [emptyB]
theorem fn133 (r : ByteArray) (e : Nat) (he : e < 2 ^ 62) (hl : ∀ c ∈ bytesOf r, letterB c = true) (w : World) :
    Calls Tryd.prog 133 #[.string r, .int .i64 e] w fun x w' => x = .returned (.bool (emptyB e (bytesOf r))) ∧ Below w.heap.size w w' := by
  have e135 : ∀ args w, (callFunc 135 args).run Tryd.prog w = .ok (.enter 135 args) w := enters_of Tryd.func135 (by kernel_rfl) rfl
  have hi := idx_from e r hl r.size 0 (by omega)
  rw [List.drop_zero] at hi
  have hI : decide (idxFunc (notP e) true r < 0) = emptyB e (bytesOf r) := by
    cases hx : emptyB e (bytesOf r)
    · rw [hx] at hi
      exact decide_eq_false (fun h => by simpa using hi.1 h)
    · exact decide_eq_true (hi.2 hx)
  have HI := Lib.hid hI
  have hcon : ∀ (ad : Addr) (W : World), W.cell? ad = some (.int .i64 e) → Calls Tryd.prog 134 #[.string r, .func (.func 135) #[] #[.pointer (some ad)]] W fun e' w' => e' = .returned (.int .i64 (idxFunc (notP e) true r)) ∧ Below W.heap.size W w' := by
    intro ad W hc
    have := Any.strings_IndexFunc (P := Tryd.prog) laysIF 135 #[.pointer (some ad)] e135 (notP e) r W (fun W' x hb => by
      exact fn135 e he x ad W' ((hb.cell (World.block_lt_of_cell? W _ hc)).trans hc))
    exact this
  clear hi hI
  generalize idxFunc (notP e) true r = I at HI hcon
  go_enter Tryd.func133, Tryd.ntmps133
  go_wp2_with (go_at_call 134; refine (hcon _ _ ?hcell).mono ?_; rotate_left; rintro e w' ⟨rfl, hb⟩)
  case hcell => unfold World.cell?; simp only; rw [heap_alloc_new]; rfl
  go_ret
  exact ⟨by rw [HI.out]; rfl, below_step (below_alloc (Below.refl _ _) _) hb⟩
def growL : List (Int × List Int) → Nat → Bool → Nat × Bool
  | [], e, a => (e, a)
  | (l, s) :: g, e, a => if (!e.testBit (l - 65).toNat && emptyB e s) = true then growL g (e ||| 2 ^ (l - 65).toNat) true else growL g e a
def gr56 (l : List S56) : List (Int × List Int) := l.map fun r => (r.f0, bytesOf r.f1)
theorem and_bit (e k : Nat) (h : e < 2 ^ 62) (hk : k < 62) : (bits .and .i64 (e : Int) ((2 ^ k : Nat) : Int) == 0) = !e.testBit k := by
  rw [i64_and_nat _ _ h (Nat.pow_lt_pow_right (by decide) hk)]
  cases hb : e.testBit k
  · have : e &&& 2 ^ k = 0 := Nat.eq_of_testBit_eq (fun i => by
      rw [Nat.testBit_and, Nat.testBit_two_pow, Nat.zero_testBit]
      by_cases hi : k = i
      · subst hi; simp [hb]
      · simp [hi])
    rw [this]; rfl
  · have : e &&& 2 ^ k ≠ 0 := fun h0 => by
      have h1 : (e &&& 2 ^ k).testBit k = true := by rw [Nat.testBit_and, Nat.testBit_two_pow]; simp [hb]
      rw [h0] at h1; simp at h1
    simp
    omega
theorem drop_gr (l : List S56) (i : Int) (h0 : 0 ≤ i) (h1 : i < l.length) : (gr56 l).drop i.toNat = ((rd_T56 l i).f0, bytesOf (rd_T56 l i).f1) :: (gr56 l).drop (i + 1).toNat := by
  have hl : i.toNat < (gr56 l).length := by simp [gr56]; omega
  rw [List.drop_eq_getElem_cons hl, show (i + 1).toNat = i.toNat + 1 by omega]
  congr 1
  have h2 : i.toNat < l.length := by omega
  simp [gr56, rd_T56, List.getD_eq_getElem?_getD, h2]
theorem growL_le : ∀ (g : List (Int × List Int)) (e : Nat) (a : Bool), (∀ r ∈ g, isPartB r.1 = true) → e < 32 → e ≤ (growL g e a).1 ∧ (growL g e a).1 < 32 ∧ (a = false → (growL g e a).2 = true → e < (growL g e a).1) ∧ ((growL g e a).2 = false → (growL g e a).1 = e)
  | [], e, a, _, he => by simp [growL, he]
  | (l, s) :: g, e, a, hg, he => by
    have hp := isPartB_cases (hg (l, s) (by simp))
    by_cases hc : (!e.testBit (l - 65).toNat && emptyB e s) = true
    · have hk : (l - 65).toNat < 5 := by omega
      have h2 : e ||| 2 ^ (l - 65).toNat < 32 := Nat.or_lt_two_pow (n := 5) he (Nat.pow_lt_pow_right (by decide) hk)
      have h3 : e < e ||| 2 ^ (l - 65).toNat := by
        rcases Nat.lt_or_eq_of_le (Nat.left_le_or (n := e) (m := 2 ^ (l - 65).toNat)) with h | h
        · exact h
        · exfalso
          have : (e ||| 2 ^ (l - 65).toNat).testBit (l - 65).toNat = true := by simp [Nat.testBit_two_pow_self]
          rw [← h] at this
          simp [this] at hc
      obtain ⟨a1, a2, a3, a4⟩ := growL_le g (e ||| 2 ^ (l - 65).toNat) true (fun r hr => hg r (by simp [hr])) h2
      simp only [growL, hc, if_true]
      refine ⟨by omega, a2, fun _ _ => by omega, fun h => ?_⟩
      have a5 : ∀ (g : List (Int × List Int)) (e : Nat), (growL g e true).2 = true := by
        intro g
        induction g with
        | nil => simp [growL]
        | cons x g ih => intro e; obtain ⟨l, s⟩ := x; simp only [growL]; split <;> exact ih _
      rw [a5] at h; cases h
    · have := growL_le g e a (fun r hr => hg r (by simp [hr])) he
      simp only [growL, hc]
      exact this
def growN (g : List (Int × List Int)) : Nat → Nat → Nat
  | 0, e => e
  | n + 1, e => growN g n (growL g e false).1
theorem growN_fix (g : List (Int × List Int)) (e : Nat) (h : (growL g e false).1 = e) : ∀ n, growN g n e = e
  | 0 => rfl
  | n + 1 => by simp only [growN, h]; exact growN_fix g e h n
def emptyP (g : List (Int × List Int)) : Nat := growN g 33 0

def okG (g : List (Int × List Int)) : Prop := g.length ≤ 8 ∧ ∀ r ∈ g, isPartB r.1 = true ∧ r.2.length ≤ 4 ∧ ∀ c ∈ r.2, letterB c = true
theorem okG_at {l : List S56} (h : okG (gr56 l)) (i : Int) (h0 : 0 ≤ i) (h1 : i < l.length) : isPartB (rd_T56 l i).f0 = true ∧ (rd_T56 l i).f1.size ≤ 4 ∧ ∀ c ∈ bytesOf (rd_T56 l i).f1, letterB c = true := by
  have hd := drop_gr l i h0 h1
  have := h.2 ((rd_T56 l i).f0, bytesOf (rd_T56 l i).f1) (List.mem_of_mem_drop (i := i.toNat) (by rw [hd]; simp))
  rw [← bytesOf_length (rd_T56 l i).f1]
  exact this
theorem wrap64_succ {i : Int} {n : Nat} (h0 : 0 ≤ i) (h1 : i < n ∧ n < 2 ^ 62) : wrap64 (i + 1) = i + 1 := by
  unfold wrap64; omega
set_option maxHeartbeats 2000000 in
theorem grown_any (l : List S56) (A : Option Addr) (c0 : Nat) (w : World) (hr0 : Kd.C k56 w A l.length l) (hc0 : l.length ≤ c0) (hg : okG (gr56 l)) :
    Calls Tryd.prog 132 #[.slice A l.length c0, .func (.func 133) #[] #[]] w fun x w' => x = .returned (.int .i64 (emptyP (gr56 l))) ∧ Below w.heap.size w w' := by
  have e133 : ∀ args w, (callFunc 133 args).run Tryd.prog w = .ok (.enter 133 args) w := enters_of Tryd.func133 (by kernel_rfl) rfl
  have HR0 := Lib.hid hr0
  have HG := Lib.hid hg
  have hlen := Lib.hid (show l.length < 2 ^ 62 by have := hg.1; simp [gr56] at this; omega)
  have HBB := Lib.hid (Below.refl w.heap.size w)
  clear hr0 hg
  go_enter Tryd.func132, Tryd.ntmps132
  go_wp2
  go_loopg [5, 6] 65 (fun kq v5 v6 w' => ∃ (e n : Nat) (a : Bool), v5 = .int .i64 e ∧ v6 = .bool a ∧ Hid (e < 32) ∧ Hid (a = true → 33 ≤ n + e ∧ n ≤ 33) ∧ Hid ((a = true ∨ growL (gr56 l) e false = (e, false)) ∧ growN (gr56 l) n e = emptyP (gr56 l)) ∧ kq = 2 * (32 - e) + a.toNat ∧ Hid (Below w.heap.size w w'))
  case atStart => exact ⟨0, 33, true, rfl, rfl, Lib.hid (by decide), Lib.hid (by decide), Lib.hid ⟨.inl rfl, rfl⟩, by decide, HBB⟩
  case round =>
    obtain ⟨e, n, a, rfl, rfl, HE, HN, HF, HK, HB⟩ := hrel
    cases a
    · go_wp2
      go_ret
      refine ⟨?_, HB.out⟩
      have := HF.out
      simp at this
      rw [growN_fix _ _ (by rw [this.1])] at this
      rw [this.2]
      rfl
    · have hne := growL_le (gr56 l) e false (fun r hr => (HG.out.2 r hr).1) HE.out
      have HNE := Lib.hid hne
      clear hne
      go_wp2
      go_loopg [5, 6, 13] l.length (fun kq v5 v6 v13 w' => ∃ (i : Int) (e' : Nat) (a' : Bool), v5 = .int .i64 e' ∧ v6 = .bool a' ∧ v13 = .int .i64 i ∧ 0 ≤ i ∧ i ≤ l.length ∧ kq = l.length - i.toNat ∧ Hid (e' < 32) ∧ Hid (growL ((gr56 l).drop i.toNat) e' a' = growL (gr56 l) e false) ∧ Hid (Below w.heap.size w w'))
      case atStart => exact ⟨0, e, false, rfl, rfl, rfl, by omega, by omega, by simp, HE, Lib.hid (by simp), HB⟩
      case round =>
        obtain ⟨i, e', a', rfl, rfl, rfl, hi0, hi1, hkq, HE2, HGL, HB2⟩ := hrel
        by_cases hlt : i < l.length
        · have hd := drop_gr l i hi0 hlt
          obtain ⟨hp, hs, hl⟩ := okG_at HG.out i hi0 hlt
          obtain ⟨ad, eA, hx0, hx1⟩ := at_T56 HR0.out i hi0 hlt
          cases eA
          replace hx0 := (HB2.out.cell (World.block_lt_of_cell? w _ hx0)).trans hx0
          replace hx1 := (HB2.out.cell (World.block_lt_of_cell? w _ hx1)).trans hx1
          have hR := HGL.out
          rw [hd] at hR
          clear hd HGL
          generalize rd_T56 l i = r at *
          obtain ⟨c, s⟩ := r
          simp only [growL] at hR
          have HR := Lib.hid hR
          clear hR
          have c133 := fun W => fn133 s e' (by have := HE2.out; omega) hl W
          have HC := Lib.hid c133
          have HS := Lib.hid hs
          have HL := Lib.hid hl
          clear c133 hs hl
          have hp0 : 0 ≤ i := hi0
          have hE62 : e' < 2 ^ 62 := by have := HE2.out; omega
          have HE62 := Lib.hid hE62
          clear hE62
          cases hb : e'.testBit (c - 65).toNat
          · cases hm : emptyB e' (bytesOf s)
            · rw [hb, hm] at HR
              rw [hm] at HC
              have HR2 := HR.out
              simp only [Bool.not_false, Bool.and_false, Bool.false_eq_true, if_false] at HR2
              have HR3 := Lib.hid HR2
              clear HR HR2 hm
              rcases isPartB_cases hp with h | h | h | h | h <;> simp only at h <;> subst h
              all_goals
                try have ha : (bits .and .i64 (e' : Int) 1 == 0) = true := (and_bit e' 0 HE62.out (by decide)).trans (by simpa using hb)
                try have ha : (bits .and .i64 (e' : Int) 2 == 0) = true := (and_bit e' 1 HE62.out (by decide)).trans (by simpa using hb)
                try have ha : (bits .and .i64 (e' : Int) 4 == 0) = true := (and_bit e' 2 HE62.out (by decide)).trans (by simpa using hb)
                try have ha : (bits .and .i64 (e' : Int) 8 == 0) = true := (and_bit e' 3 HE62.out (by decide)).trans (by simpa using hb)
                try have ha : (bits .and .i64 (e' : Int) 16 == 0) = true := (and_bit e' 4 HE62.out (by decide)).trans (by simpa using hb)
                clear hb
                go_wp2_with (go_at_fn 133; refine (HC.out _).mono ?_; rintro e w' ⟨rfl, hbw⟩)
                go_roundg (l.length - (i + 1).toNat)
                case measure => omega
                case rel => exact ⟨i + 1, e', a', rfl, rfl, by rw [wrap64_succ (n := l.length) hi0 ⟨hlt, hlen.out⟩], by omega, by omega, rfl, HE2, HR3, Lib.hid (below_step (below_alloc HB2.out _) hbw)⟩
            · rw [hb, hm] at HR
              rw [hm] at HC
              have HR2 := HR.out
              simp only [Bool.not_false, Bool.and_true, if_true] at HR2
              have HR3 := Lib.hid HR2
              clear HR HR2 hm
              rcases isPartB_cases hp with h | h | h | h | h <;> simp only at h <;> subst h
              all_goals
                try have ha : (bits .and .i64 (e' : Int) 1 == 0) = true := (and_bit e' 0 HE62.out (by decide)).trans (by simpa using hb)
                try have ha : (bits .and .i64 (e' : Int) 2 == 0) = true := (and_bit e' 1 HE62.out (by decide)).trans (by simpa using hb)
                try have ha : (bits .and .i64 (e' : Int) 4 == 0) = true := (and_bit e' 2 HE62.out (by decide)).trans (by simpa using hb)
                try have ha : (bits .and .i64 (e' : Int) 8 == 0) = true := (and_bit e' 3 HE62.out (by decide)).trans (by simpa using hb)
                try have ha : (bits .and .i64 (e' : Int) 16 == 0) = true := (and_bit e' 4 HE62.out (by decide)).trans (by simpa using hb)
                clear hb
                have ho0 : bits .or .i64 (e' : Int) 1 = ((e' ||| 1 : Nat) : Int) := i64_or_nat e' 1 HE62.out (by decide)
                have ho1 : bits .or .i64 (e' : Int) 2 = ((e' ||| 2 : Nat) : Int) := i64_or_nat e' 2 HE62.out (by decide)
                have ho2 : bits .or .i64 (e' : Int) 4 = ((e' ||| 4 : Nat) : Int) := i64_or_nat e' 4 HE62.out (by decide)
                have ho3 : bits .or .i64 (e' : Int) 8 = ((e' ||| 8 : Nat) : Int) := i64_or_nat e' 8 HE62.out (by decide)
                have ho4 : bits .or .i64 (e' : Int) 16 = ((e' ||| 16 : Nat) : Int) := i64_or_nat e' 16 HE62.out (by decide)
                go_wp2_with (go_at_fn 133; refine (HC.out _).mono ?_; rintro e w' ⟨rfl, hbw⟩)
                go_roundg (l.length - (i + 1).toNat)
                case measure => omega
                case rel => exact ⟨i + 1, _, true, rfl, rfl, by rw [wrap64_succ (n := l.length) hi0 ⟨hlt, hlen.out⟩], by omega, by omega, rfl, Lib.hid (Nat.or_lt_two_pow (n := 5) HE2.out (by decide)), Lib.hid (by simpa using HR3.out), Lib.hid (below_step (below_alloc HB2.out _) hbw)⟩
          · rw [hb] at HR
            have HR2 := HR.out
            simp only [Bool.not_true, Bool.false_and, Bool.false_eq_true, if_false] at HR2
            have HR3 := Lib.hid HR2
            clear HR HR2
            rcases isPartB_cases hp with h | h | h | h | h <;> simp only at h <;> subst h
            all_goals
              try have ha : (bits .and .i64 (e' : Int) 1 == 0) = false := (and_bit e' 0 HE62.out (by decide)).trans (by simpa using hb)
              try have ha : (bits .and .i64 (e' : Int) 2 == 0) = false := (and_bit e' 1 HE62.out (by decide)).trans (by simpa using hb)
              try have ha : (bits .and .i64 (e' : Int) 4 == 0) = false := (and_bit e' 2 HE62.out (by decide)).trans (by simpa using hb)
              try have ha : (bits .and .i64 (e' : Int) 8 == 0) = false := (and_bit e' 3 HE62.out (by decide)).trans (by simpa using hb)
              try have ha : (bits .and .i64 (e' : Int) 16 == 0) = false := (and_bit e' 4 HE62.out (by decide)).trans (by simpa using hb)
              clear hb
              go_wp2
              go_roundg (l.length - (i + 1).toNat)
              case measure => omega
              case rel => exact ⟨i + 1, e', a', rfl, rfl, by rw [wrap64_succ (n := l.length) hi0 ⟨hlt, hlen.out⟩], by omega, by omega, rfl, HE2, HR3, Lib.hid (below_alloc HB2.out _)⟩
        · have hi : i.toNat = l.length := by omega
          have hR := HGL.out
          rw [hi, List.drop_of_length_le (by simp [gr56])] at hR
          simp only [growL] at hR
          have hn := HN.out (by trivial)
          have he := HE.out
          have he2 := HE2.out
          obtain ⟨n', rfl⟩ : ∃ n', n = n' + 1 := ⟨n - 1, by omega⟩
          have hf := HF.out.2
          simp only [growN] at hf
          have hne := HNE.out
          rw [← hR] at hf hne
          have hN' : (33 ≤ n' + e' ∧ n' ≤ 33) ∨ a' = false := by
            cases a'
            · exact .inr rfl
            · left; have := hne.2.2.1 trivial rfl; simp only at this; omega
          have he3 : e ≤ e' := hne.1
          have hfix : a' = false → e' = e := fun h => by subst h; exact hne.2.2.2 rfl
          have H1 := Lib.hid hR
          have H2 := Lib.hid (And.intro hf (And.intro hN' (And.intro he3 hfix)))
          clear hR hf hne hN' he3 hfix hn he he2 hi
          go_wp2
          go_roundg (2 * (32 - e') + a'.toNat)
          case measure =>
            obtain ⟨hf, hN', he3, hfix⟩ := H2.out
            cases a'
            · have := hfix rfl; subst this; simp
            · have h1 : e < e' := by
                have hne := HNE.out
                rw [← H1.out] at hne
                exact hne.2.2.1 trivial rfl
              have := HE2.out
              simp
              omega
          case rel =>
            obtain ⟨hf, hN', he3, hfix⟩ := H2.out
            refine ⟨e', n', a', rfl, rfl, HE2, ?_, ?_, rfl, HB2⟩
            · exact Lib.hid (fun h => hN'.resolve_right (by rw [h]; decide))
            · refine Lib.hid ⟨?_, hf⟩
              cases a'
              · right
                have := hfix rfl
                subst this
                exact H1.out.symm
              · exact .inl rfl
set_option maxHeartbeats 2000000 in
theorem empty_any (l : List S56) (A : Option Addr) (c0 : Nat) (w : World) (hr0 : Kd.C k56 w A l.length l) (hc0 : l.length ≤ c0) (hg : okG (gr56 l)) :
    Calls Tryd.prog 110 #[.slice A l.length c0] w fun x w' => x = .returned (.int .i64 (emptyP (gr56 l))) ∧ Below w.heap.size w w' := by
  have hcon := fun W => grown_any l A c0 W
  have HC := Lib.hid (hcon w hr0 hc0 hg)
  clear hcon hr0 hg
  generalize emptyP (gr56 l) = E at HC ⊢
  go_enter Tryd.func110, Tryd.ntmps110
  go_wp2_with (go_at_call 132; refine HC.out.mono ?_; rintro e w' ⟨rfl, hbw⟩)
  go_ret
  exact ⟨rfl, hbw⟩
end Go.Proofs.YtpmmfckgfbdboaaDoor.G
end

section
namespace Go.Proofs.YtpmmfckgfbdboaaDoor.G
open Go.RowKit Go.Proofs.YtpmmfckgfbdboaaDoorW.PrintWords Go.Proofs.YtpmmfckgfbdboaaDoorW.PrintLast Go.Proofs.YtpmmfckgfbdboaaDoorW.PrintMore
open Go.Shelf Go.Lib
set_option linter.unusedVariables false
set_option linter.unusedSimpArgs false
def arr (s : List Nat) : Array Value := (s.map fun n : Nat => Value.int .i64 (n : Int)).toArray
theorem arr_get (s : List Nat) (j : Nat) (h : j < s.length) : (arr s)[j]? = some (.int .i64 ((s.getD j 0 : Nat) : Int)) := by
  simp [arr, List.getD_eq_getElem?_getD, h]
theorem arr_set (s : List Nat) (j v : Nat) : (arr s).setIfInBounds j (.int .i64 (v : Int)) = arr (s.set j v) := by
  simp [arr, List.map_set]
theorem ex5 {s : List Nat} (h : s.length = 5) : ∃ s0 s1 s2 s3 s4, s = [s0, s1, s2, s3, s4] := by
  match s, h with
  | [a, b, c, d, e], _ => exact ⟨a, b, c, d, e, rfl⟩
def firstRow (E : Nat) (s : List Nat) (r : Int × List Int) : List Nat := s.set (r.1 - 65).toNat (s.getD (r.1 - 65).toNat 0 ||| (beginsP s E r.2 0).1)
def firstL (E : Nat) (g : List (Int × List Int)) (s : List Nat) : List Nat := g.foldl (firstRow E) s
def iterN (f : List Nat → List Nat) : Nat → List Nat → List Nat
  | 0, s => s
  | n + 1, s => iterN f n (f s)
def firstP (g : List (Int × List Int)) : List Nat := iterN (firstL (emptyP g) g) 25 [0, 0, 0, 0, 0]
def small (s : List Nat) : Prop := s.length = 5 ∧ ∀ x ∈ s, x < 32
theorem small_at {s : List Nat} (h : small s) (j : Nat) : s.getD j 0 < 32 := by
  rw [List.getD_eq_getElem?_getD]
  by_cases hj : j < s.length
  · simp [hj]; exact h.2 _ (List.getElem_mem hj)
  · simp [Nat.not_lt.1 hj]
theorem small_set {s : List Nat} (h : small s) (j v : Nat) (hv : v < 32) : small (s.set j v) :=
  ⟨by simp [h.1], fun x hx => by rcases List.mem_or_eq_of_mem_set hx with h1 | h1; exact h.2 x h1; omega⟩
theorem beginsP_lt {s : List Nat} (h : small s) (E : Nat) : ∀ (t : List Int) (x : Nat), (∀ c ∈ t, letterB c = true) → x < 32 → (beginsP s E t x).1 < 32
  | [], x, _, hx => hx
  | c :: cs, x, hl, hx => by
    have h1 : x ||| s.getD (c - 65).toNat 0 < 32 := Nat.or_lt_two_pow (n := 5) hx (small_at h _)
    simp only [beginsP]
    split
    · split
      · exact beginsP_lt h E cs _ (fun c hc => hl c (by simp [hc])) h1
      · exact h1
    · rename_i hp
      have : isWordB c = true := by
        have := hl c (by simp)
        simp [letterB] at this
        rcases this with h | h
        · exact absurd h hp
        · exact h
      have := isWordB_cases this
      exact Nat.or_lt_two_pow (n := 5) hx (Nat.pow_lt_pow_right (by decide) (by omega))
theorem part_idx {c : Int} (h : isPartB c = true) : (c - 65) % 256 = (((c - 65).toNat : Nat) : Int) ∧ (c - 65).toNat < 5 := by
  rw [isPartB_iff] at h; omega
theorem growN_lt (g : List (Int × List Int)) (hg : ∀ r ∈ g, isPartB r.1 = true) : ∀ (n e : Nat), e < 32 → growN g n e < 32
  | 0, e, h => h
  | n + 1, e, h => growN_lt g hg n _ (growL_le g e false hg h).2.1
theorem emptyP_lt (g : List (Int × List Int)) (hg : ∀ r ∈ g, isPartB r.1 = true) : emptyP g < 32 := growN_lt g hg 33 0 (by decide)
set_option maxHeartbeats 2000000 in
theorem first_any (l : List S56) (A : Option Addr) (c0 : Nat) (w : World) (hr0 : Kd.C k56 w A l.length l) (hc0 : l.length ≤ c0) (hg : okG (gr56 l)) :
    Calls Tryd.prog 82 #[.slice A l.length c0] w fun x w' => x = .returned (.agg (arr (firstP (gr56 l)))) ∧ Below w.heap.size w w' := by
  have HR0 := Lib.hid hr0
  have HG := Lib.hid hg
  have hlen := Lib.hid (show l.length < 2 ^ 62 by have := hg.1; simp [gr56] at this; omega)
  have hE := fun W => empty_any l A c0 W
  have HE0 : Hid (∀ W, Below w.heap.size w W → Calls Tryd.prog 110 #[.slice A l.length c0] W fun x w' => x = .returned (.int .i64 (emptyP (gr56 l))) ∧ Below W.heap.size W w') :=
    Lib.hid fun W hb => hE W (Kd.C_below hr0 hb) hc0 hg
  clear hE hr0 hg
  go_enter Tryd.func82, Tryd.ntmps82
  go_wp2_with (go_at_call 110; refine (HE0.out _ (below_alloc (below_alloc (Below.refl _ _) _) _)).mono ?_; rintro e w1 ⟨rfl, hbw⟩)
  have HB1 : Hid (Below w.heap.size w w1) := Lib.hid (below_step (below_alloc (below_alloc (Below.refl _ _) _) _) hbw)
  have HZ : Hid (w1.heap[w.heap.size]? = some (.cells (arr [0, 0, 0, 0, 0]) 85 (0, 0))) := Lib.hid (blk_below (blk_alloc (blk_new w _) _) hbw)
  have HA : Hid (w1.heap[w.heap.size + 1]? = some (.cells (arr [0, 0, 0, 0, 0]) 85 (0, 0))) := Lib.hid (blk_below (by have := blk_new (w.alloc (.cells (arr [0, 0, 0, 0, 0]) 85)) (.cells (arr [0, 0, 0, 0, 0]) 85); rw [World.size_alloc] at this; exact this) hbw)
  clear hbw
  have hE32 : emptyP (gr56 l) < 2 ^ 62 := by
    have := emptyP_lt (gr56 l) (fun r hr => (HG.out.2 r hr).1)
    omega
  have HEE := Lib.hid hE32
  clear hE32
  generalize hEE : emptyP (gr56 l) = E at HEE
  go_loopg [11] 25 (fun kq v11 w' => ∃ (i : Int) (s : List Nat), v11 = .int .i64 i ∧ 0 ≤ i ∧ i ≤ 25 ∧ kq = 25 - i.toNat ∧ Hid (small s) ∧ Hid (w'.heap[w.heap.size + 1]? = some (.cells (arr s) 85 (0, 0))) ∧ Hid (w'.heap[w.heap.size]? = some (.cells (arr [0, 0, 0, 0, 0]) 85 (0, 0))) ∧ Hid (iterN (firstL (emptyP (gr56 l)) (gr56 l)) kq s = firstP (gr56 l)) ∧ Hid (Below w.heap.size w w'))
  case atStart => exact ⟨0, [0, 0, 0, 0, 0], rfl, by decide, by decide, rfl, Lib.hid ⟨rfl, by decide⟩, HA, HZ, Lib.hid rfl, HB1⟩
  case round =>
    obtain ⟨i, s, rfl, hi0, hi1, hkq, HS, HA, HZ, HI, HB⟩ := hrel
    by_cases hlt : i < 25
    · have hI := HI.out
      rw [show gk = (25 - (i + 1).toNat) + 1 by omega] at hI
      have HI' := Lib.hid hI
      clear hI
      go_wp2
      go_loopg [15] l.length (fun kq v15 w' => ∃ (j : Int) (s' : List Nat), v15 = .int .i64 j ∧ 0 ≤ j ∧ j ≤ l.length ∧ kq = l.length - j.toNat ∧ Hid (small s') ∧ Hid (w'.heap[w.heap.size + 1]? = some (.cells (arr s') 85 (0, 0))) ∧ Hid (w'.heap[w.heap.size]? = some (.cells (arr [0, 0, 0, 0, 0]) 85 (0, 0))) ∧ Hid (firstL (emptyP (gr56 l)) ((gr56 l).drop j.toNat) s' = firstL (emptyP (gr56 l)) (gr56 l) s) ∧ Hid (Below w.heap.size w w'))
      case atStart => exact ⟨0, s, rfl, by omega, by omega, by simp, HS, HA, HZ, Lib.hid (by simp), HB⟩
      case round =>
        obtain ⟨j, s', rfl, hj0, hj1, hkq2, HS2, HA2, HZ2, HI2, HB2⟩ := hrel
        by_cases hltj : j < l.length
        · have hd := drop_gr l j hj0 hltj
          obtain ⟨hp, hs, hl⟩ := okG_at HG.out j hj0 hltj
          obtain ⟨ad, eA, hx0, hx1⟩ := at_T56 HR0.out j hj0 hltj
          cases eA
          replace hx0 := (HB2.out.cell (World.block_lt_of_cell? w _ hx0)).trans hx0
          replace hx1 := (HB2.out.cell (World.block_lt_of_cell? w _ hx1)).trans hx1
          have hR := HI2.out
          rw [hd] at hR
          clear hd HI2
          generalize rd_T56 l j = r at *
          obtain ⟨c, q⟩ := r
          simp only [firstL, List.foldl_cons, firstRow] at hR
          rw [hEE] at hR
          have HR := Lib.hid hR
          clear hR
          simp only at hp hs hl hx0 hx1
          have hlt32 := beginsP_lt HS2.out E (bytesOf q) 0 hl (by decide)
          obtain ⟨s0, s1, s2, s3, s4, rfl⟩ := ex5 HS2.out.1
          have hsm : ∀ x ∈ [s0, s1, s2, s3, s4], x < 2 ^ 62 := fun x hx => by have := HS2.out.2 x hx; omega
          obtain ⟨res, hres⟩ : ∃ res, beginsP [s0, s1, s2, s3, s4] E (bytesOf q) 0 = res := ⟨_, rfl⟩
          have HCB : Hid (∀ W, Calls Tryd.prog 111 #[.agg #[.int .i64 s0, .int .i64 s1, .int .i64 s2, .int .i64 s3, .int .i64 s4], .string q, .int .i64 E] W
            fun x w' => x = .returned (.tuple #[.int .i64 res.1, .bool res.2]) ∧ Below W.heap.size W w') := Lib.hid fun W => begins_any s0 s1 s2 s3 s4 E q W hs HEE.out hl (hsm _ (by simp)) (hsm _ (by simp)) (hsm _ (by simp)) (hsm _ (by simp)) (hsm _ (by simp)) res hres
          rw [hres] at HR hlt32
          obtain ⟨hidx, hidx5⟩ := part_idx hp
          have hg0 := small_at HS2.out (c - 65).toNat
          have HAA := Lib.hid (blk_alloc HA2.out (.cells #[.int .u8 c, .string q] 56))
          have hz0 := (blk_cell HAA.out 0).trans (arr_get [s0, s1, s2, s3, s4] 0 (by simp))
          have hz1 := (blk_cell HAA.out 1).trans (arr_get [s0, s1, s2, s3, s4] 1 (by simp))
          have hz2 := (blk_cell HAA.out 2).trans (arr_get [s0, s1, s2, s3, s4] 2 (by simp))
          have hz3 := (blk_cell HAA.out 3).trans (arr_get [s0, s1, s2, s3, s4] 3 (by simp))
          have hz4 := (blk_cell HAA.out 4).trans (arr_get [s0, s1, s2, s3, s4] 4 (by simp))
          have HBX := Lib.hid (blk_new wr (.cells #[.int .u8 c, .string q] 56))
          have HB3 := Lib.hid (below_alloc HB2.out (.cells #[.int .u8 c, .string q] 56))
          have HZ3 := Lib.hid (blk_alloc HZ2.out (.cells #[.int .u8 c, .string q] 56))
          generalize hvv : [s0, s1, s2, s3, s4].getD (c - 65).toNat 0 = v at hg0 HR
          generalize hjj : (c - 65).toNat = jj at hidx hidx5 hg0 HR hvv
          have ho := i64_or_nat v res.1 (by omega) (by omega)
          have hjj5 : (jj : Int) < 5 := by omega
          have HL := Lib.hid (And.intro hs (And.intro hl (And.intro hlt32 (And.intro hg0 (And.intro hres (And.intro hvv hjj))))))
          have HP := Lib.hid hp
          clear hs hl hlt32 hg0 hsm hp hres hvv hjj
          simp only [List.getD_cons_zero, List.getD_cons_succ] at hz0 hz1 hz2 hz3 hz4
          go_wp2_with (go_at_call 111; refine (HCB.out _).mono ?_; rintro e w1 ⟨rfl, hbw⟩; have hy1 := (blk_cell (blk_below HBX.out hbw) 0); have hy2 := (blk_cell (blk_below HAA.out hbw) jj).trans (arr_get [s0, s1, s2, s3, s4] jj hidx5); have hy3 := blk_frozen (blk_below HAA.out hbw) jj; rw [HL.out.2.2.2.2.2.1] at hy2; clear hz0 hz1 hz2 hz3 hz4)
          have HA4 := blk_put (blk_below HAA.out hbw) jj (.int .i64 ((v ||| res.1 : Nat) : Int)) (arr_set [s0, s1, s2, s3, s4] jj (v ||| res.1))
          have HZ4 := blk_far (blk_below HZ3.out hbw) (p := ⟨w.heap.size + 1, jj, none⟩) (by simp) (.int .i64 ((v ||| res.1 : Nat) : Int))
          have HB4 := below_set (g := w.heap.size + 1) (j := jj) (v := .int .i64 ((v ||| res.1 : Nat) : Int)) (below_step HB3.out hbw) (Nat.le_succ _)
          go_roundg (l.length - (j + 1).toNat)
          case measure => omega
          case rel =>
            refine ⟨j + 1, [s0, s1, s2, s3, s4].set jj (v ||| res.1), by rw [wrap64_succ (n := l.length) hj0 ⟨hltj, hlen.out⟩], by omega, by omega, rfl, Lib.hid (small_set HS2.out _ _ ?_), Lib.hid HA4, Lib.hid HZ4, ?_, Lib.hid HB4⟩
            · exact Nat.or_lt_two_pow (n := 5) HL.out.2.2.2.1 HL.out.2.2.1
            · rw [hEE]; exact Lib.hid HR.out
        · have hj : j.toNat = l.length := by omega
          have hR := HI2.out
          rw [hj, List.drop_of_length_le (by simp [gr56])] at hR
          simp only [firstL, List.foldl_nil] at hR
          have HR := Lib.hid hR
          clear hR hj HI2
          go_wp2
          go_roundg (25 - (i + 1).toNat)
          case measure => omega
          case rel =>
            refine ⟨i + 1, s', rfl, by omega, by omega, rfl, HS2, HA2, HZ2, ?_, HB2⟩
            · refine Lib.hid ?_
              rw [HR.out]
              exact HI'.out
    · have h25 : i = 25 := by omega
      subst h25
      have hI := HI.out
      rw [hkq] at hI
      have hI2 : s = firstP (gr56 l) := hI
      obtain ⟨s0, s1, s2, s3, s4, rfl⟩ := ex5 HS.out.1
      have hz0 := (blk_cell HA.out 0).trans (arr_get [s0, s1, s2, s3, s4] 0 (by simp))
      have hz1 := (blk_cell HA.out 1).trans (arr_get [s0, s1, s2, s3, s4] 1 (by simp))
      have hz2 := (blk_cell HA.out 2).trans (arr_get [s0, s1, s2, s3, s4] 2 (by simp))
      have hz3 := (blk_cell HA.out 3).trans (arr_get [s0, s1, s2, s3, s4] 3 (by simp))
      have hz4 := (blk_cell HA.out 4).trans (arr_get [s0, s1, s2, s3, s4] 4 (by simp))
      simp only [List.getD_cons_zero, List.getD_cons_succ] at hz0 hz1 hz2 hz3 hz4
      have HI2 := Lib.hid hI2
      clear hI hI2 HI
      have B1 := Lib.hid (blk_put HZ.out 0 (.int .i64 s0) (arr_set [0, 0, 0, 0, 0] 0 s0))
      have B2 := Lib.hid (blk_put B1.out 1 (.int .i64 s1) (arr_set _ 1 s1))
      have B3 := Lib.hid (blk_put B2.out 2 (.int .i64 s2) (arr_set _ 2 s2))
      have B4 := Lib.hid (blk_put B3.out 3 (.int .i64 s3) (arr_set _ 3 s3))
      have B5 := Lib.hid (blk_put B4.out 4 (.int .i64 s4) (arr_set _ 4 s4))
      have hb0 : wr.cell? ⟨w.heap.size, 0, none⟩ = some (.int .i64 0) := (blk_cell HZ.out 0).trans rfl
      have hb1 := (blk_cell B1.out 1).trans (show _ = some (Value.int .i64 0) from rfl)
      have hb2 := (blk_cell B2.out 2).trans (show _ = some (Value.int .i64 0) from rfl)
      have hb3 := (blk_cell B3.out 3).trans (show _ = some (Value.int .i64 0) from rfl)
      have hb4 := (blk_cell B4.out 4).trans (show _ = some (Value.int .i64 0) from rfl)
      have hf0 := blk_frozen HZ.out 0
      have hf1 := blk_frozen B1.out 1
      have hf2 := blk_frozen B2.out 2
      have hf3 := blk_frozen B3.out 3
      have hf4 := blk_frozen B4.out 4
      go_wp2
      have HBL := below_set (g := w.heap.size) (j := 4) (v := .int .i64 s4) (below_set (g := w.heap.size) (j := 3) (v := .int .i64 s3) (below_set (g := w.heap.size) (j := 2) (v := .int .i64 s2) (below_set (g := w.heap.size) (j := 1) (v := .int .i64 s1) (below_set (g := w.heap.size) (j := 0) (v := .int .i64 s0) HB.out (Nat.le_refl _)) (Nat.le_refl _)) (Nat.le_refl _)) (Nat.le_refl _)) (Nat.le_refl _)
      refine bodyPost_ret (results_single rfl (.cell w.heap.size 85 _ _ _ rfl B5.out Tryd.underlying85 rfl ?_ .nil)) rfl ⟨?_, HBL⟩
      · kernel_rfl
      · rw [← HI2.out]; rfl
end Go.Proofs.YtpmmfckgfbdboaaDoor.G
end

section
namespace Go.Proofs.YtpmmfckgfbdboaaDoor.G
open Go.RowKit Go.Proofs.YtpmmfckgfbdboaaDoorW.PrintWords Go.Proofs.YtpmmfckgfbdboaaDoorW.PrintLast Go.Proofs.YtpmmfckgfbdboaaDoorW.PrintMore
open Go.Shelf Go.Lib
set_option linter.unusedVariables false
set_option linter.unusedSimpArgs false
def nextCell (F : List Nat) (E : Nat) (x c : Int) (cs : List Int) (s : List Nat) : List Nat :=
  s.set (c - 65).toNat (s.getD (c - 65).toNat 0 ||| (if (beginsP F E cs 0).2 = true then (beginsP F E cs 0).1 ||| s.getD (x - 65).toNat 0 else (beginsP F E cs 0).1))
def nextRow (F : List Nat) (E : Nat) (x : Int) : List Int → List Nat → List Nat
  | [], s => s
  | c :: cs, s => if isPartB c = true then nextRow F E x cs (nextCell F E x c cs s) else nextRow F E x cs s
def nextL (F : List Nat) (E : Nat) (g : List (Int × List Int)) (s : List Nat) : List Nat := g.foldl (fun s r => nextRow F E r.1 r.2 s) s
def nextP (g : List (Int × List Int)) : List Nat := iterN (nextL (firstP g) (emptyP g) g) 25 ([0, 0, 0, 0, 0].set ((g.head?.map (·.1)).getD 65 - 65).toNat 16)
theorem firstL_small (E : Nat) : ∀ (g : List (Int × List Int)) (s : List Nat), (∀ r ∈ g, ∀ c ∈ r.2, letterB c = true) → small s → small (firstL E g s)
  | [], s, _, h => h
  | r :: g, s, hg, h => by
    simp only [firstL, List.foldl_cons]
    exact firstL_small E g _ (fun r hr => hg r (by simp [hr])) (small_set h _ _ (Nat.or_lt_two_pow (n := 5) (small_at h _) (beginsP_lt h E r.2 0 (hg r (by simp)) (by decide))))
theorem iterN_small {f : List Nat → List Nat} (hf : ∀ s, small s → small (f s)) : ∀ (n : Nat) (s : List Nat), small s → small (iterN f n s)
  | 0, s, h => h
  | n + 1, s, h => iterN_small hf n _ (hf s h)
theorem firstP_small (g : List (Int × List Int)) (hg : ∀ r ∈ g, ∀ c ∈ r.2, letterB c = true) : small (firstP g) :=
  iterN_small (fun s h => firstL_small _ g s hg h) 25 _ ⟨rfl, by decide⟩
theorem bytes_extract (q : ByteArray) (n : Nat) : bytesOf (q.extract n q.size) = (bytesOf q).drop n := by
  simp only [bytesOf]
  rw [ByteArray.data_extract, Array.toList_extract, ← List.map_drop]
  congr 1
  simp [List.extract_eq_take_drop]
  apply List.take_of_length_le
  simp
theorem step_ok {i : Int} {n : Nat} (h0 : 0 ≤ i) (h1 : i < n) : 0 ≤ i + 1 ∧ i + 1 ≤ n := by omega
theorem toNat_succ' (n : Nat) : ((n : Int) + 1).toNat = n + 1 := by omega
theorem le_end {i : Int} {n : Nat} (h1 : i ≤ n) (h : ¬ i < n) : i.toNat = n := by omega
theorem meas_lt {i : Int} {n gk : Nat} (h0 : 0 ≤ i) (h1 : i < n) (h : gk = n - i.toNat) : n - (i + 1).toNat < gk := by omega
def reg95.T13 : Bool × List (List Nat × List Nat) := (true, [([], []), ([], []), ([1], [1]), ([], []), ([3], [3]), ([2, 4], [2, 4]), ([], []), ([0, 5, 6], [0, 5, 6]), ([7], [7]), ([8], [8]), ([8], [8]), ([9, 7, 0, 1, 2, 3, 4, 5, 6, 7, 8, 9], [9]), ([10, 11, 0, 1, 2, 3, 4, 5, 6, 7, 8, 9, 10, 11], [10])])
def reg95.B13 : List Nat := [0, 0, 2, 0, 8, 30, 0, 127, 255, 511, 511, 1023, 4095]
theorem reg95.tab13 : rtab .any (opsOf Tryd.f95 13) = reg95.T13 := by kernel_rfl
theorem reg95.bits13 : waitsOk reg95.T13.2 reg95.B13 = true := by kernel_rfl
set_option maxHeartbeats 4000000 in
set_option maxRecDepth 100000 in
theorem next_any (l : List S56) (A : Option Addr) (c0 : Nat) (w : World) (hr0 : Kd.C k56 w A l.length l) (hc0 : l.length ≤ c0) (hg : okG (gr56 l)) (hne : 0 < l.length) :
    Calls Tryd.prog 95 #[.slice A l.length c0] w fun x w' => x = .returned (.agg (arr (nextP (gr56 l)))) ∧ Below w.heap.size w w' := by
  have HR0 := Lib.hid hr0
  have HG := Lib.hid hg
  have hlen := Lib.hid (show l.length < 2 ^ 62 by have := hg.1; simp [gr56] at this; omega)
  have hE := fun W => empty_any l A c0 W
  have hF := fun W => first_any l A c0 W
  have HE0 : Hid (∀ W, Below w.heap.size w W → Calls Tryd.prog 110 #[.slice A l.length c0] W fun x w' => x = .returned (.int .i64 (emptyP (gr56 l))) ∧ Below W.heap.size W w') :=
    Lib.hid fun W hb => hE W (Kd.C_below hr0 hb) hc0 hg
  have HF0 : Hid (∀ W, Below w.heap.size w W → Calls Tryd.prog 82 #[.slice A l.length c0] W fun x w' => x = .returned (.agg (arr (firstP (gr56 l)))) ∧ Below W.heap.size W w') :=
    Lib.hid fun W hb => hF W (Kd.C_below hr0 hb) hc0 hg
  have hE32 : emptyP (gr56 l) < 2 ^ 62 := by
    have := emptyP_lt (gr56 l) (fun r hr => (HG.out.2 r hr).1)
    omega
  have hsm := firstP_small (gr56 l) (fun r hr => (HG.out.2 r hr).2.2)
  obtain ⟨f0, f1, f2, f3, f4, hff⟩ := ex5 hsm.1
  have hHead : ((gr56 l).head?.map (·.1)).getD 65 = (rd_T56 l 0).f0 := by
    cases l with
    | nil => simp at hne
    | cons a l => rfl
  obtain ⟨ad, eA, hx0, hx1⟩ := at_T56 hr0 0 (by decide) (by omega)
  obtain ⟨hp, hs, hl⟩ := okG_at hg 0 (by decide) (by omega)
  cases eA
  have HHead := Lib.hid (And.intro hHead (And.intro hp (And.intro hE32 (And.intro hsm hff))))
  rw [hff] at HF0
  replace HF0 : Hid (∀ W, Below w.heap.size w W → Calls Tryd.prog 82 #[.slice (some ad) l.length c0] W fun x w' => x = .returned (.agg #[.int .i64 f0, .int .i64 f1, .int .i64 f2, .int .i64 f3, .int .i64 f4]) ∧ Below W.heap.size W w') := HF0
  have HNE := Lib.hid hne
  have hnz : ¬ (l.length = 0) := by omega
  have HX := Lib.hid (And.intro hx0 hx1)
  clear hE hF hr0 hg hE32 hHead hs hl hsm hff hx1 hne
  obtain ⟨hidx, hidx5⟩ := part_idx hp
  generalize hcc : (rd_T56 l 0).f0 = cc at *
  have hjj5 : ((cc - 65).toNat : Int) < 5 := by omega
  generalize hjj : (cc - 65).toNat = jj at *
  clear hp
  have hx0 : w.cell? ad = some (.int .u8 cc) := by simpa [Addr.add_zero'] using hx0
  go_enter Tryd.func95, Tryd.ntmps95
  go_wp2_with (first | (go_at_call 82; refine (HF0.out _ (below_alloc (below_alloc (Below.refl _ _) _) _)).mono ?_; rintro e w1 ⟨rfl, hbw⟩; have HB1 : Hid (Below w.heap.size w w1) := Lib.hid (below_step (below_alloc (below_alloc (Below.refl _ _) _) _) hbw); have HZ : Hid (w1.heap[w.heap.size]? = some (.cells (arr [0, 0, 0, 0, 0]) 85 (0, 0))) := Lib.hid (blk_below (blk_alloc (blk_new w _) _) hbw); have HA : Hid (w1.heap[w.heap.size + 1]? = some (.cells (arr [0, 0, 0, 0, 0]) 85 (0, 0))) := Lib.hid (blk_below (by have := blk_new (w.alloc (.cells (arr [0, 0, 0, 0, 0]) 85)) (.cells (arr [0, 0, 0, 0, 0]) 85); rw [World.size_alloc] at this; exact this) hbw); clear hbw) | (go_at_call 110; refine (HE0.out _ HB1.out).mono ?_; rintro e w2 ⟨rfl, hbw⟩; have HAo := HA; replace HZ := Lib.hid (blk_alloc (blk_below HZ.out hbw) (.cells (#[.int .i64 f0, .int .i64 f1, .int .i64 f2, .int .i64 f3, .int .i64 f4]) 85)); replace HA := Lib.hid (blk_alloc (blk_below HA.out hbw) (.cells (#[.int .i64 f0, .int .i64 f1, .int .i64 f2, .int .i64 f3, .int .i64 f4]) 85)); have HF := Lib.hid (blk_new w2 (.cells (#[.int .i64 f0, .int .i64 f1, .int .i64 f2, .int .i64 f3, .int .i64 f4]) 85)); replace HB1 := Lib.hid (below_alloc (below_step HB1.out hbw) (.cells (#[.int .i64 f0, .int .i64 f1, .int .i64 f2, .int .i64 f3, .int .i64 f4]) 85)); have hy0 := (HB1.out.cell (World.block_lt_of_cell? w _ hx0)).trans hx0; have hy1 := (blk_cell HA.out jj).trans (arr_get _ jj hidx5); have hy2 := blk_frozen HA.out jj; have HW2 := Lib.hid (Nat.lt_of_lt_of_le (blk_lt HAo.out) hbw.size); clear hbw))
  have HA' : Hid (((w2.alloc (.cells (#[.int .i64 f0, .int .i64 f1, .int .i64 f2, .int .i64 f3, .int .i64 f4]) 85)).setCell ⟨w.heap.size + 1, jj, none⟩ (.int .i64 16)).heap[w.heap.size + 1]? = some (.cells (arr ([0, 0, 0, 0, 0].set jj 16)) 85 (0, 0))) := Lib.hid (blk_put HA.out jj (.int .i64 16) (arr_set _ jj 16))
  have HZ' := Lib.hid (blk_far HZ.out (p := ⟨w.heap.size + 1, jj, none⟩) (by simp) (.int .i64 16))
  have hw2 : w.heap.size + 1 < w2.heap.size := by have := HW2.out; omega
  have HF' := Lib.hid (blk_far HF.out (p := ⟨w.heap.size + 1, jj, none⟩) (by simp; omega) (.int .i64 16))
  have HB' := Lib.hid (below_set (g := w.heap.size + 1) (j := jj) (v := .int .i64 16) HB1.out (Nat.le_succ _))
  generalize hF0 : w2.heap.size = F0 at *
  generalize hW0 : (w2.alloc (Obj.cells #[Value.int IntKind.i64 ↑f0, Value.int IntKind.i64 ↑f1, Value.int IntKind.i64 ↑f2, Value.int IntKind.i64 ↑f3, Value.int IntKind.i64 ↑f4] 85)).setCell ⟨w.heap.size + 1, jj, none⟩ (.int .i64 16) = W0 at HA' HZ' HF' HB' ⊢
  clear HA HZ HF HB1 HAo hy0 hy1 hy2 hW0 hF0 HW2
  obtain ⟨E, hEE⟩ : ∃ E, emptyP (gr56 l) = E := ⟨_, rfl⟩
  rw [hEE] at HHead ⊢
  have hS0 : small ([0, 0, 0, 0, 0].set jj 16) := small_set ⟨rfl, by decide⟩ jj 16 (by decide)
  have HST : Hid (nextP (gr56 l) = iterN (nextL (firstP (gr56 l)) (emptyP (gr56 l)) (gr56 l)) 25 ([0, 0, 0, 0, 0].set jj 16)) := by
    refine Lib.hid ?_
    unfold nextP
    rw [HHead.out.1, hjj]
  have HIDX := Lib.hid (And.intro hidx (And.intro hidx5 (And.intro hjj5 hjj)))
  clear hidx hidx5 hjj5 hjj
  go_loopg [22] 25 (fun kq v22 w' => ∃ (i : Int) (s : List Nat), v22 = .int .i64 i ∧ 0 ≤ i ∧ i ≤ 25 ∧ kq = 25 - i.toNat ∧ Hid (small s) ∧ Hid (w'.heap[w.heap.size + 1]? = some (.cells (arr s) 85 (0, 0))) ∧ Hid (w'.heap[w.heap.size]? = some (.cells (arr [0, 0, 0, 0, 0]) 85 (0, 0))) ∧ Hid (w'.heap[F0]? = some (.cells (arr [f0, f1, f2, f3, f4]) 85 (0, 0))) ∧ Hid (iterN (nextL (firstP (gr56 l)) (emptyP (gr56 l)) (gr56 l)) kq s = nextP (gr56 l)) ∧ Hid (Below w.heap.size w w'))
  case atStart => exact ⟨0, _, rfl, by decide, by decide, rfl, Lib.hid hS0, HA', HZ', HF', Lib.hid HST.out.symm, HB'⟩
  case round =>
    clear hS0 HST HA' HZ' HF' HB'
    obtain ⟨i, s, rfl, hi0, hi1, hkq, HS, HA, HZ, HF, HI, HB⟩ := hrel
    by_cases hlt : i < 25
    · have hI := HI.out
      rw [show gk = (25 - (i + 1).toNat) + 1 by omega] at hI
      have HI' := Lib.hid hI
      clear hI
      go_wp2
      go_loopg [26] l.length (fun kq v26 w' => ∃ (j : Int) (s' : List Nat), v26 = .int .i64 j ∧ 0 ≤ j ∧ j ≤ l.length ∧ kq = l.length - j.toNat ∧ Hid (small s') ∧ Hid (w'.heap[w.heap.size + 1]? = some (.cells (arr s') 85 (0, 0))) ∧ Hid (w'.heap[w.heap.size]? = some (.cells (arr [0, 0, 0, 0, 0]) 85 (0, 0))) ∧ Hid (w'.heap[F0]? = some (.cells (arr [f0, f1, f2, f3, f4]) 85 (0, 0))) ∧ Hid (nextL (firstP (gr56 l)) (emptyP (gr56 l)) ((gr56 l).drop j.toNat) s' = nextL (firstP (gr56 l)) (emptyP (gr56 l)) (gr56 l) s) ∧ Hid (Below w.heap.size w w'))
      case atStart => exact ⟨0, s, rfl, by omega, by omega, by simp, HS, HA, HZ, HF, Lib.hid (by simp), HB⟩
      case round =>
        obtain ⟨j, s', rfl, hj0, hj1, hkq2, HS2, HA2, HZ2, HF2, HI2, HB2⟩ := hrel
        by_cases hltj : j < l.length
        · have hd := drop_gr l j hj0 hltj
          obtain ⟨hp, hs, hl⟩ := okG_at HG.out j hj0 hltj
          obtain ⟨ad', eA, hx0, hx1⟩ := at_T56 HR0.out j hj0 hltj
          cases eA
          replace hx0 := (HB2.out.cell (World.block_lt_of_cell? w _ hx0)).trans hx0
          replace hx1 := (HB2.out.cell (World.block_lt_of_cell? w _ hx1)).trans hx1
          have hR := HI2.out
          rw [hd] at hR
          clear hd HI2
          generalize rd_T56 l j = r at *
          obtain ⟨x, q⟩ := r
          simp only [nextL, List.foldl_cons] at hR
          have HR := Lib.hid hR
          clear hR
          simp only at hp hs hl hx0 hx1
          have HBX := Lib.hid (blk_new wr (.cells #[.int .u8 x, .string q] 56))
          have HA3 := Lib.hid (blk_alloc HA2.out (.cells #[.int .u8 x, .string q] 56))
          have HZ3 := Lib.hid (blk_alloc HZ2.out (.cells #[.int .u8 x, .string q] 56))
          have HF3 := Lib.hid (blk_alloc HF2.out (.cells #[.int .u8 x, .string q] 56))
          have HB3 := Lib.hid (below_alloc HB2.out (.cells #[.int .u8 x, .string q] 56))
          have kb := fun W => print_bytes (P := Tryd.prog) 9 42 5 Tryd.underlying9 Tryd.underlying42 Tryd.underlying5 q W
          have HBY := Lib.hid (bytes_below (Below.refl (wr.alloc (.cells #[.int .u8 x, .string q] 56)).heap.size (wr.alloc (.cells #[.int .u8 x, .string q] 56))) (by simp) 5 q)
          have HC : Hid (∀ j, j < q.size → (Lib.bytesWorld (wr.alloc (.cells #[.int .u8 x, .string q] 56)) 5 q).cell? ⟨wr.heap.size + 1, j, none⟩ = some (.int .u8 (bt q j))) := Lib.hid fun j hj => by
            obtain ⟨ad, hA, hc⟩ := (bytes_reads (wr.alloc (.cells #[.int .u8 x, .string q] 56)) 5 q (by omega)).2.2 (by omega)
            cases hA
            have := hc j hj
            rw [add_plain] at this
            rw [World.size_alloc] at this
            rw [this, ← rd_bytesOf q j]
            simp [rd]
          have HL := Lib.hid (And.intro hs hl)
          have HP := Lib.hid hp
          clear hs hl hp
          go_wp2
          have HA5 := Lib.hid (blk_below HA3.out HBY.out)
          have HZ5 := Lib.hid (blk_below HZ3.out HBY.out)
          have HF5 := Lib.hid (blk_below HF3.out HBY.out)
          have HG5 := Lib.hid (blk_below HBX.out HBY.out)
          have HB5 := Lib.hid (below_step HB3.out HBY.out)
          have hAS := Lib.hid (blk_lt HA2.out)
          have hFS := Lib.hid (blk_lt HF2.out)
          generalize hW : Lib.bytesWorld (wr.alloc (.cells #[.int .u8 x, .string q] 56)) 5 q = W at HA5 HZ5 HF5 HG5 HB5 HC ⊢
          clear hW kb HBY HA3 HZ3 HF3 HB3 HBX HA2 HZ2 HF2 hx0 hx1
          generalize hG : wr.heap.size = G at HG5 HC hAS hFS ⊢
          go_loopg [34] q.size (fun kq v34 w' => ∃ (m : Int) (s2 : List Nat), v34 = .int .i64 m ∧ 0 ≤ m ∧ m ≤ q.size ∧ kq = q.size - m.toNat ∧ Hid (small s2) ∧ Hid (w'.heap[w.heap.size + 1]? = some (.cells (arr s2) 85 (0, 0))) ∧ Hid (w'.heap[w.heap.size]? = some (.cells (arr [0, 0, 0, 0, 0]) 85 (0, 0))) ∧ Hid (w'.heap[F0]? = some (.cells (arr [f0, f1, f2, f3, f4]) 85 (0, 0))) ∧ Hid (w'.heap[G]? = some (.cells #[.int .u8 x, .string q] 56 (0, 0))) ∧ Hid (∀ j, j < q.size → w'.cell? ⟨G + 1, j, none⟩ = some (.int .u8 (bt q j))) ∧ Hid (nextRow (firstP (gr56 l)) (emptyP (gr56 l)) x ((bytesOf q).drop m.toNat) s2 = nextRow (firstP (gr56 l)) (emptyP (gr56 l)) x (bytesOf q) s') ∧ Hid (Below w.heap.size w w'))
          case atStart => exact ⟨0, s', rfl, by omega, by omega, by simp, HS2, HA5, HZ5, HF5, HG5, HC, Lib.hid (by simp), HB5⟩
          case round =>
            clear HA5 HZ5 HF5 HG5 HC HB5
            obtain ⟨m, s2, rfl, hm0, hm1, hkq3, HS3, HA3, HZ3, HF3, HG3, HC3, HI3, HB3⟩ := hrel
            by_cases hltm : m < q.size
            · obtain ⟨mn, rfl⟩ : ∃ mn : Nat, m = mn := ⟨m.toNat, by omega⟩
              have hmn : mn < q.size := by omega
              have hd := drop_bytes q mn hmn
              have hcell := HC3.out mn hmn
              obtain ⟨c, hc⟩ : ∃ c, bt q mn = c := ⟨_, rfl⟩
              rw [hc] at hd hcell
              have hR3 := HI3.out
              rw [Int.toNat_natCast, hd] at hR3
              have hcl : letterB c = true := HL.out.2 c (List.mem_of_mem_drop (i := mn) (by rw [hd]; simp))
              simp only [nextRow] at hR3
              have HR3 := Lib.hid hR3
              have HCL := Lib.hid hcl
              clear hR3 hd hc hcl HI3
              have hw : wrap64 ((mn : Int) + 1) = (mn : Int) + 1 := wrap64_succ (n := q.size) hm0 ⟨hltm, by have := HL.out.1; omega⟩
              cases hpc : isPartB c
              · have HP3 := Lib.hid hpc
                have hR3 := HR3.out
                simp only [hpc, Bool.false_eq_true, if_false] at hR3
                have HR4 := Lib.hid hR3
                clear hR3 HR3 hpc
                go_wp2_with (go_at_call 89; refine (isPart_any _ _).mono ?_; rintro e w' ⟨rfl, rfl⟩; rw [HP3.out])
                go_roundg (q.size - ((mn : Int) + 1).toNat)
                case measure => exact meas_lt hm0 hltm hkq3
                case rel => exact ⟨(mn : Int) + 1, s2, by rw [hw], (step_ok hm0 hltm).1, (step_ok hm0 hltm).2, rfl, HS3, HA3, HZ3, HF3, HG3, HC3, Lib.hid (by rw [toNat_succ']; exact HR4.out), HB3⟩
              · have HP3 := Lib.hid hpc
                have hR3 := HR3.out
                simp only [hpc, if_true] at hR3
                have HR4 := Lib.hid hR3
                clear hR3 HR3
                have hg0 := (blk_cell HG3.out 0).trans (show _ = some (Value.int .u8 x) from rfl)
                have hg1 := (blk_cell HG3.out 1).trans (show _ = some (Value.string q) from rfl)
                have hres0 : ∃ res, beginsP [f0, f1, f2, f3, f4] E ((bytesOf q).drop (mn + 1)) 0 = res := ⟨_, rfl⟩
                obtain ⟨res, hres⟩ := hres0
                have hbx : bytesOf (q.extract (mn + 1) q.size) = (bytesOf q).drop (mn + 1) := bytes_extract q (mn + 1)
                have hsz : (q.extract (mn + 1) q.size).size ≤ 4 := by
                  have h1 := HL.out.1
                  have h2 : (bytesOf (q.extract (mn + 1) q.size)).length = ((bytesOf q).drop (mn + 1)).length := by rw [hbx]
                  rw [bytesOf_length, List.length_drop, bytesOf_length] at h2
                  exact Nat.le_trans (Nat.le_of_eq h2) (Nat.le_trans (Nat.sub_le _ _) h1)
                have hfs : ∀ y ∈ [f0, f1, f2, f3, f4], y < 2 ^ 62 := fun y hy => by
                  have h := HHead.out
                  have h2 := h.2.2.2.1.2 y (by rw [h.2.2.2.2]; exact hy)
                  exact Nat.lt_trans h2 (by decide)
                have HCB : Hid (∀ W, Calls Tryd.prog 111 #[.agg #[.int .i64 f0, .int .i64 f1, .int .i64 f2, .int .i64 f3, .int .i64 f4], .string (q.extract (mn + 1) q.size), .int .i64 E] W
                  fun x w' => x = .returned (.tuple #[.int .i64 res.1, .bool res.2]) ∧ Below W.heap.size W w') := Lib.hid fun W =>
                    begins_any f0 f1 f2 f3 f4 E _ W hsz HHead.out.2.2.1 (fun c hc => HL.out.2 c (List.mem_of_mem_drop (by rw [← hbx]; exact hc))) (hfs _ (by simp)) (hfs _ (by simp)) (hfs _ (by simp)) (hfs _ (by simp)) (hfs _ (by simp)) res (by rw [hbx]; exact hres)
                have hlt32 : res.1 < 32 := by
                  rw [← hres]
                  exact beginsP_lt (by rw [← HHead.out.2.2.2.2]; exact HHead.out.2.2.2.1) E _ 0 (fun c hc => HL.out.2 c (List.mem_of_mem_drop hc)) (by decide)
                have hR5 := HR4.out
                unfold nextCell at hR5
                rw [hEE, HHead.out.2.2.2.2, hres] at hR5
                have HR6 := Lib.hid (And.intro hR5 hlt32)
                clear hR5 hlt32 hres hfs hsz hbx HR4
                have hz0 := (blk_cell HF3.out 0).trans (show _ = some (Value.int .i64 f0) from rfl)
                have hz1 := (blk_cell HF3.out 1).trans (show _ = some (Value.int .i64 f1) from rfl)
                have hz2 := (blk_cell HF3.out 2).trans (show _ = some (Value.int .i64 f2) from rfl)
                have hz3 := (blk_cell HF3.out 3).trans (show _ = some (Value.int .i64 f3) from rfl)
                have hz4 := (blk_cell HF3.out 4).trans (show _ = some (Value.int .i64 f4) from rfl)
                go_wp2_with (go_at_call 89; refine (isPart_any _ _).mono ?_; rintro e w' ⟨rfl, rfl⟩; rw [HP3.out])
                have hbd1 := eq_true (step_ok hm0 hltm).1
                have hbd2 := eq_true (step_ok hm0 hltm).2
                refine start_ (n := 13) (S := fun w' => w'.cell? ⟨G, 1, none⟩ = some (.string q) ∧ w'.cell? ⟨F0, 0, none⟩ = some (.int .i64 f0) ∧ w'.cell? ⟨F0, 1, none⟩ = some (.int .i64 f1) ∧ w'.cell? ⟨F0, 2, none⟩ = some (.int .i64 f2) ∧ w'.cell? ⟨F0, 3, none⟩ = some (.int .i64 f3) ∧ w'.cell? ⟨F0, 4, none⟩ = some (.int .i64 f4)) (ds := []) #[false, false, false, false, false, false, false, false, false, false, false, false, false] (by kernel_rfl) rfl rfl ⟨hg1, hz0, hz1, hz2, hz3, hz4⟩ (fun hHeld => ?_); refine with_tabW reg95.tab13 reg95.bits13 (fun HT_ HW_ => ?_)
                clear hg0 hg1 hz0 hz1 hz2 hz3 hz4
                have HA6 := Lib.hid (blk_drew HA3.out)
                have HZ6 := Lib.hid (blk_drew HZ3.out)
                have HF6 := Lib.hid (blk_drew HF3.out)
                have HG6 := Lib.hid (blk_drew HG3.out)
                have HC6 : Hid (∀ j, j < q.size → wr.drew.cell? ⟨G + 1, j, none⟩ = some (.int .u8 (bt q j))) := Lib.hid fun j hj => HC3.out j hj
                have HB6 := Lib.hid (below_drew1 HB3.out)
                clear HA3 HZ3 HF3 HG3 HC3 HB3 hcell
                generalize hwd : wr.drew = wd at hHeld HA6 HZ6 HF6 HG6 HC6 HB6 ⊢
                clear hwd
                refine pure_ (i := 1) (N := some 44) (v := ?_) (a' := ?_) #[false, true, false, false, false, false, false, false, false, false, false, false, false] rfl rfl (any_of HT_.out (by kernel_rfl)) (fun _ _ _ h => h) (Or.inl ⟨by rfl, ?_⟩) ?_ ?_
                rotate_left
                · intro w'
                  go_simp
                  with_reducible rfl
                rotate_left
                · simp only [Act.put, List.setIfInBounds_toArray, List.set_cons_zero, List.set_cons_succ, i64_w, i32_w]
                  rfl
                refine pure_ (i := 3) (N := some 46) (v := ?_) (a' := ?_) #[false, true, false, true, false, false, false, false, false, false, false, false, false] rfl rfl (any_of HT_.out (by kernel_rfl)) (fun _ _ _ h => h) (Or.inl ⟨by rfl, ?_⟩) ?_ ?_
                rotate_left
                · intro w'
                  go_simp
                  with_reducible rfl
                rotate_left
                · simp only [Act.put, List.setIfInBounds_toArray, List.set_cons_zero, List.set_cons_succ, i64_w, i32_w]
                  rfl
                refine pure_ (i := 4) (N := some 47) (v := ?_) (a' := ?_) #[false, true, false, true, true, false, false, false, false, false, false, false, false] rfl rfl (any_of HT_.out (by kernel_rfl)) (fun _ _ _ h => h) (Or.inl ⟨by rfl, ?_⟩) ?_ ?_
                rotate_left
                · intro w'
                  go_simp
                  with_reducible rfl
                rotate_left
                · simp only [Act.put, List.setIfInBounds_toArray, List.set_cons_zero, List.set_cons_succ, i64_w, i32_w]
                  rfl
                refine pure_ (i := 6) (N := some 49) (v := ?_) (a' := ?_) #[false, true, false, true, true, false, true, false, false, false, false, false, false] rfl rfl (any_of HT_.out (by kernel_rfl)) (fun _ _ _ h => h) (Or.inl ⟨by rfl, ?_⟩) ?_ ?_
                rotate_left
                · intro w'
                  go_simp
                  with_reducible rfl
                rotate_left
                · simp only [Act.put, List.setIfInBounds_toArray, List.set_cons_zero, List.set_cons_succ, i64_w, i32_w]
                  rfl
                refine take_ (i := 0) (N := some 43) (v := ?_) (a' := ?_) #[true, true, false, true, true, false, true, false, false, false, false, false, false] rfl rfl (take_ofW HT_.out HW_.out (by kernel_rfl)) (fun _ _ _ h => h) (Or.inl ⟨by rfl, ?_⟩) hHeld ?_ ?_
                rotate_left
                · rintro w' ⟨s0, s1, s2, s3, s4, s5⟩
                  go_simp
                  with_reducible rfl
                rotate_left
                · simp only [Act.put, List.setIfInBounds_toArray, List.set_cons_zero, List.set_cons_succ, i64_w, i32_w]
                  rfl
                refine take_ (i := 2) (N := some 45) (v := ?_) (a' := ?_) #[true, true, true, true, true, false, true, false, false, false, false, false, false] rfl rfl (take_ofW HT_.out HW_.out (by kernel_rfl)) (fun _ _ _ h => h) (Or.inl ⟨by rfl, ?_⟩) hHeld ?_ ?_
                rotate_left
                · rintro w' ⟨s0, s1, s2, s3, s4, s5⟩
                  go_simp
                  with_reducible rfl
                rotate_left
                · simp only [Act.put, List.setIfInBounds_toArray, List.set_cons_zero, List.set_cons_succ, i64_w, i32_w]
                  rfl
                refine pure_ (i := 5) (N := some 48) (v := ?_) (a' := ?_) #[true, true, true, true, true, true, true, false, false, false, false, false, false] rfl rfl (any_of HT_.out (by kernel_rfl)) (fun _ _ _ h => h) (Or.inl ⟨by rfl, ?_⟩) ?_ ?_
                rotate_left
                · intro w'
                  go_simp
                  with_reducible rfl
                rotate_left
                · simp only [Act.put, List.setIfInBounds_toArray, List.set_cons_zero, List.set_cons_succ, i64_w, i32_w]
                  rfl
                refine one_ (i := 7) (N := some 50) #[true, true, true, true, true, true, true, true, false, false, false, false, false] rfl rfl (one_of HT_.out (by kernel_rfl)) (by decide) (fun K hK => ?_)
                refine goes_ Tryd.func111 (by kernel_rfl) rfl #[.agg #[.int .i64 f0, .int .i64 f1, .int .i64 f2, .int .i64 f3, .int .i64 f4], .string (q.extract (mn + 1) q.size), .int .i64 E] (by rfl) rfl rfl (by simp only [List.map_toArray, List.map_cons, List.map_nil]; rfl) ?_
                with_reducible refine (HCB.out _).mono ?_
                rintro e w3 ⟨rfl, hbw⟩
                refine ⟨_, rfl, ?_⟩
                have HA7 := Lib.hid (blk_below HA6.out hbw)
                have HZ7 := Lib.hid (blk_below HZ6.out hbw)
                have HF7 := Lib.hid (blk_below HF6.out hbw)
                have HG7 := Lib.hid (blk_below HG6.out hbw)
                have HB7 := Lib.hid (below_step HB6.out hbw)
                have HC7 : Hid (∀ j, j < q.size → w3.cell? ⟨G + 1, j, none⟩ = some (.int .u8 (bt q j))) := Lib.hid fun j hj => (hbw.cell (World.block_lt_of_cell? _ _ (HC6.out j hj))).trans (HC6.out j hj)
                clear HA6 HZ6 HF6 HG6 HC6 HB6 hbw
                refine hK.out _ _ ⟨((blk_cell HG7.out 1).trans rfl), ((blk_cell HF7.out 0).trans rfl), ((blk_cell HF7.out 1).trans rfl), ((blk_cell HF7.out 2).trans rfl), ((blk_cell HF7.out 3).trans rfl), ((blk_cell HF7.out 4).trans rfl)⟩ (fun hHeld => ?_)
                clear hK K
                refine norm_ (a' := ?_) ?_ ?_
                rotate_left
                · show Act.put _ (some 50) _ = _
                  simp only [Act.put, List.setIfInBounds_toArray, List.set_cons_zero, List.set_cons_succ, i64_w, i32_w]
                  rfl
                refine pure_ (i := 8) (N := some 42) (v := ?_) (a' := ?_) #[true, true, true, true, true, true, true, true, true, false, false, false, false] rfl rfl (any_of HT_.out (by kernel_rfl)) (fun _ _ _ h => h) (Or.inl ⟨by rfl, ?_⟩) ?_ ?_
                rotate_left
                · intro w'
                  go_simp
                  with_reducible rfl
                rotate_left
                · simp only [Act.put, List.setIfInBounds_toArray, List.set_cons_zero, List.set_cons_succ, i64_w, i32_w]
                  rfl
                refine pure_ (i := 9) (N := some 51) (v := ?_) (a' := ?_) #[true, true, true, true, true, true, true, true, true, true, false, false, false] rfl rfl (any_of HT_.out (by kernel_rfl)) (fun _ _ _ h => h) (Or.inl ⟨by rfl, ?_⟩) ?_ ?_
                rotate_left
                · intro w'
                  go_simp
                  with_reducible rfl
                rotate_left
                · simp only [Act.put, List.setIfInBounds_toArray, List.set_cons_zero, List.set_cons_succ, i64_w, i32_w]
                  rfl
                refine pure_ (i := 10) (N := some 52) (v := ?_) (a' := ?_) #[true, true, true, true, true, true, true, true, true, true, true, false, false] rfl rfl (any_of HT_.out (by kernel_rfl)) (fun _ _ _ h => h) (Or.inl ⟨by rfl, ?_⟩) ?_ ?_
                rotate_left
                · intro w'
                  go_simp
                  with_reducible rfl
                rotate_left
                · simp only [Act.put, List.setIfInBounds_toArray, List.set_cons_zero, List.set_cons_succ, i64_w, i32_w]
                  rfl
                refine pure_ (i := 11) (N := some 10) (v := ?_) (a' := ?_) #[true, true, true, true, true, true, true, true, true, true, true, true, false] rfl rfl (any_of HT_.out (by kernel_rfl)) (fun _ _ _ h => h) (Or.inl ⟨by rfl, ?_⟩) ?_ ?_
                rotate_left
                · intro w'
                  go_simp
                  with_reducible rfl
                rotate_left
                · simp only [Act.put, List.setIfInBounds_toArray, List.set_cons_zero, List.set_cons_succ, i64_w, i32_w]
                  rfl
                refine pure_ (i := 12) (N := some 11) (v := ?_) (a' := ?_) #[true, true, true, true, true, true, true, true, true, true, true, true, true] rfl rfl (any_of HT_.out (by kernel_rfl)) (fun _ _ _ h => h) (Or.inl ⟨by rfl, ?_⟩) ?_ ?_
                rotate_left
                · intro w'
                  go_simp
                  with_reducible rfl
                rotate_left
                · simp only [Act.put, List.setIfInBounds_toArray, List.set_cons_zero, List.set_cons_succ, i64_w, i32_w]
                  rfl
                refine done_ (done_of HT_.out (by kernel_rfl)) ?_

                clear hHeld
                obtain ⟨hxi, hxi5⟩ := part_idx HP.out
                obtain ⟨hci, hci5⟩ := part_idx HP3.out
                generalize hjx : (x - 65).toNat = jx at hxi hxi5 HR6
                generalize hjc : (c - 65).toNat = jc at hci hci5 HR6
                have hxx5 : (jx : Int) < 5 := Int.ofNat_lt.mpr hxi5
                have hcc5 : (jc : Int) < 5 := Int.ofNat_lt.mpr hci5
                have hg0 := (blk_cell HG7.out 0).trans (show _ = some (Value.int .u8 x) from rfl)
                have hvx := small_at HS3.out jx
                have hvc := small_at HS3.out jc
                have hax := (blk_cell HA7.out jx).trans (arr_get s2 jx (by rw [HS3.out.1]; exact hxi5))
                have hac := (blk_cell HA7.out jc).trans (arr_get s2 jc (by rw [HS3.out.1]; exact hci5))
                have haf := blk_frozen HA7.out jc
                generalize hvxx : s2.getD jx 0 = vx at hvx hax HR6
                generalize hvcc : s2.getD jc 0 = vc at hvc hac HR6
                have h32 := HR6.out.2
                cases hall : res.2
                · have hR7 := HR6.out.1
                  rw [hall] at hR7
                  simp only [Bool.false_eq_true, if_false] at hR7
                  have HR8 := Lib.hid hR7
                  have ho := i64_or_nat vc res.1 (Nat.lt_trans hvc (by decide)) (Nat.lt_trans h32 (by decide))
                  have HV := Lib.hid (And.intro hvx (And.intro hvc h32))
                  clear hR7 HR6 hvx hvc h32 hall
                  have HA8 := Lib.hid (blk_put HA7.out jc (.int .i64 ((vc ||| res.1 : Nat) : Int)) (arr_set s2 jc (vc ||| res.1)))
                  have HZ8 := Lib.hid (blk_far HZ7.out (p := ⟨w.heap.size + 1, jc, none⟩) (by simp) (.int .i64 ((vc ||| res.1 : Nat) : Int)))
                  have HF8 := Lib.hid (blk_far HF7.out (p := ⟨w.heap.size + 1, jc, none⟩) (Nat.ne_of_gt hw2) (.int .i64 ((vc ||| res.1 : Nat) : Int)))
                  have HG8 := Lib.hid (blk_far HG7.out (p := ⟨w.heap.size + 1, jc, none⟩) (Nat.ne_of_gt hAS.out) (.int .i64 ((vc ||| res.1 : Nat) : Int)))
                  have HC8 : Hid (∀ j, j < q.size → (w3.setCell ⟨w.heap.size + 1, jc, none⟩ (.int .i64 ((vc ||| res.1 : Nat) : Int))).cell? ⟨G + 1, j, none⟩ = some (.int .u8 (bt q j))) := Lib.hid fun j hj => (cell_far (Nat.ne_of_gt (Nat.lt_succ_of_lt hAS.out)) _).trans (HC7.out j hj)
                  have HB8 := Lib.hid (below_set (g := w.heap.size + 1) (j := jc) (v := .int .i64 ((vc ||| res.1 : Nat) : Int)) HB7.out (Nat.le_succ _))
                  go_wp2
                  go_roundg (q.size - ((mn : Int) + 1).toNat)
                  case measure => exact meas_lt hm0 hltm hkq3
                  case rel => exact ⟨(mn : Int) + 1, s2.set jc (vc ||| res.1), by rw [hw], (step_ok hm0 hltm).1, (step_ok hm0 hltm).2, rfl, Lib.hid (small_set HS3.out _ _ (Nat.or_lt_two_pow (n := 5) HV.out.2.1 HV.out.2.2)), HA8, HZ8, HF8, HG8, HC8, Lib.hid (by rw [toNat_succ', hEE, HHead.out.2.2.2.2]; exact HR8.out), HB8⟩
                · have hR7 := HR6.out.1
                  rw [hall] at hR7
                  simp only [if_true] at hR7
                  have HR8 := Lib.hid hR7
                  have h321 : res.1 ||| vx < 32 := Nat.or_lt_two_pow (n := 5) h32 hvx
                  have ho1 := i64_or_nat res.1 vx (Nat.lt_trans h32 (by decide)) (Nat.lt_trans hvx (by decide))
                  have ho := i64_or_nat vc (res.1 ||| vx) (Nat.lt_trans hvc (by decide)) (Nat.lt_trans h321 (by decide))
                  have HV := Lib.hid (And.intro hvx (And.intro hvc h321))
                  clear hR7 HR6 hvx hvc h32 h321 hall
                  have HA8 := Lib.hid (blk_put HA7.out jc (.int .i64 ((vc ||| (res.1 ||| vx) : Nat) : Int)) (arr_set s2 jc (vc ||| (res.1 ||| vx))))
                  have HZ8 := Lib.hid (blk_far HZ7.out (p := ⟨w.heap.size + 1, jc, none⟩) (by simp) (.int .i64 ((vc ||| (res.1 ||| vx) : Nat) : Int)))
                  have HF8 := Lib.hid (blk_far HF7.out (p := ⟨w.heap.size + 1, jc, none⟩) (Nat.ne_of_gt hw2) (.int .i64 ((vc ||| (res.1 ||| vx) : Nat) : Int)))
                  have HG8 := Lib.hid (blk_far HG7.out (p := ⟨w.heap.size + 1, jc, none⟩) (Nat.ne_of_gt hAS.out) (.int .i64 ((vc ||| (res.1 ||| vx) : Nat) : Int)))
                  have HC8 : Hid (∀ j, j < q.size → (w3.setCell ⟨w.heap.size + 1, jc, none⟩ (.int .i64 ((vc ||| (res.1 ||| vx) : Nat) : Int))).cell? ⟨G + 1, j, none⟩ = some (.int .u8 (bt q j))) := Lib.hid fun j hj => (cell_far (Nat.ne_of_gt (Nat.lt_succ_of_lt hAS.out)) _).trans (HC7.out j hj)
                  have HB8 := Lib.hid (below_set (g := w.heap.size + 1) (j := jc) (v := .int .i64 ((vc ||| (res.1 ||| vx) : Nat) : Int)) HB7.out (Nat.le_succ _))
                  go_wp2
                  go_roundg (q.size - ((mn : Int) + 1).toNat)
                  case measure => exact meas_lt hm0 hltm hkq3
                  case rel => exact ⟨(mn : Int) + 1, s2.set jc (vc ||| (res.1 ||| vx)), by rw [hw], (step_ok hm0 hltm).1, (step_ok hm0 hltm).2, rfl, Lib.hid (small_set HS3.out _ _ (Nat.or_lt_two_pow (n := 5) HV.out.2.1 HV.out.2.2)), HA8, HZ8, HF8, HG8, HC8, Lib.hid (by rw [toNat_succ', hEE, HHead.out.2.2.2.2]; exact HR8.out), HB8⟩
            · have hmq : m.toNat = q.size := le_end hm1 hltm
              have hR := HI3.out
              rw [hmq, List.drop_of_length_le (by rw [bytesOf_length]; exact Nat.le_refl _)] at hR
              simp only [nextRow] at hR
              have HS := Lib.hid hR
              clear hR HI3 hmq
              have hw : wrap64 (j + 1) = j + 1 := wrap64_succ (n := l.length) hj0 ⟨hltj, hlen.out⟩
              go_wp2
              go_roundg (l.length - (j + 1).toNat)
              case measure => exact meas_lt hj0 hltj rfl
              case rel => exact ⟨j + 1, s2, rfl, (step_ok hj0 hltj).1, (step_ok hj0 hltj).2, rfl, HS3, HA3, HZ3, HF3, Lib.hid (by rw [HS.out]; exact HR.out), HB3⟩
        · have hjl : j.toNat = l.length := le_end hj1 hltj
          have hR := HI2.out
          rw [hjl, List.drop_of_length_le (by simp [gr56])] at hR
          have hR2 : s' = nextL (firstP (gr56 l)) (emptyP (gr56 l)) (gr56 l) s := hR
          have HR := Lib.hid hR2
          clear hR hR2 HI2 hjl
          have hw : wrap64 (i + 1) = i + 1 := wrap64_succ (n := 25) hi0 ⟨hlt, by decide⟩
          go_wp2
          go_roundg (25 - (i + 1).toNat)
          case measure => exact meas_lt (n := 25) hi0 hlt rfl
          case rel => exact ⟨i + 1, s', rfl, (step_ok (n := 25) hi0 hlt).1, (step_ok (n := 25) hi0 hlt).2, rfl, HS2, HA2, HZ2, HF2, Lib.hid (by rw [HR.out]; exact HI'.out), HB2⟩
    · have h25 : i = 25 := Int.le_antisymm hi1 (Int.not_lt.1 hlt)
      subst h25
      have hI := HI.out
      rw [hkq] at hI
      have hI2 : s = nextP (gr56 l) := hI
      obtain ⟨s0, s1, s2, s3, s4, rfl⟩ := ex5 HS.out.1
      have hz0 := (blk_cell HA.out 0).trans (show _ = some (Value.int .i64 s0) from rfl)
      have hz1 := (blk_cell HA.out 1).trans (show _ = some (Value.int .i64 s1) from rfl)
      have hz2 := (blk_cell HA.out 2).trans (show _ = some (Value.int .i64 s2) from rfl)
      have hz3 := (blk_cell HA.out 3).trans (show _ = some (Value.int .i64 s3) from rfl)
      have hz4 := (blk_cell HA.out 4).trans (show _ = some (Value.int .i64 s4) from rfl)
      have HI2 := Lib.hid hI2
      clear hI hI2 HI
      have B1 := Lib.hid (blk_put HZ.out 0 (.int .i64 s0) (arr_set [0, 0, 0, 0, 0] 0 s0))
      have B2 := Lib.hid (blk_put B1.out 1 (.int .i64 s1) (arr_set _ 1 s1))
      have B3 := Lib.hid (blk_put B2.out 2 (.int .i64 s2) (arr_set _ 2 s2))
      have B4 := Lib.hid (blk_put B3.out 3 (.int .i64 s3) (arr_set _ 3 s3))
      have B5 := Lib.hid (blk_put B4.out 4 (.int .i64 s4) (arr_set _ 4 s4))
      have hb0 : wr.cell? ⟨w.heap.size, 0, none⟩ = some (.int .i64 0) := (blk_cell HZ.out 0).trans rfl
      have hb1 := (blk_cell B1.out 1).trans (show _ = some (Value.int .i64 0) from rfl)
      have hb2 := (blk_cell B2.out 2).trans (show _ = some (Value.int .i64 0) from rfl)
      have hb3 := (blk_cell B3.out 3).trans (show _ = some (Value.int .i64 0) from rfl)
      have hb4 := (blk_cell B4.out 4).trans (show _ = some (Value.int .i64 0) from rfl)
      have hf0 := blk_frozen HZ.out 0
      have hf1 := blk_frozen B1.out 1
      have hf2 := blk_frozen B2.out 2
      have hf3 := blk_frozen B3.out 3
      have hf4 := blk_frozen B4.out 4
      go_wp2
      have HBL := below_set (g := w.heap.size) (j := 4) (v := .int .i64 s4) (below_set (g := w.heap.size) (j := 3) (v := .int .i64 s3) (below_set (g := w.heap.size) (j := 2) (v := .int .i64 s2) (below_set (g := w.heap.size) (j := 1) (v := .int .i64 s1) (below_set (g := w.heap.size) (j := 0) (v := .int .i64 s0) HB.out (Nat.le_refl _)) (Nat.le_refl _)) (Nat.le_refl _)) (Nat.le_refl _)) (Nat.le_refl _)
      refine bodyPost_ret (results_single rfl (.cell w.heap.size 85 _ _ _ rfl B5.out Tryd.underlying85 rfl ?_ .nil)) rfl ⟨?_, HBL⟩
      · kernel_rfl
      · rw [← HI2.out]; rfl
end Go.Proofs.YtpmmfckgfbdboaaDoor.G
end

section
namespace Go.Proofs.YtpmmfckgfbdboaaDoor.G
open Go.RowKit Go.Proofs.YtpmmfckgfbdboaaDoorW.PrintWords Go.Proofs.YtpmmfckgfbdboaaDoorW.PrintLast Go.Proofs.YtpmmfckgfbdboaaDoorW.PrintMore
attribute [local go_sem] max2_int min2_int max_two min_two max_three min_three max_four min_four   -- for this text's walks alone
set_option linter.unusedVariables false
set_option linter.unusedSimpArgs false

/-! ### tables_grammar_right: function 102 -/
def tables_grammar_right.f (l0 : List (S56)) (a1 : Int) : Option (ByteArray) := if a1 = (l0.length : Int) then (if 0 < (l0.length : Int) then (some (Utf8.encode ((rd_T56 l0 0).f0))) else (none)) else (if 0 ≤ a1 then (if a1 < (l0.length : Int) then (some ((rd_T56 l0 a1).f1)) else (none)) else (none))
set_option maxHeartbeats 8000000 in
set_option maxRecDepth 100000 in
theorem tables_grammar_right.calls (A0 : Option Addr) (c0 : Nat) (l0 : List (S56)) (a1 : Int) (r : ByteArray) (w : World) (hr0 : Kd.C k56 w A0 l0.length l0) (hc0 : l0.length ≤ c0) (h : tables_grammar_right.f l0 a1 = some r) :
    Calls Tryd.prog 102 #[.slice A0 l0.length c0, .int .i64 a1] w fun e w' => e = .returned (.string r) ∧ Drawn0 w w' := by
  have HR0 := Aside0.mk hr0
  have HC0 := Aside0.mk hc0
  clear hr0 hc0
  have H : (if a1 = (l0.length : Int) then (if 0 < (l0.length : Int) then (some (Utf8.encode ((rd_T56 l0 0).f0))) else (none)) else (if 0 ≤ a1 then (if a1 < (l0.length : Int) then (some ((rd_T56 l0 a1).f1)) else (none)) else (none))) = some r := h
  clear h
  by_cases c3 : a1 = (l0.length : Int)
  · rw [if_pos c3] at H
    have c3b0 : (a1 == (l0.length : Int)) = true := beq_iff_eq.mpr c3
    have c3b1 : (a1 != (l0.length : Int)) = false := bne_eq_false_iff_eq.mpr c3
    clear c3
    by_cases c4 : 0 < (l0.length : Int)
    · rw [if_pos c4] at H
      have c4b0 : decide (0 < (l0.length : Int)) = true := decide_eq_true c4
      have c4b1 : decide (0 < l0.length) = true := decide_eq_true (by omega)
      clear c4
      obtain rfl := Option.some.inj H
      have p124 : 0 ≤ (0 : Int) := (by omega)
      have q124 : 0 < (l0.length : Int) := of_decide_eq_true (by first | (with_reducible assumption) | assumption)
      obtain ⟨ad124, e124, hx124_0, hx124_1⟩ := at_T56 HR0.out 0 p124 q124
      cases e124
      have qi124 : (0 < l0.length) = True := eq_true (by omega)
      (try rw [show ((0 : Int)).toNat = 0 from rfl] at hx124_0)
      (try rw [show 0 * 2 = 0 from rfl] at hx124_0)
      (try rw [Addr.add_zero'] at hx124_0)
      (try rw [show ((0 : Int)).toNat = 0 from rfl] at hx124_1)
      (try rw [show 0 * 2 = 0 from rfl] at hx124_1)
      (try rw [Addr.add_zero'] at hx124_1)
      replace p124 := eq_true p124
      replace q124 := eq_true q124
      go_enter Tryd.func102, Tryd.ntmps102
      go_wp2
      go_ret
      exact ⟨by first | rfl | (simp; done) | (simp [*]; done), by repeat (first | exact Drawn0.refl _ | apply Drawn0.step)⟩
    · rw [if_neg c4] at H
      exact absurd H (by simp)
  · rw [if_neg c3] at H
    have c3b0 : (a1 == (l0.length : Int)) = false := beq_eq_false_iff_ne.mpr c3
    have c3b1 : (a1 != (l0.length : Int)) = true := bne_iff_ne.mpr c3
    by_cases c5 : 0 ≤ a1
    · rw [if_pos c5] at H
      have c5b0 : decide (0 ≤ a1) = true := decide_eq_true c5
      clear c5
      by_cases c6 : a1 < (l0.length : Int)
      · rw [if_pos c6] at H
        have c6b0 : decide (a1 < (l0.length : Int)) = true := decide_eq_true c6
        clear c6
        obtain rfl := Option.some.inj H
        have p125 : 0 ≤ (a1 : Int) := of_decide_eq_true (by first | (with_reducible assumption) | assumption)
        have q125 : a1 < (l0.length : Int) := of_decide_eq_true (by first | (with_reducible assumption) | assumption)
        obtain ⟨ad125, e125, hx125_0, hx125_1⟩ := at_T56 HR0.out a1 p125 q125
        cases e125
        replace p125 := eq_true p125
        replace q125 := eq_true q125
        go_enter Tryd.func102, Tryd.ntmps102
        go_wp2
        go_ret
        exact ⟨by first | rfl | (simp; done) | (simp [*]; done), by repeat (first | exact Drawn0.refl _ | apply Drawn0.step)⟩
      · rw [if_neg c6] at H
        exact absurd H (by simp)
    · rw [if_neg c5] at H
      exact absurd H (by simp)

end Go.Proofs.YtpmmfckgfbdboaaDoor.G
end

section
namespace Go.Proofs.YtpmmfckgfbdboaaDoor.G
open Go.RowKit Go.Proofs.YtpmmfckgfbdboaaDoorW.PrintWords Go.Proofs.YtpmmfckgfbdboaaDoorW.PrintLast Go.Proofs.YtpmmfckgfbdboaaDoorW.PrintMore
attribute [local go_sem] max2_int min2_int max_two min_two max_three min_three max_four min_four   -- for this text's walks alone
set_option linter.unusedVariables false
set_option linter.unusedSimpArgs false

/-! ### tables_grammar_behind: function 97 -/
def tables_grammar_behind.f (l0 : List (S56)) (a1_0 : Int) (a1_1 : Int) : Option (Int) := (tables_grammar_right.f l0 a1_0).bind fun t127 => (if a1_1 < (t127.size : Int) then (if 0 ≤ a1_1 then (some (bt t127 a1_1)) else (none)) else (some 0))
set_option maxHeartbeats 8000000 in
set_option maxRecDepth 100000 in
theorem tables_grammar_behind.calls (A0 : Option Addr) (c0 : Nat) (l0 : List (S56)) (a1_0 : Int) (a1_1 : Int) (r : Int) (w : World) (hr0 : Kd.C k56 w A0 l0.length l0) (hc0 : l0.length ≤ c0) (h : tables_grammar_behind.f l0 a1_0 a1_1 = some r) :
    Calls Tryd.prog 97 #[.slice A0 l0.length c0, .agg #[.int .i64 a1_0, .int .i64 a1_1]] w fun e w' => e = .returned (.int .u8 r) ∧ Below w.heap.size w w' := by
  have hu95 := Tryd.underlying95
  have HR0 := Aside0.mk hr0
  have HC0 := Aside0.mk hc0
  clear hr0 hc0
  have HB := Aside0.mk (Below.refl w.heap.size w)
  have H : ((tables_grammar_right.f l0 a1_0).bind fun t127 => (if a1_1 < (t127.size : Int) then (if 0 ≤ a1_1 then (some (bt t127 a1_1)) else (none)) else (some 0))) = some r := h
  clear h
  replace H := Option.bind_eq_some_iff.mp H
  obtain ⟨t127, A30, H⟩ := H
  replace H : (if a1_1 < (t127.size : Int) then (if 0 ≤ a1_1 then (some (bt t127 a1_1)) else (none)) else (some 0)) = some r := H
  have A3 := Aside0.mk A30
  clear A30
  by_cases c4 : a1_1 < (t127.size : Int)
  · rw [if_pos c4] at H
    have c4b0 : decide (a1_1 < (t127.size : Int)) = true := decide_eq_true c4
    clear c4
    by_cases c5 : 0 ≤ a1_1
    · rw [if_pos c5] at H
      have c5b0 : decide (0 ≤ a1_1) = true := decide_eq_true c5
      clear c5
      obtain rfl := Option.some.inj H
      go_enter Tryd.func97, Tryd.ntmps97
      go_wp2_with (first | ((with_reducible refine gate_dst (N := 3) rfl ?_); refine box_event ?hg (N := 3) ?hd (cs := #[.int .i64 a1_0, .int .i64 a1_1]) (t := 95) ?hr ?_; (case hd => rfl); (case hg => rfl); (case hr => first | (go_simp; done) | (go_simp; rfl)); intro gb126 hg w7 hbox hb; have n0_ := Aside0.mk (below_step (by repeat (first | (with_reducible first | exact HB.out | apply below_alloc | apply pw_below_drewN | apply below_drew1) | exact HB.out)) hb); have n1_ := Aside0.mk (hbox); have n2_ := Aside0.mk ((by rw [hg]; exact (below_size (by repeat (first | (with_reducible first | exact HB.out | apply below_alloc | apply pw_below_drewN | apply below_drew1) | exact HB.out))) : w.heap.size ≤ gb126)); have n3_ := Aside0.mk ((by rw [hg]; exact (below_size (by repeat (first | (with_reducible first | exact HB.out | apply below_alloc | apply pw_below_drewN | apply below_drew1) | exact HB.out))) : w.heap.size ≤ gb126)); clear HB; have HB := n0_; have BK126 := n1_; have GW126 := n2_; have GE126 := n3_; clear n0_ n1_ n2_ n3_; clear hb hbox hg; have hcz8_0 : w7.cell? ⟨gb126, 0, none⟩ = some (.int .i64 a1_0) := (blk_cell BK126.out 0).trans rfl; have hcz8_1 : w7.cell? ⟨gb126, 1, none⟩ = some (.int .i64 a1_1) := (blk_cell BK126.out 1).trans rfl; have hfz8_0 := blk_frozen BK126.out 0; have hfz8_1 := blk_frozen BK126.out 1) | ((with_reducible refine gate_callee (f := 102) rfl ?_); refine goesL_ (some 9) rfl rfl Tryd.func102 (by kernel_rfl) rfl #[.slice A0 l0.length c0, .int .i64 a1_0] rfl (by (try simp only [List.map_toArray, List.map_cons, List.map_nil]); first | done | rfl | (simp only [List.length_drop, List.length_take]; rfl)) ?_; (with_reducible refine (tables_grammar_right.calls _ _ l0 a1_0 t127 _ ?side1 ?side2 A3.out).mono ?_); (case side1 => repeat (first | exact (Kd.C_below HR0.out HB.out) | (with_reducible refine Kd.C_alloc ?_ _) | (with_reducible refine Kd.C_drewN ?_ _) | (with_reducible refine Kd.C_drew ?_))); (case side2 => exact HC0.out); rintro e w' ⟨rfl, ⟨nd, rfl⟩⟩; refine ⟨_, rfl, ?_⟩; have p6 : 0 ≤ (a1_1 : Int) := of_decide_eq_true (by first | (with_reducible assumption) | assumption); have q6 : a1_1 < (t127.size : Int) := of_decide_eq_true (by first | (with_reducible assumption) | assumption); have hx6 := bt_at t127 a1_1; replace p6 := eq_true p6; replace q6 := eq_true q6))
      go_ret
      exact ⟨by first | rfl | (simp [errW_none, errW_some] <;> rfl) | (simp [*, errW_none, errW_some] <;> rfl), by repeat (first | (with_reducible first | exact HB.out | apply below_alloc | apply pw_below_drewN | apply below_drew1 | refine below_set ?_ GE126.out) | exact HB.out)⟩
    · rw [if_neg c5] at H
      exact absurd H (by simp)
  · rw [if_neg c4] at H
    have c4b0 : decide (a1_1 < (t127.size : Int)) = false := decide_eq_false c4
    clear c4
    obtain rfl := Option.some.inj H
    go_enter Tryd.func97, Tryd.ntmps97
    go_wp2_with (first | ((with_reducible refine gate_dst (N := 3) rfl ?_); refine box_event ?hg (N := 3) ?hd (cs := #[.int .i64 a1_0, .int .i64 a1_1]) (t := 95) ?hr ?_; (case hd => rfl); (case hg => rfl); (case hr => first | (go_simp; done) | (go_simp; rfl)); intro gb126 hg w9 hbox hb; have n0_ := Aside0.mk (below_step (by repeat (first | (with_reducible first | exact HB.out | apply below_alloc | apply pw_below_drewN | apply below_drew1) | exact HB.out)) hb); have n1_ := Aside0.mk (hbox); have n2_ := Aside0.mk ((by rw [hg]; exact (below_size (by repeat (first | (with_reducible first | exact HB.out | apply below_alloc | apply pw_below_drewN | apply below_drew1) | exact HB.out))) : w.heap.size ≤ gb126)); have n3_ := Aside0.mk ((by rw [hg]; exact (below_size (by repeat (first | (with_reducible first | exact HB.out | apply below_alloc | apply pw_below_drewN | apply below_drew1) | exact HB.out))) : w.heap.size ≤ gb126)); clear HB; have HB := n0_; have BK126 := n1_; have GW126 := n2_; have GE126 := n3_; clear n0_ n1_ n2_ n3_; clear hb hbox hg; have hcz10_0 : w9.cell? ⟨gb126, 0, none⟩ = some (.int .i64 a1_0) := (blk_cell BK126.out 0).trans rfl; have hcz10_1 : w9.cell? ⟨gb126, 1, none⟩ = some (.int .i64 a1_1) := (blk_cell BK126.out 1).trans rfl; have hfz10_0 := blk_frozen BK126.out 0; have hfz10_1 := blk_frozen BK126.out 1) | ((with_reducible refine gate_callee (f := 102) rfl ?_); refine goesL_ (some 9) rfl rfl Tryd.func102 (by kernel_rfl) rfl #[.slice A0 l0.length c0, .int .i64 a1_0] rfl (by (try simp only [List.map_toArray, List.map_cons, List.map_nil]); first | done | rfl | (simp only [List.length_drop, List.length_take]; rfl)) ?_; (with_reducible refine (tables_grammar_right.calls _ _ l0 a1_0 t127 _ ?side1 ?side2 A3.out).mono ?_); (case side1 => repeat (first | exact (Kd.C_below HR0.out HB.out) | (with_reducible refine Kd.C_alloc ?_ _) | (with_reducible refine Kd.C_drewN ?_ _) | (with_reducible refine Kd.C_drew ?_))); (case side2 => exact HC0.out); rintro e w' ⟨rfl, ⟨nd, rfl⟩⟩; refine ⟨_, rfl, ?_⟩))
    go_ret
    exact ⟨by first | rfl | (simp [errW_none, errW_some] <;> rfl) | (simp [*, errW_none, errW_some] <;> rfl), by repeat (first | (with_reducible first | exact HB.out | apply below_alloc | apply pw_below_drewN | apply below_drew1 | refine below_set ?_ GE126.out) | exact HB.out)⟩

end Go.Proofs.YtpmmfckgfbdboaaDoor.G
end

section
namespace Go.Proofs.YtpmmfckgfbdboaaDoor.G
open Go.RowKit Go.Proofs.YtpmmfckgfbdboaaDoorW.PrintWords Go.Proofs.YtpmmfckgfbdboaaDoorW.PrintLast Go.Proofs.YtpmmfckgfbdboaaDoorW.PrintMore
attribute [local go_sem] max2_int min2_int max_two min_two max_three min_three max_four min_four   -- for this text's walks alone
set_option linter.unusedVariables false
set_option linter.unusedSimpArgs false

theorem eqA95 (d : Nat) (w : World) (x0 y0 : Int) (x1 y1 : Int) :
    (Op.equalIn (d + 2) 95 (.agg #[.int .i64 x0, .int .i64 x1]) (.agg #[.int .i64 y0, .int .i64 y1])).run Tryd.prog w = .ok (x0 == y0 && (x1 == y1)) w := by
  refine eqA_of Tryd.underlying95 (by kernel_rfl) ?_
  refine eqf_cons (by rfl) (by go_simp; rfl) (by go_simp; rfl) (by go_simp) ?_
  exact eqf_last (by rfl) (by go_simp; rfl) (by go_simp; rfl) (by go_simp)
end Go.Proofs.YtpmmfckgfbdboaaDoor.G
end

section
namespace Go.Proofs.YtpmmfckgfbdboaaDoor.G
open Go.RowKit Go.Proofs.YtpmmfckgfbdboaaDoorW.PrintWords Go.Proofs.YtpmmfckgfbdboaaDoorW.PrintLast Go.Proofs.YtpmmfckgfbdboaaDoorW.PrintMore
attribute [local go_sem] max2_int min2_int max_two min_two max_three min_three max_four min_four   -- for this text's walks alone
set_option linter.unusedVariables false
set_option linter.unusedSimpArgs false

attribute [local go_sem high] eqA95
/-! ### tables_Item_141: function 141 -/
def tables_Item_141.l0 : Nat → List (S95) → Int → Int → Int → Int → Option (Int)
  | 0, _, _, _, _, _ => none
  | k + 1, x0, x7, x8, x129000, x129001 => if x8 < x7 then (if 0 ≤ x8 then (if x8 < (x0.length : Int) then (if (x129000 == ((rd_T95 x0 x8).f0) && (x129001 == ((rd_T95 x0 x8).f1))) = true then (some x8) else (tables_Item_141.l0 k x0 x7 (wrap64 (x8 + 1)) x129000 x129001)) else (none)) else (none)) else (some (-1))
def tables_Item_141.f (k : Nat) (l0 : List (S95)) (a1_0 : Int) (a1_1 : Int) : Option (Int) := tables_Item_141.l0 k l0 (l0.length : Int) 0 a1_0 a1_1
theorem tables_Item_141.mono_l : ∀ k, (∀ y0 y1 y2 y3 y4, LeO (tables_Item_141.l0 k y0 y1 y2 y3 y4) (tables_Item_141.l0 (k + 1) y0 y1 y2 y3 y4))
  | 0 => fun _ _ _ _ _ r h => by simp [tables_Item_141.l0] at h
  | k + 1 => by
    have ih0 := tables_Item_141.mono_l k
    · intro y0 y1 y2 y3 y4
      unfold tables_Item_141.l0
      repeat' first
      | (with_reducible exact ih0 _ _ _ _ _)
      | (with_reducible exact LeO.refl _)
      | (with_reducible exact LeO.none _)
      | (with_reducible refine LeO.ite ?_ ?_)
      | (with_reducible refine LeO.bind ?_ (fun _ => ?_))
      | exact ih0 _ _ _ _ _
      | exact LeO.none _
      | refine LeO.ite ?_ ?_
      | refine LeO.bind ?_ (fun _ => ?_)
theorem tables_Item_141.mono : ∀ a0 a1 a2 k, LeO (tables_Item_141.f k a0 a1 a2) (tables_Item_141.f (k + 1) a0 a1 a2) := by
  intro a0 a1 a2 k
  have ih0 := tables_Item_141.mono_l k
  unfold tables_Item_141.f
  repeat' first
      | (with_reducible exact ih0 _ _ _ _ _)
      | (with_reducible exact LeO.refl _)
      | (with_reducible exact LeO.none _)
      | (with_reducible refine LeO.ite ?_ ?_)
      | (with_reducible refine LeO.bind ?_ (fun _ => ?_))
      | exact ih0 _ _ _ _ _
      | exact LeO.none _
      | refine LeO.ite ?_ ?_
      | refine LeO.bind ?_ (fun _ => ?_)
set_option maxHeartbeats 8000000 in
set_option maxRecDepth 100000 in
theorem tables_Item_141.calls (k : Nat) (A0 : Option Addr) (c0 : Nat) (l0 : List (S95)) (a1_0 : Int) (a1_1 : Int) (r : Int) (w : World) (hr0 : Kd.C k95 w A0 l0.length l0) (hc0 : l0.length ≤ c0) (h : tables_Item_141.f k l0 a1_0 a1_1 = some r) :
    Calls Tryd.prog 141 #[.slice A0 l0.length c0, .agg #[.int .i64 a1_0, .int .i64 a1_1]] w fun e w' => e = .returned (.int .i64 r) ∧ Below w.heap.size w w' := by
  have hu95 := Tryd.underlying95
  have HR0 := Aside0.mk hr0
  have HC0 := Aside0.mk hc0
  clear hr0 hc0
  have HB := Aside0.mk (Below.refl w.heap.size w)
  have H : (tables_Item_141.l0 k l0 (l0.length : Int) 0 a1_0 a1_1) = some r := h
  clear h
  have H' := Aside0.mk H
  clear H
  go_enter Tryd.func141, Tryd.ntmps141
  go_wp2_with (first | ((with_reducible refine gate_dst (N := 3) rfl ?_); refine box_event ?hg (N := 3) ?hd (cs := #[.int .i64 a1_0, .int .i64 a1_1]) (t := 95) ?hr ?_; (case hd => rfl); (case hg => rfl); (case hr => first | (go_simp; done) | (go_simp; rfl)); intro gb128 hg w3 hbox hb; have n0_ := Aside0.mk (below_step (by repeat (first | (with_reducible first | exact HB.out | apply below_alloc | apply pw_below_drewN | apply below_drew1) | exact HB.out)) hb); have n1_ := Aside0.mk (hbox); have n2_ := Aside0.mk ((by rw [hg]; exact (below_size (by repeat (first | (with_reducible first | exact HB.out | apply below_alloc | apply pw_below_drewN | apply below_drew1) | exact HB.out))) : w.heap.size ≤ gb128)); have n3_ := Aside0.mk ((by rw [hg]; exact (below_size (by repeat (first | (with_reducible first | exact HB.out | apply below_alloc | apply pw_below_drewN | apply below_drew1) | exact HB.out))) : w.heap.size ≤ gb128)); clear HB; have HB := n0_; have BK128 := n1_; have GW128 := n2_; have GE128 := n3_; clear n0_ n1_ n2_ n3_; clear hb hbox hg))
  repeat (go_quiet (first | ((with_reducible refine gate_dst (N := 3) rfl ?_); refine box_event ?hg (N := 3) ?hd (cs := #[.int .i64 a1_0, .int .i64 a1_1]) (t := 95) ?hr ?_; (case hd => rfl); (case hg => rfl); (case hr => first | (go_simp; done) | (go_simp; rfl)); intro gb128 hg w3 hbox hb; have n0_ := Aside0.mk (below_step (by repeat (first | (with_reducible first | exact HB.out | apply below_alloc | apply pw_below_drewN | apply below_drew1) | exact HB.out)) hb); have n1_ := Aside0.mk (hbox); have n2_ := Aside0.mk ((by rw [hg]; exact (below_size (by repeat (first | (with_reducible first | exact HB.out | apply below_alloc | apply pw_below_drewN | apply below_drew1) | exact HB.out))) : w.heap.size ≤ gb128)); have n3_ := Aside0.mk ((by rw [hg]; exact (below_size (by repeat (first | (with_reducible first | exact HB.out | apply below_alloc | apply pw_below_drewN | apply below_drew1) | exact HB.out))) : w.heap.size ≤ gb128)); clear HB; have HB := n0_; have BK128 := n1_; have GW128 := n2_; have GE128 := n3_; clear n0_ n1_ n2_ n3_; clear hb hbox hg)); try go_wp2_with (first | ((with_reducible refine gate_dst (N := 3) rfl ?_); refine box_event ?hg (N := 3) ?hd (cs := #[.int .i64 a1_0, .int .i64 a1_1]) (t := 95) ?hr ?_; (case hd => rfl); (case hg => rfl); (case hr => first | (go_simp; done) | (go_simp; rfl)); intro gb128 hg w3 hbox hb; have n0_ := Aside0.mk (below_step (by repeat (first | (with_reducible first | exact HB.out | apply below_alloc | apply pw_below_drewN | apply below_drew1) | exact HB.out)) hb); have n1_ := Aside0.mk (hbox); have n2_ := Aside0.mk ((by rw [hg]; exact (below_size (by repeat (first | (with_reducible first | exact HB.out | apply below_alloc | apply pw_below_drewN | apply below_drew1) | exact HB.out))) : w.heap.size ≤ gb128)); have n3_ := Aside0.mk ((by rw [hg]; exact (below_size (by repeat (first | (with_reducible first | exact HB.out | apply below_alloc | apply pw_below_drewN | apply below_drew1) | exact HB.out))) : w.heap.size ≤ gb128)); clear HB; have HB := n0_; have BK128 := n1_; have GW128 := n2_; have GE128 := n3_; clear n0_ n1_ n2_ n3_; clear hb hbox hg)))
  go_loopg [8] k (fun kq v8 w' => ∃ (x8_1 : Int), v8 = .int .i64 x8_1 ∧ Aside0 (tables_Item_141.l0 kq l0 (l0.length : Int) x8_1 a1_0 a1_1 = some r) ∧ Aside0 (kq ≤ k) ∧ Aside0 (w'.heap[gb128]? = some (.cells #[.int .i64 a1_0, .int .i64 a1_1] 95 (0, 0))) ∧ Aside0 (Below w.heap.size w w'))
  case atStart => exact ⟨(0), (by first | rfl | (simp; done) | (simp [*]; done)), H', ⟨Nat.le_refl _⟩, ⟨by (with_reducible repeat (first | refine blk_drewN ?_ _ | refine blk_drew ?_ | refine blk_alloc ?_ _)); exact BK128.out⟩, ⟨by repeat (first | (with_reducible first | exact HB.out | apply below_alloc | apply pw_below_drewN | apply below_drew1 | refine below_set ?_ GE128.out) | exact HB.out)⟩⟩
  case round =>
    clear H'
    try clear c1
    try clear p2
    obtain ⟨x8_1, rfl, HA, HK1, BK128, HB⟩ := hrel
    cases gk with
    | zero => exact absurd HA.out (by simp [tables_Item_141.l0])
    | succ k1 =>
      have H := HA.out
      clear HA
      simp only [tables_Item_141.l0] at H
      by_cases c4 : x8_1 < (l0.length : Int)
      · rw [if_pos c4] at H
        have c4b0 : decide (x8_1 < (l0.length : Int)) = true := decide_eq_true c4
        clear c4
        by_cases c5 : 0 ≤ x8_1
        · rw [if_pos c5] at H
          have c5b0 : decide (0 ≤ x8_1) = true := decide_eq_true c5
          clear c5
          by_cases c6 : x8_1 < (l0.length : Int)
          · rw [if_pos c6] at H
            have c6b0 : decide (x8_1 < (l0.length : Int)) = true := decide_eq_true c6
            clear c6
            by_cases c7 : (a1_0 == ((rd_T95 l0 x8_1).f0) && (a1_1 == ((rd_T95 l0 x8_1).f1))) = true
            · rw [if_pos c7] at H
              have c7b0 : (a1_0 == ((rd_T95 l0 x8_1).f0) && (a1_1 == ((rd_T95 l0 x8_1).f1))) = true := c7
              (try (have c7b1 : decide (a1_0 = ((rd_T95 l0 x8_1).f0) && (a1_1 == ((rd_T95 l0 x8_1).f1))) = true := by simpa using c7))
              (try (have c7b2 : (a1_0 == ((rd_T95 l0 x8_1).f0) && (a1_1 == ((rd_T95 l0 x8_1).f1))) = true := by simpa using c7))
              clear c7
              obtain rfl := Option.some.inj H
              have hcz8_0 : wr.cell? ⟨gb128, 0, none⟩ = some (.int .i64 a1_0) := (blk_cell BK128.out 0).trans rfl
              have hcz8_1 : wr.cell? ⟨gb128, 1, none⟩ = some (.int .i64 a1_1) := (blk_cell BK128.out 1).trans rfl
              have hfz8_0 := blk_frozen BK128.out 0
              have hfz8_1 := blk_frozen BK128.out 1
              have p129 : 0 ≤ (x8_1 : Int) := of_decide_eq_true (by first | (with_reducible assumption) | assumption)
              have q129 : x8_1 < (l0.length : Int) := of_decide_eq_true (by first | (with_reducible assumption) | assumption)
              obtain ⟨ad129, e129, hx129_0, hx129_1⟩ := at_T95 HR0.out x8_1 p129 q129
              cases e129
              replace hx129_0 := (HB.out.cell (World.block_lt_of_cell? w _ hx129_0)).trans hx129_0
              replace hx129_1 := (HB.out.cell (World.block_lt_of_cell? w _ hx129_1)).trans hx129_1
              replace p129 := eq_true p129
              replace q129 := eq_true q129
              go_wp2
              repeat (go_quiet (fail); try go_wp2)
              go_ret
              exact ⟨by first | rfl | (simp [errW_none, errW_some] <;> rfl) | (simp [*, errW_none, errW_some] <;> rfl), by repeat (first | (with_reducible first | exact HB.out | apply below_alloc | apply pw_below_drewN | apply below_drew1 | refine below_set ?_ GE128.out) | exact HB.out)⟩
            · rw [if_neg c7] at H
              have c7b0 : (a1_0 == ((rd_T95 l0 x8_1).f0) && (a1_1 == ((rd_T95 l0 x8_1).f1))) = false := by simpa using c7
              (try (have c7b1 : decide (a1_0 = ((rd_T95 l0 x8_1).f0) && (a1_1 == ((rd_T95 l0 x8_1).f1))) = false := by simpa using c7))
              (try (have c7b2 : (a1_0 == ((rd_T95 l0 x8_1).f0) && (a1_1 == ((rd_T95 l0 x8_1).f1))) = false := by simpa using c7))
              (try (have c7b3 : ¬ (a1_0 = ((rd_T95 l0 x8_1).f0) && (a1_1 == ((rd_T95 l0 x8_1).f1))) := by simpa using c7))
              clear c7
              have H' := Aside0.mk H
              clear H
              have hcz9_0 : wr.cell? ⟨gb128, 0, none⟩ = some (.int .i64 a1_0) := (blk_cell BK128.out 0).trans rfl
              have hcz9_1 : wr.cell? ⟨gb128, 1, none⟩ = some (.int .i64 a1_1) := (blk_cell BK128.out 1).trans rfl
              have hfz9_0 := blk_frozen BK128.out 0
              have hfz9_1 := blk_frozen BK128.out 1
              have p129 : 0 ≤ (x8_1 : Int) := of_decide_eq_true (by first | (with_reducible assumption) | assumption)
              have q129 : x8_1 < (l0.length : Int) := of_decide_eq_true (by first | (with_reducible assumption) | assumption)
              obtain ⟨ad129, e129, hx129_0, hx129_1⟩ := at_T95 HR0.out x8_1 p129 q129
              cases e129
              replace hx129_0 := (HB.out.cell (World.block_lt_of_cell? w _ hx129_0)).trans hx129_0
              replace hx129_1 := (HB.out.cell (World.block_lt_of_cell? w _ hx129_1)).trans hx129_1
              replace p129 := eq_true p129
              replace q129 := eq_true q129
              go_wp2
              repeat (go_quiet (fail); try go_wp2)
              go_roundg k1
              case measure => have := HK1.out; omega
              case rel => exact ⟨(wrap64 (x8_1 + 1)), (by first | rfl | (simp; done) | (simp [*]; done)), H', ⟨by have := HK1.out; omega⟩, ⟨by (with_reducible repeat (first | refine blk_drewN ?_ _ | refine blk_drew ?_ | refine blk_alloc ?_ _)); exact BK128.out⟩, ⟨by repeat (first | (with_reducible first | exact HB.out | apply below_alloc | apply pw_below_drewN | apply below_drew1 | refine below_set ?_ GE128.out) | exact HB.out)⟩⟩
          · rw [if_neg c6] at H
            exact absurd H (by simp)
        · rw [if_neg c5] at H
          exact absurd H (by simp)
      · rw [if_neg c4] at H
        have c4b0 : decide (x8_1 < (l0.length : Int)) = false := decide_eq_false c4
        clear c4
        obtain rfl := Option.some.inj H
        go_wp2
        repeat (go_quiet (fail); try go_wp2)
        go_ret
        exact ⟨by first | rfl | (simp [errW_none, errW_some] <;> rfl) | (simp [*, errW_none, errW_some] <;> rfl), by repeat (first | (with_reducible first | exact HB.out | apply below_alloc | apply pw_below_drewN | apply below_drew1 | refine below_set ?_ GE128.out) | exact HB.out)⟩

end Go.Proofs.YtpmmfckgfbdboaaDoor.G
end

section
namespace Go.Proofs.YtpmmfckgfbdboaaDoor.G
open Go.RowKit Go.Proofs.YtpmmfckgfbdboaaDoorW.PrintWords Go.Proofs.YtpmmfckgfbdboaaDoorW.PrintLast Go.Proofs.YtpmmfckgfbdboaaDoorW.PrintMore
attribute [local go_sem] max2_int min2_int max_two min_two max_three min_three max_four min_four   -- for this text's walks alone
set_option linter.unusedVariables false
set_option linter.unusedSimpArgs false

/-! ### tables_Item_121: function 121 -/
def tables_Item_121.f (k : Nat) (l0 : List (S95)) (a1_0 : Int) (a1_1 : Int) : Option (Bool) := (tables_Item_141.f k l0 a1_0 a1_1).bind fun t131 => (some (decide (t131 ≥ 0)))
theorem tables_Item_121.mono : ∀ a0 a1 a2 k, LeO (tables_Item_121.f k a0 a1 a2) (tables_Item_121.f (k + 1) a0 a1 a2) := by
  intro a0 a1 a2 k
  unfold tables_Item_121.f
  repeat' first
      | (with_reducible exact tables_Item_141.mono _ _ _ _)
      | (with_reducible exact LeO.refl _)
      | (with_reducible exact LeO.none _)
      | (with_reducible refine LeO.ite ?_ ?_)
      | (with_reducible refine LeO.bind ?_ (fun _ => ?_))
      | exact tables_Item_141.mono _ _ _ _
      | exact LeO.none _
      | refine LeO.ite ?_ ?_
      | refine LeO.bind ?_ (fun _ => ?_)
set_option maxHeartbeats 8000000 in
set_option maxRecDepth 100000 in
theorem tables_Item_121.calls (k : Nat) (A0 : Option Addr) (c0 : Nat) (l0 : List (S95)) (a1_0 : Int) (a1_1 : Int) (r : Bool) (w : World) (hr0 : Kd.C k95 w A0 l0.length l0) (hc0 : l0.length ≤ c0) (h : tables_Item_121.f k l0 a1_0 a1_1 = some r) :
    Calls Tryd.prog 121 #[.slice A0 l0.length c0, .agg #[.int .i64 a1_0, .int .i64 a1_1]] w fun e w' => e = .returned (.bool r) ∧ Below w.heap.size w w' := by
  have hu95 := Tryd.underlying95
  have HR0 := Aside0.mk hr0
  have HC0 := Aside0.mk hc0
  clear hr0 hc0
  have HB := Aside0.mk (Below.refl w.heap.size w)
  have H : ((tables_Item_141.f k l0 a1_0 a1_1).bind fun t131 => (some (decide (t131 ≥ 0)))) = some r := h
  clear h
  replace H := Option.bind_eq_some_iff.mp H
  obtain ⟨t131, A30, H⟩ := H
  replace H : (some (decide (t131 ≥ 0))) = some r := H
  have A3 := Aside0.mk A30
  clear A30
  obtain rfl := Option.some.inj H
  go_enter Tryd.func121, Tryd.ntmps121
  go_wp2_with (first | ((with_reducible refine gate_dst (N := 3) rfl ?_); refine box_event ?hg (N := 3) ?hd (cs := #[.int .i64 a1_0, .int .i64 a1_1]) (t := 95) ?hr ?_; (case hd => rfl); (case hg => rfl); (case hr => first | (go_simp; done) | (go_simp; rfl)); intro gb130 hg w4 hbox hb; have n0_ := Aside0.mk (below_step (by repeat (first | (with_reducible first | exact HB.out | apply below_alloc | apply pw_below_drewN | apply below_drew1) | exact HB.out)) hb); have n1_ := Aside0.mk (hbox); have n2_ := Aside0.mk ((by rw [hg]; exact (below_size (by repeat (first | (with_reducible first | exact HB.out | apply below_alloc | apply pw_below_drewN | apply below_drew1) | exact HB.out))) : w.heap.size ≤ gb130)); have n3_ := Aside0.mk ((by rw [hg]; exact (below_size (by repeat (first | (with_reducible first | exact HB.out | apply below_alloc | apply pw_below_drewN | apply below_drew1) | exact HB.out))) : w.heap.size ≤ gb130)); clear HB; have HB := n0_; have BK130 := n1_; have GW130 := n2_; have GE130 := n3_; clear n0_ n1_ n2_ n3_; clear hb hbox hg; have hcz5_0 : w4.cell? ⟨gb130, 0, none⟩ = some (.int .i64 a1_0) := (blk_cell BK130.out 0).trans rfl; have hcz5_1 : w4.cell? ⟨gb130, 1, none⟩ = some (.int .i64 a1_1) := (blk_cell BK130.out 1).trans rfl; have hfz5_0 := blk_frozen BK130.out 0; have hfz5_1 := blk_frozen BK130.out 1) | ((with_reducible refine gate_callee (f := 141) rfl ?_); refine goesL_ (some 7) rfl rfl Tryd.func141 (by kernel_rfl) rfl #[.slice A0 l0.length c0, .agg #[.int .i64 a1_0, .int .i64 a1_1]] rfl (by (try simp only [List.map_toArray, List.map_cons, List.map_nil]); first | done | rfl | (simp only [List.length_drop, List.length_take]; rfl)) ?_; (with_reducible refine (tables_Item_141.calls k _ _ l0 a1_0 a1_1 t131 _ ?side1 ?side2 A3.out).mono ?_); (case side1 => repeat (first | exact (Kd.C_below HR0.out HB.out) | (with_reducible refine Kd.C_alloc ?_ _) | (with_reducible refine Kd.C_drewN ?_ _) | (with_reducible refine Kd.C_drew ?_))); (case side2 => exact HC0.out); rintro e w6 ⟨rfl, hb⟩; refine ⟨_, rfl, ?_⟩; have n0_ := Aside0.mk (blk_below (g := gb130) (o := .cells #[.int .i64 a1_0, .int .i64 a1_1] 95 (0, 0)) (by (with_reducible repeat (first | refine blk_drewN ?_ _ | refine blk_drew ?_ | refine blk_alloc ?_ _)); exact BK130.out) hb); have n1_ := Aside0.mk (below_step (by repeat (first | (with_reducible first | exact HB.out | apply below_alloc | apply pw_below_drewN | apply below_drew1 | refine below_set ?_ GE130.out) | exact HB.out)) hb); clear BK130; clear HB; have BK130 := n0_; have HB := n1_; clear n0_ n1_; (try clear hb); (try clear hb2); (try clear hk); (try clear hi)))
  go_ret
  exact ⟨by first | rfl | (simp [errW_none, errW_some] <;> rfl) | (simp [*, errW_none, errW_some] <;> rfl), by repeat (first | (with_reducible first | exact HB.out | apply below_alloc | apply pw_below_drewN | apply below_drew1 | refine below_set ?_ GE130.out) | exact HB.out)⟩

end Go.Proofs.YtpmmfckgfbdboaaDoor.G
end

section
namespace Go.Proofs.YtpmmfckgfbdboaaDoor.G
open Go.RowKit Go.Proofs.YtpmmfckgfbdboaaDoorW.PrintWords Go.Proofs.YtpmmfckgfbdboaaDoorW.PrintLast Go.Proofs.YtpmmfckgfbdboaaDoorW.PrintMore
open Go.Shelf Go.Lib
set_option linter.unusedVariables false
set_option linter.unusedSimpArgs false
def rightP (g : List (Int × List Int)) (rule : Int) : List Int := if rule = g.length then [((g.head?).map (·.1)).getD 65] else ((g[rule.toNat]?).map (·.2)).getD []
def behindP (g : List (Int × List Int)) (x : S95) : Int := (rightP g x.f0).getD x.f1.toNat 0
def okItem (g : List (Int × List Int)) (x : S95) : Prop := 0 ≤ x.f0 ∧ x.f0 ≤ g.length ∧ 0 ≤ x.f1
theorem encode_part {c : Int} (h : isPartB c = true) : bytesOf (Utf8.encode c) = [c] := by
  rcases isPartB_cases h with rfl | rfl | rfl | rfl | rfl <;> decide
theorem right_f (l : List S56) (hg : okG (gr56 l)) (hne : 0 < l.length) (rule : Int) (h0 : 0 ≤ rule) (h1 : rule ≤ l.length) : ∃ t, tables_grammar_right.f l rule = some t ∧ bytesOf t = rightP (gr56 l) rule := by
  unfold tables_grammar_right.f rightP
  have hl : (gr56 l).length = l.length := by simp [gr56]
  rw [hl]
  by_cases h : rule = l.length
  · rw [if_pos h, if_pos (by omega : (0 : Int) < l.length), if_pos h]
    obtain ⟨hp, _⟩ := okG_at hg 0 (by decide) (by omega)
    refine ⟨_, rfl, ?_⟩
    rw [encode_part hp]
    cases l with
    | nil => simp at hne
    | cons a l => rfl
  · rw [if_neg h, if_pos h0, if_pos (by omega), if_neg h]
    refine ⟨_, rfl, ?_⟩
    have h2 : rule.toNat < l.length := by omega
    simp [gr56, rd_T56, List.getD_eq_getElem?_getD, h2]
theorem behind_f (l : List S56) (hg : okG (gr56 l)) (hne : 0 < l.length) (x : S95) (hx : okItem (gr56 l) x) : tables_grammar_behind.f l x.f0 x.f1 = some (behindP (gr56 l) x) := by
  have hl : (gr56 l).length = l.length := by simp [gr56]
  obtain ⟨h0, h1, h2⟩ := hx
  rw [hl] at h1
  obtain ⟨t, ht, hb⟩ := right_f l hg hne x.f0 h0 h1
  unfold tables_grammar_behind.f behindP
  rw [ht, ← hb]
  simp only [Option.bind_some]
  have hs : (bytesOf t).length = t.size := bytesOf_length t
  by_cases h : x.f1 < t.size
  · rw [if_pos h, if_pos h2]
    congr 1
    have := rd_bytesOf t x.f1
    rw [← this]
    rfl
  · rw [if_neg h, List.getD_eq_getElem?_getD, List.getElem?_eq_none (by omega)]
    rfl
theorem behind_any (l : List S56) (A : Option Addr) (c0 : Nat) (w : World) (hr0 : Kd.C k56 w A l.length l) (hc0 : l.length ≤ c0) (hg : okG (gr56 l)) (hne : 0 < l.length) (x : S95) (hx : okItem (gr56 l) x) :
    Calls Tryd.prog 97 #[.slice A l.length c0, .agg #[.int .i64 x.f0, .int .i64 x.f1]] w fun e w' => e = .returned (.int .u8 (behindP (gr56 l) x)) ∧ Below w.heap.size w w' :=
  tables_grammar_behind.calls A c0 l x.f0 x.f1 _ w hr0 hc0 (behind_f l hg hne x hx)
def hasItem (xs : List S95) (x : S95) : Bool := xs.any fun y => y.f0 == x.f0 && y.f1 == x.f1
theorem index_f (xs : List S95) (x : S95) (hl : xs.length < 2 ^ 62) : ∀ (n : Nat) (i : Int), 0 ≤ i → i ≤ xs.length → xs.length < i.toNat + n → ∃ r, tables_Item_141.l0 n xs (xs.length : Int) i x.f0 x.f1 = some r ∧ decide (r ≥ 0) = hasItem (xs.drop i.toNat) x
  | 0, i, h0, h1, h => by omega
  | n + 1, i, h0, h1, h => by
    unfold tables_Item_141.l0
    by_cases hlt : i < xs.length
    · have hl2 : i.toNat < xs.length := by omega
      have hd : xs.drop i.toNat = rd_T95 xs i :: xs.drop (i + 1).toNat := by
        rw [List.drop_eq_getElem_cons hl2, show (i + 1).toNat = i.toNat + 1 by omega]
        congr 1
        simp [rd_T95, List.getD_eq_getElem?_getD, hl2]
      obtain ⟨r, hr, hb⟩ := index_f xs x hl n (i + 1) (by omega) (by omega) (by omega)
      rw [if_pos hlt, if_pos h0, if_pos hlt, wrap64_succ h0 ⟨hlt, hl⟩, hr, hd]
      by_cases he : (x.f0 == (rd_T95 xs i).f0 && (x.f1 == (rd_T95 xs i).f1)) = true
      · rw [if_pos he]
        refine ⟨i, rfl, ?_⟩
        simp only [Bool.and_eq_true, beq_iff_eq] at he
        simp [hasItem, he.1, he.2, h0]
      · rw [if_neg he]
        refine ⟨r, rfl, ?_⟩
        rw [hb]
        simp only [Bool.and_eq_true, beq_iff_eq, not_and] at he
        simp only [hasItem, List.any_cons]
        have : ((rd_T95 xs i).f0 == x.f0 && (rd_T95 xs i).f1 == x.f1) = false := by
          by_cases h5 : (rd_T95 xs i).f0 = x.f0
          · have := he h5.symm
            simp [h5]
            exact fun h => this h.symm
          · simp [h5]
        rw [this, Bool.false_or]
    · rw [if_neg hlt, List.drop_of_length_le (by omega)]
      exact ⟨-1, rfl, rfl⟩
theorem contains_any (xs : List S95) (x : S95) (A : Option Addr) (c0 : Nat) (w : World) (hr0 : Kd.C k95 w A xs.length xs) (hc0 : xs.length ≤ c0) (hl : xs.length < 2 ^ 62) :
    Calls Tryd.prog 121 #[.slice A xs.length c0, .agg #[.int .i64 x.f0, .int .i64 x.f1]] w fun e w' => e = .returned (.bool (hasItem xs x)) ∧ Below w.heap.size w w' := by
  obtain ⟨r, hr, hb⟩ := index_f xs x hl (xs.length + 1) 0 (by decide) (by omega) (by simp)
  refine tables_Item_121.calls (xs.length + 1) A c0 xs x.f0 x.f1 _ w hr0 hc0 ?_
  unfold tables_Item_121.f tables_Item_141.f
  rw [hr]
  simp only [Option.bind_some]
  rw [hb]
  rfl
def addR (c : Int) : List (Int × List Int) → Nat → List S95 → List S95
  | [], _, l => l
  | r :: g, k, l => if (r.1 == c && !hasItem l ⟨k, 0⟩) = true then addR c g (k + 1) (l ++ [⟨k, 0⟩]) else addR c g (k + 1) l
def closeO (g : List (Int × List Int)) : Nat → Int → List S95 → Option (List S95)
  | 0, _, _ => none
  | n + 1, i, xs => if xs.length ≤ 1000 then (if i < xs.length then closeO g n (i + 1) (addR (behindP g (rd_T95 xs i)) g 0 xs) else some xs) else none

theorem addR_len (c : Int) : ∀ (g : List (Int × List Int)) (k : Nat) (l : List S95), (addR c g k l).length ≤ l.length + g.length ∧ l.length ≤ (addR c g k l).length
  | [], k, l => by simp [addR]
  | r :: g, k, l => by
    simp only [addR]
    split
    · have := addR_len c g (k + 1) (l ++ [⟨k, 0⟩])
      simp at this ⊢
      omega
    · have := addR_len c g (k + 1) l
      simp
      omega
theorem addR_ok (G : List (Int × List Int)) (c : Int) : ∀ (g : List (Int × List Int)) (k : Nat) (l : List S95), k + g.length ≤ G.length → (∀ x ∈ l, okItem G x) → ∀ x ∈ addR c g k l, okItem G x
  | [], k, l, _, h => by simpa [addR] using h
  | r :: g, k, l, hk, h => by
    simp only [addR]
    simp at hk
    split
    · refine addR_ok G c g (k + 1) _ (by omega) (fun x hx => ?_)
      rcases List.mem_append.1 hx with h1 | h1
      · exact h x h1
      · simp at h1
        subst h1
        exact ⟨by simp, by simp; omega, by simp⟩
    · exact addR_ok G c g (k + 1) l (by omega) h
theorem gr_len (l : List S56) : (gr56 l).length = l.length := by simp [gr56]
theorem grown_of_below {w w1 : World} (h : Below w.heap.size w w1) (row : Option Nat) : w.grownBy w1 row := ⟨h.os, h.tape, h.output, h.size, fun k hk _ => h.block k hk⟩
theorem grown_then {a b c : World} {row row' : Option Nat} (h : a.grownBy b row) (k : b.grownBy c row') (hr : row' = row ∨ ∃ j, row' = some j ∧ a.heap.size ≤ j) : a.grownBy c row :=
  ⟨k.os.trans h.os, k.tape.trans h.tape, k.output.trans h.output, Nat.le_trans h.size k.size, fun i hi hn => (k.block i (Nat.lt_of_lt_of_le hi h.size) (fun hj => by
    rcases hr with h1 | ⟨i2, h1, h2⟩
    · exact hn (hj.trans h1)
    · rw [h1] at hj
      have := Option.some.inj hj
      omega)).trans (h.block i hi hn)⟩
theorem row_then {v v1 v2 : Value} {n m : Nat} (hnm : n ≤ m) (h : v1.ownBlock = v.ownBlock ∨ ∃ b, v1.ownBlock = some b ∧ n ≤ b) (h2 : v2.ownBlock = v1.ownBlock ∨ ∃ b, v2.ownBlock = some b ∧ m ≤ b) : v2.ownBlock = v.ownBlock ∨ ∃ b, v2.ownBlock = some b ∧ n ≤ b := by
  rcases h2 with h2 | ⟨b, h2, h3⟩
  · rw [h2]; exact h
  · exact .inr ⟨b, h2, Nat.le_trans hnm h3⟩
theorem grown_below {a b c : World} {row : Option Nat} (h : a.grownBy b row) (k : Below b.heap.size b c) : a.grownBy c row :=
  grown_then h (grown_of_below k row) (.inl rfl)
theorem toNat_lt {i : Int} {n : Nat} (h0 : 0 ≤ i) (h1 : i < n) : i.toNat < n := by omega
theorem toNat_next {i : Int} (h0 : 0 ≤ i) : (i + 1).toNat = i.toNat + 1 := by omega
theorem len_next {j : Int} {a b : Nat} (h0 : 0 ≤ j) (h : a ≤ b + j.toNat ∧ b ≤ a) : a ≤ b + (j + 1).toNat ∧ b ≤ a := by omega
theorem len_big {a b n : Nat} {j : Int} (h : a ≤ b + j.toNat) (h1 : b ≤ 1000) (h2 : n ≤ 8) (h0 : 0 ≤ j) (h3 : j < n) : (a + 1) * 16 ≤ 140737488355328 := by omega
theorem len_snoc {j : Int} {zs : List S95} {b : Nat} {x : S95} (h0 : 0 ≤ j) (h : zs.length ≤ b + j.toNat ∧ b ≤ zs.length) : (zs ++ [x]).length ≤ b + (j + 1).toNat ∧ b ≤ (zs ++ [x]).length := by
  simp only [List.length_append, List.length_singleton]
  omega
theorem ok_snoc {g : List (Int × List Int)} {zs : List S95} {x : S95} (h : ∀ y ∈ zs, okItem g y) (hx : okItem g x) : ∀ y ∈ zs ++ [x], okItem g y := fun y hy => by
  rcases List.mem_append.1 hy with h1 | h1
  · exact h y h1
  · rw [List.mem_singleton.1 h1]; exact hx
theorem ne_of_len {i : Int} {n : Nat} {zs : List S95} (h0 : 0 ≤ i) (h : i < n) (h2 : n ≤ zs.length) : zs ≠ [] := by
  rintro rfl
  simp at h2
  omega
theorem info95 : (Tryd.prog.info? 95).map (fun i => (i.zero, i.size, i.bytes)) = some (some (.agg #[(.int .i64 0), (.int .i64 0)]), 2, 16) := by kernel_rfl
theorem rd_mem (zs : List S95) (i : Int) (h0 : 0 ≤ i) (h1 : i < zs.length) : rd_T95 zs i ∈ zs := by
  have h2 : i.toNat < zs.length := by omega
  simp [rd_T95, List.getD_eq_getElem?_getD, h2]
set_option maxHeartbeats 4000000 in
set_option maxRecDepth 100000 in
theorem closure_any (l : List S56) (A : Option Addr) (c0 : Nat) (v : Value) (xs : List S95) (w0 w : World) (hr0 : Kd.C k56 w0 A l.length l) (hc0 : l.length ≤ c0) (hg : okG (gr56 l)) (hne : 0 < l.length)
    (HO : Kd.R k95 95 w w0.heap.size (fun _ => True) v xs) (HB : Below w0.heap.size w0 w) (hxs : xs ≠ []) (hok : ∀ x ∈ xs, okItem (gr56 l) x) (n : Nat) (ys : List S95) (hys : closeO (gr56 l) n 0 xs = some ys) :
    Calls Tryd.prog 96 #[.slice A l.length c0, v] w fun e w' => ∃ v1, e = .returned v1 ∧ Kd.R k95 95 w' w0.heap.size (fun _ => True) v1 (sortI ys) ∧ Below w0.heap.size w0 w' ∧ w.grownBy w' v.ownBlock ∧ (v1.ownBlock = v.ownBlock ∨ ∃ b, v1.ownBlock = some b ∧ w.heap.size ≤ b) := by
  have HR0 := Lib.hid hr0
  have HG := Lib.hid hg
  have HNE := Lib.hid hne
  have hlen := Lib.hid (show l.length ≤ 8 by have := hg.1; rwa [gr_len] at this)
  have HS := Lib.hid (And.intro HO (And.intro HB (And.intro hxs (And.intro hok hys))))
  clear hr0 hg hne HO HB hxs hok hys
  go_enter Tryd.func96, Tryd.ntmps96
  go_wp2
  go_loopg [1, 5] n (fun kq v1 v5 w' => ∃ (zs : List S95) (i : Int), v5 = .int .i64 i ∧ 0 ≤ i ∧ Hid (Kd.R k95 95 w' w0.heap.size (fun _ => True) v1 zs) ∧ Hid (zs ≠ []) ∧ Hid (∀ x ∈ zs, okItem (gr56 l) x) ∧ Hid (closeO (gr56 l) kq i zs = some ys) ∧ Hid (Below w0.heap.size w0 w') ∧ Hid (w.grownBy w' v.ownBlock) ∧ Hid (v1.ownBlock = v.ownBlock ∨ ∃ b, v1.ownBlock = some b ∧ w.heap.size ≤ b))
  case atStart => exact ⟨xs, 0, rfl, by decide, Lib.hid HS.out.1, Lib.hid HS.out.2.2.1, Lib.hid HS.out.2.2.2.1, Lib.hid HS.out.2.2.2.2, Lib.hid HS.out.2.1, Lib.hid (grown_of_below (Below.refl _ _) _), Lib.hid (.inl rfl)⟩
  case round =>
    clear HS
    obtain ⟨zs, i, rfl, hi0, HO, HN, HK, HC, HB, HGR, HOW⟩ := hrel
    obtain ⟨k1, hk1⟩ : ∃ k1, gk = k1 + 1 := by
      cases gk with
      | zero => exact absurd HC.out (by simp [closeO])
      | succ k1 => exact ⟨k1, rfl⟩
    subst hk1
    have hC := HC.out
    simp only [closeO] at hC
    by_cases hL : zs.length ≤ 1000
    · rw [if_pos hL] at hC
      obtain ⟨AZ, cz, hvz, hcz, hCz⟩ := Kd.R_reads HO.out
      subst hvz
      by_cases hlt : i < zs.length
      · rw [if_pos hlt] at hC
        have HC2 := Lib.hid hC
        clear hC HC
        obtain ⟨ad, eA, hx0, hx1⟩ := at_T95 hCz i hi0 hlt
        cases eA
        have hbz := behind_any l A c0 wr (Kd.C_below HR0.out HB.out) hc0 HG.out HNE.out (rd_T95 zs i) (HK.out _ (rd_mem zs i hi0 hlt))
        have hcL : ∃ c, behindP (gr56 l) (rd_T95 zs i) = c := ⟨_, rfl⟩
        obtain ⟨c, hc⟩ := hcL
        rw [hc] at hbz HC2
        have HBZ := Lib.hid hbz
        have HCZ := Lib.hid hCz
        have HL := Lib.hid (And.intro hL hcz)
        have hw : wrap64 (i + 1) = i + 1 := wrap64_succ hi0 ⟨hlt, Nat.lt_of_le_of_lt hL (by decide)⟩
        have HHW := Lib.hid hw
        clear hbz hc hCz hL hcz hw
        go_wp2_with (go_at_call 97; refine HBZ.out.mono ?_; rintro e w1 ⟨rfl, hbw⟩)
        have HO1 := Lib.hid (Kd.R_below HO.out hbw)
        have HB1 := Lib.hid (below_step HB.out hbw)
        have HGR1 := Lib.hid (grown_below HGR.out hbw)
        have HOW1 := HOW
        have HSA : Hid (w.heap.size ≤ w1.heap.size) := Lib.hid HGR1.out.size
        clear hbw HO HB HGR HOW HBZ HCZ hx0 hx1
        go_loopg [1, 24] l.length (fun kq v1 v24 w' => ∃ (zs2 : List S95) (j : Int), v24 = .int .i64 j ∧ 0 ≤ j ∧ j ≤ l.length ∧ kq = l.length - j.toNat ∧ Hid (Kd.R k95 95 w' w0.heap.size (fun _ => True) v1 zs2) ∧ Hid (zs2.length ≤ zs.length + j.toNat ∧ zs.length ≤ zs2.length) ∧ Hid (∀ x ∈ zs2, okItem (gr56 l) x) ∧ Hid (addR c ((gr56 l).drop j.toNat) j.toNat zs2 = addR c (gr56 l) 0 zs) ∧ Hid (Below w0.heap.size w0 w') ∧ Hid (w.grownBy w' v.ownBlock) ∧ Hid (v1.ownBlock = v.ownBlock ∨ ∃ b, v1.ownBlock = some b ∧ w.heap.size ≤ b))
        case atStart => exact ⟨zs, 0, rfl, by decide, Int.natCast_nonneg _, rfl, HO1, Lib.hid ⟨Nat.le_refl _, Nat.le_refl _⟩, HK, Lib.hid rfl, HB1, HGR1, HOW1⟩
        case round =>
          clear HO1 HB1 HGR1 HOW1 HSA
          obtain ⟨zs2, j, rfl, hj0, hj1, hkq2, HO, HZL, HK2, HI2, HB, HGR, HOW⟩ := hrel
          by_cases hltj : j < l.length
          · have hd := drop_gr l j hj0 hltj
            obtain ⟨ad', eA, hx0, hx1⟩ := at_T56 (Kd.C_below HR0.out HB.out) j hj0 hltj
            cases eA
            have hR := HI2.out
            rw [hd] at hR
            clear hd HI2
            generalize rd_T56 l j = r at *
            obtain ⟨x, q⟩ := r
            simp only [addR] at hR
            simp only at hx0 hx1
            obtain ⟨AZ2, cz2, hvz2, hcz2, hCz2⟩ := Kd.R_reads HO.out
            subst hvz2
            have hjn : ((j.toNat : Nat) : Int) = j := Int.toNat_of_nonneg hj0
            rw [hjn] at hR
            have hcon := fun W (hb : Below wr.heap.size wr W) => contains_any zs2 (⟨j, 0⟩ : S95) AZ2 cz2 W (Kd.C_below hCz2 hb) hcz2 (Nat.lt_of_le_of_lt (Nat.le_trans HZL.out.1 (Nat.add_le_add HL.out.1 (Nat.le_of_lt (toNat_lt hj0 hltj)))) (Nat.lt_of_le_of_lt (Nat.add_le_add_left hlen.out _) (by decide)))
            have HCON := Lib.hid hcon
            have HR := Lib.hid hR
            have HW1 := Lib.hid (blk_alloc (blk_new wr (.cells #[.int .u8 x, .string q] 56)) (.cells #[.int .i64 j, .int .i64 0] 95))
            have HW2 := Lib.hid (blk_new (wr.alloc (.cells #[.int .u8 x, .string q] 56)) (.cells #[.int .i64 j, .int .i64 0] 95))
            rw [World.size_alloc] at HW2
            have HBL := Lib.hid (below_alloc (below_alloc (Below.refl wr.heap.size wr) (.cells #[.int .u8 x, .string q] 56)) (.cells #[.int .i64 j, .int .i64 0] 95))
            have hg0 := (blk_cell HW1.out 0).trans (show _ = some (Value.int .u8 x) from rfl)
            have hg1 := (blk_cell HW2.out 0).trans (show _ = some (Value.int .i64 j) from rfl)
            have hg2 := (blk_cell HW2.out 1).trans (show _ = some (Value.int .i64 0) from rfl)
            clear hR hcon hCz2
            by_cases hxc : x = c
            · subst hxc
              cases hh : hasItem zs2 ⟨j, 0⟩
              · have hR := HR.out
                rw [hh] at hR
                simp only [beq_self_eq_true, Bool.not_false, Bool.and_true, if_true] at hR
                have HR2 := Lib.hid hR
                rw [hh] at HCON
                clear hR HR hh
                have hxb : (x == x) = true := beq_self_eq_true x
                have hw : wrap64 (j + 1) = j + 1 := wrap64_succ hj0 ⟨hltj, Nat.lt_of_le_of_lt hlen.out (by decide)⟩
                have hbig : (zs2.length + 1) * 16 ≤ 140737488355328 := len_big HZL.out.1 HL.out.1 hlen.out hj0 hltj
                go_wp2_with (first | (go_at_call 121; refine (HCON.out _ HBL.out).mono ?_; rintro e w3 ⟨rfl, hbw⟩; have hk1 := (blk_cell (blk_below HW2.out hbw) 0).trans (show _ = some (Value.int .i64 j) from rfl); have hk2 := (blk_cell (blk_below HW2.out hbw) 1).trans (show _ = some (Value.int .i64 0) from rfl); have HB3 := Lib.hid (below_step (below_step HB.out HBL.out) hbw); have HO3 := Lib.hid (Kd.R_below (Kd.R_below HO.out HBL.out) hbw); have HG3 := Lib.hid (grown_below (grown_below HGR.out HBL.out) hbw); clear hg0 hg1 hg2) | ((with_reducible refine gate_builtin (b := .append) (xs := #[.tmp 41, .tmp 43]) rfl ?_); at_builtin; go_must (refine Kd.R_append k95 (w0 := w0) w0.heap.size rfl (.tmp 41) (.tmp 43) 94 95 (.agg #[(.int .i64 0), (.int .i64 0)]) 16 rfl Tryd.underlying94 info95 rfl (by decide) (by decide) (.slice AZ2 zs2.length cz2) zs2 (⟨j, 0⟩ : S95) [.int .i64 j, .int .i64 0] (fun _ => True) (fun _ => False) rfl rfl (k95_mkM _ _ _ (⟨j, 0⟩ : S95)) (fun _ hk => hk.elim) (fun _ _ => trivial) HO3.out HB3.out (below_size HB3.out) hbig ?_); intro v4 w4 ho hb hgg hat; have HO4 := Lib.hid ho; have HB4 := Lib.hid hb; have HG4 := Lib.hid (grown_then HG3.out hgg HOW.out); have HOW4 := Lib.hid (row_then HG3.out.size HOW.out hat); clear ho hb hgg hat hbig hk1 hk2))
                go_roundg (l.length - (j + 1).toNat)
                case measure => exact meas_lt hj0 hltj hkq2
                case rel => exact ⟨zs2 ++ [⟨j, 0⟩], j + 1, by rw [hw], (step_ok hj0 hltj).1, (step_ok hj0 hltj).2, rfl, HO4, Lib.hid (len_snoc hj0 HZL.out), Lib.hid (ok_snoc HK2.out ⟨hj0, by rw [gr_len]; exact hj1, Int.le_refl 0⟩), Lib.hid (by rw [toNat_next hj0] at HR2 ⊢; exact HR2.out), HB4, HG4, HOW4⟩
              · have hR := HR.out
                rw [hh] at hR
                simp only [beq_self_eq_true, Bool.not_true, Bool.and_false, Bool.false_eq_true, if_false] at hR
                have HR2 := Lib.hid hR
                rw [hh] at HCON
                clear hR HR hh
                have hxb : (x == x) = true := beq_self_eq_true x
                have hw : wrap64 (j + 1) = j + 1 := wrap64_succ hj0 ⟨hltj, Nat.lt_of_le_of_lt hlen.out (by decide)⟩
                go_wp2_with (go_at_call 121; refine (HCON.out _ HBL.out).mono ?_; rintro e w3 ⟨rfl, hbw⟩; have HB3 := Lib.hid (below_step (below_step HB.out HBL.out) hbw); have HO3 := Lib.hid (Kd.R_below (Kd.R_below HO.out HBL.out) hbw); have HG3 := Lib.hid (grown_below (grown_below HGR.out HBL.out) hbw); clear hg0 hg1 hg2)
                go_roundg (l.length - (j + 1).toNat)
                case measure => exact meas_lt hj0 hltj hkq2
                case rel => exact ⟨zs2, j + 1, by rw [hw], (step_ok hj0 hltj).1, (step_ok hj0 hltj).2, rfl, HO3, Lib.hid (len_next hj0 HZL.out), HK2, Lib.hid (by rw [toNat_next hj0] at HR2 ⊢; exact HR2.out), HB3, HG3, HOW⟩
            · have hxb : (x == c) = false := beq_eq_false_iff_ne.mpr hxc
              have hR := HR.out
              rw [hxb] at hR
              simp only [Bool.false_and, Bool.false_eq_true, if_false] at hR
              have HR2 := Lib.hid hR
              clear hR HR HCON
              have hw : wrap64 (j + 1) = j + 1 := wrap64_succ hj0 ⟨hltj, Nat.lt_of_le_of_lt hlen.out (by decide)⟩
              go_wp2
              go_roundg (l.length - (j + 1).toNat)
              case measure => exact meas_lt hj0 hltj hkq2
              case rel => exact ⟨zs2, j + 1, by rw [hw], (step_ok hj0 hltj).1, (step_ok hj0 hltj).2, rfl, Lib.hid (Kd.R_below HO.out HBL.out), Lib.hid (len_next hj0 HZL.out), HK2, Lib.hid (by rw [toNat_next hj0] at HR2 ⊢; exact HR2.out), Lib.hid (below_step HB.out HBL.out), Lib.hid (grown_below HGR.out HBL.out), HOW⟩
          · have hjl : j.toNat = l.length := le_end hj1 hltj
            have hR := HI2.out
            rw [hjl, List.drop_of_length_le (by rw [gr_len]; exact Nat.le_refl _)] at hR
            simp only [addR] at hR
            have HR := Lib.hid hR
            clear hR HI2 hjl
            have hw := HHW.out
            have hzn : zs2 ≠ [] := ne_of_len hi0 hlt HZL.out.2
            go_wp2
            go_roundg k1
            case measure => exact Nat.lt_succ_self k1
            case rel => exact ⟨zs2, i + 1, rfl, (step_ok hi0 hlt).1, HO, Lib.hid hzn, HK2, Lib.hid (by rw [HR.out]; exact HC2.out), HB, HGR, HOW⟩
      · rw [if_neg hlt] at hC
        obtain rfl := Option.some.inj hC
        have hsort := sort_R (.slice AZ zs.length cz) zs w0 wr (fun _ => True) HN.out HO.out HB.out (Nat.lt_of_le_of_lt hL (by decide))
        have HSORT := Lib.hid hsort
        clear hsort hC HC hCz
        go_wp2_with (go_at_call 122; refine HSORT.out.mono ?_; rintro e w3 ⟨rfl, ho, hb, hgg⟩)
        go_ret
        exact ⟨_, rfl, ho, hb, grown_then HGR.out hgg HOW.out, HOW.out⟩
    · rw [if_neg hL] at hC
      cases hC
end Go.Proofs.YtpmmfckgfbdboaaDoor.G
end

section
namespace Go.Proofs.YtpmmfckgfbdboaaDoor.G
open Go.RowKit Go.Proofs.YtpmmfckgfbdboaaDoorW.PrintWords Go.Proofs.YtpmmfckgfbdboaaDoorW.PrintLast Go.Proofs.YtpmmfckgfbdboaaDoorW.PrintMore
attribute [local go_sem] max2_int min2_int max_two min_two max_three min_three max_four min_four   -- for this text's walks alone
set_option linter.unusedVariables false
set_option linter.unusedSimpArgs false

attribute [local go_sem high] eqA95
/-! ### tables_Item_100: function 100 -/
def tables_Item_100.l0 : Nat → List (S95) → List (S95) → Int → Int → Option (Bool)
  | 0, _, _, _, _ => none
  | k + 1, x0, x1, x12, x13 => if x13 < x12 then (if 0 ≤ x13 then (if x13 < (x0.length : Int) then (if x13 < (x1.length : Int) then (if (!(((rd_T95 x0 x13).f0) == ((rd_T95 x1 x13).f0)) || (!(((rd_T95 x0 x13).f1) == ((rd_T95 x1 x13).f1)))) = true then (some false) else (tables_Item_100.l0 k x0 x1 x12 (wrap64 (x13 + 1)))) else (none)) else (none)) else (none)) else (some true)
def tables_Item_100.f (k : Nat) (l0 : List (S95)) (l1 : List (S95)) : Option (Bool) := if (l0.length : Int) = (l1.length : Int) then (tables_Item_100.l0 k l0 l1 (l0.length : Int) 0) else (some false)
theorem tables_Item_100.mono_l : ∀ k, (∀ y0 y1 y2 y3, LeO (tables_Item_100.l0 k y0 y1 y2 y3) (tables_Item_100.l0 (k + 1) y0 y1 y2 y3))
  | 0 => fun _ _ _ _ r h => by simp [tables_Item_100.l0] at h
  | k + 1 => by
    have ih0 := tables_Item_100.mono_l k
    · intro y0 y1 y2 y3
      unfold tables_Item_100.l0
      repeat' first
      | (with_reducible exact ih0 _ _ _ _)
      | (with_reducible exact LeO.refl _)
      | (with_reducible exact LeO.none _)
      | (with_reducible refine LeO.ite ?_ ?_)
      | (with_reducible refine LeO.bind ?_ (fun _ => ?_))
      | exact ih0 _ _ _ _
      | exact LeO.none _
      | refine LeO.ite ?_ ?_
      | refine LeO.bind ?_ (fun _ => ?_)
theorem tables_Item_100.mono : ∀ a0 a1 k, LeO (tables_Item_100.f k a0 a1) (tables_Item_100.f (k + 1) a0 a1) := by
  intro a0 a1 k
  have ih0 := tables_Item_100.mono_l k
  unfold tables_Item_100.f
  repeat' first
      | (with_reducible exact ih0 _ _ _ _)
      | (with_reducible exact LeO.refl _)
      | (with_reducible exact LeO.none _)
      | (with_reducible refine LeO.ite ?_ ?_)
      | (with_reducible refine LeO.bind ?_ (fun _ => ?_))
      | exact ih0 _ _ _ _
      | exact LeO.none _
      | refine LeO.ite ?_ ?_
      | refine LeO.bind ?_ (fun _ => ?_)
set_option maxHeartbeats 8000000 in
set_option maxRecDepth 100000 in
theorem tables_Item_100.calls (k : Nat) (A0 : Option Addr) (c0 : Nat) (l0 : List (S95)) (A1 : Option Addr) (c1 : Nat) (l1 : List (S95)) (r : Bool) (w : World) (hr0 : Kd.C k95 w A0 l0.length l0) (hc0 : l0.length ≤ c0) (hr1 : Kd.C k95 w A1 l1.length l1) (hc1 : l1.length ≤ c1) (h : tables_Item_100.f k l0 l1 = some r) :
    Calls Tryd.prog 100 #[.slice A0 l0.length c0, .slice A1 l1.length c1] w fun e w' => e = .returned (.bool r) ∧ Drawn0 w w' := by
  have hu95 := Tryd.underlying95
  have HR0 := Aside0.mk hr0
  have HC0 := Aside0.mk hc0
  clear hr0 hc0
  have HR1 := Aside0.mk hr1
  have HC1 := Aside0.mk hc1
  clear hr1 hc1
  have H : (if (l0.length : Int) = (l1.length : Int) then (tables_Item_100.l0 k l0 l1 (l0.length : Int) 0) else (some false)) = some r := h
  clear h
  by_cases c3 : (l0.length : Int) = (l1.length : Int)
  · rw [if_pos c3] at H
    have c3b0 : ((l0.length : Int) == (l1.length : Int)) = true := beq_iff_eq.mpr c3
    have c3b1 : ((l0.length : Int) != (l1.length : Int)) = false := bne_eq_false_iff_eq.mpr c3
    have c3b2 : (l0.length == l1.length) = true := by first | simpa using c3 | (simp at c3 ⊢; omega)
    clear c3
    have H' := Aside0.mk H
    clear H
    go_enter Tryd.func100, Tryd.ntmps100
    go_wp2
    repeat (go_quiet (fail); try go_wp2)
    go_loopg [13] k (fun kq v13 w' => ∃ (x13_1 : Int), v13 = .int .i64 x13_1 ∧ Aside0 (tables_Item_100.l0 kq l0 l1 (l0.length : Int) x13_1 = some r) ∧ Aside0 (kq ≤ k) ∧ Drawn0 w w')
    case atStart => exact ⟨(0), (by first | rfl | (simp; done) | (simp [*]; done)), H', ⟨Nat.le_refl _⟩, by repeat (first | exact Drawn0.refl _ | apply Drawn0.step)⟩
    case round =>
      clear H'
      try clear c1
      try clear p2
      try clear c3
      try clear c3b0
      try clear c3b1
      try clear c3b2
      obtain ⟨x13_1, rfl, HA, HK1, ⟨m1, rfl⟩⟩ := hrel
      cases gk with
      | zero => exact absurd HA.out (by simp [tables_Item_100.l0])
      | succ k1 =>
        have H := HA.out
        clear HA
        simp only [tables_Item_100.l0] at H
        by_cases c4 : x13_1 < (l0.length : Int)
        · rw [if_pos c4] at H
          have c4b0 : decide (x13_1 < (l0.length : Int)) = true := decide_eq_true c4
          clear c4
          by_cases c5 : 0 ≤ x13_1
          · rw [if_pos c5] at H
            have c5b0 : decide (0 ≤ x13_1) = true := decide_eq_true c5
            clear c5
            by_cases c6 : x13_1 < (l0.length : Int)
            · rw [if_pos c6] at H
              have c6b0 : decide (x13_1 < (l0.length : Int)) = true := decide_eq_true c6
              clear c6
              by_cases c7 : x13_1 < (l1.length : Int)
              · rw [if_pos c7] at H
                have c7b0 : decide (x13_1 < (l1.length : Int)) = true := decide_eq_true c7
                clear c7
                by_cases c8 : (!(((rd_T95 l0 x13_1).f0) == ((rd_T95 l1 x13_1).f0)) || (!(((rd_T95 l0 x13_1).f1) == ((rd_T95 l1 x13_1).f1)))) = true
                · rw [if_pos c8] at H
                  have c8b0 : (!(((rd_T95 l0 x13_1).f0) == ((rd_T95 l1 x13_1).f0)) || (!(((rd_T95 l0 x13_1).f1) == ((rd_T95 l1 x13_1).f1)))) = true := c8
                  clear c8
                  obtain rfl := Option.some.inj H
                  have p486 : 0 ≤ (x13_1 : Int) := of_decide_eq_true (by first | (with_reducible assumption) | assumption)
                  have q486 : x13_1 < (l0.length : Int) := of_decide_eq_true (by first | (with_reducible assumption) | assumption)
                  obtain ⟨ad486, e486, hx486_0, hx486_1⟩ := at_T95 HR0.out x13_1 p486 q486
                  cases e486
                  replace p486 := eq_true p486
                  replace q486 := eq_true q486
                  have p487 : 0 ≤ (x13_1 : Int) := of_decide_eq_true (by first | (with_reducible assumption) | assumption)
                  have q487 : x13_1 < (l1.length : Int) := of_decide_eq_true (by first | (with_reducible assumption) | assumption)
                  obtain ⟨ad487, e487, hx487_0, hx487_1⟩ := at_T95 HR1.out x13_1 p487 q487
                  cases e487
                  replace p487 := eq_true p487
                  replace q487 := eq_true q487
                  go_wp2
                  repeat (go_quiet (fail); try go_wp2)
                  go_ret
                  exact ⟨by first | rfl | (simp; done) | (simp [*]; done), by repeat (first | exact Drawn0.refl _ | apply Drawn0.step)⟩
                · rw [if_neg c8] at H
                  have c8b0 : (!(((rd_T95 l0 x13_1).f0) == ((rd_T95 l1 x13_1).f0)) || (!(((rd_T95 l0 x13_1).f1) == ((rd_T95 l1 x13_1).f1)))) = false := by simpa using c8
                  clear c8
                  have H' := Aside0.mk H
                  clear H
                  have p486 : 0 ≤ (x13_1 : Int) := of_decide_eq_true (by first | (with_reducible assumption) | assumption)
                  have q486 : x13_1 < (l0.length : Int) := of_decide_eq_true (by first | (with_reducible assumption) | assumption)
                  obtain ⟨ad486, e486, hx486_0, hx486_1⟩ := at_T95 HR0.out x13_1 p486 q486
                  cases e486
                  replace p486 := eq_true p486
                  replace q486 := eq_true q486
                  have p487 : 0 ≤ (x13_1 : Int) := of_decide_eq_true (by first | (with_reducible assumption) | assumption)
                  have q487 : x13_1 < (l1.length : Int) := of_decide_eq_true (by first | (with_reducible assumption) | assumption)
                  obtain ⟨ad487, e487, hx487_0, hx487_1⟩ := at_T95 HR1.out x13_1 p487 q487
                  cases e487
                  replace p487 := eq_true p487
                  replace q487 := eq_true q487
                  go_wp2
                  repeat (go_quiet (fail); try go_wp2)
                  go_roundg k1
                  case measure => have := HK1.out; omega
                  case rel => exact ⟨(wrap64 (x13_1 + 1)), (by first | rfl | (simp; done) | (simp [*]; done)), H', ⟨by have := HK1.out; omega⟩, by repeat (first | exact Drawn0.refl _ | apply Drawn0.step)⟩
              · rw [if_neg c7] at H
                exact absurd H (by simp)
            · rw [if_neg c6] at H
              exact absurd H (by simp)
          · rw [if_neg c5] at H
            exact absurd H (by simp)
        · rw [if_neg c4] at H
          have c4b0 : decide (x13_1 < (l0.length : Int)) = false := decide_eq_false c4
          clear c4
          obtain rfl := Option.some.inj H
          go_wp2
          repeat (go_quiet (fail); try go_wp2)
          go_ret
          exact ⟨by first | rfl | (simp; done) | (simp [*]; done), by repeat (first | exact Drawn0.refl _ | apply Drawn0.step)⟩
  · rw [if_neg c3] at H
    have c3b0 : ((l0.length : Int) == (l1.length : Int)) = false := beq_eq_false_iff_ne.mpr c3
    have c3b1 : ((l0.length : Int) != (l1.length : Int)) = true := bne_iff_ne.mpr c3
    have c3b2 : (l0.length == l1.length) = false := by first | simpa using c3 | (simp at c3 ⊢; omega)
    obtain rfl := Option.some.inj H
    go_enter Tryd.func100, Tryd.ntmps100
    go_wp2
    repeat (go_quiet (fail); try go_wp2)
    go_ret
    exact ⟨by first | rfl | (simp; done) | (simp [*]; done), by repeat (first | exact Drawn0.refl _ | apply Drawn0.step)⟩

end Go.Proofs.YtpmmfckgfbdboaaDoor.G
end

section
namespace Go.Proofs.YtpmmfckgfbdboaaDoor.G
open Go.RowKit Go.Proofs.YtpmmfckgfbdboaaDoorW.PrintWords Go.Proofs.YtpmmfckgfbdboaaDoorW.PrintLast Go.Proofs.YtpmmfckgfbdboaaDoorW.PrintMore
open Go.Shelf Go.Lib
set_option linter.unusedVariables false
set_option linter.unusedSimpArgs false
def eqI : List S95 → List S95 → Bool
  | [], [] => true
  | x :: xs, y :: ys => x.f0 == y.f0 && x.f1 == y.f1 && eqI xs ys
  | _, _ => false
theorem eqI_iff : ∀ (a b : List S95), eqI a b = true ↔ a = b
  | [], [] => by simp [eqI]
  | x :: xs, [] => by simp [eqI]
  | [], y :: ys => by simp [eqI]
  | x :: xs, y :: ys => by
    obtain ⟨x0, x1⟩ := x
    obtain ⟨y0, y1⟩ := y
    simp [eqI, eqI_iff xs ys]
theorem eqI_len : ∀ (a b : List S95), a.length ≠ b.length → eqI a b = false := fun a b h => by
  cases hb : eqI a b
  · rfl
  · exact absurd (congrArg List.length ((eqI_iff a b).1 hb)) h
theorem drop_rd (xs : List S95) (i : Int) (h0 : 0 ≤ i) (h1 : i < xs.length) : xs.drop i.toNat = rd_T95 xs i :: xs.drop (i + 1).toNat := by
  have hl2 : i.toNat < xs.length := by omega
  rw [List.drop_eq_getElem_cons hl2, show (i + 1).toNat = i.toNat + 1 by omega]
  congr 1
  simp [rd_T95, List.getD_eq_getElem?_getD, hl2]
theorem equal_l (xs ys : List S95) (hxy : xs.length = ys.length) (hl : xs.length < 2 ^ 62) : ∀ (n : Nat) (i : Int), 0 ≤ i → i ≤ xs.length → xs.length < i.toNat + n → tables_Item_100.l0 n xs ys (xs.length : Int) i = some (eqI (xs.drop i.toNat) (ys.drop i.toNat))
  | 0, i, h0, h1, h => by omega
  | n + 1, i, h0, h1, h => by
    unfold tables_Item_100.l0
    by_cases hlt : i < xs.length
    · have hlt2 : i < ys.length := by omega
      have ih := equal_l xs ys hxy hl n (i + 1) (by omega) (by omega) (by omega)
      rw [if_pos hlt, if_pos h0, if_pos hlt, if_pos hlt2, wrap64_succ h0 ⟨hlt, hl⟩, ih, drop_rd xs i h0 hlt, drop_rd ys i h0 hlt2]
      simp only [eqI]
      cases (rd_T95 xs i).f0 == (rd_T95 ys i).f0 <;> cases (rd_T95 xs i).f1 == (rd_T95 ys i).f1 <;> simp
    · rw [if_neg hlt, List.drop_of_length_le (by omega), List.drop_of_length_le (by omega)]
      rfl
theorem equal_any (xs ys : List S95) (A0 A1 : Option Addr) (c0 c1 : Nat) (w : World) (hr0 : Kd.C k95 w A0 xs.length xs) (hc0 : xs.length ≤ c0) (hr1 : Kd.C k95 w A1 ys.length ys) (hc1 : ys.length ≤ c1) (hl : xs.length < 2 ^ 62) :
    Calls Tryd.prog 100 #[.slice A0 xs.length c0, .slice A1 ys.length c1] w fun e w' => e = .returned (.bool (eqI xs ys)) ∧ Drawn0 w w' := by
  refine tables_Item_100.calls (xs.length + 1) A0 c0 xs A1 c1 ys _ w hr0 hc0 hr1 hc1 ?_
  unfold tables_Item_100.f
  by_cases h : xs.length = ys.length
  · rw [if_pos (by omega), equal_l xs ys h hl (xs.length + 1) 0 (by decide) (by omega) (by simp)]
    rfl
  · rw [if_neg (by omega), eqI_len xs ys h]
theorem fn99 (xs ys : List S95) (A0 A1 : Option Addr) (c0 c1 : Nat) (ad : Addr) (w : World) (hr0 : Kd.C k95 w A0 xs.length xs) (hc0 : xs.length ≤ c0) (hr1 : Kd.C k95 w A1 ys.length ys) (hc1 : ys.length ≤ c1) (hl : xs.length < 2 ^ 62)
    (had : w.cell? ad = some (.slice A1 ys.length c1)) :
    Calls Tryd.prog 99 #[.slice A0 xs.length c0, .pointer (some ad)] w fun e w' => e = .returned (.bool (eqI xs ys)) ∧ Drawn0 w w' := by
  have HE := Lib.hid (equal_any xs ys A0 A1 c0 c1 w hr0 hc0 hr1 hc1 hl)
  clear hr0 hr1
  generalize eqI xs ys = b at HE ⊢
  go_enter Tryd.func99, Tryd.ntmps99
  go_wp2_with (go_at_call 100; refine HE.out.mono ?_; rintro e w' ⟨rfl, hd⟩)
  go_ret
  exact ⟨rfl, hd⟩
def findI : List (List S95) → List S95 → Int → Int
  | [], _, _ => -1
  | s :: r, l, i => if eqI s l = true then i else findI r l (i + 1)
def StRow (W : World) (base : Nat) (v : Value) (s : List S95) : Prop :=
  ∃ g cap cells, v = .slice (some ⟨g, 0, none⟩) s.length cap ∧ s.length ≤ cap ∧ base ≤ g ∧ W.heap[g]? = some (.cells cells 95 (0, 0)) ∧ Kd.C k95 W (some ⟨g, 0, none⟩) s.length s
theorem StRow.keep {W W2 : World} {base : Nat} {v : Value} {s : List S95} (h : StRow W base v s) (hk : ∀ g cells, W.heap[g]? = some (.cells cells 95 (0, 0)) → base ≤ g → W2.heap[g]? = W.heap[g]?) : StRow W2 base v s := by
  obtain ⟨g, cap, cells, rfl, h1, h2, h3, h4⟩ := h
  have hg := hk g cells h3 h2
  refine ⟨g, cap, cells, rfl, h1, h2, hg.trans h3, h4.1, h4.2.1, fun hn => ?_⟩
  obtain ⟨ad, e, hc⟩ := h4.2.2 hn
  cases e
  refine ⟨_, rfl, fun j p hp => ?_⟩
  obtain ⟨c, hcl, hK, hcell⟩ := hc j p hp
  refine ⟨c, hcl, by obtain rfl := k95_open hK; exact k95_mk W2 p, fun i u hu => ?_⟩
  have h0 := hcell i u hu
  rw [add_plain] at h0 ⊢
  exact (World.cell?_of_block (w := W) (w' := W2) hg).trans h0
structure StRows (W : World) (base G cap : Nat) (sts : List (List S95)) : Prop where
  blk : ∃ cur, W.heap[G]? = some (.cells cur 94 (0, 0)) ∧ cur.size = cap ∧ ∀ (i : Nat) s, sts[i]? = some s → ∃ v, cur[i]? = some v ∧ StRow W base v s
  len : sts.length ≤ cap
theorem drop_sts (sts : List (List S95)) (i : Nat) (h : i < sts.length) : sts.drop i = (sts[i]'h) :: sts.drop (i + 1) := List.drop_eq_getElem_cons h
set_option maxHeartbeats 1000000 in
theorem indexFunc_any (sts : List (List S95)) (G cap n : Nat) (base : Nat) (ys : List S95) (A1 : Option Addr) (c1 : Nat) (ad : Addr) (w : World) (HS : StRows w base G cap sts) (hr1 : Kd.C k95 w A1 ys.length ys) (hc1 : ys.length ≤ c1) (hn : n = sts.length) (hn2 : n < 2 ^ 62)
    (hsl : ∀ s ∈ sts, s.length < 2 ^ 62) (had : w.cell? ad = some (.slice A1 ys.length c1)) :
    Calls Tryd.prog 98 #[.slice (some ⟨G, 0, none⟩) n cap, .func (.func 99) #[] #[.pointer (some ad)]] w fun e w' => e = .returned (.int .i64 (findI sts ys 0)) ∧ Drawn0 w w' := by
  have e99 : ∀ args w, (callFunc 99 args).run Tryd.prog w = .ok (.enter 99 args) w := enters_of Tryd.func99 (by kernel_rfl) rfl
  have HH := Lib.hid (And.intro HS (And.intro hr1 (And.intro hc1 (And.intro hsl had))))
  have HN := Lib.hid hn
  clear HS hr1 hsl had hn
  go_enter Tryd.func98, Tryd.ntmps98
  go_wp2
  go_loopg [8] n (fun kq v8 w' => ∃ (i q : Nat), v8 = .int .i64 (i : Int) ∧ i ≤ n ∧ kq = n - i ∧ Hid (findI (sts.drop i) ys (i : Int) = findI sts ys 0) ∧ w' = w.drewN q)
  case atStart => exact ⟨0, 0, rfl, Nat.zero_le _, rfl, Lib.hid rfl, rfl⟩
  case round =>
    obtain ⟨i, q, rfl, hi, hkq, HF, rfl⟩ := hrel
    by_cases hlt : i < n
    · have hltI : (i : Int) < (n : Int) := Int.ofNat_lt.mpr hlt
      have hi0 : (0 : Int) ≤ (i : Int) := Int.natCast_nonneg i
      have hl2 : i < sts.length := HN.out ▸ hlt
      obtain ⟨cur, hblk, hcs, hcur⟩ := HH.out.1.blk
      obtain ⟨v, hv, g, cp, cells, rfl, h1, h2, h3, h4⟩ := hcur i _ (List.getElem?_eq_getElem hl2)
      have hcell := (blk_cell hblk i).trans hv
      have hF := HF.out
      rw [drop_sts sts i hl2] at hF
      simp only [findI] at hF
      have HF2 := Lib.hid hF
      have HC := Lib.hid (fun m => fn99 sts[i] ys (some ⟨g, 0, none⟩) A1 cp c1 ad (w.drewN m) (Kd.C_drewN h4 m) h1 (Kd.C_drewN HH.out.2.1 m) hc1 (HH.out.2.2.2.1 _ (List.getElem_mem hl2)) HH.out.2.2.2.2)
      have hw : wrap64 ((i : Int) + 1) = (i : Int) + 1 := wrap64_succ (n := n) hi0 ⟨hltI, hn2⟩
      generalize sts[i] = s at HF2 HC hcell
      clear hF HF hcur hblk h3 h4 hv h1 h2 hcs
      cases hb : eqI s ys
      · rw [hb] at HC HF2
        have hF := HF2.out
        simp only [Bool.false_eq_true, if_false] at hF
        have HF3 := Lib.hid hF
        clear hF HF2 hb
        go_wp2_with (go_at_fn 99; refine (HC.out _).mono ?_; rintro e w' ⟨rfl, ⟨m, rfl⟩⟩)
        go_roundg (n - (i + 1))
        case measure => omega
        case rel => exact ⟨i + 1, q + m, rfl, hlt, rfl, HF3, rfl⟩
      · rw [hb] at HC HF2
        have hF := HF2.out
        simp only [if_true] at hF
        have HF3 := Lib.hid hF
        clear hF HF2 hb
        go_wp2_with (go_at_fn 99; refine (HC.out _).mono ?_; rintro e w' ⟨rfl, ⟨m, rfl⟩⟩)
        go_ret
        exact ⟨by rw [← HF3.out]; rfl, ⟨q + m, rfl⟩⟩
    · have hin : i = sts.length := by rw [← HN.out]; exact Nat.le_antisymm hi (Nat.not_lt.1 hlt)
      have hF := HF.out
      rw [List.drop_of_length_le (Nat.le_of_eq hin.symm)] at hF
      simp only [findI] at hF
      have HF3 := Lib.hid hF
      have hnl : ¬ (i : Int) < (n : Int) := fun h => hlt (Int.ofNat_lt.mp h)
      clear hF HF hin
      go_wp2
      go_ret
      exact ⟨by rw [← HF3.out]; rfl, ⟨q, rfl⟩⟩
end Go.Proofs.YtpmmfckgfbdboaaDoor.G
end

section
namespace Go.Proofs.YtpmmfckgfbdboaaDoor.G
open Go.RowKit Go.Proofs.YtpmmfckgfbdboaaDoorW.PrintWords Go.Proofs.YtpmmfckgfbdboaaDoorW.PrintLast Go.Proofs.YtpmmfckgfbdboaaDoorW.PrintMore
open Go.Shelf Go.Lib Go.ChangeMaps
set_option linter.unusedVariables false
set_option linter.unusedSimpArgs false
def MapB (W : World) (b : Nat) (ms : List (Int × Int)) : Prop :=
  ∃ es clock, W.heap[b]? = some (.map es clock) ∧ es.toList.map (fun e => (e.key, e.val)) = ms.map (fun p => (Value.int .u8 p.1, Value.int .i64 p.2))
theorem MapB.keep {W W2 : World} {b : Nat} {ms : List (Int × Int)} (h : MapB W b ms) (hk : W2.heap[b]? = W.heap[b]?) : MapB W2 b ms := by
  obtain ⟨es, clock, h1, h2⟩ := h
  exact ⟨es, clock, hk.trans h1, h2⟩
theorem MapB.made (W : World) : MapB (W.alloc (.map #[] 0)) W.heap.size [] := ⟨#[], 0, heap_alloc_new W _, rfl⟩
theorem key_u8 (c : Int) (h : isPartB c = true ∨ isWordB c = true) : ∃ kl, keyOf Tryd.prog 5 (.int .u8 c) = some kl := by
  have : (Lit.int .u8 c).wf = true := by
    rcases h with h | h
    · rcases isPartB_cases h with rfl | rfl | rfl | rfl | rfl <;> decide
    · rcases isWordB_cases h with rfl | rfl | rfl | rfl <;> decide
  exact ⟨_, Go.Maps.keyOf_int_mk Tryd.underlying5 this⟩
def lettered (ms : List (Int × Int)) : Prop := ∀ p ∈ ms, letterB p.1 = true
theorem letter_or {c : Int} (h : letterB c = true) : isPartB c = true ∨ isWordB c = true := by simpa [letterB] using h
theorem map_keys {es : List MapEntry} {ms : List (Int × Int)} (h : es.map (fun e => (e.key, e.val)) = ms.map (fun p => (Value.int .u8 p.1, Value.int .i64 p.2))) (hl : lettered ms) : ∀ e ∈ es, ∃ p ∈ ms, e.key = .int .u8 p.1 ∧ e.val = .int .i64 p.2 ∧ ∃ l, keyOf Tryd.prog 5 e.key = some l := by
  intro e he
  have : (e.key, e.val) ∈ ms.map (fun p => (Value.int .u8 p.1, Value.int .i64 p.2)) := by rw [← h]; exact List.mem_map.2 ⟨e, he, rfl⟩
  obtain ⟨p, hp, hpe⟩ := List.mem_map.1 this
  have h1 : Value.int .u8 p.1 = e.key := congrArg Prod.fst hpe
  have h2 : Value.int .i64 p.2 = e.val := congrArg Prod.snd hpe
  refine ⟨p, hp, h1.symm, h2.symm, ?_⟩
  rw [← h1]
  exact key_u8 p.1 (letter_or (hl p hp))
theorem map_put (W : World) (b : Nat) (ms : List (Int × Int)) (h : MapB W b ms) (hl : lettered ms) (c k : Int) (hc : letterB c = true) (hnew : ∀ p ∈ ms, p.1 ≠ c) :
    ∃ W2, (Instr.mapUpdate 98 (.map (some b)) (.int .u8 c) (.int .i64 k)).run Tryd.prog W = .ok () W2 ∧ MapB W2 b (ms ++ [(c, k)]) ∧ W.grownBy W2 (some b) := by
  obtain ⟨es, clock, hb, hes⟩ := h
  have K := Go.Maps.int_keyed Tryd.underlying5
  obtain ⟨kl, hkl⟩ := key_u8 c (letter_or hc)
  have hkeys := map_keys hes hl
  rcases K.find W hkl es.toList (fun e he => (hkeys e he).elim fun p hp => hp.2.2.2) with ⟨h1, h2⟩ | ⟨j, e0, h1, h2, h3⟩
  · have hlt := blk_lt hb
    refine ⟨setBlock W b (.map (es.push ⟨.int .u8 c, .int .i64 k, clock⟩) (clock + 1)), ?_, ⟨es.push ⟨.int .u8 c, .int .i64 k, clock⟩, clock + 1, ?_, ?_⟩, ⟨rfl, rfl, rfl, ?_, ?_⟩⟩
    · simp [Instr.mapUpdate, run_underlying Tryd.underlying98, MapKept.run_getObj_map hb, K.check W false hkl, h1, MapKept.run_setObj_map _ hb, Result.andThen, setBlock]
    · simp [setBlock, hlt]
    · simp [hes]
    · simp [setBlock]
    · intro i hi hne
      have : b ≠ i := fun e => hne (by rw [e])
      simp [setBlock, this]
  · exfalso
    obtain ⟨p, hp, hk, _⟩ := hkeys e0 (List.mem_of_getElem? h2)
    rw [h3] at hk
    injection hk with _ hk
    exact hnew p hp hk.symm
end Go.Proofs.YtpmmfckgfbdboaaDoor.G
end

section
namespace Go.Proofs.YtpmmfckgfbdboaaDoor.G
open Go.RowKit Go.Proofs.YtpmmfckgfbdboaaDoorW.PrintWords Go.Proofs.YtpmmfckgfbdboaaDoorW.PrintLast Go.Proofs.YtpmmfckgfbdboaaDoorW.PrintMore
open Go.Shelf Go.Lib
set_option linter.unusedVariables false
set_option linter.unusedSimpArgs false
def lettersP : List Int := [65, 66, 67, 68, 69, 97, 98, 99, 100]
def movedP (g : List (Int × List Int)) (c : Int) (s : List S95) : List S95 := (s.filter fun x => behindP g x == c).map fun x => ⟨x.f0, x.f1 + 1⟩
def closF (g : List (Int × List Int)) (l : List S95) : Option (List S95) := (closeO g 2000 0 l).map sortI
/-- One letter: 'none': not told; 'some none': too many states. -/
def letterO (g : List (Int × List Int)) (s : List S95) (c : Int) (sts : List (List S95)) (ms : List (Int × Int)) : Option (Option (List (List S95) × List (Int × Int))) :=
  if movedP g c s = [] then some (some (sts, ms)) else
    (closF g (movedP g c s)).bind fun ys =>
      if findI sts ys 0 < 0 then (if sts.length + 1 > 64 then some none else some (some (sts ++ [ys], ms ++ [(c, (sts.length : Int))])))
      else (if sts.length > 64 then some none else some (some (sts, ms ++ [(c, findI sts ys 0)])))
def rowO (g : List (Int × List Int)) (s : List S95) : List Int → List (List S95) → List (Int × Int) → Option (Option (List (List S95) × List (Int × Int)))
  | [], sts, ms => some (some (sts, ms))
  | c :: cs, sts, ms => (letterO g s c sts ms).bind fun
    | none => some none
    | some (sts', ms') => rowO g s cs sts' ms'
def buildO (g : List (Int × List Int)) : Nat → Nat → List (List S95) → List (List (Int × Int)) → Option (Option (List (List S95) × List (List (Int × Int))))
  | 0, _, _, _ => none
  | n + 1, i, sts, gos => if i < sts.length then (rowO g (sts.getD i []) lettersP sts []).bind fun
      | none => some none
      | some (sts', ms) => buildO g n (i + 1) sts' (gos ++ [ms])
    else some (some (sts, gos))
def buildP (g : List (Int × List Int)) : Option (Option (List (List S95) × List (List (Int × Int)))) :=
  (closF g [⟨(g.length : Int), 0⟩]).bind fun s0 => buildO g 66 0 [s0] []
/-- The table in memory. base: what is the call's own; T: the table's block. -/
structure BI (base : Nat) (w0 W : World) (T : Nat) (GR : Value) (nx : List Nat) (sts : List (List S95)) (SV GV : Value) (gos : List (List (Int × Int))) (bs : List Nat) : Prop where
  tb : W.heap[T]? = some (.cells (#[GR, SV, GV] ++ arr nx) 87 (0, 0))
  tbase : base ≤ T
  srow : ∃ vs, W.ownsRow base 94 1 SV sts.length vs ∧ ∀ (i : Nat) s, sts[i]? = some s → ∃ v, vs[i]? = some v ∧ StRow W base v s
  grow : W.ownsRow base 98 1 GV gos.length (bs.map fun b => Value.map (some b))
  blen : bs.length = gos.length
  bnd : bs.Nodup
  maps : ∀ (i : Nat) b ms, bs[i]? = some b → gos[i]? = some ms → MapB W b ms ∧ base ≤ b
  below : Below base w0 W
theorem ownsRow_move {W W2 : World} {base e size n : Nat} {v : Value} {xs : List Value} (h : W.ownsRow base e size v n xs) (hk : ∀ k cells, v.ownBlock = some k → W.heap[k]? = some (.cells cells e (0, 0)) → W2.heap[k]? = W.heap[k]?) : W2.ownsRow base e size v n xs := by
  refine own_move h (fun k hk2 => ?_)
  obtain ⟨cells, hc⟩ := own_typed h k hk2
  exact hk k cells hk2 hc
/-- Whatever keeps the old blocks. -/
theorem BI.step {base : Nat} {w0 W W2 : World} {T : Nat} {GR SV GV : Value} {nx : List Nat} {sts : List (List S95)} {gos : List (List (Int × Int))} {bs : List Nat} (h : BI base w0 W T GR nx sts SV GV gos bs) (hb : Below W.heap.size W W2) (hB : Below base w0 W2) : BI base w0 W2 T GR nx sts SV GV gos bs where
  tb := blk_below h.tb hb
  tbase := h.tbase
  srow := by
    obtain ⟨vs, h1, h2⟩ := h.srow
    refine ⟨vs, ownsRow_move h1 (fun k cells _ hc => hb.block k (blk_lt hc)), fun i s hs => ?_⟩
    obtain ⟨v, hv, hr⟩ := h2 i s hs
    exact ⟨v, hv, hr.keep (fun g cells hc _ => hb.block g (blk_lt hc))⟩
  grow := ownsRow_move h.grow (fun k cells _ hc => hb.block k (blk_lt hc))
  blen := h.blen
  bnd := h.bnd
  maps := fun i b ms h1 h2 => by
    obtain ⟨hm, hb2⟩ := h.maps i b ms h1 h2
    obtain ⟨es, cl, hh, _⟩ := hm
    exact ⟨(h.maps i b ms h1 h2).1.keep (hb.block b (blk_lt hh)), hb2⟩
  below := hB
theorem BI.own {base : Nat} {w0 W W2 : World} {T : Nat} {GR SV GV : Value} {nx : List Nat} {sts : List (List S95)} {gos : List (List (Int × Int))} {bs : List Nat} (h : BI base w0 W T GR nx sts SV GV gos bs) (hbase : base ≤ W.heap.size) (hb : Below W.heap.size W W2) : BI base w0 W2 T GR nx sts SV GV gos bs :=
  h.step hb ⟨hb.os.trans h.below.os, hb.tape.trans h.below.tape, hb.output.trans h.below.output, Nat.le_trans h.below.size hb.size, fun k hk => (hb.block k (Nat.lt_of_lt_of_le hk hbase)).trans (h.below.block k hk)⟩
/-- The states' row has been written anew (an append): the table's block still holds the old slice. -/
theorem BI.snoc {base : Nat} {w0 W W2 : World} {T : Nat} {GR SV GV SV2 v : Value} {nx : List Nat} {sts : List (List S95)} {gos : List (List (Int × Int))} {bs : List Nat} {s : List S95} {vs : List Value} (h : BI base w0 W T GR nx sts SV GV gos bs)
    (hvs : W.ownsRow base 94 1 SV sts.length vs) (hvs2 : ∀ (i : Nat) s, sts[i]? = some s → ∃ v, vs[i]? = some v ∧ StRow W base v s) (hs : StRow W base v s)
    (ho : W2.ownsRow base 94 1 SV2 (sts.length + 1) (vs ++ [v])) (hB : Below base w0 W2) (hg : W.grownBy W2 SV.ownBlock) :
    BI base w0 (W2.setCell ⟨T, 1, none⟩ SV2) T GR nx (sts ++ [s]) SV2 GV gos bs := by
  have hty : ∀ k, SV.ownBlock = some k → ∃ cells, W.heap[k]? = some (.cells cells 94 (0, 0)) := fun k hk => own_typed hvs k hk
  have hT : W2.heap[T]? = W.heap[T]? := hg.block T (blk_lt h.tb) (fun e => by
    obtain ⟨cells, hc⟩ := hty T e.symm
    exact blk_ne h.tb hc (by decide) rfl)
  have h95 : ∀ (g : Nat) (cells : Array Value) (t : Nat), t ≠ 94 → W.heap[g]? = some (.cells cells t (0, 0)) → W2.heap[g]? = W.heap[g]? := fun g cells t ht hc => hg.block g (blk_lt hc) (fun e => by
    obtain ⟨cells', hc'⟩ := hty g e.symm
    exact blk_ne hc hc' ht rfl)
  have hmap : ∀ (b : Nat) (es : Array MapEntry) (cl : Nat), W.heap[b]? = some (.map es cl) → W2.heap[b]? = W.heap[b]? := fun b es cl hc => hg.block b (blk_lt hc) (fun e => by
    obtain ⟨cells', hc'⟩ := hty b e.symm
    rw [hc] at hc'; cases hc')
  have hset : ∀ k, k ≠ T → (W2.setCell ⟨T, 1, none⟩ SV2).heap[k]? = W2.heap[k]? := fun k hk => Below.heap_setCell W2 ⟨T, 1, none⟩ SV2 k hk
  have ne95 : ∀ (g : Nat) (cells : Array Value), W.heap[g]? = some (.cells cells 95 (0, 0)) → g ≠ T := fun g cells hc => (fun e => by subst e; exact blk_ne hc h.tb (by decide) rfl)
  refine ⟨?_, h.tbase, ⟨vs ++ [v], ?_, ?_⟩, ?_, h.blen, h.bnd, ?_, ?_⟩
  · have hW2 : W2.heap[T]? = some (.cells (#[GR, SV, GV] ++ arr nx) 87 (0, 0)) := hT.trans h.tb
    refine blk_put hW2 1 SV2 ?_
    simp [Array.setIfInBounds_append]
  · rw [List.length_append, List.length_singleton]
    exact ownsRow_move ho (fun k cells _ hc => hset k (fun e => by
      subst e
      exact blk_ne hc (hT.trans h.tb) (by decide) rfl))
  · have keep : ∀ u t, StRow W base u t → StRow (W2.setCell ⟨T, 1, none⟩ SV2) base u t := fun u t hr => hr.keep (fun g cells hc _ => (hset g (ne95 g cells hc)).trans (h95 g cells 95 (by decide) hc))
    intro i s' hi
    have hlen : vs.length = sts.length := by have := hvs.1; omega
    by_cases hlt : i < sts.length
    · rw [List.getElem?_append_left hlt] at hi
      obtain ⟨u, hu, hr⟩ := hvs2 i s' hi
      exact ⟨u, by rw [List.getElem?_append_left (by omega)]; exact hu, keep u s' hr⟩
    · have hie : i = sts.length := by
        have := (List.getElem?_eq_some_iff.1 hi).1
        simp at this
        omega
      subst hie
      rw [List.getElem?_append_right (Nat.le_refl _)] at hi
      simp at hi
      subst hi
      exact ⟨v, by rw [← hlen, List.getElem?_append_right (Nat.le_refl _)]; simp, keep v _ hs⟩
  · exact ownsRow_move h.grow (fun k cells _ hc => (hset k (fun e => by
      subst e
      exact blk_ne hc h.tb (by decide) rfl)).trans (h95 k cells 98 (by decide) hc))
  · intro i b ms h1 h2
    obtain ⟨hm, hb2⟩ := h.maps i b ms h1 h2
    obtain ⟨es, cl, hh, hx⟩ := hm
    refine ⟨(h.maps i b ms h1 h2).1.keep ((hset b (fun e => ?_)).trans (hmap b es cl hh)), hb2⟩
    subst e
    rw [h.tb] at hh; cases hh
  · exact hB.setCell h.tbase _
/-- A map has been made and appended to the maps' row. -/
theorem BI.push {base : Nat} {w0 W W2 : World} {T b : Nat} {GR SV GV GV2 : Value} {nx : List Nat} {sts : List (List S95)} {gos : List (List (Int × Int))} {bs : List Nat} (h : BI base w0 W T GR nx sts SV GV gos bs)
    (hm : MapB W b []) (hbb : base ≤ b) (hnew : b ∉ bs)
    (ho : W2.ownsRow base 98 1 GV2 (gos.length + 1) (bs.map (fun b => Value.map (some b)) ++ [Value.map (some b)])) (hB : Below base w0 W2) (hg : W.grownBy W2 GV.ownBlock) :
    BI base w0 (W2.setCell ⟨T, 2, none⟩ GV2) T GR nx sts SV GV2 (gos ++ [[]]) (bs ++ [b]) := by
  have hty : ∀ k, GV.ownBlock = some k → ∃ cells, W.heap[k]? = some (.cells cells 98 (0, 0)) := fun k hk => own_typed h.grow k hk
  have hT : W2.heap[T]? = W.heap[T]? := hg.block T (blk_lt h.tb) (fun e => by
    obtain ⟨cells, hc⟩ := hty T e.symm
    exact blk_ne h.tb hc (by decide) rfl)
  have h95 : ∀ (g : Nat) (cells : Array Value) (t : Nat), t ≠ 98 → W.heap[g]? = some (.cells cells t (0, 0)) → W2.heap[g]? = W.heap[g]? := fun g cells t ht hc => hg.block g (blk_lt hc) (fun e => by
    obtain ⟨cells', hc'⟩ := hty g e.symm
    exact blk_ne hc hc' ht rfl)
  have hmap : ∀ (b : Nat) (es : Array MapEntry) (cl : Nat), W.heap[b]? = some (.map es cl) → W2.heap[b]? = W.heap[b]? := fun b es cl hc => hg.block b (blk_lt hc) (fun e => by
    obtain ⟨cells', hc'⟩ := hty b e.symm
    rw [hc] at hc'; cases hc')
  have hset : ∀ k, k ≠ T → (W2.setCell ⟨T, 2, none⟩ GV2).heap[k]? = W2.heap[k]? := fun k hk => Below.heap_setCell W2 ⟨T, 2, none⟩ GV2 k hk
  have nty : ∀ (g : Nat) (cells : Array Value) (t : Nat), t ≠ 87 → W.heap[g]? = some (.cells cells t (0, 0)) → g ≠ T := fun g cells t ht hc => (fun e => by subst e; exact blk_ne hc h.tb ht rfl)
  have keepm : ∀ b ms, MapB W b ms → MapB (W2.setCell ⟨T, 2, none⟩ GV2) b ms := fun b ms hm => by
    obtain ⟨es, cl, hh, hx⟩ := hm
    refine MapB.keep (W := W) ⟨es, cl, hh, hx⟩ ((hset b (fun e => ?_)).trans (hmap b es cl hh))
    subst e
    rw [h.tb] at hh; cases hh
  obtain ⟨vs, hs1, hs2⟩ := h.srow
  refine ⟨?_, h.tbase, ⟨vs, ?_, fun i s hi => ?_⟩, ?_, by simp [h.blen], ?_, ?_, hB.setCell h.tbase _⟩
  · have hW2 : W2.heap[T]? = some (.cells (#[GR, SV, GV] ++ arr nx) 87 (0, 0)) := hT.trans h.tb
    refine blk_put hW2 2 GV2 ?_
    simp [Array.setIfInBounds_append]
  · exact ownsRow_move hs1 (fun k cells _ hc => (hset k (nty k cells 94 (by decide) hc)).trans (h95 k cells 94 (by decide) hc))
  · obtain ⟨v, hv, hr⟩ := hs2 i s hi
    exact ⟨v, hv, hr.keep (fun g cells hc _ => (hset g (nty g cells 95 (by decide) hc)).trans (h95 g cells 95 (by decide) hc))⟩
  · rw [List.length_append, List.length_singleton, List.map_append, List.map_singleton]
    exact ownsRow_move ho (fun k cells _ hc => hset k (fun e => by
      subst e
      exact blk_ne hc (hT.trans h.tb) (by decide) rfl))
  · rw [List.nodup_append]
    exact ⟨h.bnd, by simp, fun a ha c hc => by simp at hc; subst hc; intro e; subst e; exact hnew ha⟩
  · intro i b' ms h1 h2
    by_cases hlt : i < gos.length
    · rw [List.getElem?_append_left (by rw [h.blen]; exact hlt)] at h1
      rw [List.getElem?_append_left hlt] at h2
      obtain ⟨hm', hb'⟩ := h.maps i b' ms h1 h2
      exact ⟨keepm _ _ hm', hb'⟩
    · have hie : i = gos.length := by
        have := (List.getElem?_eq_some_iff.1 h2).1
        simp at this
        omega
      subst hie
      rw [List.getElem?_append_right (Nat.le_refl _)] at h2
      rw [← h.blen, List.getElem?_append_right (Nat.le_refl _)] at h1
      simp at h1 h2
      subst h1
      subst h2
      exact ⟨keepm _ _ hm, hbb⟩
/-- A map has been written. -/
theorem BI.put {base : Nat} {w0 W W2 : World} {T b i : Nat} {GR SV GV : Value} {nx : List Nat} {sts : List (List S95)} {gos : List (List (Int × Int))} {bs : List Nat} {ms ms' : List (Int × Int)} (h : BI base w0 W T GR nx sts SV GV gos bs)
    (hi : bs[i]? = some b) (hgi : gos[i]? = some ms) (hm2 : MapB W2 b ms') (hg : W.grownBy W2 (some b)) :
    BI base w0 W2 T GR nx sts SV GV (gos.set i ms') bs := by
  obtain ⟨hm, hbb⟩ := h.maps i b ms hi hgi
  obtain ⟨es, cl, hh, hx⟩ := hm
  have hc : ∀ (g : Nat) (cells : Array Value) (t : Nat), W.heap[g]? = some (.cells cells t (0, 0)) → W2.heap[g]? = W.heap[g]? := fun g cells t hc => hg.block g (blk_lt hc) (fun e => by
    have := Option.some.inj e
    subst this
    rw [hh] at hc; cases hc)
  obtain ⟨vs, hs1, hs2⟩ := h.srow
  have hil : i < gos.length := (List.getElem?_eq_some_iff.1 hgi).1
  refine ⟨(hc T _ 87 h.tb).trans h.tb, h.tbase, ⟨vs, ownsRow_move hs1 (fun k cells _ h => hc k cells 94 h), fun j s hj => ?_⟩, ?_, by simp [h.blen], h.bnd, ?_, ?_⟩
  · obtain ⟨v, hv, hr⟩ := hs2 j s hj
    exact ⟨v, hv, hr.keep (fun g cells h _ => hc g cells 95 h)⟩
  · rw [List.length_set]
    exact ownsRow_move h.grow (fun k cells _ h => hc k cells 98 h)
  · intro j b' ms2 h1 h2
    by_cases hij : j = i
    · subst hij
      rw [hi] at h1
      cases h1
      rw [List.getElem?_set_self hil] at h2
      cases h2
      exact ⟨hm2, hbb⟩
    · rw [List.getElem?_set_ne (Ne.symm hij)] at h2
      obtain ⟨hm', hb'⟩ := h.maps j b' ms2 h1 h2
      refine ⟨?_, hb'⟩
      obtain ⟨es', cl', hh', hx'⟩ := hm'
      refine MapB.keep (W := W) ⟨es', cl', hh', hx'⟩ (hg.block b' (blk_lt hh') (fun e => hij ?_))
      have e2 := Option.some.inj e
      subst e2
      have hj := (List.getElem?_eq_some_iff.1 h1)
      have hi2 := (List.getElem?_eq_some_iff.1 hi)
      have hp := List.pairwise_iff_getElem.1 h.bnd
      rcases Nat.lt_trichotomy j i with hlt | heq | hgt
      · exact absurd (hj.2.trans hi2.2.symm) (hp j i hj.1 hi2.1 hlt)
      · exact heq
      · exact absurd (hi2.2.trans hj.2.symm) (hp i j hi2.1 hj.1 hgt)
  · exact ⟨hg.os.trans h.below.os, hg.tape.trans h.below.tape, hg.output.trans h.below.output, Nat.le_trans h.below.size hg.size, fun k hk => (hg.block k (by have := blk_lt hh; omega) (fun e => by have := Option.some.inj e; omega)).trans (h.below.block k hk)⟩
/-- What IndexFunc asks. -/
theorem BI.rows {base : Nat} {w0 W : World} {T : Nat} {GR SV GV : Value} {nx : List Nat} {sts : List (List S95)} {gos : List (List (Int × Int))} {bs : List Nat} (h : BI base w0 W T GR nx sts SV GV gos bs) (hne : sts ≠ []) :
    ∃ G cap, SV = .slice (some ⟨G, 0, none⟩) sts.length cap ∧ StRows W base G cap sts := by
  obtain ⟨vs, ⟨hl, hown⟩, hs⟩ := h.srow
  rcases hown with ⟨_, hn⟩ | ⟨G, cap, cur, hv, hg, hblk, hncap, hcap, hcs, htake⟩
  · exact absurd (List.length_eq_zero_iff.1 hn) hne
  · refine ⟨G, cap, hv, ⟨⟨cur, hblk, by omega, fun i s hi => ?_⟩, hncap⟩⟩
    obtain ⟨v, hv2, hr⟩ := hs i s hi
    refine ⟨v, ?_, hr⟩
    have hil : i < sts.length := (List.getElem?_eq_some_iff.1 hi).1
    have h1 : (cur.toList.take (sts.length * 1))[i]? = vs[i]? := by rw [htake]
    rw [List.getElem?_take_of_lt (by omega), Array.getElem?_toList] at h1
    rw [h1, hv2]
theorem BI.map_at {base : Nat} {w0 W : World} {T : Nat} {GR SV GV : Value} {nx : List Nat} {sts : List (List S95)} {gos : List (List (Int × Int))} {bs : List Nat} (h : BI base w0 W T GR nx sts SV GV gos bs) (i : Nat) (hi : i < gos.length) :
    ∃ G cap b ms, GV = .slice (some ⟨G, 0, none⟩) gos.length cap ∧ gos.length ≤ cap ∧ W.cell? ⟨G, i, none⟩ = some (.map (some b)) ∧ bs[i]? = some b ∧ gos[i]? = some ms ∧ MapB W b ms := by
  obtain ⟨hl, hown⟩ := h.grow
  rcases hown with ⟨_, hn⟩ | ⟨G, cap, cur, hv, hg, hblk, hncap, hcap, hcs, htake⟩
  · omega
  · have hib : i < bs.length := by rw [h.blen]; exact hi
    have h1 : (cur.toList.take (gos.length * 1))[i]? = (bs.map fun b => Value.map (some b))[i]? := by rw [htake]
    rw [List.getElem?_take_of_lt (by omega), Array.getElem?_toList] at h1
    refine ⟨G, cap, bs[i], gos[i], hv, hncap, ?_, List.getElem?_eq_getElem hib, List.getElem?_eq_getElem hi, (h.maps i _ _ (List.getElem?_eq_getElem hib) (List.getElem?_eq_getElem hi)).1⟩
    rw [blk_cell hblk i, h1]
    simp [hib]
end Go.Proofs.YtpmmfckgfbdboaaDoor.G
end

section
namespace Go.Proofs.YtpmmfckgfbdboaaDoor.G
open Go.RowKit Go.Proofs.YtpmmfckgfbdboaaDoorW.PrintWords Go.Proofs.YtpmmfckgfbdboaaDoorW.PrintLast Go.Proofs.YtpmmfckgfbdboaaDoorW.PrintMore
open Go.Shelf Go.Lib
set_option linter.unusedVariables false
set_option linter.unusedSimpArgs false
theorem nextRow_len (F : List Nat) (E : Nat) (x : Int) : ∀ (t : List Int) (s : List Nat), (nextRow F E x t s).length = s.length
  | [], s => rfl
  | c :: cs, s => by
    simp only [nextRow]
    split
    · rw [nextRow_len F E x cs]; simp [nextCell]
    · exact nextRow_len F E x cs s
theorem nextL_len (F : List Nat) (E : Nat) : ∀ (g : List (Int × List Int)) (s : List Nat), (nextL F E g s).length = s.length
  | [], s => rfl
  | r :: g, s => by
    simp only [nextL, List.foldl_cons]
    exact (nextL_len F E g _).trans (nextRow_len F E r.1 r.2 s)
theorem iterN_len {f : List Nat → List Nat} (hf : ∀ s, (f s).length = s.length) : ∀ (n : Nat) (s : List Nat), (iterN f n s).length = s.length
  | 0, s => rfl
  | n + 1, s => by rw [iterN, iterN_len hf n]; exact hf s
theorem nextP_len (g : List (Int × List Int)) : (nextP g).length = 5 := by
  unfold nextP
  rw [iterN_len (nextL_len _ _ g)]
  simp
theorem R_one (W : World) (base : Nat) (a b : Int) (hb : base ≤ W.heap.size) : Kd.R k95 95 (W.alloc (.cells #[.int .i64 a, .int .i64 b] 95)) base (fun _ => True) (.slice (some ⟨W.heap.size, 0, none⟩) 1 1) [⟨a, b⟩] := by
  refine ⟨fun _ _ => trivial, [.int .i64 a, .int .i64 b], ⟨rfl, .inr ⟨W.heap.size, 1, _, rfl, hb, blk_new W _, Nat.le_refl _, by decide, rfl, rfl⟩⟩, rfl, fun j p hj => ?_⟩
  cases j with
  | zero => cases hj; exact k95_mkM _ _ _ (⟨a, b⟩ : S95)
  | succ j => simp at hj
theorem closF_some {g : List (Int × List Int)} {l ys : List S95} (h : closF g l = some ys) : ∃ zs, closeO g 2000 0 l = some zs ∧ ys = sortI zs := by
  unfold closF at h
  obtain ⟨zs, h1, h2⟩ := Option.map_eq_some_iff.1 h
  exact ⟨zs, h1, h2.symm⟩
theorem closeO_ok (g : List (Int × List Int)) : ∀ (n : Nat) (i : Int) (xs zs : List S95), closeO g n i xs = some zs → (∀ x ∈ xs, okItem g x) → (∀ x ∈ zs, okItem g x) ∧ zs.length ≤ 1000 ∧ xs.length ≤ zs.length
  | 0, i, xs, zs, h, _ => by simp [closeO] at h
  | n + 1, i, xs, zs, h, hx => by
    simp only [closeO] at h
    split at h
    · rename_i hL
      split at h
      · obtain ⟨a, b, c⟩ := closeO_ok g n _ _ zs h (addR_ok g _ g 0 xs (by simp) hx)
        exact ⟨a, b, Nat.le_trans (addR_len _ g 0 xs).2 c⟩
      · cases h; exact ⟨hx, hL, Nat.le_refl _⟩
    · cases h
theorem sortI_mem {xs : List S95} {x : S95} : x ∈ sortI xs ↔ x ∈ xs := by unfold sortI; exact List.mem_mergeSort
theorem sortI_len (xs : List S95) : (sortI xs).length = xs.length := List.length_mergeSort _
def goodS (g : List (Int × List Int)) (s : List S95) : Prop := (∀ x ∈ s, okItem g x) ∧ s.length ≤ 1000 ∧ s ≠ []
theorem closF_good {g : List (Int × List Int)} {l ys : List S95} (h : closF g l = some ys) (hl : ∀ x ∈ l, okItem g x) (hne : l ≠ []) : goodS g ys := by
  obtain ⟨zs, h1, rfl⟩ := closF_some h
  obtain ⟨a, b, c⟩ := closeO_ok g 2000 0 l zs h1 hl
  refine ⟨fun x hx => a x (sortI_mem.1 hx), by rw [sortI_len]; exact b, fun h0 => hne ?_⟩
  have : (sortI zs).length = 0 := by rw [h0]; rfl
  rw [sortI_len] at this
  exact List.length_eq_zero_iff.1 (by omega)
theorem R_strow {W : World} {base : Nat} {v : Value} {s : List S95} (h : Kd.R k95 95 W base (fun _ => True) v s) (hne : s ≠ []) : StRow W base v s := by
  have hl : 0 < s.length := List.length_pos_iff.2 hne
  obtain ⟨g, cap, rfl, h1, h2, cells, h3⟩ := Kd.R_form h hl
  obtain ⟨_, h4, h5⟩ := Kd.R_reads' h
  exact ⟨g, cap, cells, rfl, h4, h1, h3, h5⟩
theorem StRow.lower {W : World} {base base' : Nat} {v : Value} {s : List S95} (h : StRow W base v s) (hb : base' ≤ base) : StRow W base' v s := by
  obtain ⟨g, cap, cells, h0, h1, h2, h3, h4⟩ := h
  exact ⟨g, cap, cells, h0, h1, Nat.le_trans hb h2, h3, h4⟩
theorem BI.start {w W : World} {T : Nat} {GR v : Value} {nx : List Nat} {s : List S95} (hT : W.heap[T]? = some (.cells (#[GR, .slice none 0 0, .slice none 0 0] ++ arr nx) 87 (0, 0))) (hTb : w.heap.size ≤ T) (hB : Below w.heap.size w W) (hs : StRow W w.heap.size v s) (hv : v.oneCell' = true) :
    BI w.heap.size w ((W.alloc (.cells #[v] 94)).setCell ⟨T, 1, none⟩ (.slice (some ⟨W.heap.size, 0, none⟩) 1 1)) T GR nx [s] (.slice (some ⟨W.heap.size, 0, none⟩) 1 1) (.slice none 0 0) [] [] := by
  have hTl := blk_lt hT
  have hset : ∀ k, k ≠ T → ((W.alloc (.cells #[v] 94)).setCell ⟨T, 1, none⟩ (.slice (some ⟨W.heap.size, 0, none⟩) 1 1)).heap[k]? = (W.alloc (.cells #[v] 94)).heap[k]? := fun k hk => Below.heap_setCell _ ⟨T, 1, none⟩ _ k hk
  refine ⟨?_, hTb, ⟨[v], ⟨rfl, .inr ⟨W.heap.size, 1, #[v], rfl, hB.size, ?_, Nat.le_refl _, by decide, rfl, rfl⟩⟩, fun i s' hi => ?_⟩, ⟨rfl, .inl ⟨rfl, rfl⟩⟩, rfl, List.nodup_nil, fun i b ms h1 => by simp at h1, ?_⟩
  · refine blk_put (blk_alloc hT _) 1 _ ?_
    simp [Array.setIfInBounds_append]
  · rw [hset _ (by omega)]
    exact blk_new W _
  · cases i with
    | zero =>
      cases hi
      refine ⟨v, rfl, hs.keep (fun g cells hc _ => ?_)⟩
      rw [hset g (fun e => by subst e; exact blk_ne hc hT (by decide) rfl)]
      exact (blk_alloc hc _).trans hc.symm
    | succ i => simp at hi
  · exact (below_alloc hB _).setCell hTb _
end Go.Proofs.YtpmmfckgfbdboaaDoor.G
end

section
namespace Go.Proofs.YtpmmfckgfbdboaaDoor.G
open Go.RowKit Go.Proofs.YtpmmfckgfbdboaaDoorW.PrintWords Go.Proofs.YtpmmfckgfbdboaaDoorW.PrintLast Go.Proofs.YtpmmfckgfbdboaaDoorW.PrintMore
open Go.Shelf Go.Lib
set_option linter.unusedVariables false
set_option linter.unusedSimpArgs false
section
variable {P : Program} {ops : Array Oper} {rest : List Oper} {o : Oper} {a : Act} {Q : Exit → Act → World → Prop}
theorem eqnil_event {W : World} (hgd : o.guard = none) (t t' e : TypeId) (x : Operand) (A : Option Addr) (n c : Nat) (ho : o.op = .binOp .eql t x (.const (.slice none 0 0)) t') (hu : P.underlying t = some (.slice e)) (hx : a.eval x = .slice A n c)
    (h : wpList P ops Q rest (a.put o.dst (.bool A.isNone)) W) : wpList P ops Q (o :: rest) a W := by
  refine Kd.event_run hgd ?_ h
  have hr := Lib.run_eql_slice_nil (P := P) W t e A n c 0 0 hu
  have he : a.eval (.const (.slice none 0 0)) = .slice none 0 0 := rfl
  have hg : (eqGuard .eql t x (.const (.slice none 0 0)) (.slice A n c) (.slice none 0 0)).run P W = .ok () W := by
    cases x <;> simp [eqGuard]
  unfold execOp
  simp only [ho, hx, he, hg, Sem.run_bind, Sem.run_pure, Result.andThen_ok, hr]
theorem eqnil_yes {W : World} (hgd : o.guard = none) (t t' e : TypeId) (x : Operand) (ho : o.op = .binOp .eql t x (.const (.slice none 0 0)) t') (hu : P.underlying t = some (.slice e)) (hx : a.eval x = .slice none 0 0)
    (h : wpList P ops Q rest (a.put o.dst (.bool true)) W) : wpList P ops Q (o :: rest) a W := eqnil_event hgd t t' e x none 0 0 ho hu hx h
theorem eqnil_no {W : World} (hgd : o.guard = none) (t t' e : TypeId) (x : Operand) (A : Addr) (n c : Nat) (ho : o.op = .binOp .eql t x (.const (.slice none 0 0)) t') (hu : P.underlying t = some (.slice e)) (hx : a.eval x = .slice (some A) n c)
    (h : wpList P ops Q rest (a.put o.dst (.bool false)) W) : wpList P ops Q (o :: rest) a W := eqnil_event hgd t t' e x (some A) n c ho hu hx h
theorem gate_map {t : TypeId} {m k v : Tmp} {W : World} (_ho : o.op = .mapUpdate t (.tmp m) (.tmp k) (.tmp v)) (_hn : o.dst = none) (h : wpList P ops Q (o :: rest) a W) : wpList P ops Q (o :: rest) a W := h
theorem mapupd_event {W w1 : World} (hgd : o.guard = none) (t : TypeId) (m k v : Operand) (mv kv vv : Value) (ho : o.op = .mapUpdate t m k v) (hN : o.dst = none) (hm : a.eval m = mv) (hk : a.eval k = kv) (hv : a.eval v = vv)
    (hrun : (Instr.mapUpdate t mv kv vv).run P W = .ok () w1) (h : wpList P ops Q rest a w1) : wpList P ops Q (o :: rest) a W := by
  refine wpList_plain hgd fun K hK => ?_
  have hr : (execOp a.eval o).run P W = .ok .skip w1 := by
    unfold execOp
    simp only [ho, hm, hk, hv, Sem.run_bind, Sem.run_pure, Result.andThen_ok, hrun]
  unfold Oper.wp
  rw [hr]
  show K (a.put o.dst undef) w1
  rw [hN]
  exact hK _ _ h
end
end Go.Proofs.YtpmmfckgfbdboaaDoor.G
end

section
namespace Go.Proofs.YtpmmfckgfbdboaaDoor.G
open Go.RowKit Go.Proofs.YtpmmfckgfbdboaaDoorW.PrintWords Go.Proofs.YtpmmfckgfbdboaaDoorW.PrintLast Go.Proofs.YtpmmfckgfbdboaaDoorW.PrintMore
open Go.Shelf Go.Lib
set_option linter.unusedVariables false
set_option linter.unusedSimpArgs false
theorem rowO_stay {g : List (Int × List Int)} {s : List S95} {c : Int} {cs : List Int} {sts : List (List S95)} {ms : List (Int × Int)} {ro : Option (List (List S95) × List (Int × Int))} (hm : movedP g c s = []) (h : rowO g s (c :: cs) sts ms = some ro) : rowO g s cs sts ms = some ro := by
  unfold rowO letterO at h
  rw [if_pos hm] at h
  exact h
theorem rowO_step {g : List (Int × List Int)} {s : List S95} {c : Int} {cs : List Int} {sts : List (List S95)} {ms : List (Int × Int)} {ro : Option (List (List S95) × List (Int × Int))} (hm : movedP g c s ≠ []) (hok : ∀ x ∈ movedP g c s, okItem g x) (h : rowO g s (c :: cs) sts ms = some ro) :
    ∃ ys, closF g (movedP g c s) = some ys ∧ goodS g ys ∧
      ((findI sts ys 0 < 0 ∧ ((64 < sts.length + 1 ∧ ro = none) ∨ (sts.length + 1 ≤ 64 ∧ rowO g s cs (sts ++ [ys]) (ms ++ [(c, (sts.length : Int))]) = some ro))) ∨
       (¬ findI sts ys 0 < 0 ∧ ((64 < sts.length ∧ ro = none) ∨ (sts.length ≤ 64 ∧ rowO g s cs sts (ms ++ [(c, findI sts ys 0)]) = some ro)))) := by
  unfold rowO letterO at h
  rw [if_neg hm] at h
  obtain ⟨lo, hlo, hr⟩ := Option.bind_eq_some_iff.1 h
  obtain ⟨ys, hys, hrest⟩ := Option.bind_eq_some_iff.1 hlo
  refine ⟨ys, hys, closF_good hys hok hm, ?_⟩
  split at hrest
  · rename_i h1
    refine .inl ⟨h1, ?_⟩
    split at hrest
    · rename_i h2
      obtain rfl := Option.some.inj hrest
      exact .inl ⟨h2, (Option.some.inj hr).symm⟩
    · rename_i h2
      obtain rfl := Option.some.inj hrest
      exact .inr ⟨Nat.not_lt.1 h2, hr⟩
  · rename_i h1
    refine .inr ⟨h1, ?_⟩
    split at hrest
    · rename_i h2
      obtain rfl := Option.some.inj hrest
      exact .inl ⟨h2, (Option.some.inj hr).symm⟩
    · rename_i h2
      obtain rfl := Option.some.inj hrest
      exact .inr ⟨Nat.not_lt.1 h2, hr⟩
theorem closF_any (l : List S56) (A : Option Addr) (c0 : Nat) (v : Value) (xs : List S95) (w0 w : World) (hr0 : Kd.C k56 w0 A l.length l) (hc0 : l.length ≤ c0) (hg : okG (gr56 l)) (hne : 0 < l.length)
    (HO : Kd.R k95 95 w w0.heap.size (fun _ => True) v xs) (HB : Below w0.heap.size w0 w) (hxs : xs ≠ []) (hok : ∀ x ∈ xs, okItem (gr56 l) x) (ys : List S95) (hys : closF (gr56 l) xs = some ys) :
    Calls Tryd.prog 96 #[.slice A l.length c0, v] w fun e w' => ∃ g cap, e = .returned (.slice (some ⟨g, 0, none⟩) ys.length cap) ∧ Kd.R k95 95 w' w0.heap.size (fun _ => True) (.slice (some ⟨g, 0, none⟩) ys.length cap) ys ∧ Below w0.heap.size w0 w' ∧ w.grownBy w' v.ownBlock := by
  have hgood := closF_good hys hok hxs
  obtain ⟨z0, hz0, rfl⟩ := closF_some hys
  refine (closure_any l A c0 v xs w0 w hr0 hc0 hg hne HO HB hxs hok 2000 z0 hz0).mono ?_
  rintro e w' ⟨v1, rfl, hR, hB, hG, _⟩
  obtain ⟨g, cap, rfl, _⟩ := Kd.R_form hR (List.length_pos_iff.2 hgood.2.2)
  exact ⟨g, cap, rfl, hR, hB, hG⟩
theorem buildO_step {g : List (Int × List Int)} {n i : Nat} {sts : List (List S95)} {gos : List (List (Int × Int))} {r : Option (List (List S95) × List (List (Int × Int)))} {s : List S95} (hs : sts[i]? = some s) (h : buildO g (n + 1) i sts gos = some r) :
    ∃ ro, rowO g s lettersP sts [] = some ro ∧ (ro = none → r = none) ∧ ∀ sts' ms, ro = some (sts', ms) → buildO g n (i + 1) sts' (gos ++ [ms]) = some r := by
  have hlt := (List.getElem?_eq_some_iff.1 hs).1
  unfold buildO at h
  rw [if_pos hlt, List.getD_eq_getElem?_getD, hs, Option.getD_some] at h
  obtain ⟨ro, h1, h2⟩ := Option.bind_eq_some_iff.1 h
  refine ⟨ro, h1, fun e => ?_, fun sts' ms e => ?_⟩
  · subst e; exact (Option.some.inj h2).symm
  · subst e; exact h2
theorem buildO_end {g : List (Int × List Int)} {n i : Nat} {sts : List (List S95)} {gos : List (List (Int × Int))} {r : Option (List (List S95) × List (List (Int × Int)))} (hlt : ¬ i < sts.length) (h : buildO g (n + 1) i sts gos = some r) : r = some (sts, gos) := by
  unfold buildO at h
  rw [if_neg hlt] at h
  exact (Option.some.inj h).symm
theorem buildO_pos {g : List (Int × List Int)} {n i : Nat} {sts : List (List S95)} {gos : List (List (Int × Int))} {r : Option (List (List S95) × List (List (Int × Int)))} (h : buildO g n i sts gos = some r) : ∃ k, n = k + 1 := by
  cases n with
  | zero => cases h
  | succ k => exact ⟨k, rfl⟩
theorem rowO_end {g : List (Int × List Int)} {s : List S95} {sts : List (List S95)} {ms : List (Int × Int)} {ro : Option (List (List S95) × List (Int × Int))} (h : rowO g s [] sts ms = some ro) : ro = some (sts, ms) := by
  unfold rowO at h
  exact (Option.some.inj h).symm
theorem set_last {α : Type} (l : List α) (a b : α) (i : Nat) (h : l.length = i) : (l ++ [a]).set i b = l ++ [b] := by
  subst h
  simp
/-- What letters have been seen is not seen again. -/
theorem fresh_key {ms : List (Int × Int)} {c k : Int} {cs : List Int} (hl : lettered ms ∧ ∀ p ∈ ms, p.1 ∉ c :: cs) (hc : letterB c = true) (hn : c ∉ cs) : (∀ p ∈ ms, p.1 ≠ c) ∧ lettered (ms ++ [(c, k)]) ∧ ∀ p ∈ ms ++ [(c, k)], p.1 ∉ cs := by
  refine ⟨fun p hp e => hl.2 p hp (by rw [e]; simp), fun p hp => ?_, fun p hp => ?_⟩
  · rcases List.mem_append.1 hp with h | h
    · exact hl.1 p h
    · rw [List.mem_singleton.1 h]; exact hc
  · rcases List.mem_append.1 hp with h | h
    · exact fun h2 => hl.2 p h (by simp [h2])
    · rw [List.mem_singleton.1 h]; exact hn
end Go.Proofs.YtpmmfckgfbdboaaDoor.G
end
