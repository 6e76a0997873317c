/-
  Part 2 of a proof in 8 parts: lemmas, contracts and plain laws that its last part joins; no conditions of its own.
-/
import Derived.Test.YtfpcideomanbbaaGreatDoorProg
import Derived.Test.YtfpcideomanbbaaGreatDoorKZ
import Derived.Test.YtfpcideomanbbaaGreatDoorK1
import Derived.WalkSmall
import Derived.Lib.LaidTab
import Derived.Lib.ItoaNum
import Derived.Lib.Space
import Derived.Lib.AtoiErrMem
import Derived.OpenShut
import Derived.Lib.SmallJoins
import Derived.Deep.Slices
import Derived.ChangeSame
set_option linter.unusedVariables false
set_option linter.unusedSimpArgs false
section
namespace Go.Proofs.YtfpcideomanbbaaGreatDoor
open Go.RowKit
def traitNames : List (List UInt8) := [[], [102, 97, 115, 116], [103, 117, 97, 114, 100], [118, 101, 110, 111, 109], [108, 111, 110, 101], [100, 114, 97, 105, 110], [109, 117, 116, 101], [102, 105, 120, 101, 100], [115, 119, 105, 102, 116]]
structure GP (w : World) : Prop where
  maxLen : ∃ m, w.cell? ⟨5, 0, none⟩ = some (.int .i64 m)
  errSyntax : ∃ ev, w.cell? ⟨3, 0, none⟩ = some ev ∧ (ev = .nilIface ∨ ∃ te pe, ev = .iface te pe)
  errRange : ∃ ev, w.cell? ⟨4, 0, none⟩ = some ev ∧ (ev = .nilIface ∨ ∃ te pe, ev = .iface te pe)
  pow : Lib.TabIs Tryz.prog w "internal/strconv.uint64pow10" .u64 Lib.pow10Tab
  space : Lib.TabIs Tryz.prog w "strings.asciiSpace" .u8 Lib.asciiSpaceTab
  names : ∀ i, i < 9 → w.cell? ⟨0, i, none⟩ = some (.string ⟨(traitNames.getD i []).toArray⟩)
theorem gPow : Tryz.prog.globalNamed "internal/strconv.uint64pow10" = some 6 := by kernel_rfl
theorem gSpace : Tryz.prog.globalNamed "strings.asciiSpace" = some 1 := by kernel_rfl
theorem GP_below {w w' : World} (h : GP w) (hb : Below w.heap.size w w') : GP w' := by
  have lt : ∀ {g i : Nat} {v : Value}, w.cell? ⟨g, i, none⟩ = some v → g < w.heap.size := fun h => Lib.lt_of_cell h
  have keep : ∀ {g i : Nat} {v : Value}, w.cell? ⟨g, i, none⟩ = some v → w'.cell? ⟨g, i, none⟩ = some v := fun {g i v} h => by
    rw [hb.cell (p := ⟨g, i, none⟩) (lt h)]; exact h
  obtain ⟨m, hm⟩ := h.maxLen
  obtain ⟨ev, hev, he⟩ := h.errSyntax
  obtain ⟨rv, hrv, hr⟩ := h.errRange
  have hp := h.pow.cell gPow 0 (by decide)
  have hs := h.space.cell gSpace 0 (by rw [Lib.asciiSpaceTab_length]; decide)
  exact ⟨⟨m, keep hm⟩, ⟨ev, keep hev, he⟩, ⟨rv, keep hrv, hr⟩, var?_below hb gPow (lt hp) h.pow, var?_below hb gSpace (lt hs) h.space, fun i hi => keep (h.names i hi)⟩
end Go.Proofs.YtfpcideomanbbaaGreatDoor
end
section
namespace Go.Proofs.YtfpcideomanbbaaGreatDoor.PA
open Go.RowKit Go.Proofs.YtfpcideomanbbaaGreatDoorW.PrintWords Go.Proofs.YtfpcideomanbbaaGreatDoorW.PrintLast Go.Proofs.YtfpcideomanbbaaGreatDoorW.PrintMore
attribute [local go_sem] max2_int min2_int max_two min_two max_three min_three max_four min_four
set_option linter.unusedVariables false
set_option linter.unusedSimpArgs false
def errW : Option Int → Value
 | none => .nilIface
 | some c => .iface 0 (.int .i64 c)
theorem errW_none : errW none = .nilIface := rfl
theorem errW_some (c : Int) : errW (some c) = .iface 0 (.int .i64 c) := rfl
theorem info9 : (Tryz.prog.info? 9).map (fun i => (i.zero, i.size, i.bytes)) = some (some (.string ⟨#[]⟩), 1, 16) := by kernel_rfl
theorem info45 : (Tryz.prog.info? 45).map (fun i => (i.zero, i.size, i.bytes)) = some (some (.int .u8 0), 1, 1) := by kernel_rfl
theorem info48 : (Tryz.prog.info? 48).map (fun i => (i.zero, i.size, i.bytes)) = some (some (.agg #[(.int .u8 0), (.int .u8 0), (.int .u8 0), (.int .i64 0), (.int .u8 0), (.int .u8 0), (.int .u8 0), (.string ⟨#[]⟩)]), 8, 40) := by kernel_rfl
structure S48 where
 f0 : Int
 f1 : Int
 f2 : Int
 f3 : Int
 f4 : Int
 f5 : Int
 f6 : Int
 f7 : ByteArray
def z48 : S48 := ⟨(0 : Int), (0 : Int), (0 : Int), (0 : Int), (0 : Int), (0 : Int), (0 : Int), (⟨#[]⟩ : ByteArray)⟩
def k48 : Kd S48 := Kd.iso (Kd.pair (Kd.int .u8) (Kd.pair (Kd.int .u8) (Kd.pair (Kd.int .u8) (Kd.pair (Kd.int .i64) (Kd.pair (Kd.int .u8) (Kd.pair (Kd.int .u8) (Kd.pair (Kd.int .u8) Kd.string))))))) (fun x : S48 => (x.f0, x.f1, x.f2, x.f3, x.f4, x.f5, x.f6, x.f7))
theorem k48_open {w : World} {x : S48} {cs : List Value} (h : k48.K w x cs) : cs = [.int .u8 x.f0, .int .u8 x.f1, .int .u8 x.f2, .int .i64 x.f3, .int .u8 x.f4, .int .u8 x.f5, .int .u8 x.f6, .string x.f7] := by
 obtain ⟨_, _, rfl, rfl, ⟨_, _, rfl, rfl, ⟨_, _, rfl, rfl, ⟨_, _, rfl, rfl, ⟨_, _, rfl, rfl, ⟨_, _, rfl, rfl, ⟨_, _, rfl, rfl, rfl⟩⟩⟩⟩⟩⟩⟩ := h
 exact rfl
theorem k48_mk (w : World) (x : S48)  : k48.K w x [.int .u8 x.f0, .int .u8 x.f1, .int .u8 x.f2, .int .i64 x.f3, .int .u8 x.f4, .int .u8 x.f5, .int .u8 x.f6, .string x.f7] := ⟨[.int .u8 x.f0], [.int .u8 x.f1, .int .u8 x.f2, .int .i64 x.f3, .int .u8 x.f4, .int .u8 x.f5, .int .u8 x.f6, .string x.f7], rfl, rfl, ⟨[.int .u8 x.f1], [.int .u8 x.f2, .int .i64 x.f3, .int .u8 x.f4, .int .u8 x.f5, .int .u8 x.f6, .string x.f7], rfl, rfl, ⟨[.int .u8 x.f2], [.int .i64 x.f3, .int .u8 x.f4, .int .u8 x.f5, .int .u8 x.f6, .string x.f7], rfl, rfl, ⟨[.int .i64 x.f3], [.int .u8 x.f4, .int .u8 x.f5, .int .u8 x.f6, .string x.f7], rfl, rfl, ⟨[.int .u8 x.f4], [.int .u8 x.f5, .int .u8 x.f6, .string x.f7], rfl, rfl, ⟨[.int .u8 x.f5], [.int .u8 x.f6, .string x.f7], rfl, rfl, ⟨[.int .u8 x.f6], [.string x.f7], rfl, rfl, rfl⟩⟩⟩⟩⟩⟩⟩
theorem k48_mkM (w : World) (base : Nat) (ok : Nat → Prop) (x : S48)  : k48.M w base ok x [.int .u8 x.f0, .int .u8 x.f1, .int .u8 x.f2, .int .i64 x.f3, .int .u8 x.f4, .int .u8 x.f5, .int .u8 x.f6, .string x.f7] := ⟨[.int .u8 x.f0], [.int .u8 x.f1, .int .u8 x.f2, .int .i64 x.f3, .int .u8 x.f4, .int .u8 x.f5, .int .u8 x.f6, .string x.f7], rfl, rfl, ⟨[.int .u8 x.f1], [.int .u8 x.f2, .int .i64 x.f3, .int .u8 x.f4, .int .u8 x.f5, .int .u8 x.f6, .string x.f7], rfl, rfl, ⟨[.int .u8 x.f2], [.int .i64 x.f3, .int .u8 x.f4, .int .u8 x.f5, .int .u8 x.f6, .string x.f7], rfl, rfl, ⟨[.int .i64 x.f3], [.int .u8 x.f4, .int .u8 x.f5, .int .u8 x.f6, .string x.f7], rfl, rfl, ⟨[.int .u8 x.f4], [.int .u8 x.f5, .int .u8 x.f6, .string x.f7], rfl, rfl, ⟨[.int .u8 x.f5], [.int .u8 x.f6, .string x.f7], rfl, rfl, ⟨[.int .u8 x.f6], [.string x.f7], rfl, rfl, rfl⟩⟩⟩⟩⟩⟩⟩
def rd_T48 (xs : List S48) (i : Int) : S48 := xs.getD i.toNat z48
theorem at_T48 {w : World} {A : Option Addr} {n : Nat} {xs : List S48} (h : Kd.C k48 w A n xs) (i : Int) (h0 : 0 ≤ i) (h1 : i < n) : ∃ ad , A = some ad ∧ w.cell? (ad.add (i.toNat * 8)) = some (.int .u8 (rd_T48 xs i).f0) ∧ w.cell? ⟨(ad.add (i.toNat * 8)).block, (ad.add (i.toNat * 8)).off + 1, none⟩ = some (.int .u8 (rd_T48 xs i).f1) ∧ w.cell? ⟨(ad.add (i.toNat * 8)).block, (ad.add (i.toNat * 8)).off + 2, none⟩ = some (.int .u8 (rd_T48 xs i).f2) ∧ w.cell? ⟨(ad.add (i.toNat * 8)).block, (ad.add (i.toNat * 8)).off + 3, none⟩ = some (.int .i64 (rd_T48 xs i).f3) ∧ w.cell? ⟨(ad.add (i.toNat * 8)).block, (ad.add (i.toNat * 8)).off + 4, none⟩ = some (.int .u8 (rd_T48 xs i).f4) ∧ w.cell? ⟨(ad.add (i.toNat * 8)).block, (ad.add (i.toNat * 8)).off + 5, none⟩ = some (.int .u8 (rd_T48 xs i).f5) ∧ w.cell? ⟨(ad.add (i.toNat * 8)).block, (ad.add (i.toNat * 8)).off + 6, none⟩ = some (.int .u8 (rd_T48 xs i).f6) ∧ w.cell? ⟨(ad.add (i.toNat * 8)).block, (ad.add (i.toNat * 8)).off + 7, none⟩ = some (.string (rd_T48 xs i).f7) := by
 obtain ⟨ad, c, e, _, hK, hc0⟩ := Kd.C_get h z48 i h0 h1
 have hc : ∀ j u, c[j]? = some u → w.cell? (ad.add (i.toNat * 8 + j)) = some u := hc0
 obtain rfl := k48_open hK
 exact ⟨ad, e, hc 0 _ rfl, by rw [← add_field _ _ 1 (by omega)]; exact hc 1 _ rfl, by rw [← add_field _ _ 2 (by omega)]; exact hc 2 _ rfl, by rw [← add_field _ _ 3 (by omega)]; exact hc 3 _ rfl, by rw [← add_field _ _ 4 (by omega)]; exact hc 4 _ rfl, by rw [← add_field _ _ 5 (by omega)]; exact hc 5 _ rfl, by rw [← add_field _ _ 6 (by omega)]; exact hc 6 _ rfl, by rw [← add_field _ _ 7 (by omega)]; exact hc 7 _ rfl⟩
structure S116 where
 f0 : Int
 f1 : ByteArray
 f2 : Int
 f3 : ByteArray
def z116 : S116 := ⟨(0 : Int), (⟨#[]⟩ : ByteArray), (0 : Int), (⟨#[]⟩ : ByteArray)⟩
def rd_T116 (xs : List S116) (i : Int) : S116 := xs.getD i.toNat z116
def gambitref05_Cut.l0 : Nat → ByteArray → List ByteArray → Int → Int → Option (List ByteArray)
 | 0, _, _, _, _ => none
 | k + 1, x0, x3, x4, x5 => if x5 ≤ (x0.size : Int) then (if x5 = (x0.size : Int) then (if 0 ≤ x4 then (if x4 ≤ x5 then (if x3.length < 8796093022208 then (gambitref05_Cut.l0 k x0 (x3 ++ [x0.extract (x4 : Int).toNat (x5 : Int).toNat]) (wrap64 (x5 + 1)) (wrap64 (x5 + 1))) else (none)) else (none)) else (none)) else (if 0 ≤ x5 then (if x5 < (x0.size : Int) then (if (bt x0 x5) = 32 then (if 0 ≤ x4 then (if x4 ≤ x5 then (if x3.length < 8796093022208 then (gambitref05_Cut.l0 k x0 (x3 ++ [x0.extract (x4 : Int).toNat (x5 : Int).toNat]) (wrap64 (x5 + 1)) (wrap64 (x5 + 1))) else (none)) else (none)) else (none)) else (gambitref05_Cut.l0 k x0 x3 x4 (wrap64 (x5 + 1)))) else (none)) else (none))) else (some x3)
def gambitref05_Cut.f (k : Nat) (a0 : ByteArray) : Option (List ByteArray) := gambitref05_Cut.l0 k a0 ([] : List ByteArray) 0 0
theorem gambitref05_Cut.mono_l : ∀ k, (∀ y0 y1 y2 y3, LeO (gambitref05_Cut.l0 k y0 y1 y2 y3) (gambitref05_Cut.l0 (k + 1) y0 y1 y2 y3))
 | 0 => fun _ _ _ _ r h => by simp [gambitref05_Cut.l0] at h
 | k + 1 => by
  have ih0 := gambitref05_Cut.mono_l k
  ·intro y0 y1 y2 y3
   unfold gambitref05_Cut.l0
   repeat' first
   | (with_reducible exact ih0 _ _ _ _)
   | (with_reducible exact LeO.refl _)
   | (with_reducible exact LeO.none _)
   | (with_reducible refine LeO.ite ?_ ?_)
   | (with_reducible refine LeO.bind ?_ (fun _ => ?_))
   | exact ih0 _ _ _ _
   | exact LeO.none _
   | refine LeO.ite ?_ ?_
   | refine LeO.bind ?_ (fun _ => ?_)
theorem gambitref05_Cut.mono : ∀ a0 k, LeO (gambitref05_Cut.f k a0) (gambitref05_Cut.f (k + 1) a0) := by
 intro a0 k
 have ih0 := gambitref05_Cut.mono_l k
 unfold gambitref05_Cut.f
 repeat' first
   | (with_reducible exact ih0 _ _ _ _)
   | (with_reducible exact LeO.refl _)
   | (with_reducible exact LeO.none _)
   | (with_reducible refine LeO.ite ?_ ?_)
   | (with_reducible refine LeO.bind ?_ (fun _ => ?_))
   | exact ih0 _ _ _ _
   | exact LeO.none _
   | refine LeO.ite ?_ ?_
   | refine LeO.bind ?_ (fun _ => ?_)
def effect_Uses.j0 : Nat → Int → Bool → Bool → Bool → Bool → Bool → Int → Bool → Option (Bool × Bool × Bool × Bool × Bool)
 | 0, _, _, _, _, _, _, _, _ => none
 | k + 1, x1, x4, x5, x6, x7, x8, x9, x10 => if x10 = true then (if x5 = true then (if x6 = true then (some (true, true, true, x7, x8)) else (some (true, true, (x1 == 10), x7, x8))) else (if x6 = true then (some (true, (x1 == 9), true, x7, x8)) else (some (true, (x1 == 9), (x1 == 10), x7, x8)))) else (if x9 = 9 then (if x5 = true then (if x6 = true then (some (true, true, true, true, x8)) else (some (true, true, (x1 == 10), true, x8))) else (if x6 = true then (some (true, (x1 == 9), true, true, x8)) else (some (true, (x1 == 9), (x1 == 10), true, x8)))) else (if x9 = 7 then (if x5 = true then (if x6 = true then (some (true, true, true, x7, true)) else (some (true, true, (x1 == 10), x7, true))) else (if x6 = true then (some (true, (x1 == 9), true, x7, true)) else (some (true, (x1 == 9), (x1 == 10), x7, true)))) else (if x9 = 11 then (if x6 = true then (some (x4, true, true, x7, x8)) else (some (x4, true, (x1 == 10), x7, x8))) else (if x9 = 12 then (if x5 = true then (some (x4, true, true, x7, x8)) else (some (x4, (x1 == 9), true, x7, x8))) else (if x9 = 13 then (if x5 = true then (some (x4, true, true, x7, x8)) else (some (x4, (x1 == 9), true, x7, x8))) else (if x5 = true then (if x6 = true then (some (x4, true, true, x7, x8)) else (some (x4, true, (x1 == 10), x7, x8))) else (if x6 = true then (some (x4, (x1 == 9), true, x7, x8)) else (some (x4, (x1 == 9), (x1 == 10), x7, x8)))))))))
def effect_Uses.f (k : Nat) (a0 : Int) (a1 : Int) : Option (Bool × Bool × Bool × Bool × Bool) := if a0 = 1 then (effect_Uses.j0 k a1 false false false false false a0 (a0 == 1)) else (if a0 = 2 then (effect_Uses.j0 k a1 false false false false false a0 (a0 == 2)) else (if a0 = 3 then (effect_Uses.j0 k a1 false false false false false a0 (a0 == 3)) else (if a0 = 4 then (effect_Uses.j0 k a1 false false false false false a0 (a0 == 4)) else (if a0 = 5 then (effect_Uses.j0 k a1 false false false false false a0 (a0 == 5)) else (if a0 = 14 then (effect_Uses.j0 k a1 false false false false false a0 (a0 == 14)) else (if a0 = 15 then (effect_Uses.j0 k a1 false false false false false a0 (a0 == 15)) else (if a0 = 16 then (effect_Uses.j0 k a1 false false false false false a0 (a0 == 16)) else (effect_Uses.j0 k a1 false false false false false a0 (a0 == 19)))))))))
theorem effect_Uses.mono_l : ∀ k, (∀ y0 y1 y2 y3 y4 y5 y6 y7, LeO (effect_Uses.j0 k y0 y1 y2 y3 y4 y5 y6 y7) (effect_Uses.j0 (k + 1) y0 y1 y2 y3 y4 y5 y6 y7))
 | 0 => fun _ _ _ _ _ _ _ _ r h => by simp [effect_Uses.j0] at h
 | k + 1 => by
  have ih0 := effect_Uses.mono_l k
  ·intro y0 y1 y2 y3 y4 y5 y6 y7
   unfold effect_Uses.j0
   repeat' first
   | (with_reducible exact ih0 _ _ _ _ _ _ _ _)
   | (with_reducible exact LeO.refl _)
   | (with_reducible exact LeO.none _)
   | (with_reducible refine LeO.ite ?_ ?_)
   | (with_reducible refine LeO.bind ?_ (fun _ => ?_))
   | exact ih0 _ _ _ _ _ _ _ _
   | exact LeO.none _
   | refine LeO.ite ?_ ?_
   | refine LeO.bind ?_ (fun _ => ?_)
theorem effect_Uses.mono : ∀ a0 a1 k, LeO (effect_Uses.f k a0 a1) (effect_Uses.f (k + 1) a0 a1) := by
 intro a0 a1 k
 have ih0 := effect_Uses.mono_l k
 unfold effect_Uses.f
 repeat' first
   | (with_reducible exact ih0 _ _ _ _ _ _ _ _)
   | (with_reducible exact LeO.refl _)
   | (with_reducible exact LeO.none _)
   | (with_reducible refine LeO.ite ?_ ?_)
   | (with_reducible refine LeO.bind ?_ (fun _ => ?_))
   | exact ih0 _ _ _ _ _ _ _ _
   | exact LeO.none _
   | refine LeO.ite ?_ ?_
   | refine LeO.bind ?_ (fun _ => ?_)
set_option maxHeartbeats 8000000 in
set_option maxRecDepth 100000 in
theorem effect_Uses.calls (k : Nat) (a0 : Int) (a1 : Int) (r1 : Bool) (r2 : Bool) (r3 : Bool) (r4 : Bool) (r5 : Bool) (w : World) (h : effect_Uses.f k a0 a1 = some (r1, r2, r3, r4, r5)) :
  Calls Tryz.prog 54 #[.int .u8 a0, .int .u8 a1] w fun e w' => e = .returned (.tuple #[.bool r1, .bool r2, .bool r3, .bool r4, .bool r5]) ∧ Drawn0 w w' := by
 have H : (if a0 = 1 then (effect_Uses.j0 k a1 false false false false false a0 (a0 == 1)) else (if a0 = 2 then (effect_Uses.j0 k a1 false false false false false a0 (a0 == 2)) else (if a0 = 3 then (effect_Uses.j0 k a1 false false false false false a0 (a0 == 3)) else (if a0 = 4 then (effect_Uses.j0 k a1 false false false false false a0 (a0 == 4)) else (if a0 = 5 then (effect_Uses.j0 k a1 false false false false false a0 (a0 == 5)) else (if a0 = 14 then (effect_Uses.j0 k a1 false false false false false a0 (a0 == 14)) else (if a0 = 15 then (effect_Uses.j0 k a1 false false false false false a0 (a0 == 15)) else (if a0 = 16 then (effect_Uses.j0 k a1 false false false false false a0 (a0 == 16)) else (effect_Uses.j0 k a1 false false false false false a0 (a0 == 19)))))))))) = some (r1, r2, r3, r4, r5) := h
 clear h
 have HC3 := Aside0.mk H
 clear H
 go_enter Tryz.func54, Tryz.ntmps54
 go_upto_if 10 with (fail)
 go_cut [10] (fun v10 wc => ∃ (kq : Nat) (x10_2 : Bool), v10 = .bool x10_2 ∧ Aside0 (effect_Uses.j0 kq a1 false false false false false a0 x10_2 = some (r1, r2, r3, r4, r5)) ∧ Aside0 (kq ≤ k) ∧ Drawn0 w wc)
 case first =>
  have H := HC3.out
  clear HC3
  by_cases c4 : a0 = 1
  ·rw [if_pos c4] at H
   have c4b0 : (a0 == 1) = true := beq_iff_eq.mpr c4
   have c4b1 : (a0 != 1) = false := bne_eq_false_iff_eq.mpr c4
   clear c4
   (first | rw [c4b0] | (simp only [i64_w, i32_w]; rw [c4b0]) | skip)
   have H' := Aside0.mk H
   clear H
   go_wp2
   go_meet
   case rel => exact ⟨_, ((a0 == 1)), Zs, H', ⟨by first | omega | exact Nat.le_refl _⟩, Zd⟩
  ·rw [if_neg c4] at H
   have c4b0 : (a0 == 1) = false := beq_eq_false_iff_ne.mpr c4
   have c4b1 : (a0 != 1) = true := bne_iff_ne.mpr c4
   (first | rw [c4b0] | (simp only [i64_w, i32_w]; rw [c4b0]) | skip)
   by_cases c5 : a0 = 2
   ·rw [if_pos c5] at H
    have c5b0 : (a0 == 2) = true := beq_iff_eq.mpr c5
    have c5b1 : (a0 != 2) = false := bne_eq_false_iff_eq.mpr c5
    clear c5
    have H' := Aside0.mk H
    clear H
    go_wp2
    go_meet
    case rel => exact ⟨_, ((a0 == 2)), Zs, H', ⟨by first | omega | exact Nat.le_refl _⟩, Zd⟩
   ·rw [if_neg c5] at H
    have c5b0 : (a0 == 2) = false := beq_eq_false_iff_ne.mpr c5
    have c5b1 : (a0 != 2) = true := bne_iff_ne.mpr c5
    by_cases c6 : a0 = 3
    ·rw [if_pos c6] at H
     have c6b0 : (a0 == 3) = true := beq_iff_eq.mpr c6
     have c6b1 : (a0 != 3) = false := bne_eq_false_iff_eq.mpr c6
     clear c6
     have H' := Aside0.mk H
     clear H
     go_wp2
     go_meet
     case rel => exact ⟨_, ((a0 == 3)), Zs, H', ⟨by first | omega | exact Nat.le_refl _⟩, Zd⟩
    ·rw [if_neg c6] at H
     have c6b0 : (a0 == 3) = false := beq_eq_false_iff_ne.mpr c6
     have c6b1 : (a0 != 3) = true := bne_iff_ne.mpr c6
     by_cases c7 : a0 = 4
     ·rw [if_pos c7] at H
      have c7b0 : (a0 == 4) = true := beq_iff_eq.mpr c7
      have c7b1 : (a0 != 4) = false := bne_eq_false_iff_eq.mpr c7
      clear c7
      have H' := Aside0.mk H
      clear H
      go_wp2
      go_meet
      case rel => exact ⟨_, ((a0 == 4)), Zs, H', ⟨by first | omega | exact Nat.le_refl _⟩, Zd⟩
     ·rw [if_neg c7] at H
      have c7b0 : (a0 == 4) = false := beq_eq_false_iff_ne.mpr c7
      have c7b1 : (a0 != 4) = true := bne_iff_ne.mpr c7
      by_cases c8 : a0 = 5
      ·rw [if_pos c8] at H
       have c8b0 : (a0 == 5) = true := beq_iff_eq.mpr c8
       have c8b1 : (a0 != 5) = false := bne_eq_false_iff_eq.mpr c8
       clear c8
       have H' := Aside0.mk H
       clear H
       go_wp2
       go_meet
       case rel => exact ⟨_, ((a0 == 5)), Zs, H', ⟨by first | omega | exact Nat.le_refl _⟩, Zd⟩
      ·rw [if_neg c8] at H
       have c8b0 : (a0 == 5) = false := beq_eq_false_iff_ne.mpr c8
       have c8b1 : (a0 != 5) = true := bne_iff_ne.mpr c8
       by_cases c9 : a0 = 14
       ·rw [if_pos c9] at H
        have c9b0 : (a0 == 14) = true := beq_iff_eq.mpr c9
        have c9b1 : (a0 != 14) = false := bne_eq_false_iff_eq.mpr c9
        clear c9
        have H' := Aside0.mk H
        clear H
        go_wp2
        go_meet
        case rel => exact ⟨_, ((a0 == 14)), Zs, H', ⟨by first | omega | exact Nat.le_refl _⟩, Zd⟩
       ·rw [if_neg c9] at H
        have c9b0 : (a0 == 14) = false := beq_eq_false_iff_ne.mpr c9
        have c9b1 : (a0 != 14) = true := bne_iff_ne.mpr c9
        by_cases c10 : a0 = 15
        ·rw [if_pos c10] at H
         have c10b0 : (a0 == 15) = true := beq_iff_eq.mpr c10
         have c10b1 : (a0 != 15) = false := bne_eq_false_iff_eq.mpr c10
         clear c10
         have H' := Aside0.mk H
         clear H
         go_wp2
         go_meet
         case rel => exact ⟨_, ((a0 == 15)), Zs, H', ⟨by first | omega | exact Nat.le_refl _⟩, Zd⟩
        ·rw [if_neg c10] at H
         have c10b0 : (a0 == 15) = false := beq_eq_false_iff_ne.mpr c10
         have c10b1 : (a0 != 15) = true := bne_iff_ne.mpr c10
         by_cases c11 : a0 = 16
         ·rw [if_pos c11] at H
          have c11b0 : (a0 == 16) = true := beq_iff_eq.mpr c11
          have c11b1 : (a0 != 16) = false := bne_eq_false_iff_eq.mpr c11
          clear c11
          have H' := Aside0.mk H
          clear H
          go_wp2
          go_meet
          case rel => exact ⟨_, ((a0 == 16)), Zs, H', ⟨by first | omega | exact Nat.le_refl _⟩, Zd⟩
         ·rw [if_neg c11] at H
          have c11b0 : (a0 == 16) = false := beq_eq_false_iff_ne.mpr c11
          have c11b1 : (a0 != 16) = true := bne_iff_ne.mpr c11
          have H' := Aside0.mk H
          clear H
          go_wp2
          go_meet
          case rel => exact ⟨_, ((a0 == 19)), Zs, H', ⟨by first | omega | exact Nat.le_refl _⟩, Zd⟩
 case rest =>
  clear HC3
  try clear c1
  try clear p2
  try clear c4
  try clear c4b0
  try clear c4b1
  try clear c5
  try clear c5b0
  try clear c5b1
  try clear c6
  try clear c6b0
  try clear c6b1
  try clear c7
  try clear c7b0
  try clear c7b1
  try clear c8
  try clear c8b0
  try clear c8b1
  try clear c9
  try clear c9b0
  try clear c9b1
  try clear c10
  try clear c10b0
  try clear c10b1
  try clear c11
  try clear c11b0
  try clear c11b1
  obtain ⟨kq, x10_2, rfl, HA, HJ2, ⟨mc2, rfl⟩⟩ := hcut
  cases kq with
  | zero => exact absurd HA.out (by simp [effect_Uses.j0])
  | succ kj2 =>
   have H := HA.out
   clear HA
   simp only [effect_Uses.j0] at H
   by_cases c12 : x10_2 = true
   ·subst c12
    have H1 : (if false = true then (if false = true then (some (true, true, true, false, false)) else (some (true, true, (a1 == 10), false, false))) else (if false = true then (some (true, (a1 == 9), true, false, false)) else (some (true, (a1 == 9), (a1 == 10), false, false)))) = some (r1, r2, r3, r4, r5) := by rw [if_pos rfl] at H; exact H
    clear H
    have H := H1
    clear H1
    have H1 : (if false = true then (some (true, (a1 == 9), true, false, false)) else (some (true, (a1 == 9), (a1 == 10), false, false))) = some (r1, r2, r3, r4, r5) := by rw [if_neg (show ¬ (false = true) by decide)] at H; exact H
    clear H
    have H := H1
    clear H1
    have H1 : (some (true, (a1 == 9), (a1 == 10), false, false)) = some (r1, r2, r3, r4, r5) := by rw [if_neg (show ¬ (false = true) by decide)] at H; exact H
    clear H
    have H := H1
    clear H1
    simp only [Option.some.injEq, Prod.mk.injEq] at H
    obtain ⟨rfl, rfl, rfl, rfl, rfl⟩ := H
    go_wp2
    refine bodyPost_ret (results_list (rs := [.tmp 4, .tmp 5, .tmp 6, .tmp 7, .tmp 8]) rfl (by simp) (.tmp (.tmp (.tmp (.tmp (.tmp .nil)))))) rfl ?_
    exact ⟨Zt, Zd⟩
   ·replace c12 := Bool.eq_false_iff.mpr c12
    subst c12
    have H1 : (if a0 = 9 then (if false = true then (if false = true then (some (true, true, true, true, false)) else (some (true, true, (a1 == 10), true, false))) else (if false = true then (some (true, (a1 == 9), true, true, false)) else (some (true, (a1 == 9), (a1 == 10), true, false)))) else (if a0 = 7 then (if false = true then (if false = true then (some (true, true, true, false, true)) else (some (true, true, (a1 == 10), false, true))) else (if false = true then (some (true, (a1 == 9), true, false, true)) else (some (true, (a1 == 9), (a1 == 10), false, true)))) else (if a0 = 11 then (if false = true then (some (false, true, true, false, false)) else (some (false, true, (a1 == 10), false, false))) else (if a0 = 12 then (if false = true then (some (false, true, true, false, false)) else (some (false, (a1 == 9), true, false, false))) else (if a0 = 13 then (if false = true then (some (false, true, true, false, false)) else (some (false, (a1 == 9), true, false, false))) else (if false = true then (if false = true then (some (false, true, true, false, false)) else (some (false, true, (a1 == 10), false, false))) else (if false = true then (some (false, (a1 == 9), true, false, false)) else (some (false, (a1 == 9), (a1 == 10), false, false))))))))) = some (r1, r2, r3, r4, r5) := by rw [if_neg (show ¬ (false = true) by decide)] at H; exact H
    clear H
    have H := H1
    clear H1
    by_cases c13 : a0 = 9
    ·rw [if_pos c13] at H
     have c13b0 : (a0 == 9) = true := beq_iff_eq.mpr c13
     have c13b1 : (a0 != 9) = false := bne_eq_false_iff_eq.mpr c13
     clear c13
     have H1 : (if false = true then (some (true, (a1 == 9), true, true, false)) else (some (true, (a1 == 9), (a1 == 10), true, false))) = some (r1, r2, r3, r4, r5) := by rw [if_neg (show ¬ (false = true) by decide)] at H; exact H
     clear H
     have H := H1
     clear H1
     have H1 : (some (true, (a1 == 9), (a1 == 10), true, false)) = some (r1, r2, r3, r4, r5) := by rw [if_neg (show ¬ (false = true) by decide)] at H; exact H
     clear H
     have H := H1
     clear H1
     simp only [Option.some.injEq, Prod.mk.injEq] at H
     obtain ⟨rfl, rfl, rfl, rfl, rfl⟩ := H
     go_wp2
     refine bodyPost_ret (results_list (rs := [.tmp 4, .tmp 5, .tmp 6, .tmp 7, .tmp 8]) rfl (by simp) (.tmp (.tmp (.tmp (.tmp (.tmp .nil)))))) rfl ?_
     exact ⟨Zt, Zd⟩
    ·rw [if_neg c13] at H
     have c13b0 : (a0 == 9) = false := beq_eq_false_iff_ne.mpr c13
     have c13b1 : (a0 != 9) = true := bne_iff_ne.mpr c13
     by_cases c14 : a0 = 7
     ·rw [if_pos c14] at H
      have c14b0 : (a0 == 7) = true := beq_iff_eq.mpr c14
      have c14b1 : (a0 != 7) = false := bne_eq_false_iff_eq.mpr c14
      clear c14
      have H1 : (if false = true then (some (true, (a1 == 9), true, false, true)) else (some (true, (a1 == 9), (a1 == 10), false, true))) = some (r1, r2, r3, r4, r5) := by rw [if_neg (show ¬ (false = true) by decide)] at H; exact H
      clear H
      have H := H1
      clear H1
      have H1 : (some (true, (a1 == 9), (a1 == 10), false, true)) = some (r1, r2, r3, r4, r5) := by rw [if_neg (show ¬ (false = true) by decide)] at H; exact H
      clear H
      have H := H1
      clear H1
      simp only [Option.some.injEq, Prod.mk.injEq] at H
      obtain ⟨rfl, rfl, rfl, rfl, rfl⟩ := H
      go_wp2
      refine bodyPost_ret (results_list (rs := [.tmp 4, .tmp 5, .tmp 6, .tmp 7, .tmp 8]) rfl (by simp) (.tmp (.tmp (.tmp (.tmp (.tmp .nil)))))) rfl ?_
      exact ⟨Zt, Zd⟩
     ·rw [if_neg c14] at H
      have c14b0 : (a0 == 7) = false := beq_eq_false_iff_ne.mpr c14
      have c14b1 : (a0 != 7) = true := bne_iff_ne.mpr c14
      by_cases c15 : a0 = 11
      ·rw [if_pos c15] at H
       have c15b0 : (a0 == 11) = true := beq_iff_eq.mpr c15
       have c15b1 : (a0 != 11) = false := bne_eq_false_iff_eq.mpr c15
       clear c15
       have H1 : (some (false, true, (a1 == 10), false, false)) = some (r1, r2, r3, r4, r5) := by rw [if_neg (show ¬ (false = true) by decide)] at H; exact H
       clear H
       have H := H1
       clear H1
       simp only [Option.some.injEq, Prod.mk.injEq] at H
       obtain ⟨rfl, rfl, rfl, rfl, rfl⟩ := H
       go_wp2
       refine bodyPost_ret (results_list (rs := [.tmp 4, .tmp 5, .tmp 6, .tmp 7, .tmp 8]) rfl (by simp) (.tmp (.tmp (.tmp (.tmp (.tmp .nil)))))) rfl ?_
       exact ⟨Zt, Zd⟩
      ·rw [if_neg c15] at H
       have c15b0 : (a0 == 11) = false := beq_eq_false_iff_ne.mpr c15
       have c15b1 : (a0 != 11) = true := bne_iff_ne.mpr c15
       by_cases c16 : a0 = 12
       ·rw [if_pos c16] at H
        have c16b0 : (a0 == 12) = true := beq_iff_eq.mpr c16
        have c16b1 : (a0 != 12) = false := bne_eq_false_iff_eq.mpr c16
        clear c16
        have H1 : (some (false, (a1 == 9), true, false, false)) = some (r1, r2, r3, r4, r5) := by rw [if_neg (show ¬ (false = true) by decide)] at H; exact H
        clear H
        have H := H1
        clear H1
        simp only [Option.some.injEq, Prod.mk.injEq] at H
        obtain ⟨rfl, rfl, rfl, rfl, rfl⟩ := H
        go_wp2
        refine bodyPost_ret (results_list (rs := [.tmp 4, .tmp 5, .tmp 6, .tmp 7, .tmp 8]) rfl (by simp) (.tmp (.tmp (.tmp (.tmp (.tmp .nil)))))) rfl ?_
        exact ⟨Zt, Zd⟩
       ·rw [if_neg c16] at H
        have c16b0 : (a0 == 12) = false := beq_eq_false_iff_ne.mpr c16
        have c16b1 : (a0 != 12) = true := bne_iff_ne.mpr c16
        by_cases c17 : a0 = 13
        ·rw [if_pos c17] at H
         have c17b0 : (a0 == 13) = true := beq_iff_eq.mpr c17
         have c17b1 : (a0 != 13) = false := bne_eq_false_iff_eq.mpr c17
         clear c17
         have H1 : (some (false, (a1 == 9), true, false, false)) = some (r1, r2, r3, r4, r5) := by rw [if_neg (show ¬ (false = true) by decide)] at H; exact H
         clear H
         have H := H1
         clear H1
         simp only [Option.some.injEq, Prod.mk.injEq] at H
         obtain ⟨rfl, rfl, rfl, rfl, rfl⟩ := H
         go_wp2
         refine bodyPost_ret (results_list (rs := [.tmp 4, .tmp 5, .tmp 6, .tmp 7, .tmp 8]) rfl (by simp) (.tmp (.tmp (.tmp (.tmp (.tmp .nil)))))) rfl ?_
         exact ⟨Zt, Zd⟩
        ·rw [if_neg c17] at H
         have c17b0 : (a0 == 13) = false := beq_eq_false_iff_ne.mpr c17
         have c17b1 : (a0 != 13) = true := bne_iff_ne.mpr c17
         have H1 : (if false = true then (some (false, (a1 == 9), true, false, false)) else (some (false, (a1 == 9), (a1 == 10), false, false))) = some (r1, r2, r3, r4, r5) := by rw [if_neg (show ¬ (false = true) by decide)] at H; exact H
         clear H
         have H := H1
         clear H1
         have H1 : (some (false, (a1 == 9), (a1 == 10), false, false)) = some (r1, r2, r3, r4, r5) := by rw [if_neg (show ¬ (false = true) by decide)] at H; exact H
         clear H
         have H := H1
         clear H1
         simp only [Option.some.injEq, Prod.mk.injEq] at H
         obtain ⟨rfl, rfl, rfl, rfl, rfl⟩ := H
         go_wp2
         refine bodyPost_ret (results_list (rs := [.tmp 4, .tmp 5, .tmp 6, .tmp 7, .tmp 8]) rfl (by simp) (.tmp (.tmp (.tmp (.tmp (.tmp .nil)))))) rfl ?_
         exact ⟨Zt, Zd⟩
def effect_bounds.j0 : Nat → Int → Bool → Option (Int × Int × Bool)
 | 0, _, _ => none
 | k + 1, x5, x6 => if x6 = true then (some ((-99), 99, false)) else (if x5 = 5 then (some ((-9), 9, false)) else (if x5 = 14 then (some (0, 99, true)) else (some (1, 99, false))))
def effect_bounds.f (k : Nat) (a0 : Int) : Option (Int × Int × Bool) := if a0 = 9 then (effect_bounds.j0 k a0 (a0 == 9)) else (effect_bounds.j0 k a0 (a0 == 15))
theorem effect_bounds.mono_l : ∀ k, (∀ y0 y1, LeO (effect_bounds.j0 k y0 y1) (effect_bounds.j0 (k + 1) y0 y1))
 | 0 => fun _ _ r h => by simp [effect_bounds.j0] at h
 | k + 1 => by
  have ih0 := effect_bounds.mono_l k
  ·intro y0 y1
   unfold effect_bounds.j0
   repeat' first
   | (with_reducible exact ih0 _ _)
   | (with_reducible exact LeO.refl _)
   | (with_reducible exact LeO.none _)
   | (with_reducible refine LeO.ite ?_ ?_)
   | (with_reducible refine LeO.bind ?_ (fun _ => ?_))
   | exact ih0 _ _
   | exact LeO.none _
   | refine LeO.ite ?_ ?_
   | refine LeO.bind ?_ (fun _ => ?_)
theorem effect_bounds.mono : ∀ a0 k, LeO (effect_bounds.f k a0) (effect_bounds.f (k + 1) a0) := by
 intro a0 k
 have ih0 := effect_bounds.mono_l k
 unfold effect_bounds.f
 repeat' first
   | (with_reducible exact ih0 _ _)
   | (with_reducible exact LeO.refl _)
   | (with_reducible exact LeO.none _)
   | (with_reducible refine LeO.ite ?_ ?_)
   | (with_reducible refine LeO.bind ?_ (fun _ => ?_))
   | exact ih0 _ _
   | exact LeO.none _
   | refine LeO.ite ?_ ?_
   | refine LeO.bind ?_ (fun _ => ?_)
set_option maxHeartbeats 8000000 in
set_option maxRecDepth 100000 in
theorem effect_bounds.calls (k : Nat) (a0 : Int) (r1 : Int) (r2 : Int) (r3 : Bool) (w : World) (h : effect_bounds.f k a0 = some (r1, r2, r3)) :
  Calls Tryz.prog 61 #[.int .u8 a0] w fun e w' => e = .returned (.tuple #[.int .i64 r1, .int .i64 r2, .bool r3]) ∧ Drawn0 w w' := by
 have H : (if a0 = 9 then (effect_bounds.j0 k a0 (a0 == 9)) else (effect_bounds.j0 k a0 (a0 == 15))) = some (r1, r2, r3) := h
 clear h
 have HC2 := Aside0.mk H
 clear H
 go_enter Tryz.func61, Tryz.ntmps61
 go_upto_if 6 with (fail)
 go_cut [6] (fun v6 wc => ∃ (kq : Nat) (x6_1 : Bool), v6 = .bool x6_1 ∧ Aside0 (effect_bounds.j0 kq a0 x6_1 = some (r1, r2, r3)) ∧ Aside0 (kq ≤ k) ∧ Drawn0 w wc)
 case first =>
  have H := HC2.out
  clear HC2
  by_cases c3 : a0 = 9
  ·rw [if_pos c3] at H
   have c3b0 : (a0 == 9) = true := beq_iff_eq.mpr c3
   have c3b1 : (a0 != 9) = false := bne_eq_false_iff_eq.mpr c3
   clear c3
   (first | rw [c3b0] | (simp only [i64_w, i32_w]; rw [c3b0]) | skip)
   have H' := Aside0.mk H
   clear H
   go_wp2
   go_meet
   case rel => exact ⟨_, ((a0 == 9)), Zs, H', ⟨by first | omega | exact Nat.le_refl _⟩, Zd⟩
  ·rw [if_neg c3] at H
   have c3b0 : (a0 == 9) = false := beq_eq_false_iff_ne.mpr c3
   have c3b1 : (a0 != 9) = true := bne_iff_ne.mpr c3
   (first | rw [c3b0] | (simp only [i64_w, i32_w]; rw [c3b0]) | skip)
   have H' := Aside0.mk H
   clear H
   go_wp2
   go_meet
   case rel => exact ⟨_, ((a0 == 15)), Zs, H', ⟨by first | omega | exact Nat.le_refl _⟩, Zd⟩
 case rest =>
  clear HC2
  try clear p2
  try clear c3
  try clear c3b0
  try clear c3b1
  obtain ⟨kq, x6_1, rfl, HA, HJ1, ⟨mc1, rfl⟩⟩ := hcut
  cases kq with
  | zero => exact absurd HA.out (by simp [effect_bounds.j0])
  | succ kj1 =>
   have H := HA.out
   clear HA
   simp only [effect_bounds.j0] at H
   by_cases c4 : x6_1 = true
   ·subst c4
    have H1 : (some ((-99), 99, false)) = some (r1, r2, r3) := by rw [if_pos rfl] at H; exact H
    clear H
    have H := H1
    clear H1
    simp only [Option.some.injEq, Prod.mk.injEq] at H
    obtain ⟨rfl, rfl, rfl⟩ := H
    go_wp2
    go_ret3
    exact ⟨Zt, Zd⟩
   ·replace c4 := Bool.eq_false_iff.mpr c4
    subst c4
    have H1 : (if a0 = 5 then (some ((-9), 9, false)) else (if a0 = 14 then (some (0, 99, true)) else (some (1, 99, false)))) = some (r1, r2, r3) := by rw [if_neg (show ¬ (false = true) by decide)] at H; exact H
    clear H
    have H := H1
    clear H1
    by_cases c5 : a0 = 5
    ·rw [if_pos c5] at H
     have c5b0 : (a0 == 5) = true := beq_iff_eq.mpr c5
     have c5b1 : (a0 != 5) = false := bne_eq_false_iff_eq.mpr c5
     clear c5
     simp only [Option.some.injEq, Prod.mk.injEq] at H
     obtain ⟨rfl, rfl, rfl⟩ := H
     go_wp2
     go_ret3
     exact ⟨Zt, Zd⟩
    ·rw [if_neg c5] at H
     have c5b0 : (a0 == 5) = false := beq_eq_false_iff_ne.mpr c5
     have c5b1 : (a0 != 5) = true := bne_iff_ne.mpr c5
     by_cases c6 : a0 = 14
     ·rw [if_pos c6] at H
      have c6b0 : (a0 == 14) = true := beq_iff_eq.mpr c6
      have c6b1 : (a0 != 14) = false := bne_eq_false_iff_eq.mpr c6
      clear c6
      simp only [Option.some.injEq, Prod.mk.injEq] at H
      obtain ⟨rfl, rfl, rfl⟩ := H
      go_wp2
      go_ret3
      exact ⟨Zt, Zd⟩
     ·rw [if_neg c6] at H
      have c6b0 : (a0 == 14) = false := beq_eq_false_iff_ne.mpr c6
      have c6b1 : (a0 != 14) = true := bne_iff_ne.mpr c6
      simp only [Option.some.injEq, Prod.mk.injEq] at H
      obtain ⟨rfl, rfl, rfl⟩ := H
      go_wp2
      go_ret3
      exact ⟨Zt, Zd⟩
def effect_standing.f (a0 : Int) : Option (Bool) := if a0 ≥ 10 then (some (decide (a0 ≤ 15))) else (some false)
set_option maxHeartbeats 8000000 in
set_option maxRecDepth 100000 in
theorem effect_standing.calls (a0 : Int) (r : Bool) (w : World) (h : effect_standing.f a0 = some r) :
  Calls Tryz.prog 106 #[.int .u8 a0] w fun e w' => e = .returned (.bool r) ∧ Drawn0 w w' := by
 have H : (if a0 ≥ 10 then (some (decide (a0 ≤ 15))) else (some false)) = some r := h
 clear h
 by_cases c2 : a0 ≥ 10
 ·rw [if_pos c2] at H
  have c2b0 : decide (10 ≤ a0) = true := decide_eq_true c2
  clear c2
  obtain rfl := Option.some.inj H
  go_enter Tryz.func106, Tryz.ntmps106
  go_wp2
  go_ret
  exact ⟨Zt, Zd⟩
 ·rw [if_neg c2] at H
  have c2b0 : decide (10 ≤ a0) = false := decide_eq_false c2
  clear c2
  obtain rfl := Option.some.inj H
  go_enter Tryz.func106, Tryz.ntmps106
  go_wp2
  go_ret
  exact ⟨Zt, Zd⟩
def effect_swapping.f (a0 : Int) : Option (Bool) := if a0 ≥ 16 then (some (decide (a0 ≤ 19))) else (some false)
set_option maxHeartbeats 8000000 in
set_option maxRecDepth 100000 in
theorem effect_swapping.calls (a0 : Int) (r : Bool) (w : World) (h : effect_swapping.f a0 = some r) :
  Calls Tryz.prog 107 #[.int .u8 a0] w fun e w' => e = .returned (.bool r) ∧ Drawn0 w w' := by
 have H : (if a0 ≥ 16 then (some (decide (a0 ≤ 19))) else (some false)) = some r := h
 clear h
 by_cases c2 : a0 ≥ 16
 ·rw [if_pos c2] at H
  have c2b0 : decide (16 ≤ a0) = true := decide_eq_true c2
  clear c2
  obtain rfl := Option.some.inj H
  go_enter Tryz.func107, Tryz.ntmps107
  go_wp2
  go_ret
  exact ⟨Zt, Zd⟩
 ·rw [if_neg c2] at H
  have c2b0 : decide (16 ≤ a0) = false := decide_eq_false c2
  clear c2
  obtain rfl := Option.some.inj H
  go_enter Tryz.func107, Tryz.ntmps107
  go_wp2
  go_ret
  exact ⟨Zt, Zd⟩
def effect_event.f (a0 : Int) : Option (Bool) := if a0 ≥ 1 then (some (decide (a0 ≤ 9))) else (some false)
set_option maxHeartbeats 8000000 in
set_option maxRecDepth 100000 in
theorem effect_event.calls (a0 : Int) (r : Bool) (w : World) (h : effect_event.f a0 = some r) :
  Calls Tryz.prog 108 #[.int .u8 a0] w fun e w' => e = .returned (.bool r) ∧ Drawn0 w w' := by
 have H : (if a0 ≥ 1 then (some (decide (a0 ≤ 9))) else (some false)) = some r := h
 clear h
 by_cases c2 : a0 ≥ 1
 ·rw [if_pos c2] at H
  have c2b0 : decide (1 ≤ a0) = true := decide_eq_true c2
  clear c2
  obtain rfl := Option.some.inj H
  go_enter Tryz.func108, Tryz.ntmps108
  go_wp2
  go_ret
  exact ⟨Zt, Zd⟩
 ·rw [if_neg c2] at H
  have c2b0 : decide (1 ≤ a0) = false := decide_eq_false c2
  clear c2
  obtain rfl := Option.some.inj H
  go_enter Tryz.func108, Tryz.ntmps108
  go_wp2
  go_ret
  exact ⟨Zt, Zd⟩
def effect_wanted.f (a0 : Int) (a1 : Int) : Option (Bool) := if a0 = 5 then ((effect_standing.f a1).bind fun t234 => (some t234)) else (if a0 = 6 then ((effect_swapping.f a1).bind fun t235 => (some t235)) else ((effect_event.f a1).bind fun t236 => (some t236)))
set_option maxHeartbeats 8000000 in
set_option maxRecDepth 100000 in
theorem effect_wanted.calls (a0 : Int) (a1 : Int) (r : Bool) (w : World) (h : effect_wanted.f a0 a1 = some r) :
  Calls Tryz.prog 62 #[.int .u8 a0, .int .u8 a1] w fun e w' => e = .returned (.bool r) ∧ Drawn0 w w' := by
 have H : (if a0 = 5 then ((effect_standing.f a1).bind fun t234 => (some t234)) else (if a0 = 6 then ((effect_swapping.f a1).bind fun t235 => (some t235)) else ((effect_event.f a1).bind fun t236 => (some t236)))) = some r := h
 clear h
 by_cases c3 : a0 = 5
 ·rw [if_pos c3] at H
  have c3b0 : (a0 == 5) = true := beq_iff_eq.mpr c3
  have c3b1 : (a0 != 5) = false := bne_eq_false_iff_eq.mpr c3
  clear c3
  replace H := Option.bind_eq_some_iff.mp H
  obtain ⟨t234, A40, H⟩ := H
  replace H : (some t234) = some r := H
  have A4 := Aside0.mk A40
  clear A40
  obtain rfl := Option.some.inj H
  go_enter Tryz.func62, Tryz.ntmps62
  go_wp2_with (first | ((with_reducible refine gate_callee (f := 106) rfl ?_); refine goesL_ (some 9) rfl rfl Tryz.func106 (by kernel_rfl) rfl #[.int .u8 a1] rfl Zl ?_; (with_reducible refine (effect_standing.calls a1 t234 _ A4.out).mono ?_); rintro e w' ⟨rfl, ⟨nd, rfl⟩⟩; refine ⟨_, rfl, ?_⟩))
  go_ret
  exact ⟨Zt, Zd⟩
 ·rw [if_neg c3] at H
  have c3b0 : (a0 == 5) = false := beq_eq_false_iff_ne.mpr c3
  have c3b1 : (a0 != 5) = true := bne_iff_ne.mpr c3
  by_cases c5 : a0 = 6
  ·rw [if_pos c5] at H
   have c5b0 : (a0 == 6) = true := beq_iff_eq.mpr c5
   have c5b1 : (a0 != 6) = false := bne_eq_false_iff_eq.mpr c5
   clear c5
   replace H := Option.bind_eq_some_iff.mp H
   obtain ⟨t235, A60, H⟩ := H
   replace H : (some t235) = some r := H
   have A6 := Aside0.mk A60
   clear A60
   obtain rfl := Option.some.inj H
   go_enter Tryz.func62, Tryz.ntmps62
   go_wp2_with (first | ((with_reducible refine gate_callee (f := 107) rfl ?_); refine goesL_ (some 13) rfl rfl Tryz.func107 (by kernel_rfl) rfl #[.int .u8 a1] rfl Zl ?_; (with_reducible refine (effect_swapping.calls a1 t235 _ A6.out).mono ?_); rintro e w' ⟨rfl, ⟨nd, rfl⟩⟩; refine ⟨_, rfl, ?_⟩))
   go_ret
   exact ⟨Zt, Zd⟩
  ·rw [if_neg c5] at H
   have c5b0 : (a0 == 6) = false := beq_eq_false_iff_ne.mpr c5
   have c5b1 : (a0 != 6) = true := bne_iff_ne.mpr c5
   replace H := Option.bind_eq_some_iff.mp H
   obtain ⟨t236, A70, H⟩ := H
   replace H : (some t236) = some r := H
   have A7 := Aside0.mk A70
   clear A70
   obtain rfl := Option.some.inj H
   go_enter Tryz.func62, Tryz.ntmps62
   go_wp2_with (first | ((with_reducible refine gate_callee (f := 108) rfl ?_); refine goesL_ (some 15) rfl rfl Tryz.func108 (by kernel_rfl) rfl #[.int .u8 a1] rfl Zl ?_; (with_reducible refine (effect_event.calls a1 t236 _ A7.out).mono ?_); rintro e w' ⟨rfl, ⟨nd, rfl⟩⟩; refine ⟨_, rfl, ?_⟩))
   go_ret
   exact ⟨Zt, Zd⟩
def effect_about.j0 : Nat → Bool → Int → Int → Int → Int → Int → Int → Int → ByteArray → Option (Bool)
 | 0, _, _, _, _, _, _, _, _, _ => none
 | k + 1, x3, x238000, x238001, x238002, x238003, x238004, x238005, x238006, x238007 => (effect_standing.f x238001).bind fun t238 => (if t238 = true then (if x3 = true then (some false) else (some (x238002 != 3))) else ((effect_swapping.f x238001).bind fun t239 => (if t239 = true then (some (x238002 != 3)) else (if x238002 = 3 then (some (x238000 == 1)) else (if x3 = true then (if x238001 = 6 then (some false) else (if x238001 = 8 then (some false) else (some (x238001 != 9)))) else (some true))))))
def effect_about.f (k : Nat) (a0_0 : Int) (a0_1 : Int) (a0_2 : Int) (a0_3 : Int) (a0_4 : Int) (a0_5 : Int) (a0_6 : Int) (a0_7 : ByteArray) : Option (Bool) := if a0_2 = 1 then (effect_about.j0 k true a0_0 a0_1 a0_2 a0_3 a0_4 a0_5 a0_6 a0_7) else (effect_about.j0 k (a0_2 == 2) a0_0 a0_1 a0_2 a0_3 a0_4 a0_5 a0_6 a0_7)
theorem effect_about.mono_l : ∀ k, (∀ y0 y1 y2 y3 y4 y5 y6 y7 y8, LeO (effect_about.j0 k y0 y1 y2 y3 y4 y5 y6 y7 y8) (effect_about.j0 (k + 1) y0 y1 y2 y3 y4 y5 y6 y7 y8))
 | 0 => fun _ _ _ _ _ _ _ _ _ r h => by simp [effect_about.j0] at h
 | k + 1 => by
  have ih0 := effect_about.mono_l k
  ·intro y0 y1 y2 y3 y4 y5 y6 y7 y8
   unfold effect_about.j0
   repeat' first
   | (with_reducible exact ih0 _ _ _ _ _ _ _ _ _)
   | (with_reducible exact LeO.refl _)
   | (with_reducible exact LeO.none _)
   | (with_reducible refine LeO.ite ?_ ?_)
   | (with_reducible refine LeO.bind ?_ (fun _ => ?_))
   | exact ih0 _ _ _ _ _ _ _ _ _
   | exact LeO.none _
   | refine LeO.ite ?_ ?_
   | refine LeO.bind ?_ (fun _ => ?_)
theorem effect_about.mono : ∀ a0 a1 a2 a3 a4 a5 a6 a7 k, LeO (effect_about.f k a0 a1 a2 a3 a4 a5 a6 a7) (effect_about.f (k + 1) a0 a1 a2 a3 a4 a5 a6 a7) := by
 intro a0 a1 a2 a3 a4 a5 a6 a7 k
 have ih0 := effect_about.mono_l k
 unfold effect_about.f
 repeat' first
   | (with_reducible exact ih0 _ _ _ _ _ _ _ _ _)
   | (with_reducible exact LeO.refl _)
   | (with_reducible exact LeO.none _)
   | (with_reducible refine LeO.ite ?_ ?_)
   | (with_reducible refine LeO.bind ?_ (fun _ => ?_))
   | exact ih0 _ _ _ _ _ _ _ _ _
   | exact LeO.none _
   | refine LeO.ite ?_ ?_
   | refine LeO.bind ?_ (fun _ => ?_)
set_option maxHeartbeats 8000000 in
set_option maxRecDepth 100000 in
theorem effect_about.calls (k : Nat) (a0_0 : Int) (a0_1 : Int) (a0_2 : Int) (a0_3 : Int) (a0_4 : Int) (a0_5 : Int) (a0_6 : Int) (a0_7 : ByteArray) (r : Bool) (w : World) (h : effect_about.f k a0_0 a0_1 a0_2 a0_3 a0_4 a0_5 a0_6 a0_7 = some r) :
  Calls Tryz.prog 63 #[.agg #[.int .u8 a0_0, .int .u8 a0_1, .int .u8 a0_2, .int .i64 a0_3, .int .u8 a0_4, .int .u8 a0_5, .int .u8 a0_6, .string a0_7]] w fun e w' => e = .returned (.bool r) ∧ Below w.heap.size w w' := by
 have hu48 := Tryz.underlying48
 have HB := Aside0.mk (Below.refl w.heap.size w)
 have H : (if a0_2 = 1 then (effect_about.j0 k true a0_0 a0_1 a0_2 a0_3 a0_4 a0_5 a0_6 a0_7) else (effect_about.j0 k (a0_2 == 2) a0_0 a0_1 a0_2 a0_3 a0_4 a0_5 a0_6 a0_7)) = some r := h
 clear h
 have HC2 := Aside0.mk H
 clear H
 go_enter Tryz.func63, Tryz.ntmps63
 go_upto_region 1 with (first | ((with_reducible refine gate_dst (N := 1) rfl ?_); refine box_event ?hg (N := 1) ?hd (cs := #[.int .u8 a0_0, .int .u8 a0_1, .int .u8 a0_2, .int .i64 a0_3, .int .u8 a0_4, .int .u8 a0_5, .int .u8 a0_6, .string a0_7]) (t := 48) ?hr ?_; (case hd => rfl); (case hg => rfl); (case hr => first | (go_simp; done) | (go_simp; rfl)); intro gb237 hg w3 hbox hb; have BK237 := Aside0.mk (hbox); have GW237 := Aside0.mk ((by rw [hg]; exact (below_size Zb) : w.heap.size ≤ gb237)); have GE237 := Aside0.mk ((by rw [hg]; exact (below_size Zb) : w.heap.size ≤ gb237)); replace HB := Aside0.mk (below_step Zb hb); clear hb hbox hg))
 (try simp only [Act.put, List.setIfInBounds_toArray, List.set_cons_zero, List.set_cons_succ])
 go_cut [3] (fun v3 wc => ∃ (kq : Nat) (x3_1 : Bool), v3 = .bool x3_1 ∧ Aside0 (effect_about.j0 kq x3_1 a0_0 a0_1 a0_2 a0_3 a0_4 a0_5 a0_6 a0_7 = some r) ∧ Aside0 (kq ≤ k) ∧ Aside0 (wc.heap[gb237]? = some (.cells #[.int .u8 a0_0, .int .u8 a0_1, .int .u8 a0_2, .int .i64 a0_3, .int .u8 a0_4, .int .u8 a0_5, .int .u8 a0_6, .string a0_7] 48 (0, 0))) ∧ Aside0 (Below w.heap.size w wc))
 case first =>
  have H := HC2.out
  clear HC2
  by_cases c4 : a0_2 = 1
  ·rw [if_pos c4] at H
   have c4b0 : (a0_2 == 1) = true := beq_iff_eq.mpr c4
   have c4b1 : (a0_2 != 1) = false := bne_eq_false_iff_eq.mpr c4
   clear c4
   (first | rw [c4b0] | (simp only [i64_w, i32_w]; rw [c4b0]) | skip)
   have H' := Aside0.mk H
   clear H
   obtain ⟨hcz5_0, hcz5_1, hcz5_2, hcz5_3, hcz5_4, hcz5_5, hcz5_6, hcz5_7, hfz5_0, hfz5_1, hfz5_2, hfz5_3, hfz5_4, hfz5_5, hfz5_6, hfz5_7⟩ := Z8 BK237.out
   go_wp2
   go_meet
   case rel => exact ⟨_, (true), Zs, H', ⟨by first | omega | exact Nat.le_refl _⟩, ⟨Zk BK237.out⟩, ⟨Zb1 GE237.out⟩⟩
  ·rw [if_neg c4] at H
   have c4b0 : (a0_2 == 1) = false := beq_eq_false_iff_ne.mpr c4
   have c4b1 : (a0_2 != 1) = true := bne_iff_ne.mpr c4
   (first | rw [c4b0] | (simp only [i64_w, i32_w]; rw [c4b0]) | skip)
   have H' := Aside0.mk H
   clear H
   obtain ⟨hcz6_0, hcz6_1, hcz6_2, hcz6_3, hcz6_4, hcz6_5, hcz6_6, hcz6_7, hfz6_0, hfz6_1, hfz6_2, hfz6_3, hfz6_4, hfz6_5, hfz6_6, hfz6_7⟩ := Z8 BK237.out
   go_wp2
   go_meet
   case rel => exact ⟨_, ((a0_2 == 2)), Zs, H', ⟨by first | omega | exact Nat.le_refl _⟩, ⟨Zk BK237.out⟩, ⟨Zb1 GE237.out⟩⟩
 case rest =>
  clear HC2
  try clear p2
  try clear c4
  try clear c4b0
  try clear c4b1
  try clear c6
  try clear hcz5_0
  try clear hcz5_1
  try clear hcz5_2
  try clear hcz5_3
  try clear hcz5_4
  try clear hcz5_5
  try clear hcz5_6
  try clear hcz5_7
  try clear hcz6_0
  try clear hcz6_1
  try clear hcz6_2
  try clear hcz6_3
  try clear hcz6_4
  try clear hcz6_5
  try clear hcz6_6
  try clear hcz6_7
  try clear hfz5_0
  try clear hfz5_1
  try clear hfz5_2
  try clear hfz5_3
  try clear hfz5_4
  try clear hfz5_5
  try clear hfz5_6
  try clear hfz5_7
  try clear hfz6_0
  try clear hfz6_1
  try clear hfz6_2
  try clear hfz6_3
  try clear hfz6_4
  try clear hfz6_5
  try clear hfz6_6
  try clear hfz6_7
  obtain ⟨kq, x3_1, rfl, HA, HJ1, BK237, HB⟩ := hcut
  cases kq with
  | zero => exact absurd HA.out (by simp [effect_about.j0])
  | succ kj1 =>
   have H := HA.out
   clear HA
   simp only [effect_about.j0] at H
   replace H := Option.bind_eq_some_iff.mp H
   obtain ⟨t238, A70, H⟩ := H
   replace H : (if t238 = true then (if x3_1 = true then (some false) else (some (a0_2 != 3))) else ((effect_swapping.f a0_1).bind fun t239 => (if t239 = true then (some (a0_2 != 3)) else (if a0_2 = 3 then (some (a0_0 == 1)) else (if x3_1 = true then (if a0_1 = 6 then (some false) else (if a0_1 = 8 then (some false) else (some (a0_1 != 9)))) else (some true)))))) = some r := H
   have A7 := Aside0.mk A70
   clear A70
   by_cases c8 : t238 = true
   ·subst c8
    have H1 : (if x3_1 = true then (some false) else (some (a0_2 != 3))) = some r := by rw [if_pos rfl] at H; exact H
    clear H
    have H := H1
    clear H1
    by_cases c9 : x3_1 = true
    ·subst c9
     have H1 : (some false) = some r := by rw [if_pos rfl] at H; exact H
     clear H
     have H := H1
     clear H1
     obtain rfl := Option.some.inj H
     obtain ⟨hcz10_0, hcz10_1, hcz10_2, hcz10_3, hcz10_4, hcz10_5, hcz10_6, hcz10_7, hfz10_0, hfz10_1, hfz10_2, hfz10_3, hfz10_4, hfz10_5, hfz10_6, hfz10_7⟩ := Z8 BK237.out
     go_wp2_with (first | ((with_reducible refine gate_callee (f := 106) rfl ?_); refine goesL_ (some 15) rfl rfl Tryz.func106 (by kernel_rfl) rfl #[.int .u8 a0_1] rfl Zl ?_; (with_reducible refine (effect_standing.calls a0_1 true _ A7.out).mono ?_); rintro e w' ⟨rfl, ⟨nd, rfl⟩⟩; refine ⟨_, rfl, ?_⟩))
     go_ret
     exact ⟨Ze, Zb1 GE237.out⟩
    ·replace c9 := Bool.eq_false_iff.mpr c9
     subst c9
     have H1 : (some (a0_2 != 3)) = some r := by rw [if_neg (show ¬ (false = true) by decide)] at H; exact H
     clear H
     have H := H1
     clear H1
     obtain rfl := Option.some.inj H
     obtain ⟨hcz11_0, hcz11_1, hcz11_2, hcz11_3, hcz11_4, hcz11_5, hcz11_6, hcz11_7, hfz11_0, hfz11_1, hfz11_2, hfz11_3, hfz11_4, hfz11_5, hfz11_6, hfz11_7⟩ := Z8 BK237.out
     go_wp2_with (first | ((with_reducible refine gate_callee (f := 106) rfl ?_); refine goesL_ (some 15) rfl rfl Tryz.func106 (by kernel_rfl) rfl #[.int .u8 a0_1] rfl Zl ?_; (with_reducible refine (effect_standing.calls a0_1 true _ A7.out).mono ?_); rintro e w' ⟨rfl, ⟨nd, rfl⟩⟩; refine ⟨_, rfl, ?_⟩))
     go_ret
     exact ⟨Ze, Zb1 GE237.out⟩
   ·replace c8 := Bool.eq_false_iff.mpr c8
    subst c8
    have H1 : ((effect_swapping.f a0_1).bind fun t239 => (if t239 = true then (some (a0_2 != 3)) else (if a0_2 = 3 then (some (a0_0 == 1)) else (if x3_1 = true then (if a0_1 = 6 then (some false) else (if a0_1 = 8 then (some false) else (some (a0_1 != 9)))) else (some true))))) = some r := by rw [if_neg (show ¬ (false = true) by decide)] at H; exact H
    clear H
    have H := H1
    clear H1
    replace H := Option.bind_eq_some_iff.mp H
    obtain ⟨t239, A120, H⟩ := H
    replace H : (if t239 = true then (some (a0_2 != 3)) else (if a0_2 = 3 then (some (a0_0 == 1)) else (if x3_1 = true then (if a0_1 = 6 then (some false) else (if a0_1 = 8 then (some false) else (some (a0_1 != 9)))) else (some true)))) = some r := H
    have A12 := Aside0.mk A120
    clear A120
    by_cases c13 : t239 = true
    ·subst c13
     have H1 : (some (a0_2 != 3)) = some r := by rw [if_pos rfl] at H; exact H
     clear H
     have H := H1
     clear H1
     obtain rfl := Option.some.inj H
     obtain ⟨hcz14_0, hcz14_1, hcz14_2, hcz14_3, hcz14_4, hcz14_5, hcz14_6, hcz14_7, hfz14_0, hfz14_1, hfz14_2, hfz14_3, hfz14_4, hfz14_5, hfz14_6, hfz14_7⟩ := Z8 BK237.out
     go_wp2_with (first | ((with_reducible refine gate_callee (f := 106) rfl ?_); refine goesL_ (some 15) rfl rfl Tryz.func106 (by kernel_rfl) rfl #[.int .u8 a0_1] rfl Zl ?_; (with_reducible refine (effect_standing.calls a0_1 false _ A7.out).mono ?_); rintro e w' ⟨rfl, ⟨nd, rfl⟩⟩; refine ⟨_, rfl, ?_⟩) | ((with_reducible refine gate_callee (f := 107) rfl ?_); refine goesL_ (some 26) rfl rfl Tryz.func107 (by kernel_rfl) rfl #[.int .u8 a0_1] rfl Zl ?_; (with_reducible refine (effect_swapping.calls a0_1 true _ A12.out).mono ?_); rintro e w' ⟨rfl, ⟨nd, rfl⟩⟩; refine ⟨_, rfl, ?_⟩))
     go_ret
     exact ⟨Ze, Zb1 GE237.out⟩
    ·replace c13 := Bool.eq_false_iff.mpr c13
     subst c13
     have H1 : (if a0_2 = 3 then (some (a0_0 == 1)) else (if x3_1 = true then (if a0_1 = 6 then (some false) else (if a0_1 = 8 then (some false) else (some (a0_1 != 9)))) else (some true))) = some r := by rw [if_neg (show ¬ (false = true) by decide)] at H; exact H
     clear H
     have H := H1
     clear H1
     by_cases c15 : a0_2 = 3
     ·rw [if_pos c15] at H
      have c15b0 : (a0_2 == 3) = true := beq_iff_eq.mpr c15
      have c15b1 : (a0_2 != 3) = false := bne_eq_false_iff_eq.mpr c15
      clear c15
      obtain rfl := Option.some.inj H
      obtain ⟨hcz16_0, hcz16_1, hcz16_2, hcz16_3, hcz16_4, hcz16_5, hcz16_6, hcz16_7, hfz16_0, hfz16_1, hfz16_2, hfz16_3, hfz16_4, hfz16_5, hfz16_6, hfz16_7⟩ := Z8 BK237.out
      go_wp2_with (first | ((with_reducible refine gate_callee (f := 106) rfl ?_); refine goesL_ (some 15) rfl rfl Tryz.func106 (by kernel_rfl) rfl #[.int .u8 a0_1] rfl Zl ?_; (with_reducible refine (effect_standing.calls a0_1 false _ A7.out).mono ?_); rintro e w' ⟨rfl, ⟨nd, rfl⟩⟩; refine ⟨_, rfl, ?_⟩) | ((with_reducible refine gate_callee (f := 107) rfl ?_); refine goesL_ (some 26) rfl rfl Tryz.func107 (by kernel_rfl) rfl #[.int .u8 a0_1] rfl Zl ?_; (with_reducible refine (effect_swapping.calls a0_1 false _ A12.out).mono ?_); rintro e w' ⟨rfl, ⟨nd, rfl⟩⟩; refine ⟨_, rfl, ?_⟩))
      go_ret
      exact ⟨Ze, Zb1 GE237.out⟩
     ·rw [if_neg c15] at H
      have c15b0 : (a0_2 == 3) = false := beq_eq_false_iff_ne.mpr c15
      have c15b1 : (a0_2 != 3) = true := bne_iff_ne.mpr c15
      by_cases c17 : x3_1 = true
      ·subst c17
       have H1 : (if a0_1 = 6 then (some false) else (if a0_1 = 8 then (some false) else (some (a0_1 != 9)))) = some r := by rw [if_pos rfl] at H; exact H
       clear H
       have H := H1
       clear H1
       by_cases c18 : a0_1 = 6
       ·rw [if_pos c18] at H
        have c18b0 : (a0_1 == 6) = true := beq_iff_eq.mpr c18
        have c18b1 : (a0_1 != 6) = false := bne_eq_false_iff_eq.mpr c18
        clear c18
        obtain rfl := Option.some.inj H
        obtain ⟨hcz19_0, hcz19_1, hcz19_2, hcz19_3, hcz19_4, hcz19_5, hcz19_6, hcz19_7, hfz19_0, hfz19_1, hfz19_2, hfz19_3, hfz19_4, hfz19_5, hfz19_6, hfz19_7⟩ := Z8 BK237.out
        go_wp2_with (first | ((with_reducible refine gate_callee (f := 106) rfl ?_); refine goesL_ (some 15) rfl rfl Tryz.func106 (by kernel_rfl) rfl #[.int .u8 a0_1] rfl Zl ?_; (with_reducible refine (effect_standing.calls a0_1 false _ A7.out).mono ?_); rintro e w' ⟨rfl, ⟨nd, rfl⟩⟩; refine ⟨_, rfl, ?_⟩) | ((with_reducible refine gate_callee (f := 107) rfl ?_); refine goesL_ (some 26) rfl rfl Tryz.func107 (by kernel_rfl) rfl #[.int .u8 a0_1] rfl Zl ?_; (with_reducible refine (effect_swapping.calls a0_1 false _ A12.out).mono ?_); rintro e w' ⟨rfl, ⟨nd, rfl⟩⟩; refine ⟨_, rfl, ?_⟩))
        go_ret
        exact ⟨Ze, Zb1 GE237.out⟩
       ·rw [if_neg c18] at H
        have c18b0 : (a0_1 == 6) = false := beq_eq_false_iff_ne.mpr c18
        have c18b1 : (a0_1 != 6) = true := bne_iff_ne.mpr c18
        by_cases c20 : a0_1 = 8
        ·rw [if_pos c20] at H
         have c20b0 : (a0_1 == 8) = true := beq_iff_eq.mpr c20
         have c20b1 : (a0_1 != 8) = false := bne_eq_false_iff_eq.mpr c20
         clear c20
         obtain rfl := Option.some.inj H
         obtain ⟨hcz21_0, hcz21_1, hcz21_2, hcz21_3, hcz21_4, hcz21_5, hcz21_6, hcz21_7, hfz21_0, hfz21_1, hfz21_2, hfz21_3, hfz21_4, hfz21_5, hfz21_6, hfz21_7⟩ := Z8 BK237.out
         go_wp2_with (first | ((with_reducible refine gate_callee (f := 106) rfl ?_); refine goesL_ (some 15) rfl rfl Tryz.func106 (by kernel_rfl) rfl #[.int .u8 a0_1] rfl Zl ?_; (with_reducible refine (effect_standing.calls a0_1 false _ A7.out).mono ?_); rintro e w' ⟨rfl, ⟨nd, rfl⟩⟩; refine ⟨_, rfl, ?_⟩) | ((with_reducible refine gate_callee (f := 107) rfl ?_); refine goesL_ (some 26) rfl rfl Tryz.func107 (by kernel_rfl) rfl #[.int .u8 a0_1] rfl Zl ?_; (with_reducible refine (effect_swapping.calls a0_1 false _ A12.out).mono ?_); rintro e w' ⟨rfl, ⟨nd, rfl⟩⟩; refine ⟨_, rfl, ?_⟩))
         go_ret
         exact ⟨Ze, Zb1 GE237.out⟩
        ·rw [if_neg c20] at H
         have c20b0 : (a0_1 == 8) = false := beq_eq_false_iff_ne.mpr c20
         have c20b1 : (a0_1 != 8) = true := bne_iff_ne.mpr c20
         obtain rfl := Option.some.inj H
         obtain ⟨hcz22_0, hcz22_1, hcz22_2, hcz22_3, hcz22_4, hcz22_5, hcz22_6, hcz22_7, hfz22_0, hfz22_1, hfz22_2, hfz22_3, hfz22_4, hfz22_5, hfz22_6, hfz22_7⟩ := Z8 BK237.out
         go_wp2_with (first | ((with_reducible refine gate_callee (f := 106) rfl ?_); refine goesL_ (some 15) rfl rfl Tryz.func106 (by kernel_rfl) rfl #[.int .u8 a0_1] rfl Zl ?_; (with_reducible refine (effect_standing.calls a0_1 false _ A7.out).mono ?_); rintro e w' ⟨rfl, ⟨nd, rfl⟩⟩; refine ⟨_, rfl, ?_⟩) | ((with_reducible refine gate_callee (f := 107) rfl ?_); refine goesL_ (some 26) rfl rfl Tryz.func107 (by kernel_rfl) rfl #[.int .u8 a0_1] rfl Zl ?_; (with_reducible refine (effect_swapping.calls a0_1 false _ A12.out).mono ?_); rintro e w' ⟨rfl, ⟨nd, rfl⟩⟩; refine ⟨_, rfl, ?_⟩))
         go_ret
         exact ⟨Ze, Zb1 GE237.out⟩
      ·replace c17 := Bool.eq_false_iff.mpr c17
       subst c17
       have H1 : (some true) = some r := by rw [if_neg (show ¬ (false = true) by decide)] at H; exact H
       clear H
       have H := H1
       clear H1
       obtain rfl := Option.some.inj H
       obtain ⟨hcz23_0, hcz23_1, hcz23_2, hcz23_3, hcz23_4, hcz23_5, hcz23_6, hcz23_7, hfz23_0, hfz23_1, hfz23_2, hfz23_3, hfz23_4, hfz23_5, hfz23_6, hfz23_7⟩ := Z8 BK237.out
       go_wp2_with (first | ((with_reducible refine gate_callee (f := 106) rfl ?_); refine goesL_ (some 15) rfl rfl Tryz.func106 (by kernel_rfl) rfl #[.int .u8 a0_1] rfl Zl ?_; (with_reducible refine (effect_standing.calls a0_1 false _ A7.out).mono ?_); rintro e w' ⟨rfl, ⟨nd, rfl⟩⟩; refine ⟨_, rfl, ?_⟩) | ((with_reducible refine gate_callee (f := 107) rfl ?_); refine goesL_ (some 26) rfl rfl Tryz.func107 (by kernel_rfl) rfl #[.int .u8 a0_1] rfl Zl ?_; (with_reducible refine (effect_swapping.calls a0_1 false _ A12.out).mono ?_); rintro e w' ⟨rfl, ⟨nd, rfl⟩⟩; refine ⟨_, rfl, ?_⟩))
       go_ret
       exact ⟨Ze, Zb1 GE237.out⟩
def effect_within_int.f (a0 : Int) (a1 : Bool) (a2 : Int) (a3 : Int) : Option (Bool) := if a1 = true then (if a0 ≥ a2 then (some (decide (a0 ≤ a3))) else (some false)) else (some (a0 == 0))
set_option maxHeartbeats 8000000 in
set_option maxRecDepth 100000 in
theorem effect_within_int.calls (a0 : Int) (a1 : Bool) (a2 : Int) (a3 : Int) (r : Bool) (w : World) (h : effect_within_int.f a0 a1 a2 a3 = some r) :
  Calls Tryz.prog 64 #[.int .i64 a0, .bool a1, .int .i64 a2, .int .i64 a3] w fun e w' => e = .returned (.bool r) ∧ Drawn0 w w' := by
 have H : (if a1 = true then (if a0 ≥ a2 then (some (decide (a0 ≤ a3))) else (some false)) else (some (a0 == 0))) = some r := h
 clear h
 by_cases c5 : a1 = true
 ·subst c5
  have H1 : (if a0 ≥ a2 then (some (decide (a0 ≤ a3))) else (some false)) = some r := by rw [if_pos rfl] at H; exact H
  clear H
  have H := H1
  clear H1
  by_cases c6 : a0 ≥ a2
  ·rw [if_pos c6] at H
   have c6b0 : decide (a2 ≤ a0) = true := decide_eq_true c6
   clear c6
   obtain rfl := Option.some.inj H
   go_enter Tryz.func64, Tryz.ntmps64
   go_wp2
   go_ret
   exact ⟨Zt, Zd⟩
  ·rw [if_neg c6] at H
   have c6b0 : decide (a2 ≤ a0) = false := decide_eq_false c6
   clear c6
   obtain rfl := Option.some.inj H
   go_enter Tryz.func64, Tryz.ntmps64
   go_wp2
   go_ret
   exact ⟨Zt, Zd⟩
 ·replace c5 := Bool.eq_false_iff.mpr c5
  subst c5
  have H1 : (some (a0 == 0)) = some r := by rw [if_neg (show ¬ (false = true) by decide)] at H; exact H
  clear H
  have H := H1
  clear H1
  obtain rfl := Option.some.inj H
  go_enter Tryz.func64, Tryz.ntmps64
  go_wp2
  go_ret
  exact ⟨Zt, Zd⟩
def api_Suit.f (a0 : Int) (a1 : Bool) (a2 : Int) (a3 : Int) : Option (Bool) := if a1 = true then (if a0 ≥ a2 then (some (decide (a0 ≤ a3))) else (some false)) else (some (a0 == 0))
set_option maxHeartbeats 8000000 in
set_option maxRecDepth 100000 in
theorem api_Suit.calls (a0 : Int) (a1 : Bool) (a2 : Int) (a3 : Int) (r : Bool) (w : World) (h : api_Suit.f a0 a1 a2 a3 = some r) :
  Calls Tryz.prog 65 #[.int .u8 a0, .bool a1, .int .u8 a2, .int .u8 a3] w fun e w' => e = .returned (.bool r) ∧ Drawn0 w w' := by
 have H : (if a1 = true then (if a0 ≥ a2 then (some (decide (a0 ≤ a3))) else (some false)) else (some (a0 == 0))) = some r := h
 clear h
 by_cases c5 : a1 = true
 ·subst c5
  have H1 : (if a0 ≥ a2 then (some (decide (a0 ≤ a3))) else (some false)) = some r := by rw [if_pos rfl] at H; exact H
  clear H
  have H := H1
  clear H1
  by_cases c6 : a0 ≥ a2
  ·rw [if_pos c6] at H
   have c6b0 : decide (a2 ≤ a0) = true := decide_eq_true c6
   clear c6
   obtain rfl := Option.some.inj H
   go_enter Tryz.func65, Tryz.ntmps65
   go_wp2
   go_ret
   exact ⟨Zt, Zd⟩
  ·rw [if_neg c6] at H
   have c6b0 : decide (a2 ≤ a0) = false := decide_eq_false c6
   clear c6
   obtain rfl := Option.some.inj H
   go_enter Tryz.func65, Tryz.ntmps65
   go_wp2
   go_ret
   exact ⟨Zt, Zd⟩
 ·replace c5 := Bool.eq_false_iff.mpr c5
  subst c5
  have H1 : (some (a0 == 0)) = some r := by rw [if_neg (show ¬ (false = true) by decide)] at H; exact H
  clear H
  have H := H1
  clear H1
  obtain rfl := Option.some.inj H
  go_enter Tryz.func65, Tryz.ntmps65
  go_wp2
  go_ret
  exact ⟨Zt, Zd⟩
def api_Trait.f (a0 : Int) (a1 : Bool) (a2 : Int) (a3 : Int) : Option (Bool) := if a1 = true then (if a0 ≥ a2 then (some (decide (a0 ≤ a3))) else (some false)) else (some (a0 == 0))
set_option maxHeartbeats 8000000 in
set_option maxRecDepth 100000 in
theorem api_Trait.calls (a0 : Int) (a1 : Bool) (a2 : Int) (a3 : Int) (r : Bool) (w : World) (h : api_Trait.f a0 a1 a2 a3 = some r) :
  Calls Tryz.prog 66 #[.int .u8 a0, .bool a1, .int .u8 a2, .int .u8 a3] w fun e w' => e = .returned (.bool r) ∧ Drawn0 w w' := by
 have H : (if a1 = true then (if a0 ≥ a2 then (some (decide (a0 ≤ a3))) else (some false)) else (some (a0 == 0))) = some r := h
 clear h
 by_cases c5 : a1 = true
 ·subst c5
  have H1 : (if a0 ≥ a2 then (some (decide (a0 ≤ a3))) else (some false)) = some r := by rw [if_pos rfl] at H; exact H
  clear H
  have H := H1
  clear H1
  by_cases c6 : a0 ≥ a2
  ·rw [if_pos c6] at H
   have c6b0 : decide (a2 ≤ a0) = true := decide_eq_true c6
   clear c6
   obtain rfl := Option.some.inj H
   go_enter Tryz.func66, Tryz.ntmps66
   go_wp2
   go_ret
   exact ⟨Zt, Zd⟩
  ·rw [if_neg c6] at H
   have c6b0 : decide (a2 ≤ a0) = false := decide_eq_false c6
   clear c6
   obtain rfl := Option.some.inj H
   go_enter Tryz.func66, Tryz.ntmps66
   go_wp2
   go_ret
   exact ⟨Zt, Zd⟩
 ·replace c5 := Bool.eq_false_iff.mpr c5
  subst c5
  have H1 : (some (a0 == 0)) = some r := by rw [if_neg (show ¬ (false = true) by decide)] at H; exact H
  clear H
  have H := H1
  clear H1
  obtain rfl := Option.some.inj H
  go_enter Tryz.func66, Tryz.ntmps66
  go_wp2
  go_ret
  exact ⟨Zt, Zd⟩
def api_Mark.f (a0 : Int) (a1 : Bool) (a2 : Int) (a3 : Int) : Option (Bool) := if a1 = true then (if a0 ≥ a2 then (some (decide (a0 ≤ a3))) else (some false)) else (some (a0 == 0))
set_option maxHeartbeats 8000000 in
set_option maxRecDepth 100000 in
theorem api_Mark.calls (a0 : Int) (a1 : Bool) (a2 : Int) (a3 : Int) (r : Bool) (w : World) (h : api_Mark.f a0 a1 a2 a3 = some r) :
  Calls Tryz.prog 67 #[.int .u8 a0, .bool a1, .int .u8 a2, .int .u8 a3] w fun e w' => e = .returned (.bool r) ∧ Drawn0 w w' := by
 have H : (if a1 = true then (if a0 ≥ a2 then (some (decide (a0 ≤ a3))) else (some false)) else (some (a0 == 0))) = some r := h
 clear h
 by_cases c5 : a1 = true
 ·subst c5
  have H1 : (if a0 ≥ a2 then (some (decide (a0 ≤ a3))) else (some false)) = some r := by rw [if_pos rfl] at H; exact H
  clear H
  have H := H1
  clear H1
  by_cases c6 : a0 ≥ a2
  ·rw [if_pos c6] at H
   have c6b0 : decide (a2 ≤ a0) = true := decide_eq_true c6
   clear c6
   obtain rfl := Option.some.inj H
   go_enter Tryz.func67, Tryz.ntmps67
   go_wp2
   go_ret
   exact ⟨Zt, Zd⟩
  ·rw [if_neg c6] at H
   have c6b0 : decide (a2 ≤ a0) = false := decide_eq_false c6
   clear c6
   obtain rfl := Option.some.inj H
   go_enter Tryz.func67, Tryz.ntmps67
   go_wp2
   go_ret
   exact ⟨Zt, Zd⟩
 ·replace c5 := Bool.eq_false_iff.mpr c5
  subst c5
  have H1 : (some (a0 == 0)) = some r := by rw [if_neg (show ¬ (false = true) by decide)] at H; exact H
  clear H
  have H := H1
  clear H1
  obtain rfl := Option.some.inj H
  go_enter Tryz.func67, Tryz.ntmps67
  go_wp2
  go_ret
  exact ⟨Zt, Zd⟩
mutual
def gambitref05_counts.j0 : Nat → Int → Bool → Option (Int × Int)
 | 0, _, _ => none
 | k + 1, x4, x5 => if x5 = true then (some (1, 99)) else (if x4 = 9 then (gambitref05_counts.j1 k x4 (x4 == 9)) else (gambitref05_counts.j1 k x4 (x4 == 15)))
def gambitref05_counts.j1 : Nat → Int → Bool → Option (Int × Int)
 | 0, _, _ => none
 | k + 1, x4, x13 => if x13 = true then (some ((-99), 99)) else (if x4 = 5 then (some ((-9), 9)) else (if x4 = 14 then (some (0, 99)) else (some (0, 0))))
end
def gambitref05_counts.f (k : Nat) (a0 : Int) : Option (Int × Int) := if a0 = 1 then (gambitref05_counts.j0 k a0 (a0 == 1)) else (if a0 = 2 then (gambitref05_counts.j0 k a0 (a0 == 2)) else (if a0 = 3 then (gambitref05_counts.j0 k a0 (a0 == 3)) else (if a0 = 4 then (gambitref05_counts.j0 k a0 (a0 == 4)) else (if a0 = 7 then (gambitref05_counts.j0 k a0 (a0 == 7)) else (if a0 = 16 then (gambitref05_counts.j0 k a0 (a0 == 16)) else (gambitref05_counts.j0 k a0 (a0 == 19)))))))
theorem gambitref05_counts.mono_l : ∀ k, (∀ y0 y1, LeO (gambitref05_counts.j0 k y0 y1) (gambitref05_counts.j0 (k + 1) y0 y1)) ∧ (∀ y0 y1, LeO (gambitref05_counts.j1 k y0 y1) (gambitref05_counts.j1 (k + 1) y0 y1))
 | 0 => ⟨fun _ _ r h => by simp [gambitref05_counts.j0] at h, fun _ _ r h => by simp [gambitref05_counts.j1] at h⟩
 | k + 1 => by
  obtain ⟨ih0, ih1⟩ := gambitref05_counts.mono_l k
  refine ⟨?_, ?_⟩
  ·intro y0 y1
   unfold gambitref05_counts.j0
   repeat' first
   | (with_reducible exact ih0 _ _)
   | (with_reducible exact ih1 _ _)
   | (with_reducible exact LeO.refl _)
   | (with_reducible exact LeO.none _)
   | (with_reducible refine LeO.ite ?_ ?_)
   | (with_reducible refine LeO.bind ?_ (fun _ => ?_))
   | exact ih0 _ _
   | exact ih1 _ _
   | exact LeO.none _
   | refine LeO.ite ?_ ?_
   | refine LeO.bind ?_ (fun _ => ?_)
  ·intro y0 y1
   unfold gambitref05_counts.j1
   repeat' first
   | (with_reducible exact ih0 _ _)
   | (with_reducible exact ih1 _ _)
   | (with_reducible exact LeO.refl _)
   | (with_reducible exact LeO.none _)
   | (with_reducible refine LeO.ite ?_ ?_)
   | (with_reducible refine LeO.bind ?_ (fun _ => ?_))
   | exact ih0 _ _
   | exact ih1 _ _
   | exact LeO.none _
   | refine LeO.ite ?_ ?_
   | refine LeO.bind ?_ (fun _ => ?_)
theorem gambitref05_counts.mono : ∀ a0 k, LeO (gambitref05_counts.f k a0) (gambitref05_counts.f (k + 1) a0) := by
 intro a0 k
 obtain ⟨ih0, ih1⟩ := gambitref05_counts.mono_l k
 unfold gambitref05_counts.f
 repeat' first
   | (with_reducible exact ih0 _ _)
   | (with_reducible exact ih1 _ _)
   | (with_reducible exact LeO.refl _)
   | (with_reducible exact LeO.none _)
   | (with_reducible refine LeO.ite ?_ ?_)
   | (with_reducible refine LeO.bind ?_ (fun _ => ?_))
   | exact ih0 _ _
   | exact ih1 _ _
   | exact LeO.none _
   | refine LeO.ite ?_ ?_
   | refine LeO.bind ?_ (fun _ => ?_)
def gambitref05_Uses.f (k : Nat) (a0 : Int) (a1 : Int) : Option (Bool × Bool × Bool × Bool × Bool) := (gambitref05_counts.f k a0).bind fun bt116 => (if a0 = 11 then (if a0 = 12 then (some (decide (bt116.2 > 0), true, true, (a0 == 9), (a0 == 7))) else (if a0 = 13 then (some (decide (bt116.2 > 0), true, true, (a0 == 9), (a0 == 7))) else (some (decide (bt116.2 > 0), true, (a1 == 10), (a0 == 9), (a0 == 7))))) else (if a0 = 12 then (some (decide (bt116.2 > 0), (a1 == 9), true, (a0 == 9), (a0 == 7))) else (if a0 = 13 then (some (decide (bt116.2 > 0), (a1 == 9), true, (a0 == 9), (a0 == 7))) else (some (decide (bt116.2 > 0), (a1 == 9), (a1 == 10), (a0 == 9), (a0 == 7))))))
theorem gambitref05_Uses.mono : ∀ a0 a1 k, LeO (gambitref05_Uses.f k a0 a1) (gambitref05_Uses.f (k + 1) a0 a1) := by
 intro a0 a1 k
 unfold gambitref05_Uses.f
 repeat' first
   | (with_reducible exact gambitref05_counts.mono _ _)
   | (with_reducible exact LeO.refl _)
   | (with_reducible exact LeO.none _)
   | (with_reducible refine LeO.ite ?_ ?_)
   | (with_reducible refine LeO.bind ?_ (fun _ => ?_))
   | exact gambitref05_counts.mono _ _
   | exact LeO.none _
   | refine LeO.ite ?_ ?_
   | refine LeO.bind ?_ (fun _ => ?_)
mutual
def gambitref05_kind.j0 : Nat → Int → Bool → Option (Int)
 | 0, _, _ => none
 | k + 1, x0, x3 => if x3 = true then (some 1) else (if x0 ≥ 10 then (gambitref05_kind.j1 k x0 (decide (x0 ≤ 15))) else (gambitref05_kind.j1 k x0 false))
def gambitref05_kind.j1 : Nat → Int → Bool → Option (Int)
 | 0, _, _ => none
 | k + 1, x0, x10 => if x10 = true then (some 2) else (if x0 ≥ 16 then (if x0 ≤ 19 then (some 3) else (some 0)) else (some 0))
end
def gambitref05_kind.f (k : Nat) (a0 : Int) : Option (Int) := if a0 ≥ 1 then (gambitref05_kind.j0 k a0 (decide (a0 ≤ 9))) else (gambitref05_kind.j0 k a0 false)
theorem gambitref05_kind.mono_l : ∀ k, (∀ y0 y1, LeO (gambitref05_kind.j0 k y0 y1) (gambitref05_kind.j0 (k + 1) y0 y1)) ∧ (∀ y0 y1, LeO (gambitref05_kind.j1 k y0 y1) (gambitref05_kind.j1 (k + 1) y0 y1))
 | 0 => ⟨fun _ _ r h => by simp [gambitref05_kind.j0] at h, fun _ _ r h => by simp [gambitref05_kind.j1] at h⟩
 | k + 1 => by
  obtain ⟨ih0, ih1⟩ := gambitref05_kind.mono_l k
  refine ⟨?_, ?_⟩
  ·intro y0 y1
   unfold gambitref05_kind.j0
   repeat' first
   | (with_reducible exact ih0 _ _)
   | (with_reducible exact ih1 _ _)
   | (with_reducible exact LeO.refl _)
   | (with_reducible exact LeO.none _)
   | (with_reducible refine LeO.ite ?_ ?_)
   | (with_reducible refine LeO.bind ?_ (fun _ => ?_))
   | exact ih0 _ _
   | exact ih1 _ _
   | exact LeO.none _
   | refine LeO.ite ?_ ?_
   | refine LeO.bind ?_ (fun _ => ?_)
  ·intro y0 y1
   unfold gambitref05_kind.j1
   repeat' first
   | (with_reducible exact ih0 _ _)
   | (with_reducible exact ih1 _ _)
   | (with_reducible exact LeO.refl _)
   | (with_reducible exact LeO.none _)
   | (with_reducible refine LeO.ite ?_ ?_)
   | (with_reducible refine LeO.bind ?_ (fun _ => ?_))
   | exact ih0 _ _
   | exact ih1 _ _
   | exact LeO.none _
   | refine LeO.ite ?_ ?_
   | refine LeO.bind ?_ (fun _ => ?_)
theorem gambitref05_kind.mono : ∀ a0 k, LeO (gambitref05_kind.f k a0) (gambitref05_kind.f (k + 1) a0) := by
 intro a0 k
 obtain ⟨ih0, ih1⟩ := gambitref05_kind.mono_l k
 unfold gambitref05_kind.f
 repeat' first
   | (with_reducible exact ih0 _ _)
   | (with_reducible exact ih1 _ _)
   | (with_reducible exact LeO.refl _)
   | (with_reducible exact LeO.none _)
   | (with_reducible refine LeO.ite ?_ ?_)
   | (with_reducible refine LeO.bind ?_ (fun _ => ?_))
   | exact ih0 _ _
   | exact ih1 _ _
   | exact LeO.none _
   | refine LeO.ite ?_ ?_
   | refine LeO.bind ?_ (fun _ => ?_)
def gambitref05_wants.j0 : Nat → Int → Bool → Option (Int)
 | 0, _, _ => none
 | k + 1, x0, x3 => if x3 = true then (some 1) else (if x0 = 5 then (some 2) else (if x0 = 6 then (some 3) else (some 0)))
def gambitref05_wants.f (k : Nat) (a0 : Int) : Option (Int) := if a0 ≥ 1 then (gambitref05_wants.j0 k a0 (decide (a0 ≤ 4))) else (gambitref05_wants.j0 k a0 false)
theorem gambitref05_wants.mono_l : ∀ k, (∀ y0 y1, LeO (gambitref05_wants.j0 k y0 y1) (gambitref05_wants.j0 (k + 1) y0 y1))
 | 0 => fun _ _ r h => by simp [gambitref05_wants.j0] at h
 | k + 1 => by
  have ih0 := gambitref05_wants.mono_l k
  ·intro y0 y1
   unfold gambitref05_wants.j0
   repeat' first
   | (with_reducible exact ih0 _ _)
   | (with_reducible exact LeO.refl _)
   | (with_reducible exact LeO.none _)
   | (with_reducible refine LeO.ite ?_ ?_)
   | (with_reducible refine LeO.bind ?_ (fun _ => ?_))
   | exact ih0 _ _
   | exact LeO.none _
   | refine LeO.ite ?_ ?_
   | refine LeO.bind ?_ (fun _ => ?_)
theorem gambitref05_wants.mono : ∀ a0 k, LeO (gambitref05_wants.f k a0) (gambitref05_wants.f (k + 1) a0) := by
 intro a0 k
 have ih0 := gambitref05_wants.mono_l k
 unfold gambitref05_wants.f
 repeat' first
   | (with_reducible exact ih0 _ _)
   | (with_reducible exact LeO.refl _)
   | (with_reducible exact LeO.none _)
   | (with_reducible refine LeO.ite ?_ ?_)
   | (with_reducible refine LeO.bind ?_ (fun _ => ?_))
   | exact ih0 _ _
   | exact LeO.none _
   | refine LeO.ite ?_ ?_
   | refine LeO.bind ?_ (fun _ => ?_)
def gambitref05_about.j0 : Nat → Bool → Int → Int → Int → Int → Int → Int → Int → ByteArray → Option (Bool)
 | 0, _, _, _, _, _, _, _, _, _ => none
 | k + 1, x3, x119000, x119001, x119002, x119003, x119004, x119005, x119006, x119007 => (gambitref05_kind.f k x119001).bind fun t119 => (if t119 = 1 then (if x3 = true then (if x119001 = 6 then (some false) else (if x119001 = 8 then (some false) else (if x119001 = 9 then (some false) else (if x119002 = 3 then (some (x119000 == 1)) else (some true))))) else (if x119002 = 3 then (some (x119000 == 1)) else (some true))) else (if t119 = 2 then (if x3 = true then (some false) else (some (x119002 != 3))) else (some (x119002 != 3))))
def gambitref05_about.f (k : Nat) (a0_0 : Int) (a0_1 : Int) (a0_2 : Int) (a0_3 : Int) (a0_4 : Int) (a0_5 : Int) (a0_6 : Int) (a0_7 : ByteArray) : Option (Bool) := if a0_2 = 1 then (gambitref05_about.j0 k true a0_0 a0_1 a0_2 a0_3 a0_4 a0_5 a0_6 a0_7) else (gambitref05_about.j0 k (a0_2 == 2) a0_0 a0_1 a0_2 a0_3 a0_4 a0_5 a0_6 a0_7)
theorem gambitref05_about.mono_l : ∀ k, (∀ y0 y1 y2 y3 y4 y5 y6 y7 y8, LeO (gambitref05_about.j0 k y0 y1 y2 y3 y4 y5 y6 y7 y8) (gambitref05_about.j0 (k + 1) y0 y1 y2 y3 y4 y5 y6 y7 y8))
 | 0 => fun _ _ _ _ _ _ _ _ _ r h => by simp [gambitref05_about.j0] at h
 | k + 1 => by
  have ih0 := gambitref05_about.mono_l k
  ·intro y0 y1 y2 y3 y4 y5 y6 y7 y8
   unfold gambitref05_about.j0
   repeat' first
   | (with_reducible exact ih0 _ _ _ _ _ _ _ _ _)
   | (with_reducible exact gambitref05_kind.mono _ _)
   | (with_reducible exact LeO.refl _)
   | (with_reducible exact LeO.none _)
   | (with_reducible refine LeO.ite ?_ ?_)
   | (with_reducible refine LeO.bind ?_ (fun _ => ?_))
   | exact ih0 _ _ _ _ _ _ _ _ _
   | exact gambitref05_kind.mono _ _
   | exact LeO.none _
   | refine LeO.ite ?_ ?_
   | refine LeO.bind ?_ (fun _ => ?_)
theorem gambitref05_about.mono : ∀ a0 a1 a2 a3 a4 a5 a6 a7 k, LeO (gambitref05_about.f k a0 a1 a2 a3 a4 a5 a6 a7) (gambitref05_about.f (k + 1) a0 a1 a2 a3 a4 a5 a6 a7) := by
 intro a0 a1 a2 a3 a4 a5 a6 a7 k
 have ih0 := gambitref05_about.mono_l k
 unfold gambitref05_about.f
 repeat' first
   | (with_reducible exact ih0 _ _ _ _ _ _ _ _ _)
   | (with_reducible exact gambitref05_kind.mono _ _)
   | (with_reducible exact LeO.refl _)
   | (with_reducible exact LeO.none _)
   | (with_reducible refine LeO.ite ?_ ?_)
   | (with_reducible refine LeO.bind ?_ (fun _ => ?_))
   | exact ih0 _ _ _ _ _ _ _ _ _
   | exact gambitref05_kind.mono _ _
   | exact LeO.none _
   | refine LeO.ite ?_ ?_
   | refine LeO.bind ?_ (fun _ => ?_)
def gambitref05_counted.f (k : Nat) (a0_0 : Int) (a0_1 : Int) (a0_2 : Int) (a0_3 : Int) (a0_4 : Int) (a0_5 : Int) (a0_6 : Int) (a0_7 : ByteArray) : Option (Bool) := (gambitref05_counts.f k a0_1).bind fun bt121 => (if a0_3 ≥ bt121.1 then (if a0_3 ≤ bt121.2 then (if bt121.1 ≥ 0 then (some true) else (some (a0_3 != 0))) else (some false)) else (some false))
theorem gambitref05_counted.mono : ∀ a0 a1 a2 a3 a4 a5 a6 a7 k, LeO (gambitref05_counted.f k a0 a1 a2 a3 a4 a5 a6 a7) (gambitref05_counted.f (k + 1) a0 a1 a2 a3 a4 a5 a6 a7) := by
 intro a0 a1 a2 a3 a4 a5 a6 a7 k
 unfold gambitref05_counted.f
 repeat' first
   | (with_reducible exact gambitref05_counts.mono _ _)
   | (with_reducible exact LeO.refl _)
   | (with_reducible exact LeO.none _)
   | (with_reducible refine LeO.ite ?_ ?_)
   | (with_reducible refine LeO.bind ?_ (fun _ => ?_))
   | exact gambitref05_counts.mono _ _
   | exact LeO.none _
   | refine LeO.ite ?_ ?_
   | refine LeO.bind ?_ (fun _ => ?_)
def gambitref05_within.f (a0 : Bool) (a1 : Int) (a2 : Int) : Option (Bool) := if a0 = true then (if a1 ≥ 1 then (some (decide (a1 ≤ a2))) else (some false)) else (some (a1 == 0))
mutual
def gambitref05_Name.j0 : Nat → ByteArray → Bool → Option (Bool)
 | 0, _, _ => none
 | k + 1, x0, x16 => if x16 = true then (some false) else (gambitref05_Name.l0 k x0 0)
def gambitref05_Name.l0 : Nat → ByteArray → Int → Option (Bool)
 | 0, _, _ => none
 | k + 1, x0, x3 => if x3 < (x0.size : Int) then (if 0 ≤ x3 then (if (bt x0 x3) < 97 then (if (bt x0 x3) = 45 then (gambitref05_Name.l0 k x0 (wrap64 (x3 + 1))) else (some false)) else (if (bt x0 x3) > 122 then (if (bt x0 x3) = 45 then (gambitref05_Name.l0 k x0 (wrap64 (x3 + 1))) else (some false)) else (gambitref05_Name.l0 k x0 (wrap64 (x3 + 1))))) else (none)) else (some true)
end
def gambitref05_Name.f (k : Nat) (a0 : ByteArray) : Option (Bool) := if (a0.size : Int) < 1 then (gambitref05_Name.j0 k a0 true) else (if (a0.size : Int) > 20 then (gambitref05_Name.j0 k a0 true) else (if 0 < (a0.size : Int) then (gambitref05_Name.j0 k a0 ((bt a0 0) == 45)) else (none)))
theorem gambitref05_Name.mono_l : ∀ k, (∀ y0 y1, LeO (gambitref05_Name.j0 k y0 y1) (gambitref05_Name.j0 (k + 1) y0 y1)) ∧ (∀ y0 y1, LeO (gambitref05_Name.l0 k y0 y1) (gambitref05_Name.l0 (k + 1) y0 y1))
 | 0 => ⟨fun _ _ r h => by simp [gambitref05_Name.j0] at h, fun _ _ r h => by simp [gambitref05_Name.l0] at h⟩
 | k + 1 => by
  obtain ⟨ih0, ih1⟩ := gambitref05_Name.mono_l k
  refine ⟨?_, ?_⟩
  ·intro y0 y1
   unfold gambitref05_Name.j0
   repeat' first
   | (with_reducible exact ih0 _ _)
   | (with_reducible exact ih1 _ _)
   | (with_reducible exact LeO.refl _)
   | (with_reducible exact LeO.none _)
   | (with_reducible refine LeO.ite ?_ ?_)
   | (with_reducible refine LeO.bind ?_ (fun _ => ?_))
   | exact ih0 _ _
   | exact ih1 _ _
   | exact LeO.none _
   | refine LeO.ite ?_ ?_
   | refine LeO.bind ?_ (fun _ => ?_)
  ·intro y0 y1
   unfold gambitref05_Name.l0
   repeat' first
   | (with_reducible exact ih0 _ _)
   | (with_reducible exact ih1 _ _)
   | (with_reducible exact LeO.refl _)
   | (with_reducible exact LeO.none _)
   | (with_reducible refine LeO.ite ?_ ?_)
   | (with_reducible refine LeO.bind ?_ (fun _ => ?_))
   | exact ih0 _ _
   | exact ih1 _ _
   | exact LeO.none _
   | refine LeO.ite ?_ ?_
   | refine LeO.bind ?_ (fun _ => ?_)
theorem gambitref05_Name.mono : ∀ a0 k, LeO (gambitref05_Name.f k a0) (gambitref05_Name.f (k + 1) a0) := by
 intro a0 k
 obtain ⟨ih0, ih1⟩ := gambitref05_Name.mono_l k
 unfold gambitref05_Name.f
 repeat' first
   | (with_reducible exact ih0 _ _)
   | (with_reducible exact ih1 _ _)
   | (with_reducible exact LeO.refl _)
   | (with_reducible exact LeO.none _)
   | (with_reducible refine LeO.ite ?_ ?_)
   | (with_reducible refine LeO.bind ?_ (fun _ => ?_))
   | exact ih0 _ _
   | exact ih1 _ _
   | exact LeO.none _
   | refine LeO.ite ?_ ?_
   | refine LeO.bind ?_ (fun _ => ?_)
mutual
def gambitref05_Check.j0 : Nat → Bool → Int → Int → Int → Int → Int → Int → Int → ByteArray → Option (Int)
 | 0, _, _, _, _, _, _, _, _, _ => none
 | k + 1, x35, x124000, x124001, x124002, x124003, x124004, x124005, x124006, x124007 => if x35 = true then (some 2) else ((gambitref05_Uses.f k x124001 x124002).bind fun bt124 => ((gambitref05_kind.f k x124001).bind fun t129 => ((gambitref05_wants.f k x124000).bind fun t130 => (if t129 = t130 then (if x124001 = 11 then (gambitref05_Check.j1 k bt124.2.1 bt124.2.2.1 bt124.2.2.2.1 bt124.2.2.2.2 (x124002 == 9) x124000 x124001 x124002 x124003 x124004 x124005 x124006 x124007) else (gambitref05_Check.j1 k bt124.2.1 bt124.2.2.1 bt124.2.2.2.1 bt124.2.2.2.2 false x124000 x124001 x124002 x124003 x124004 x124005 x124006 x124007)) else (gambitref05_Check.j1 k bt124.2.1 bt124.2.2.1 bt124.2.2.2.1 bt124.2.2.2.2 true x124000 x124001 x124002 x124003 x124004 x124005 x124006 x124007)))))
def gambitref05_Check.j1 : Nat → Bool → Bool → Bool → Bool → Bool → Int → Int → Int → Int → Int → Int → Int → ByteArray → Option (Int)
 | 0, _, _, _, _, _, _, _, _, _, _, _, _, _ => none
 | k + 1, x4, x5, x6, x7, x47, x124000, x124001, x124002, x124003, x124004, x124005, x124006, x124007 => if x47 = true then (some 8) else ((gambitref05_about.f k x124000 x124001 x124002 x124003 x124004 x124005 x124006 x124007).bind fun t131 => (if t131 = true then ((gambitref05_counted.f k x124000 x124001 x124002 x124003 x124004 x124005 x124006 x124007).bind fun t132 => (if t132 = true then ((gambitref05_within.f x4 (wrap64 (x124004)) 6).bind fun t133 => (if t133 = true then ((gambitref05_within.f x5 (wrap64 (x124005)) 8).bind fun t134 => (if t134 = true then ((gambitref05_within.f x6 (wrap64 (x124006)) 4).bind fun t135 => (gambitref05_Check.j2 k x7 (!t135) x124000 x124001 x124002 x124003 x124004 x124005 x124006 x124007)) else (gambitref05_Check.j2 k x7 true x124000 x124001 x124002 x124003 x124004 x124005 x124006 x124007))) else (gambitref05_Check.j2 k x7 true x124000 x124001 x124002 x124003 x124004 x124005 x124006 x124007))) else (some 2))) else (some 13)))
def gambitref05_Check.j2 : Nat → Bool → Bool → Int → Int → Int → Int → Int → Int → Int → ByteArray → Option (Int)
 | 0, _, _, _, _, _, _, _, _, _, _ => none
 | k + 1, x7, x73, x124000, x124001, x124002, x124003, x124004, x124005, x124006, x124007 => if x73 = true then (some 2) else (if x7 = true then ((gambitref05_Name.f k x124007).bind fun t136 => (if t136 = true then (some 0) else (some 4))) else (if x124007.toList = ([] : List UInt8) then (some 0) else (some 4)))
end
def gambitref05_Check.f (k : Nat) (a0_0 : Int) (a0_1 : Int) (a0_2 : Int) (a0_3 : Int) (a0_4 : Int) (a0_5 : Int) (a0_6 : Int) (a0_7 : ByteArray) : Option (Int) := if a0_0 < 1 then (gambitref05_Check.j0 k true a0_0 a0_1 a0_2 a0_3 a0_4 a0_5 a0_6 a0_7) else (if a0_0 > 6 then (gambitref05_Check.j0 k true a0_0 a0_1 a0_2 a0_3 a0_4 a0_5 a0_6 a0_7) else (if a0_1 < 1 then (gambitref05_Check.j0 k true a0_0 a0_1 a0_2 a0_3 a0_4 a0_5 a0_6 a0_7) else (if a0_1 > 19 then (gambitref05_Check.j0 k true a0_0 a0_1 a0_2 a0_3 a0_4 a0_5 a0_6 a0_7) else (if a0_2 < 1 then (gambitref05_Check.j0 k true a0_0 a0_1 a0_2 a0_3 a0_4 a0_5 a0_6 a0_7) else (gambitref05_Check.j0 k (decide (a0_2 > 10)) a0_0 a0_1 a0_2 a0_3 a0_4 a0_5 a0_6 a0_7)))))
theorem gambitref05_Check.mono_l : ∀ k, (∀ y0 y1 y2 y3 y4 y5 y6 y7 y8, LeO (gambitref05_Check.j0 k y0 y1 y2 y3 y4 y5 y6 y7 y8) (gambitref05_Check.j0 (k + 1) y0 y1 y2 y3 y4 y5 y6 y7 y8)) ∧ (∀ y0 y1 y2 y3 y4 y5 y6 y7 y8 y9 y10 y11 y12, LeO (gambitref05_Check.j1 k y0 y1 y2 y3 y4 y5 y6 y7 y8 y9 y10 y11 y12) (gambitref05_Check.j1 (k + 1) y0 y1 y2 y3 y4 y5 y6 y7 y8 y9 y10 y11 y12)) ∧ (∀ y0 y1 y2 y3 y4 y5 y6 y7 y8 y9, LeO (gambitref05_Check.j2 k y0 y1 y2 y3 y4 y5 y6 y7 y8 y9) (gambitref05_Check.j2 (k + 1) y0 y1 y2 y3 y4 y5 y6 y7 y8 y9))
 | 0 => ⟨fun _ _ _ _ _ _ _ _ _ r h => by simp [gambitref05_Check.j0] at h, fun _ _ _ _ _ _ _ _ _ _ _ _ _ r h => by simp [gambitref05_Check.j1] at h, fun _ _ _ _ _ _ _ _ _ _ r h => by simp [gambitref05_Check.j2] at h⟩
 | k + 1 => by
  obtain ⟨ih0, ih1, ih2⟩ := gambitref05_Check.mono_l k
  refine ⟨?_, ?_, ?_⟩
  ·intro y0 y1 y2 y3 y4 y5 y6 y7 y8
   unfold gambitref05_Check.j0
   repeat' first
   | (with_reducible exact ih0 _ _ _ _ _ _ _ _ _)
   | (with_reducible exact ih1 _ _ _ _ _ _ _ _ _ _ _ _ _)
   | (with_reducible exact ih2 _ _ _ _ _ _ _ _ _ _)
   | (with_reducible exact gambitref05_Name.mono _ _)
   | (with_reducible exact gambitref05_Uses.mono _ _ _)
   | (with_reducible exact gambitref05_about.mono _ _ _ _ _ _ _ _ _)
   | (with_reducible exact gambitref05_counted.mono _ _ _ _ _ _ _ _ _)
   | (with_reducible exact gambitref05_kind.mono _ _)
   | (with_reducible exact gambitref05_wants.mono _ _)
   | (with_reducible exact LeO.refl _)
   | (with_reducible exact LeO.none _)
   | (with_reducible refine LeO.ite ?_ ?_)
   | (with_reducible refine LeO.bind ?_ (fun _ => ?_))
   | exact ih0 _ _ _ _ _ _ _ _ _
   | exact ih1 _ _ _ _ _ _ _ _ _ _ _ _ _
   | exact ih2 _ _ _ _ _ _ _ _ _ _
   | exact gambitref05_Name.mono _ _
   | exact gambitref05_Uses.mono _ _ _
   | exact gambitref05_about.mono _ _ _ _ _ _ _ _ _
   | exact gambitref05_counted.mono _ _ _ _ _ _ _ _ _
   | exact gambitref05_kind.mono _ _
   | exact gambitref05_wants.mono _ _
   | exact LeO.none _
   | refine LeO.ite ?_ ?_
   | refine LeO.bind ?_ (fun _ => ?_)
  ·intro y0 y1 y2 y3 y4 y5 y6 y7 y8 y9 y10 y11 y12
   unfold gambitref05_Check.j1
   repeat' first
   | (with_reducible exact ih0 _ _ _ _ _ _ _ _ _)
   | (with_reducible exact ih1 _ _ _ _ _ _ _ _ _ _ _ _ _)
   | (with_reducible exact ih2 _ _ _ _ _ _ _ _ _ _)
   | (with_reducible exact gambitref05_Name.mono _ _)
   | (with_reducible exact gambitref05_Uses.mono _ _ _)
   | (with_reducible exact gambitref05_about.mono _ _ _ _ _ _ _ _ _)
   | (with_reducible exact gambitref05_counted.mono _ _ _ _ _ _ _ _ _)
   | (with_reducible exact gambitref05_kind.mono _ _)
   | (with_reducible exact gambitref05_wants.mono _ _)
   | (with_reducible exact LeO.refl _)
   | (with_reducible exact LeO.none _)
   | (with_reducible refine LeO.ite ?_ ?_)
   | (with_reducible refine LeO.bind ?_ (fun _ => ?_))
   | exact ih0 _ _ _ _ _ _ _ _ _
   | exact ih1 _ _ _ _ _ _ _ _ _ _ _ _ _
   | exact ih2 _ _ _ _ _ _ _ _ _ _
   | exact gambitref05_Name.mono _ _
   | exact gambitref05_Uses.mono _ _ _
   | exact gambitref05_about.mono _ _ _ _ _ _ _ _ _
   | exact gambitref05_counted.mono _ _ _ _ _ _ _ _ _
   | exact gambitref05_kind.mono _ _
   | exact gambitref05_wants.mono _ _
   | exact LeO.none _
   | refine LeO.ite ?_ ?_
   | refine LeO.bind ?_ (fun _ => ?_)
  ·intro y0 y1 y2 y3 y4 y5 y6 y7 y8 y9
   unfold gambitref05_Check.j2
   repeat' first
   | (with_reducible exact ih0 _ _ _ _ _ _ _ _ _)
   | (with_reducible exact ih1 _ _ _ _ _ _ _ _ _ _ _ _ _)
   | (with_reducible exact ih2 _ _ _ _ _ _ _ _ _ _)
   | (with_reducible exact gambitref05_Name.mono _ _)
   | (with_reducible exact gambitref05_Uses.mono _ _ _)
   | (with_reducible exact gambitref05_about.mono _ _ _ _ _ _ _ _ _)
   | (with_reducible exact gambitref05_counted.mono _ _ _ _ _ _ _ _ _)
   | (with_reducible exact gambitref05_kind.mono _ _)
   | (with_reducible exact gambitref05_wants.mono _ _)
   | (with_reducible exact LeO.refl _)
   | (with_reducible exact LeO.none _)
   | (with_reducible refine LeO.ite ?_ ?_)
   | (with_reducible refine LeO.bind ?_ (fun _ => ?_))
   | exact ih0 _ _ _ _ _ _ _ _ _
   | exact ih1 _ _ _ _ _ _ _ _ _ _ _ _ _
   | exact ih2 _ _ _ _ _ _ _ _ _ _
   | exact gambitref05_Name.mono _ _
   | exact gambitref05_Uses.mono _ _ _
   | exact gambitref05_about.mono _ _ _ _ _ _ _ _ _
   | exact gambitref05_counted.mono _ _ _ _ _ _ _ _ _
   | exact gambitref05_kind.mono _ _
   | exact gambitref05_wants.mono _ _
   | exact LeO.none _
   | refine LeO.ite ?_ ?_
   | refine LeO.bind ?_ (fun _ => ?_)
theorem gambitref05_Check.mono : ∀ a0 a1 a2 a3 a4 a5 a6 a7 k, LeO (gambitref05_Check.f k a0 a1 a2 a3 a4 a5 a6 a7) (gambitref05_Check.f (k + 1) a0 a1 a2 a3 a4 a5 a6 a7) := by
 intro a0 a1 a2 a3 a4 a5 a6 a7 k
 obtain ⟨ih0, ih1, ih2⟩ := gambitref05_Check.mono_l k
 unfold gambitref05_Check.f
 repeat' first
   | (with_reducible exact ih0 _ _ _ _ _ _ _ _ _)
   | (with_reducible exact ih1 _ _ _ _ _ _ _ _ _ _ _ _ _)
   | (with_reducible exact ih2 _ _ _ _ _ _ _ _ _ _)
   | (with_reducible exact gambitref05_Name.mono _ _)
   | (with_reducible exact gambitref05_Uses.mono _ _ _)
   | (with_reducible exact gambitref05_about.mono _ _ _ _ _ _ _ _ _)
   | (with_reducible exact gambitref05_counted.mono _ _ _ _ _ _ _ _ _)
   | (with_reducible exact gambitref05_kind.mono _ _)
   | (with_reducible exact gambitref05_wants.mono _ _)
   | (with_reducible exact LeO.refl _)
   | (with_reducible exact LeO.none _)
   | (with_reducible refine LeO.ite ?_ ?_)
   | (with_reducible refine LeO.bind ?_ (fun _ => ?_))
   | exact ih0 _ _ _ _ _ _ _ _ _
   | exact ih1 _ _ _ _ _ _ _ _ _ _ _ _ _
   | exact ih2 _ _ _ _ _ _ _ _ _ _
   | exact gambitref05_Name.mono _ _
   | exact gambitref05_Uses.mono _ _ _
   | exact gambitref05_about.mono _ _ _ _ _ _ _ _ _
   | exact gambitref05_counted.mono _ _ _ _ _ _ _ _ _
   | exact gambitref05_kind.mono _ _
   | exact gambitref05_wants.mono _ _
   | exact LeO.none _
   | refine LeO.ite ?_ ?_
   | refine LeO.bind ?_ (fun _ => ?_)
def suit_Name.f (a0 : Int) : Option (ByteArray) := if a0 = 1 then (some (⟨#[97, 105, 114]⟩ : ByteArray)) else (if a0 = 2 then (some (⟨#[101, 97, 114, 116, 104]⟩ : ByteArray)) else (if a0 = 3 then (some (⟨#[102, 105, 114, 101]⟩ : ByteArray)) else (if a0 = 4 then (some (⟨#[119, 97, 116, 101, 114]⟩ : ByteArray)) else (if a0 = 5 then (some (⟨#[118, 111, 105, 100]⟩ : ByteArray)) else (if a0 = 6 then (some (⟨#[103, 111, 108, 100]⟩ : ByteArray)) else (some (⟨#[]⟩ : ByteArray)))))))
set_option maxHeartbeats 8000000 in
set_option maxRecDepth 100000 in
theorem suit_Name.calls (a0 : Int) (r : ByteArray) (w : World) (h : suit_Name.f a0 = some r) :
  Calls Tryz.prog 30 #[.int .u8 a0] w fun e w' => e = .returned (.string r) ∧ Drawn0 w w' := by
 have H : (if a0 = 1 then (some (⟨#[97, 105, 114]⟩ : ByteArray)) else (if a0 = 2 then (some (⟨#[101, 97, 114, 116, 104]⟩ : ByteArray)) else (if a0 = 3 then (some (⟨#[102, 105, 114, 101]⟩ : ByteArray)) else (if a0 = 4 then (some (⟨#[119, 97, 116, 101, 114]⟩ : ByteArray)) else (if a0 = 5 then (some (⟨#[118, 111, 105, 100]⟩ : ByteArray)) else (if a0 = 6 then (some (⟨#[103, 111, 108, 100]⟩ : ByteArray)) else (some (⟨#[]⟩ : ByteArray)))))))) = some r := h
 clear h
 by_cases c2 : a0 = 1
 ·rw [if_pos c2] at H
  have c2b0 : (a0 == 1) = true := beq_iff_eq.mpr c2
  have c2b1 : (a0 != 1) = false := bne_eq_false_iff_eq.mpr c2
  clear c2
  obtain rfl := Option.some.inj H
  go_enter Tryz.func30, Tryz.ntmps30
  go_wp2
  go_ret
  exact ⟨Zt, Zd⟩
 ·rw [if_neg c2] at H
  have c2b0 : (a0 == 1) = false := beq_eq_false_iff_ne.mpr c2
  have c2b1 : (a0 != 1) = true := bne_iff_ne.mpr c2
  by_cases c3 : a0 = 2
  ·rw [if_pos c3] at H
   have c3b0 : (a0 == 2) = true := beq_iff_eq.mpr c3
   have c3b1 : (a0 != 2) = false := bne_eq_false_iff_eq.mpr c3
   clear c3
   obtain rfl := Option.some.inj H
   go_enter Tryz.func30, Tryz.ntmps30
   go_wp2
   go_ret
   exact ⟨Zt, Zd⟩
  ·rw [if_neg c3] at H
   have c3b0 : (a0 == 2) = false := beq_eq_false_iff_ne.mpr c3
   have c3b1 : (a0 != 2) = true := bne_iff_ne.mpr c3
   by_cases c4 : a0 = 3
   ·rw [if_pos c4] at H
    have c4b0 : (a0 == 3) = true := beq_iff_eq.mpr c4
    have c4b1 : (a0 != 3) = false := bne_eq_false_iff_eq.mpr c4
    clear c4
    obtain rfl := Option.some.inj H
    go_enter Tryz.func30, Tryz.ntmps30
    go_wp2
    go_ret
    exact ⟨Zt, Zd⟩
   ·rw [if_neg c4] at H
    have c4b0 : (a0 == 3) = false := beq_eq_false_iff_ne.mpr c4
    have c4b1 : (a0 != 3) = true := bne_iff_ne.mpr c4
    by_cases c5 : a0 = 4
    ·rw [if_pos c5] at H
     have c5b0 : (a0 == 4) = true := beq_iff_eq.mpr c5
     have c5b1 : (a0 != 4) = false := bne_eq_false_iff_eq.mpr c5
     clear c5
     obtain rfl := Option.some.inj H
     go_enter Tryz.func30, Tryz.ntmps30
     go_wp2
     go_ret
     exact ⟨Zt, Zd⟩
    ·rw [if_neg c5] at H
     have c5b0 : (a0 == 4) = false := beq_eq_false_iff_ne.mpr c5
     have c5b1 : (a0 != 4) = true := bne_iff_ne.mpr c5
     by_cases c6 : a0 = 5
     ·rw [if_pos c6] at H
      have c6b0 : (a0 == 5) = true := beq_iff_eq.mpr c6
      have c6b1 : (a0 != 5) = false := bne_eq_false_iff_eq.mpr c6
      clear c6
      obtain rfl := Option.some.inj H
      go_enter Tryz.func30, Tryz.ntmps30
      go_wp2
      go_ret
      exact ⟨Zt, Zd⟩
     ·rw [if_neg c6] at H
      have c6b0 : (a0 == 5) = false := beq_eq_false_iff_ne.mpr c6
      have c6b1 : (a0 != 5) = true := bne_iff_ne.mpr c6
      by_cases c7 : a0 = 6
      ·rw [if_pos c7] at H
       have c7b0 : (a0 == 6) = true := beq_iff_eq.mpr c7
       have c7b1 : (a0 != 6) = false := bne_eq_false_iff_eq.mpr c7
       clear c7
       obtain rfl := Option.some.inj H
       go_enter Tryz.func30, Tryz.ntmps30
       go_wp2
       go_ret
       exact ⟨Zt, Zd⟩
      ·rw [if_neg c7] at H
       have c7b0 : (a0 == 6) = false := beq_eq_false_iff_ne.mpr c7
       have c7b1 : (a0 != 6) = true := bne_iff_ne.mpr c7
       obtain rfl := Option.some.inj H
       go_enter Tryz.func30, Tryz.ntmps30
       go_wp2
       go_ret
       exact ⟨Zt, Zd⟩
def gambitref03_Name.f (a0 : Int) : Option (ByteArray) := if a0 = 1 then (some (⟨#[97, 105, 114]⟩ : ByteArray)) else (if a0 = 2 then (some (⟨#[101, 97, 114, 116, 104]⟩ : ByteArray)) else (if a0 = 3 then (some (⟨#[102, 105, 114, 101]⟩ : ByteArray)) else (if a0 = 4 then (some (⟨#[119, 97, 116, 101, 114]⟩ : ByteArray)) else (if a0 = 5 then (some (⟨#[118, 111, 105, 100]⟩ : ByteArray)) else (if a0 = 6 then (some (⟨#[103, 111, 108, 100]⟩ : ByteArray)) else (some (⟨#[]⟩ : ByteArray)))))))
def gambitref04_Rows.f  : Option ((List (S116))) := some (([(⟨1, (⟨#[102, 97, 115, 116]⟩ : ByteArray), 1, (⟨#[109, 97, 121, 32, 115, 116, 114, 105, 107, 101, 32, 111, 110, 32, 116, 104, 101, 32, 116, 117, 114, 110, 32, 111, 110, 32, 119, 104, 105, 99, 104, 32, 105, 116, 32, 99, 97, 109, 101]⟩ : ByteArray)⟩ : S116), (⟨2, (⟨#[103, 117, 97, 114, 100]⟩ : ByteArray), 2, (⟨#[105, 115, 32, 115, 116, 114, 117, 99, 107, 32, 97, 104, 101, 97, 100, 32, 111, 102, 32, 97, 108, 108, 32, 116, 104, 97, 116, 32, 105, 115, 32, 110, 111, 32, 103, 117, 97, 114, 100]⟩ : ByteArray)⟩ : S116), (⟨3, (⟨#[118, 101, 110, 111, 109]⟩ : ByteArray), 3, (⟨#[119, 104, 97, 116, 101, 118, 101, 114, 32, 105, 116, 32, 104, 97, 114, 109, 115, 32, 98, 114, 101, 97, 107, 115]⟩ : ByteArray)⟩ : S116), (⟨4, (⟨#[108, 111, 110, 101]⟩ : ByteArray), 4, (⟨#[99, 97, 110, 110, 111, 116, 32, 98, 101, 32, 109, 101, 97, 110, 116, 32, 98, 121, 32, 116, 104, 101, 32, 102, 111, 101]⟩ : ByteArray)⟩ : S116), (⟨5, (⟨#[100, 114, 97, 105, 110]⟩ : ByteArray), 4, (⟨#[119, 104, 97, 116, 32, 105, 116, 32, 104, 97, 114, 109, 115, 32, 109, 101, 110, 100, 115, 32, 105, 116, 115, 32, 104, 111, 108, 100, 101, 114]⟩ : ByteArray)⟩ : S116), (⟨6, (⟨#[109, 117, 116, 101]⟩ : ByteArray), 5, (⟨#[105, 116, 115, 32, 99, 97, 114, 100, 39, 115, 32, 112, 97, 114, 116, 115, 32, 99, 111, 117, 110, 116, 32, 102, 111, 114, 32, 110, 111, 116, 104, 105, 110, 103]⟩ : ByteArray)⟩ : S116), (⟨7, (⟨#[102, 105, 120, 101, 100]⟩ : ByteArray), 6, (⟨#[99, 97, 110, 110, 111, 116, 32, 115, 116, 114, 105, 107, 101]⟩ : ByteArray)⟩ : S116), (⟨8, (⟨#[115, 119, 105, 102, 116]⟩ : ByteArray), 1, (⟨#[115, 116, 114, 105, 107, 101, 115, 32, 97, 32, 115, 101, 99, 111, 110, 100, 32, 116, 105, 109, 101, 32, 101, 97, 99, 104, 32, 116, 117, 114, 110]⟩ : ByteArray)⟩ : S116)] : List (S116)))
def gambitref04_row.l0 : Nat → Int → List (S116) → Int → Option (Int × ByteArray × Int × ByteArray × Bool)
 | 0, _, _, _ => none
 | k + 1, x0, x4, x5 => if x5 < (x4.length : Int) then (if 0 ≤ x5 then (if ((rd_T116 x4 x5).f0) = x0 then (some ((rd_T116 x4 x5).f0, (rd_T116 x4 x5).f1, (rd_T116 x4 x5).f2, (rd_T116 x4 x5).f3, true)) else (gambitref04_row.l0 k x0 x4 (wrap64 (x5 + 1)))) else (none)) else (some (0, (⟨#[]⟩ : ByteArray), 0, (⟨#[]⟩ : ByteArray), false))
def gambitref04_row.f (k : Nat) (a0 : Int) : Option (Int × ByteArray × Int × ByteArray × Bool) := (gambitref04_Rows.f).bind fun t105 => (gambitref04_row.l0 k a0 t105 0)
theorem gambitref04_row.mono_l : ∀ k, (∀ y0 y1 y2, LeO (gambitref04_row.l0 k y0 y1 y2) (gambitref04_row.l0 (k + 1) y0 y1 y2))
 | 0 => fun _ _ _ r h => by simp [gambitref04_row.l0] at h
 | k + 1 => by
  have ih0 := gambitref04_row.mono_l k
  ·intro y0 y1 y2
   unfold gambitref04_row.l0
   repeat' first
   | (with_reducible exact ih0 _ _ _)
   | (with_reducible exact LeO.refl _)
   | (with_reducible exact LeO.none _)
   | (with_reducible refine LeO.ite ?_ ?_)
   | (with_reducible refine LeO.bind ?_ (fun _ => ?_))
   | exact ih0 _ _ _
   | exact LeO.none _
   | refine LeO.ite ?_ ?_
   | refine LeO.bind ?_ (fun _ => ?_)
theorem gambitref04_row.mono : ∀ a0 k, LeO (gambitref04_row.f k a0) (gambitref04_row.f (k + 1) a0) := by
 intro a0 k
 have ih0 := gambitref04_row.mono_l k
 unfold gambitref04_row.f
 repeat' first
   | (with_reducible exact ih0 _ _ _)
   | (with_reducible exact LeO.refl _)
   | (with_reducible exact LeO.none _)
   | (with_reducible refine LeO.ite ?_ ?_)
   | (with_reducible refine LeO.bind ?_ (fun _ => ?_))
   | exact ih0 _ _ _
   | exact LeO.none _
   | refine LeO.ite ?_ ?_
   | refine LeO.bind ?_ (fun _ => ?_)
def gambitref04_Name.f (k : Nat) (a0 : Int) : Option (ByteArray) := (gambitref04_row.f k a0).bind fun bt110 => (some bt110.2.1)
theorem gambitref04_Name.mono : ∀ a0 k, LeO (gambitref04_Name.f k a0) (gambitref04_Name.f (k + 1) a0) := by
 intro a0 k
 unfold gambitref04_Name.f
 repeat' first
   | (with_reducible exact gambitref04_row.mono _ _)
   | (with_reducible exact LeO.refl _)
   | (with_reducible exact LeO.none _)
   | (with_reducible refine LeO.ite ?_ ?_)
   | (with_reducible refine LeO.bind ?_ (fun _ => ?_))
   | exact gambitref04_row.mono _ _
   | exact LeO.none _
   | refine LeO.ite ?_ ?_
   | refine LeO.bind ?_ (fun _ => ?_)
def gambitref05_whens.f  : Option (List ByteArray) := some (([(⟨#[112, 108, 97, 121, 101, 100]⟩ : ByteArray), (⟨#[98, 114, 111, 107, 101, 110]⟩ : ByteArray), (⟨#[98, 101, 103, 117, 110]⟩ : ByteArray), (⟨#[115, 116, 114, 117, 99, 107]⟩ : ByteArray), (⟨#[97, 108, 119, 97, 121, 115]⟩ : ByteArray), (⟨#[114, 97, 116, 104, 101, 114]⟩ : ByteArray)] : List ByteArray))
def gambitref05_verbs.f  : Option (List ByteArray) := some (([(⟨#[104, 97, 114, 109]⟩ : ByteArray), (⟨#[109, 101, 110, 100]⟩ : ByteArray), (⟨#[100, 114, 97, 119]⟩ : ByteArray), (⟨#[100, 114, 111, 112]⟩ : ByteArray), (⟨#[103, 97, 105, 110]⟩ : ByteArray), (⟨#[98, 114, 101, 97, 107]⟩ : ByteArray), (⟨#[99, 97, 108, 108]⟩ : ByteArray), (⟨#[98, 97, 99, 107]⟩ : ByteArray), (⟨#[112, 117, 116]⟩ : ByteArray), (⟨#[115, 101, 105, 122, 101]⟩ : ByteArray), (⟨#[100, 121, 101]⟩ : ByteArray), (⟨#[103, 114, 97, 110, 116]⟩ : ByteArray), (⟨#[115, 116, 114, 105, 112]⟩ : ByteArray), (⟨#[98, 97, 115, 101]⟩ : ByteArray), (⟨#[114, 97, 105, 115, 101]⟩ : ByteArray), (⟨#[108, 101, 115, 115]⟩ : ByteArray), (⟨#[116, 119, 105, 99, 101]⟩ : ByteArray), (⟨#[116, 117, 114, 110, 101, 100]⟩ : ByteArray), (⟨#[105, 110, 115, 116, 101, 97, 100]⟩ : ByteArray)] : List ByteArray))
def gambitref05_whoms.f  : Option (List ByteArray) := some (([(⟨#[121, 111, 117]⟩ : ByteArray), (⟨#[102, 111, 101]⟩ : ByteArray), (⟨#[105, 116]⟩ : ByteArray), (⟨#[115, 101, 108, 102]⟩ : ByteArray), (⟨#[121, 111, 117, 114, 115]⟩ : ByteArray), (⟨#[116, 104, 101, 105, 114, 115]⟩ : ByteArray), (⟨#[97, 108, 108]⟩ : ByteArray), (⟨#[114, 101, 115, 116]⟩ : ByteArray), (⟨#[100, 121, 101, 100]⟩ : ByteArray), (⟨#[119, 105, 116, 104]⟩ : ByteArray)] : List ByteArray))
def gambitref05_Digits.f : Nat → Int → Option (ByteArray)
 | 0, _ => none
 | k + 1, a0 => if a0 < 0 then ((gambitref05_Digits.f k (wrap64 (-a0))).bind fun t146 => (if 1 + t146.size ≤ 9223372036854775807 then (some ((⟨#[45]⟩ : ByteArray) ++ t146)) else (none))) else (if a0 < 10 then (if 0 ≤ a0 then (if a0 ≤ (wrap64 (a0 + 1)) then (if (wrap64 (a0 + 1)) ≤ 10 then (some ((⟨#[48, 49, 50, 51, 52, 53, 54, 55, 56, 57]⟩ : ByteArray).extract (a0 : Int).toNat ((wrap64 (a0 + 1)) : Int).toNat)) else (none)) else (none)) else (none)) else ((gambitref05_Digits.f k (wrap64 (Int.tdiv a0 10))).bind fun t147 => ((gambitref05_Digits.f k (Int.tmod a0 10)).bind fun t148 => (if t147.size + t148.size ≤ 9223372036854775807 then (some (t147 ++ t148)) else (none)))))
theorem gambitref05_Digits.mono_l : ∀ k, (∀ y0, LeO (gambitref05_Digits.f k y0) (gambitref05_Digits.f (k + 1) y0))
 | 0 => fun _ r h => by simp [gambitref05_Digits.f] at h
 | k + 1 => by
  have ih0 := gambitref05_Digits.mono_l k
  ·intro y0
   unfold gambitref05_Digits.f
   repeat' first
   | (with_reducible exact ih0 _)
   | (with_reducible exact LeO.refl _)
   | (with_reducible exact LeO.none _)
   | (with_reducible refine LeO.ite ?_ ?_)
   | (with_reducible refine LeO.bind ?_ (fun _ => ?_))
   | exact ih0 _
   | exact LeO.none _
   | refine LeO.ite ?_ ?_
   | refine LeO.bind ?_ (fun _ => ?_)
theorem gambitref05_Digits.mono : ∀ a0 k, LeO (gambitref05_Digits.f k a0) (gambitref05_Digits.f (k + 1) a0) := by
 intro a0 k
 have ih0 := gambitref05_Digits.mono_l k
 exact ih0 a0
mutual
def gambitref05_Print.j0 : Nat → ByteArray → Bool → Bool → Bool → Bool → Int → Int → Int → Int → Int → Int → Int → ByteArray → Option (ByteArray × Int)
 | 0, _, _, _, _, _, _, _, _, _, _, _, _, _ => none
 | k + 1, x5, x7, x8, x9, x10, x150000, x150001, x150002, x150003, x150004, x150005, x150006, x150007 => if x7 = true then (if x5.size + 1 ≤ 9223372036854775807 then ((gambitref03_Name.f x150004).bind fun t169 => (if (x5 ++ (⟨#[32]⟩ : ByteArray)).size + t169.size ≤ 9223372036854775807 then (gambitref05_Print.j1 k ((x5 ++ (⟨#[32]⟩ : ByteArray)) ++ t169) x8 x9 x10 x150000 x150001 x150002 x150003 x150004 x150005 x150006 x150007) else (none))) else (none)) else (gambitref05_Print.j1 k x5 x8 x9 x10 x150000 x150001 x150002 x150003 x150004 x150005 x150006 x150007)
def gambitref05_Print.j1 : Nat → ByteArray → Bool → Bool → Bool → Int → Int → Int → Int → Int → Int → Int → ByteArray → Option (ByteArray × Int)
 | 0, _, _, _, _, _, _, _, _, _, _, _, _ => none
 | k + 1, x5, x8, x9, x10, x150000, x150001, x150002, x150003, x150004, x150005, x150006, x150007 => if x8 = true then (if x5.size + 1 ≤ 9223372036854775807 then ((gambitref04_Name.f k x150005).bind fun t170 => (if (x5 ++ (⟨#[32]⟩ : ByteArray)).size + t170.size ≤ 9223372036854775807 then (gambitref05_Print.j2 k ((x5 ++ (⟨#[32]⟩ : ByteArray)) ++ t170) x9 x10 x150000 x150001 x150002 x150003 x150004 x150005 x150006 x150007) else (none))) else (none)) else (gambitref05_Print.j2 k x5 x9 x10 x150000 x150001 x150002 x150003 x150004 x150005 x150006 x150007)
def gambitref05_Print.j2 : Nat → ByteArray → Bool → Bool → Int → Int → Int → Int → Int → Int → Int → ByteArray → Option (ByteArray × Int)
 | 0, _, _, _, _, _, _, _, _, _, _, _ => none
 | k + 1, x5, x9, x10, x150000, x150001, x150002, x150003, x150004, x150005, x150006, x150007 => if x9 = true then (if x5.size + 1 ≤ 9223372036854775807 then ((gambitref05_Digits.f k (wrap64 (x150006))).bind fun t171 => (if (x5 ++ (⟨#[32]⟩ : ByteArray)).size + t171.size ≤ 9223372036854775807 then (if x10 = true then (if ((x5 ++ (⟨#[32]⟩ : ByteArray)) ++ t171).size + 1 ≤ 9223372036854775807 then (if (((x5 ++ (⟨#[32]⟩ : ByteArray)) ++ t171) ++ (⟨#[32]⟩ : ByteArray)).size + x150007.size ≤ 9223372036854775807 then (some ((((x5 ++ (⟨#[32]⟩ : ByteArray)) ++ t171) ++ (⟨#[32]⟩ : ByteArray)) ++ x150007, 0)) else (none)) else (none)) else (some ((x5 ++ (⟨#[32]⟩ : ByteArray)) ++ t171, 0))) else (none))) else (none)) else (if x10 = true then (if x5.size + 1 ≤ 9223372036854775807 then (if (x5 ++ (⟨#[32]⟩ : ByteArray)).size + x150007.size ≤ 9223372036854775807 then (some ((x5 ++ (⟨#[32]⟩ : ByteArray)) ++ x150007, 0)) else (none)) else (none)) else (some (x5, 0)))
end
def gambitref05_Print.f (k : Nat) (a0_0 : Int) (a0_1 : Int) (a0_2 : Int) (a0_3 : Int) (a0_4 : Int) (a0_5 : Int) (a0_6 : Int) (a0_7 : ByteArray) : Option (ByteArray × Int) := (gambitref05_Check.f k a0_0 a0_1 a0_2 a0_3 a0_4 a0_5 a0_6 a0_7).bind fun t150 => (if t150 = 0 then ((gambitref05_whens.f).bind fun t151 => (if 0 ≤ ((a0_0 - 1) % 256) then (if ((a0_0 - 1) % 256) < (t151.length : Int) then (if (rdOf ByteArray.empty t151 ((a0_0 - 1) % 256)).size + 1 ≤ 9223372036854775807 then ((gambitref05_verbs.f).bind fun t155 => (if 0 ≤ ((a0_1 - 1) % 256) then (if ((a0_1 - 1) % 256) < (t155.length : Int) then (if ((rdOf ByteArray.empty t151 ((a0_0 - 1) % 256)) ++ (⟨#[32]⟩ : ByteArray)).size + (rdOf ByteArray.empty t155 ((a0_1 - 1) % 256)).size ≤ 9223372036854775807 then (if (((rdOf ByteArray.empty t151 ((a0_0 - 1) % 256)) ++ (⟨#[32]⟩ : ByteArray)) ++ (rdOf ByteArray.empty t155 ((a0_1 - 1) % 256))).size + 1 ≤ 9223372036854775807 then ((gambitref05_whoms.f).bind fun t159 => (if 0 ≤ ((a0_2 - 1) % 256) then (if ((a0_2 - 1) % 256) < (t159.length : Int) then (if ((((rdOf ByteArray.empty t151 ((a0_0 - 1) % 256)) ++ (⟨#[32]⟩ : ByteArray)) ++ (rdOf ByteArray.empty t155 ((a0_1 - 1) % 256))) ++ (⟨#[32]⟩ : ByteArray)).size + (rdOf ByteArray.empty t159 ((a0_2 - 1) % 256)).size ≤ 9223372036854775807 then ((gambitref05_Uses.f k a0_1 a0_2).bind fun bt163 => (if bt163.1 = true then (if (((((rdOf ByteArray.empty t151 ((a0_0 - 1) % 256)) ++ (⟨#[32]⟩ : ByteArray)) ++ (rdOf ByteArray.empty t155 ((a0_1 - 1) % 256))) ++ (⟨#[32]⟩ : ByteArray)) ++ (rdOf ByteArray.empty t159 ((a0_2 - 1) % 256))).size + 1 ≤ 9223372036854775807 then ((gambitref05_Digits.f k a0_3).bind fun t168 => (if ((((((rdOf ByteArray.empty t151 ((a0_0 - 1) % 256)) ++ (⟨#[32]⟩ : ByteArray)) ++ (rdOf ByteArray.empty t155 ((a0_1 - 1) % 256))) ++ (⟨#[32]⟩ : ByteArray)) ++ (rdOf ByteArray.empty t159 ((a0_2 - 1) % 256))) ++ (⟨#[32]⟩ : ByteArray)).size + t168.size ≤ 9223372036854775807 then (gambitref05_Print.j0 k (((((((rdOf ByteArray.empty t151 ((a0_0 - 1) % 256)) ++ (⟨#[32]⟩ : ByteArray)) ++ (rdOf ByteArray.empty t155 ((a0_1 - 1) % 256))) ++ (⟨#[32]⟩ : ByteArray)) ++ (rdOf ByteArray.empty t159 ((a0_2 - 1) % 256))) ++ (⟨#[32]⟩ : ByteArray)) ++ t168) bt163.2.1 bt163.2.2.1 bt163.2.2.2.1 bt163.2.2.2.2 a0_0 a0_1 a0_2 a0_3 a0_4 a0_5 a0_6 a0_7) else (none))) else (none)) else (gambitref05_Print.j0 k (((((rdOf ByteArray.empty t151 ((a0_0 - 1) % 256)) ++ (⟨#[32]⟩ : ByteArray)) ++ (rdOf ByteArray.empty t155 ((a0_1 - 1) % 256))) ++ (⟨#[32]⟩ : ByteArray)) ++ (rdOf ByteArray.empty t159 ((a0_2 - 1) % 256))) bt163.2.1 bt163.2.2.1 bt163.2.2.2.1 bt163.2.2.2.2 a0_0 a0_1 a0_2 a0_3 a0_4 a0_5 a0_6 a0_7))) else (none)) else (none)) else (none))) else (none)) else (none)) else (none)) else (none))) else (none)) else (none)) else (none))) else (some ((⟨#[]⟩ : ByteArray), t150)))
theorem gambitref05_Print.mono_l : ∀ k, (∀ y0 y1 y2 y3 y4 y5 y6 y7 y8 y9 y10 y11 y12, LeO (gambitref05_Print.j0 k y0 y1 y2 y3 y4 y5 y6 y7 y8 y9 y10 y11 y12) (gambitref05_Print.j0 (k + 1) y0 y1 y2 y3 y4 y5 y6 y7 y8 y9 y10 y11 y12)) ∧ (∀ y0 y1 y2 y3 y4 y5 y6 y7 y8 y9 y10 y11, LeO (gambitref05_Print.j1 k y0 y1 y2 y3 y4 y5 y6 y7 y8 y9 y10 y11) (gambitref05_Print.j1 (k + 1) y0 y1 y2 y3 y4 y5 y6 y7 y8 y9 y10 y11)) ∧ (∀ y0 y1 y2 y3 y4 y5 y6 y7 y8 y9 y10, LeO (gambitref05_Print.j2 k y0 y1 y2 y3 y4 y5 y6 y7 y8 y9 y10) (gambitref05_Print.j2 (k + 1) y0 y1 y2 y3 y4 y5 y6 y7 y8 y9 y10))
 | 0 => ⟨fun _ _ _ _ _ _ _ _ _ _ _ _ _ r h => by simp [gambitref05_Print.j0] at h, fun _ _ _ _ _ _ _ _ _ _ _ _ r h => by simp [gambitref05_Print.j1] at h, fun _ _ _ _ _ _ _ _ _ _ _ r h => by simp [gambitref05_Print.j2] at h⟩
 | k + 1 => by
  obtain ⟨ih0, ih1, ih2⟩ := gambitref05_Print.mono_l k
  refine ⟨?_, ?_, ?_⟩
  ·intro y0 y1 y2 y3 y4 y5 y6 y7 y8 y9 y10 y11 y12
   unfold gambitref05_Print.j0
   repeat' first
   | (with_reducible exact ih0 _ _ _ _ _ _ _ _ _ _ _ _ _)
   | (with_reducible exact ih1 _ _ _ _ _ _ _ _ _ _ _ _)
   | (with_reducible exact ih2 _ _ _ _ _ _ _ _ _ _ _)
   | (with_reducible exact gambitref04_Name.mono _ _)
   | (with_reducible exact gambitref05_Check.mono _ _ _ _ _ _ _ _ _)
   | (with_reducible exact gambitref05_Digits.mono _ _)
   | (with_reducible exact gambitref05_Uses.mono _ _ _)
   | (with_reducible exact LeO.refl _)
   | (with_reducible exact LeO.none _)
   | (with_reducible refine LeO.ite ?_ ?_)
   | (with_reducible refine LeO.bind ?_ (fun _ => ?_))
   | exact ih0 _ _ _ _ _ _ _ _ _ _ _ _ _
   | exact ih1 _ _ _ _ _ _ _ _ _ _ _ _
   | exact ih2 _ _ _ _ _ _ _ _ _ _ _
   | exact gambitref04_Name.mono _ _
   | exact gambitref05_Check.mono _ _ _ _ _ _ _ _ _
   | exact gambitref05_Digits.mono _ _
   | exact gambitref05_Uses.mono _ _ _
   | exact LeO.none _
   | refine LeO.ite ?_ ?_
   | refine LeO.bind ?_ (fun _ => ?_)
  ·intro y0 y1 y2 y3 y4 y5 y6 y7 y8 y9 y10 y11
   unfold gambitref05_Print.j1
   repeat' first
   | (with_reducible exact ih0 _ _ _ _ _ _ _ _ _ _ _ _ _)
   | (with_reducible exact ih1 _ _ _ _ _ _ _ _ _ _ _ _)
   | (with_reducible exact ih2 _ _ _ _ _ _ _ _ _ _ _)
   | (with_reducible exact gambitref04_Name.mono _ _)
   | (with_reducible exact gambitref05_Check.mono _ _ _ _ _ _ _ _ _)
   | (with_reducible exact gambitref05_Digits.mono _ _)
   | (with_reducible exact gambitref05_Uses.mono _ _ _)
   | (with_reducible exact LeO.refl _)
   | (with_reducible exact LeO.none _)
   | (with_reducible refine LeO.ite ?_ ?_)
   | (with_reducible refine LeO.bind ?_ (fun _ => ?_))
   | exact ih0 _ _ _ _ _ _ _ _ _ _ _ _ _
   | exact ih1 _ _ _ _ _ _ _ _ _ _ _ _
   | exact ih2 _ _ _ _ _ _ _ _ _ _ _
   | exact gambitref04_Name.mono _ _
   | exact gambitref05_Check.mono _ _ _ _ _ _ _ _ _
   | exact gambitref05_Digits.mono _ _
   | exact gambitref05_Uses.mono _ _ _
   | exact LeO.none _
   | refine LeO.ite ?_ ?_
   | refine LeO.bind ?_ (fun _ => ?_)
  ·intro y0 y1 y2 y3 y4 y5 y6 y7 y8 y9 y10
   unfold gambitref05_Print.j2
   repeat' first
   | (with_reducible exact ih0 _ _ _ _ _ _ _ _ _ _ _ _ _)
   | (with_reducible exact ih1 _ _ _ _ _ _ _ _ _ _ _ _)
   | (with_reducible exact ih2 _ _ _ _ _ _ _ _ _ _ _)
   | (with_reducible exact gambitref04_Name.mono _ _)
   | (with_reducible exact gambitref05_Check.mono _ _ _ _ _ _ _ _ _)
   | (with_reducible exact gambitref05_Digits.mono _ _)
   | (with_reducible exact gambitref05_Uses.mono _ _ _)
   | (with_reducible exact LeO.refl _)
   | (with_reducible exact LeO.none _)
   | (with_reducible refine LeO.ite ?_ ?_)
   | (with_reducible refine LeO.bind ?_ (fun _ => ?_))
   | exact ih0 _ _ _ _ _ _ _ _ _ _ _ _ _
   | exact ih1 _ _ _ _ _ _ _ _ _ _ _ _
   | exact ih2 _ _ _ _ _ _ _ _ _ _ _
   | exact gambitref04_Name.mono _ _
   | exact gambitref05_Check.mono _ _ _ _ _ _ _ _ _
   | exact gambitref05_Digits.mono _ _
   | exact gambitref05_Uses.mono _ _ _
   | exact LeO.none _
   | refine LeO.ite ?_ ?_
   | refine LeO.bind ?_ (fun _ => ?_)
theorem gambitref05_Print.mono : ∀ a0 a1 a2 a3 a4 a5 a6 a7 k, LeO (gambitref05_Print.f k a0 a1 a2 a3 a4 a5 a6 a7) (gambitref05_Print.f (k + 1) a0 a1 a2 a3 a4 a5 a6 a7) := by
 intro a0 a1 a2 a3 a4 a5 a6 a7 k
 obtain ⟨ih0, ih1, ih2⟩ := gambitref05_Print.mono_l k
 unfold gambitref05_Print.f
 repeat' first
   | (with_reducible exact ih0 _ _ _ _ _ _ _ _ _ _ _ _ _)
   | (with_reducible exact ih1 _ _ _ _ _ _ _ _ _ _ _ _)
   | (with_reducible exact ih2 _ _ _ _ _ _ _ _ _ _ _)
   | (with_reducible exact gambitref04_Name.mono _ _)
   | (with_reducible exact gambitref05_Check.mono _ _ _ _ _ _ _ _ _)
   | (with_reducible exact gambitref05_Digits.mono _ _)
   | (with_reducible exact gambitref05_Uses.mono _ _ _)
   | (with_reducible exact LeO.refl _)
   | (with_reducible exact LeO.none _)
   | (with_reducible refine LeO.ite ?_ ?_)
   | (with_reducible refine LeO.bind ?_ (fun _ => ?_))
   | exact ih0 _ _ _ _ _ _ _ _ _ _ _ _ _
   | exact ih1 _ _ _ _ _ _ _ _ _ _ _ _
   | exact ih2 _ _ _ _ _ _ _ _ _ _ _
   | exact gambitref04_Name.mono _ _
   | exact gambitref05_Check.mono _ _ _ _ _ _ _ _ _
   | exact gambitref05_Digits.mono _ _
   | exact gambitref05_Uses.mono _ _ _
   | exact LeO.none _
   | refine LeO.ite ?_ ?_
   | refine LeO.bind ?_ (fun _ => ?_)
def gambitref05_place.l0 : Nat → List ByteArray → ByteArray → Int → Option (Int)
 | 0, _, _, _ => none
 | k + 1, x0, x1, x5 => if x5 < (x0.length : Int) then (if 0 ≤ x5 then (if (rdOf ByteArray.empty x0 x5).toList = x1.toList then (some (wrap64 (x5 + 1))) else (gambitref05_place.l0 k x0 x1 (wrap64 (x5 + 1)))) else (none)) else (some 0)
def gambitref05_place.f (k : Nat) (l0 : List ByteArray) (a1 : ByteArray) : Option (Int) := gambitref05_place.l0 k l0 a1 0
theorem gambitref05_place.mono_l : ∀ k, (∀ y0 y1 y2, LeO (gambitref05_place.l0 k y0 y1 y2) (gambitref05_place.l0 (k + 1) y0 y1 y2))
 | 0 => fun _ _ _ r h => by simp [gambitref05_place.l0] at h
 | k + 1 => by
  have ih0 := gambitref05_place.mono_l k
  ·intro y0 y1 y2
   unfold gambitref05_place.l0
   repeat' first
   | (with_reducible exact ih0 _ _ _)
   | (with_reducible exact LeO.refl _)
   | (with_reducible exact LeO.none _)
   | (with_reducible refine LeO.ite ?_ ?_)
   | (with_reducible refine LeO.bind ?_ (fun _ => ?_))
   | exact ih0 _ _ _
   | exact LeO.none _
   | refine LeO.ite ?_ ?_
   | refine LeO.bind ?_ (fun _ => ?_)
theorem gambitref05_place.mono : ∀ a0 a1 k, LeO (gambitref05_place.f k a0 a1) (gambitref05_place.f (k + 1) a0 a1) := by
 intro a0 a1 k
 have ih0 := gambitref05_place.mono_l k
 unfold gambitref05_place.f
 repeat' first
   | (with_reducible exact ih0 _ _ _)
   | (with_reducible exact LeO.refl _)
   | (with_reducible exact LeO.none _)
   | (with_reducible refine LeO.ite ?_ ?_)
   | (with_reducible refine LeO.bind ?_ (fun _ => ?_))
   | exact ih0 _ _ _
   | exact LeO.none _
   | refine LeO.ite ?_ ?_
   | refine LeO.bind ?_ (fun _ => ?_)
mutual
def gambitref05_number.j0 : Nat → ByteArray → Int → Bool → Option (Int)
 | 0, _, _, _ => none
 | k + 1, x0, x3, x4 => gambitref05_number.l0 k x0 x3 x4 0
def gambitref05_number.l0 : Nat → ByteArray → Int → Bool → Int → Option (Int)
 | 0, _, _, _, _ => none
 | k + 1, x0, x3, x4, x5 => if x5 < (x0.size : Int) then (gambitref05_number.j2 k x0 x3 x4 x5 (decide (x5 < 3))) else (gambitref05_number.j2 k x0 x3 x4 x5 false)
def gambitref05_number.j2 : Nat → ByteArray → Int → Bool → Int → Bool → Option (Int)
 | 0, _, _, _, _, _ => none
 | k + 1, x0, x3, x4, x5, x21 => if x21 = true then (if 0 ≤ x5 then (if x5 < (x0.size : Int) then (if (bt x0 x5) ≥ 48 then (if (bt x0 x5) ≤ 57 then (gambitref05_number.l0 k x0 (wrap64 ((wrap64 (10 * x3)) + (((bt x0 x5) - 48) % 256))) x4 (wrap64 (x5 + 1))) else (gambitref05_number.l0 k x0 x3 x4 (wrap64 (x5 + 1)))) else (gambitref05_number.l0 k x0 x3 x4 (wrap64 (x5 + 1)))) else (none)) else (none)) else (if x4 = true then (some (wrap64 (-x3))) else (some x3))
end
def gambitref05_number.f (k : Nat) (a0 : ByteArray) : Option (Int) := if (a0.size : Int) > 0 then (if 0 < (a0.size : Int) then (gambitref05_number.j0 k a0 0 ((bt a0 0) == 45)) else (none)) else (gambitref05_number.j0 k a0 0 false)
theorem gambitref05_number.mono_l : ∀ k, (∀ y0 y1 y2, LeO (gambitref05_number.j0 k y0 y1 y2) (gambitref05_number.j0 (k + 1) y0 y1 y2)) ∧ (∀ y0 y1 y2 y3, LeO (gambitref05_number.l0 k y0 y1 y2 y3) (gambitref05_number.l0 (k + 1) y0 y1 y2 y3)) ∧ (∀ y0 y1 y2 y3 y4, LeO (gambitref05_number.j2 k y0 y1 y2 y3 y4) (gambitref05_number.j2 (k + 1) y0 y1 y2 y3 y4))
 | 0 => ⟨fun _ _ _ r h => by simp [gambitref05_number.j0] at h, fun _ _ _ _ r h => by simp [gambitref05_number.l0] at h, fun _ _ _ _ _ r h => by simp [gambitref05_number.j2] at h⟩
 | k + 1 => by
  obtain ⟨ih0, ih1, ih2⟩ := gambitref05_number.mono_l k
  refine ⟨?_, ?_, ?_⟩
  ·intro y0 y1 y2
   unfold gambitref05_number.j0
   repeat' first
   | (with_reducible exact ih0 _ _ _)
   | (with_reducible exact ih1 _ _ _ _)
   | (with_reducible exact ih2 _ _ _ _ _)
   | (with_reducible exact LeO.refl _)
   | (with_reducible exact LeO.none _)
   | (with_reducible refine LeO.ite ?_ ?_)
   | (with_reducible refine LeO.bind ?_ (fun _ => ?_))
   | exact ih0 _ _ _
   | exact ih1 _ _ _ _
   | exact ih2 _ _ _ _ _
   | exact LeO.none _
   | refine LeO.ite ?_ ?_
   | refine LeO.bind ?_ (fun _ => ?_)
  ·intro y0 y1 y2 y3
   unfold gambitref05_number.l0
   repeat' first
   | (with_reducible exact ih0 _ _ _)
   | (with_reducible exact ih1 _ _ _ _)
   | (with_reducible exact ih2 _ _ _ _ _)
   | (with_reducible exact LeO.refl _)
   | (with_reducible exact LeO.none _)
   | (with_reducible refine LeO.ite ?_ ?_)
   | (with_reducible refine LeO.bind ?_ (fun _ => ?_))
   | exact ih0 _ _ _
   | exact ih1 _ _ _ _
   | exact ih2 _ _ _ _ _
   | exact LeO.none _
   | refine LeO.ite ?_ ?_
   | refine LeO.bind ?_ (fun _ => ?_)
  ·intro y0 y1 y2 y3 y4
   unfold gambitref05_number.j2
   repeat' first
   | (with_reducible exact ih0 _ _ _)
   | (with_reducible exact ih1 _ _ _ _)
   | (with_reducible exact ih2 _ _ _ _ _)
   | (with_reducible exact LeO.refl _)
   | (with_reducible exact LeO.none _)
   | (with_reducible refine LeO.ite ?_ ?_)
   | (with_reducible refine LeO.bind ?_ (fun _ => ?_))
   | exact ih0 _ _ _
   | exact ih1 _ _ _ _
   | exact ih2 _ _ _ _ _
   | exact LeO.none _
   | refine LeO.ite ?_ ?_
   | refine LeO.bind ?_ (fun _ => ?_)
theorem gambitref05_number.mono : ∀ a0 k, LeO (gambitref05_number.f k a0) (gambitref05_number.f (k + 1) a0) := by
 intro a0 k
 obtain ⟨ih0, ih1, ih2⟩ := gambitref05_number.mono_l k
 unfold gambitref05_number.f
 repeat' first
   | (with_reducible exact ih0 _ _ _)
   | (with_reducible exact ih1 _ _ _ _)
   | (with_reducible exact ih2 _ _ _ _ _)
   | (with_reducible exact LeO.refl _)
   | (with_reducible exact LeO.none _)
   | (with_reducible refine LeO.ite ?_ ?_)
   | (with_reducible refine LeO.bind ?_ (fun _ => ?_))
   | exact ih0 _ _ _
   | exact ih1 _ _ _ _
   | exact ih2 _ _ _ _ _
   | exact LeO.none _
   | refine LeO.ite ?_ ?_
   | refine LeO.bind ?_ (fun _ => ?_)
def gambitref03_Of.l0 : Nat → ByteArray → Int → Option (Int × Bool)
 | 0, _, _ => none
 | k + 1, x0, x4 => if x4 ≤ 6 then ((gambitref03_Name.f x4).bind fun t173 => (if t173.toList = x0.toList then (some (x4, true)) else (gambitref03_Of.l0 k x0 ((x4 + 1) % 256)))) else (some (0, false))
def gambitref03_Of.f (k : Nat) (a0 : ByteArray) : Option (Int × Bool) := gambitref03_Of.l0 k a0 1
theorem gambitref03_Of.mono_l : ∀ k, (∀ y0 y1, LeO (gambitref03_Of.l0 k y0 y1) (gambitref03_Of.l0 (k + 1) y0 y1))
 | 0 => fun _ _ r h => by simp [gambitref03_Of.l0] at h
 | k + 1 => by
  have ih0 := gambitref03_Of.mono_l k
  ·intro y0 y1
   unfold gambitref03_Of.l0
   repeat' first
   | (with_reducible exact ih0 _ _)
   | (with_reducible exact LeO.refl _)
   | (with_reducible exact LeO.none _)
   | (with_reducible refine LeO.ite ?_ ?_)
   | (with_reducible refine LeO.bind ?_ (fun _ => ?_))
   | exact ih0 _ _
   | exact LeO.none _
   | refine LeO.ite ?_ ?_
   | refine LeO.bind ?_ (fun _ => ?_)
theorem gambitref03_Of.mono : ∀ a0 k, LeO (gambitref03_Of.f k a0) (gambitref03_Of.f (k + 1) a0) := by
 intro a0 k
 have ih0 := gambitref03_Of.mono_l k
 unfold gambitref03_Of.f
 repeat' first
   | (with_reducible exact ih0 _ _)
   | (with_reducible exact LeO.refl _)
   | (with_reducible exact LeO.none _)
   | (with_reducible refine LeO.ite ?_ ?_)
   | (with_reducible refine LeO.bind ?_ (fun _ => ?_))
   | exact ih0 _ _
   | exact LeO.none _
   | refine LeO.ite ?_ ?_
   | refine LeO.bind ?_ (fun _ => ?_)
def gambitref04_Of.l0 : Nat → ByteArray → List (S116) → Int → Option (Int × Bool)
 | 0, _, _, _ => none
 | k + 1, x0, x4, x5 => if x5 < (x4.length : Int) then (if 0 ≤ x5 then (if ((rd_T116 x4 x5).f1).toList = x0.toList then (some ((rd_T116 x4 x5).f0, true)) else (gambitref04_Of.l0 k x0 x4 (wrap64 (x5 + 1)))) else (none)) else (some (0, false))
def gambitref04_Of.f (k : Nat) (a0 : ByteArray) : Option (Int × Bool) := (gambitref04_Rows.f).bind fun t174 => (gambitref04_Of.l0 k a0 t174 0)
theorem gambitref04_Of.mono_l : ∀ k, (∀ y0 y1 y2, LeO (gambitref04_Of.l0 k y0 y1 y2) (gambitref04_Of.l0 (k + 1) y0 y1 y2))
 | 0 => fun _ _ _ r h => by simp [gambitref04_Of.l0] at h
 | k + 1 => by
  have ih0 := gambitref04_Of.mono_l k
  ·intro y0 y1 y2
   unfold gambitref04_Of.l0
   repeat' first
   | (with_reducible exact ih0 _ _ _)
   | (with_reducible exact LeO.refl _)
   | (with_reducible exact LeO.none _)
   | (with_reducible refine LeO.ite ?_ ?_)
   | (with_reducible refine LeO.bind ?_ (fun _ => ?_))
   | exact ih0 _ _ _
   | exact LeO.none _
   | refine LeO.ite ?_ ?_
   | refine LeO.bind ?_ (fun _ => ?_)
theorem gambitref04_Of.mono : ∀ a0 k, LeO (gambitref04_Of.f k a0) (gambitref04_Of.f (k + 1) a0) := by
 intro a0 k
 have ih0 := gambitref04_Of.mono_l k
 unfold gambitref04_Of.f
 repeat' first
   | (with_reducible exact ih0 _ _ _)
   | (with_reducible exact LeO.refl _)
   | (with_reducible exact LeO.none _)
   | (with_reducible refine LeO.ite ?_ ?_)
   | (with_reducible refine LeO.bind ?_ (fun _ => ?_))
   | exact ih0 _ _ _
   | exact LeO.none _
   | refine LeO.ite ?_ ?_
   | refine LeO.bind ?_ (fun _ => ?_)
mutual
def gambitref05_read.l0 : Nat → List ByteArray → Int → Int → Int → Int → Int → Int → Int → Int → Int → ByteArray → Bool → Bool → Bool → Bool → Bool → Option (Int × Int × Int × Int × Int × Int × Int × ByteArray)
 | 0, _, _, _, _, _, _, _, _, _, _, _, _, _, _, _, _ => none
 | k + 1, x0, x5, x6, x181000, x181001, x181002, x181003, x181004, x181005, x181006, x181007, x197000, x197001, x197002, x197003, x197004 => if x6 < 5 then (gambitref05_read.j1 k x0 x5 x6 (decide (x5 < (x0.length : Int))) x181000 x181001 x181002 x181003 x181004 x181005 x181006 x181007 x197000 x197001 x197002 x197003 x197004) else (gambitref05_read.j1 k x0 x5 x6 false x181000 x181001 x181002 x181003 x181004 x181005 x181006 x181007 x197000 x197001 x197002 x197003 x197004)
def gambitref05_read.j1 : Nat → List ByteArray → Int → Int → Bool → Int → Int → Int → Int → Int → Int → Int → ByteArray → Bool → Bool → Bool → Bool → Bool → Option (Int × Int × Int × Int × Int × Int × Int × ByteArray)
 | 0, _, _, _, _, _, _, _, _, _, _, _, _, _, _, _, _, _ => none
 | k + 1, x0, x5, x6, x57, x181000, x181001, x181002, x181003, x181004, x181005, x181006, x181007, x197000, x197001, x197002, x197003, x197004 => if x57 = true then (if x6 = 0 then (if x197000 = true then (if 0 ≤ x5 then (if x5 < (x0.length : Int) then ((gambitref05_number.f k (rdOf ByteArray.empty x0 x5)).bind fun t203 => (gambitref05_read.l0 k x0 (wrap64 (x5 + 1)) (wrap64 (x6 + 1)) x181000 x181001 x181002 t203 x181004 x181005 x181006 x181007 x197000 x197001 x197002 x197003 x197004)) else (none)) else (none)) else (gambitref05_read.l0 k x0 x5 (wrap64 (x6 + 1)) x181000 x181001 x181002 x181003 x181004 x181005 x181006 x181007 x197000 x197001 x197002 x197003 x197004)) else (if x6 = 1 then (if x197001 = true then (if 0 ≤ x5 then (if x5 < (x0.length : Int) then ((gambitref03_Of.f k (rdOf ByteArray.empty x0 x5)).bind fun bt205 => (gambitref05_read.l0 k x0 (wrap64 (x5 + 1)) (wrap64 (x6 + 1)) x181000 x181001 x181002 x181003 bt205.1 x181005 x181006 x181007 x197000 x197001 x197002 x197003 x197004)) else (none)) else (none)) else (gambitref05_read.l0 k x0 x5 (wrap64 (x6 + 1)) x181000 x181001 x181002 x181003 x181004 x181005 x181006 x181007 x197000 x197001 x197002 x197003 x197004)) else (if x6 = 2 then (if x197002 = true then (if 0 ≤ x5 then (if x5 < (x0.length : Int) then ((gambitref04_Of.f k (rdOf ByteArray.empty x0 x5)).bind fun bt208 => (gambitref05_read.l0 k x0 (wrap64 (x5 + 1)) (wrap64 (x6 + 1)) x181000 x181001 x181002 x181003 x181004 bt208.1 x181006 x181007 x197000 x197001 x197002 x197003 x197004)) else (none)) else (none)) else (gambitref05_read.l0 k x0 x5 (wrap64 (x6 + 1)) x181000 x181001 x181002 x181003 x181004 x181005 x181006 x181007 x197000 x197001 x197002 x197003 x197004)) else (if x6 = 3 then (if x197003 = true then (if 0 ≤ x5 then (if x5 < (x0.length : Int) then ((gambitref05_number.f k (rdOf ByteArray.empty x0 x5)).bind fun t211 => (gambitref05_read.l0 k x0 (wrap64 (x5 + 1)) (wrap64 (x6 + 1)) x181000 x181001 x181002 x181003 x181004 x181005 ((Int.tmod t211 200) % 256) x181007 x197000 x197001 x197002 x197003 x197004)) else (none)) else (none)) else (gambitref05_read.l0 k x0 x5 (wrap64 (x6 + 1)) x181000 x181001 x181002 x181003 x181004 x181005 x181006 x181007 x197000 x197001 x197002 x197003 x197004)) else (if x6 = 4 then (if x197004 = true then (if 0 ≤ x5 then (if x5 < (x0.length : Int) then (gambitref05_read.l0 k x0 (wrap64 (x5 + 1)) (wrap64 (x6 + 1)) x181000 x181001 x181002 x181003 x181004 x181005 x181006 (rdOf ByteArray.empty x0 x5) x197000 x197001 x197002 x197003 x197004) else (none)) else (none)) else (gambitref05_read.l0 k x0 x5 (wrap64 (x6 + 1)) x181000 x181001 x181002 x181003 x181004 x181005 x181006 x181007 x197000 x197001 x197002 x197003 x197004)) else (none)))))) else (some (x181000, x181001, x181002, x181003, x181004, x181005, x181006, x181007))
end
def gambitref05_read.f (k : Nat) (l0 : List ByteArray) : Option (Int × Int × Int × Int × Int × Int × Int × ByteArray) := if (l0.length : Int) < 3 then (some (0, 0, 0, 0, 0, 0, 0, (⟨#[]⟩ : ByteArray))) else ((gambitref05_whens.f).bind fun t181 => (if 0 < (l0.length : Int) then ((gambitref05_place.f k t181 (rdOf ByteArray.empty l0 0)).bind fun t185 => ((gambitref05_verbs.f).bind fun t186 => (if 1 < (l0.length : Int) then ((gambitref05_place.f k t186 (rdOf ByteArray.empty l0 1)).bind fun t190 => ((gambitref05_whoms.f).bind fun t191 => (if 2 < (l0.length : Int) then ((gambitref05_place.f k t191 (rdOf ByteArray.empty l0 2)).bind fun t195 => ((gambitref05_Uses.f k ((t190) % 256) ((t195) % 256)).bind fun bt197 => (gambitref05_read.l0 k l0 3 0 ((t185) % 256) ((t190) % 256) ((t195) % 256) 0 0 0 0 (⟨#[]⟩ : ByteArray) bt197.1 bt197.2.1 bt197.2.2.1 bt197.2.2.2.1 bt197.2.2.2.2))) else (none)))) else (none)))) else (none)))
theorem gambitref05_read.mono_l : ∀ k, (∀ y0 y1 y2 y3 y4 y5 y6 y7 y8 y9 y10 y11 y12 y13 y14 y15, LeO (gambitref05_read.l0 k y0 y1 y2 y3 y4 y5 y6 y7 y8 y9 y10 y11 y12 y13 y14 y15) (gambitref05_read.l0 (k + 1) y0 y1 y2 y3 y4 y5 y6 y7 y8 y9 y10 y11 y12 y13 y14 y15)) ∧ (∀ y0 y1 y2 y3 y4 y5 y6 y7 y8 y9 y10 y11 y12 y13 y14 y15 y16, LeO (gambitref05_read.j1 k y0 y1 y2 y3 y4 y5 y6 y7 y8 y9 y10 y11 y12 y13 y14 y15 y16) (gambitref05_read.j1 (k + 1) y0 y1 y2 y3 y4 y5 y6 y7 y8 y9 y10 y11 y12 y13 y14 y15 y16))
 | 0 => ⟨fun _ _ _ _ _ _ _ _ _ _ _ _ _ _ _ _ r h => by simp [gambitref05_read.l0] at h, fun _ _ _ _ _ _ _ _ _ _ _ _ _ _ _ _ _ r h => by simp [gambitref05_read.j1] at h⟩
 | k + 1 => by
  obtain ⟨ih0, ih1⟩ := gambitref05_read.mono_l k
  refine ⟨?_, ?_⟩
  ·intro y0 y1 y2 y3 y4 y5 y6 y7 y8 y9 y10 y11 y12 y13 y14 y15
   unfold gambitref05_read.l0
   repeat' first
   | (with_reducible exact ih0 _ _ _ _ _ _ _ _ _ _ _ _ _ _ _ _)
   | (with_reducible exact ih1 _ _ _ _ _ _ _ _ _ _ _ _ _ _ _ _ _)
   | (with_reducible exact gambitref03_Of.mono _ _)
   | (with_reducible exact gambitref04_Of.mono _ _)
   | (with_reducible exact gambitref05_Uses.mono _ _ _)
   | (with_reducible exact gambitref05_number.mono _ _)
   | (with_reducible exact gambitref05_place.mono _ _ _)
   | (with_reducible exact LeO.refl _)
   | (with_reducible exact LeO.none _)
   | (with_reducible refine LeO.ite ?_ ?_)
   | (with_reducible refine LeO.bind ?_ (fun _ => ?_))
   | exact ih0 _ _ _ _ _ _ _ _ _ _ _ _ _ _ _ _
   | exact ih1 _ _ _ _ _ _ _ _ _ _ _ _ _ _ _ _ _
   | exact gambitref03_Of.mono _ _
   | exact gambitref04_Of.mono _ _
   | exact gambitref05_Uses.mono _ _ _
   | exact gambitref05_number.mono _ _
   | exact gambitref05_place.mono _ _ _
   | exact LeO.none _
   | refine LeO.ite ?_ ?_
   | refine LeO.bind ?_ (fun _ => ?_)
  ·intro y0 y1 y2 y3 y4 y5 y6 y7 y8 y9 y10 y11 y12 y13 y14 y15 y16
   unfold gambitref05_read.j1
   repeat' first
   | (with_reducible exact ih0 _ _ _ _ _ _ _ _ _ _ _ _ _ _ _ _)
   | (with_reducible exact ih1 _ _ _ _ _ _ _ _ _ _ _ _ _ _ _ _ _)
   | (with_reducible exact gambitref03_Of.mono _ _)
   | (with_reducible exact gambitref04_Of.mono _ _)
   | (with_reducible exact gambitref05_Uses.mono _ _ _)
   | (with_reducible exact gambitref05_number.mono _ _)
   | (with_reducible exact gambitref05_place.mono _ _ _)
   | (with_reducible exact LeO.refl _)
   | (with_reducible exact LeO.none _)
   | (with_reducible refine LeO.ite ?_ ?_)
   | (with_reducible refine LeO.bind ?_ (fun _ => ?_))
   | exact ih0 _ _ _ _ _ _ _ _ _ _ _ _ _ _ _ _
   | exact ih1 _ _ _ _ _ _ _ _ _ _ _ _ _ _ _ _ _
   | exact gambitref03_Of.mono _ _
   | exact gambitref04_Of.mono _ _
   | exact gambitref05_Uses.mono _ _ _
   | exact gambitref05_number.mono _ _
   | exact gambitref05_place.mono _ _ _
   | exact LeO.none _
   | refine LeO.ite ?_ ?_
   | refine LeO.bind ?_ (fun _ => ?_)
theorem gambitref05_read.mono : ∀ a0 k, LeO (gambitref05_read.f k a0) (gambitref05_read.f (k + 1) a0) := by
 intro a0 k
 obtain ⟨ih0, ih1⟩ := gambitref05_read.mono_l k
 unfold gambitref05_read.f
 repeat' first
   | (with_reducible exact ih0 _ _ _ _ _ _ _ _ _ _ _ _ _ _ _ _)
   | (with_reducible exact ih1 _ _ _ _ _ _ _ _ _ _ _ _ _ _ _ _ _)
   | (with_reducible exact gambitref03_Of.mono _ _)
   | (with_reducible exact gambitref04_Of.mono _ _)
   | (with_reducible exact gambitref05_Uses.mono _ _ _)
   | (with_reducible exact gambitref05_number.mono _ _)
   | (with_reducible exact gambitref05_place.mono _ _ _)
   | (with_reducible exact LeO.refl _)
   | (with_reducible exact LeO.none _)
   | (with_reducible refine LeO.ite ?_ ?_)
   | (with_reducible refine LeO.bind ?_ (fun _ => ?_))
   | exact ih0 _ _ _ _ _ _ _ _ _ _ _ _ _ _ _ _
   | exact ih1 _ _ _ _ _ _ _ _ _ _ _ _ _ _ _ _ _
   | exact gambitref03_Of.mono _ _
   | exact gambitref04_Of.mono _ _
   | exact gambitref05_Uses.mono _ _ _
   | exact gambitref05_number.mono _ _
   | exact gambitref05_place.mono _ _ _
   | exact LeO.none _
   | refine LeO.ite ?_ ?_
   | refine LeO.bind ?_ (fun _ => ?_)
def gambitref05_Parse.f (k : Nat) (a0 : ByteArray) : Option (Int × Int × Int × Int × Int × Int × Int × ByteArray × Int) := if (a0.size : Int) > 80 then (some (0, 0, 0, 0, 0, 0, 0, (⟨#[]⟩ : ByteArray), 3)) else ((gambitref05_Cut.f k a0).bind fun t220 => ((gambitref05_read.f k t220).bind fun bt223 => ((gambitref05_Print.f k bt223.1 bt223.2.1 bt223.2.2.1 bt223.2.2.2.1 bt223.2.2.2.2.1 bt223.2.2.2.2.2.1 bt223.2.2.2.2.2.2.1 bt223.2.2.2.2.2.2.2).bind fun bt232 => (if bt232.2 = 0 then (if bt232.1.toList = a0.toList then (some (bt223.1, bt223.2.1, bt223.2.2.1, bt223.2.2.2.1, bt223.2.2.2.2.1, bt223.2.2.2.2.2.1, bt223.2.2.2.2.2.2.1, bt223.2.2.2.2.2.2.2, 0)) else (some (0, 0, 0, 0, 0, 0, 0, (⟨#[]⟩ : ByteArray), 150))) else (some (0, 0, 0, 0, 0, 0, 0, (⟨#[]⟩ : ByteArray), 150))))))
theorem gambitref05_Parse.mono : ∀ a0 k, LeO (gambitref05_Parse.f k a0) (gambitref05_Parse.f (k + 1) a0) := by
 intro a0 k
 unfold gambitref05_Parse.f
 repeat' first
   | (with_reducible exact gambitref05_Cut.mono _ _)
   | (with_reducible exact gambitref05_Print.mono _ _ _ _ _ _ _ _ _)
   | (with_reducible exact gambitref05_read.mono _ _)
   | (with_reducible exact LeO.refl _)
   | (with_reducible exact LeO.none _)
   | (with_reducible refine LeO.ite ?_ ?_)
   | (with_reducible refine LeO.bind ?_ (fun _ => ?_))
   | exact gambitref05_Cut.mono _ _
   | exact gambitref05_Print.mono _ _ _ _ _ _ _ _ _
   | exact gambitref05_read.mono _ _
   | exact LeO.none _
   | refine LeO.ite ?_ ?_
   | refine LeO.bind ?_ (fun _ => ?_)
theorem eqA48 (d : Nat) (w : World) (x0 y0 : Int) (x1 y1 : Int) (x2 y2 : Int) (x3 y3 : Int) (x4 y4 : Int) (x5 y5 : Int) (x6 y6 : Int) (x7 y7 : ByteArray) :
  (Op.equalIn (d + 2) 48 (.agg #[.int .u8 x0, .int .u8 x1, .int .u8 x2, .int .i64 x3, .int .u8 x4, .int .u8 x5, .int .u8 x6, .string x7]) (.agg #[.int .u8 y0, .int .u8 y1, .int .u8 y2, .int .i64 y3, .int .u8 y4, .int .u8 y5, .int .u8 y6, .string y7])).run Tryz.prog w = .ok (x0 == y0 && (x1 == y1 && (x2 == y2 && (x3 == y3 && (x4 == y4 && (x5 == y5 && (x6 == y6 && (x7.toList == y7.toList)))))))) w := by
 refine eqA_of Tryz.underlying48 (by kernel_rfl) ?_
 refine eqf_cons (by rfl) (by go_simp; rfl) (by go_simp; rfl) (by go_simp) ?_
 refine eqf_cons (by rfl) (by go_simp; rfl) (by go_simp; rfl) (by go_simp) ?_
 refine eqf_cons (by rfl) (by go_simp; rfl) (by go_simp; rfl) (by go_simp) ?_
 refine eqf_cons (by rfl) (by go_simp; rfl) (by go_simp; rfl) (by go_simp) ?_
 refine eqf_cons (by rfl) (by go_simp; rfl) (by go_simp; rfl) (by go_simp) ?_
 refine eqf_cons (by rfl) (by go_simp; rfl) (by go_simp; rfl) (by go_simp) ?_
 refine eqf_cons (by rfl) (by go_simp; rfl) (by go_simp; rfl) (by go_simp) ?_
 exact eqf_last (by rfl) (by go_simp; rfl) (by go_simp; rfl) (by go_simp)
def card_word.f (a0 : Int) : Option (ByteArray) := if a0 = 1 then (some (⟨#[117, 110, 105, 116]⟩ : ByteArray)) else (if a0 = 2 then (some (⟨#[115, 112, 101, 108, 108]⟩ : ByteArray)) else (if a0 = 3 then (some (⟨#[114, 101, 108, 105, 99]⟩ : ByteArray)) else (some (⟨#[]⟩ : ByteArray))))
set_option maxHeartbeats 8000000 in
set_option maxRecDepth 100000 in
theorem card_word.calls (a0 : Int) (r : ByteArray) (w : World) (h : card_word.f a0 = some r) :
  Calls Tryz.prog 31 #[.int .u8 a0] w fun e w' => e = .returned (.string r) ∧ Drawn0 w w' := by
 have H : (if a0 = 1 then (some (⟨#[117, 110, 105, 116]⟩ : ByteArray)) else (if a0 = 2 then (some (⟨#[115, 112, 101, 108, 108]⟩ : ByteArray)) else (if a0 = 3 then (some (⟨#[114, 101, 108, 105, 99]⟩ : ByteArray)) else (some (⟨#[]⟩ : ByteArray))))) = some r := h
 clear h
 by_cases c2 : a0 = 1
 ·rw [if_pos c2] at H
  have c2b0 : (a0 == 1) = true := beq_iff_eq.mpr c2
  have c2b1 : (a0 != 1) = false := bne_eq_false_iff_eq.mpr c2
  clear c2
  obtain rfl := Option.some.inj H
  go_enter Tryz.func31, Tryz.ntmps31
  go_wp2
  go_ret
  exact ⟨Zt, Zd⟩
 ·rw [if_neg c2] at H
  have c2b0 : (a0 == 1) = false := beq_eq_false_iff_ne.mpr c2
  have c2b1 : (a0 != 1) = true := bne_iff_ne.mpr c2
  by_cases c3 : a0 = 2
  ·rw [if_pos c3] at H
   have c3b0 : (a0 == 2) = true := beq_iff_eq.mpr c3
   have c3b1 : (a0 != 2) = false := bne_eq_false_iff_eq.mpr c3
   clear c3
   obtain rfl := Option.some.inj H
   go_enter Tryz.func31, Tryz.ntmps31
   go_wp2
   go_ret
   exact ⟨Zt, Zd⟩
  ·rw [if_neg c3] at H
   have c3b0 : (a0 == 2) = false := beq_eq_false_iff_ne.mpr c3
   have c3b1 : (a0 != 2) = true := bne_iff_ne.mpr c3
   by_cases c4 : a0 = 3
   ·rw [if_pos c4] at H
    have c4b0 : (a0 == 3) = true := beq_iff_eq.mpr c4
    have c4b1 : (a0 != 3) = false := bne_eq_false_iff_eq.mpr c4
    clear c4
    obtain rfl := Option.some.inj H
    go_enter Tryz.func31, Tryz.ntmps31
    go_wp2
    go_ret
    exact ⟨Zt, Zd⟩
   ·rw [if_neg c4] at H
    have c4b0 : (a0 == 3) = false := beq_eq_false_iff_ne.mpr c4
    have c4b1 : (a0 != 3) = true := bne_iff_ne.mpr c4
    obtain rfl := Option.some.inj H
    go_enter Tryz.func31, Tryz.ntmps31
    go_wp2
    go_ret
    exact ⟨Zt, Zd⟩
def card_within.f (a0 : Int) (a1 : Int) : Option (Bool) := if a0 ≥ 0 then (some (decide (a0 ≤ a1))) else (some false)
set_option maxHeartbeats 8000000 in
set_option maxRecDepth 100000 in
theorem card_within.calls (a0 : Int) (a1 : Int) (r : Bool) (w : World) (h : card_within.f a0 a1 = some r) :
  Calls Tryz.prog 75 #[.int .i64 a0, .int .i64 a1] w fun e w' => e = .returned (.bool r) ∧ Drawn0 w w' := by
 have H : (if a0 ≥ 0 then (some (decide (a0 ≤ a1))) else (some false)) = some r := h
 clear h
 by_cases c3 : a0 ≥ 0
 ·rw [if_pos c3] at H
  have c3b0 : decide (0 ≤ a0) = true := decide_eq_true c3
  clear c3
  obtain rfl := Option.some.inj H
  go_enter Tryz.func75, Tryz.ntmps75
  go_wp2
  go_ret
  exact ⟨Zt, Zd⟩
 ·rw [if_neg c3] at H
  have c3b0 : decide (0 ≤ a0) = false := decide_eq_false c3
  clear c3
  obtain rfl := Option.some.inj H
  go_enter Tryz.func75, Tryz.ntmps75
  go_wp2
  go_ret
  exact ⟨Zt, Zd⟩
def trait_Check.f (a0 : Int) : Option (Bool) := some ((a0 / 256) == 0)
set_option maxHeartbeats 8000000 in
set_option maxRecDepth 100000 in
theorem trait_Check.calls (a0 : Int) (r : Bool) (w : World) (h : trait_Check.f a0 = some r) :
  Calls Tryz.prog 76 #[.int .u16 a0] w fun e w' => e = .returned (.bool r) ∧ Drawn0 w w' := by
 have H : (some ((a0 / 256) == 0)) = some r := h
 clear h
 obtain rfl := Option.some.inj H
 go_enter Tryz.func76, Tryz.ntmps76
 go_wp2
 go_ret
 exact ⟨Zt, Zd⟩
end Go.Proofs.YtfpcideomanbbaaGreatDoor.PA
end
section
namespace Go.Proofs.YtfpcideomanbbaaGreatDoor
open Go.RowKit Go.Proofs.YtfpcideomanbbaaGreatDoorW.PrintWords Go.Proofs.YtfpcideomanbbaaGreatDoorW.PrintLast Go.Proofs.YtfpcideomanbbaaGreatDoorW.PrintMore
theorem shift_shl_any (k yk : IntKind) (x y : Int) (h₀ : 0 ≤ y) : Op.shift .shl k x yk y = pure (.int k (shl k x y)) := by
  simp [Op.shift, shl]
  omega
end Go.Proofs.YtfpcideomanbbaaGreatDoor
end
section
namespace Go.Proofs.YtfpcideomanbbaaGreatDoor.PA
open Go.RowKit Go.Proofs.YtfpcideomanbbaaGreatDoorW.PrintWords Go.Proofs.YtfpcideomanbbaaGreatDoorW.PrintLast Go.Proofs.YtfpcideomanbbaaGreatDoorW.PrintMore
attribute [local go_sem] max2_int min2_int max_two min_two max_three min_three max_four min_four
set_option linter.unusedVariables false
set_option linter.unusedSimpArgs false
def trait_is.f (a0 : Int) : Option (Bool) := if a0 ≥ 1 then (some (decide (a0 ≤ 8))) else (some false)
set_option maxHeartbeats 8000000 in
set_option maxRecDepth 100000 in
theorem trait_is.calls (a0 : Int) (r : Bool) (w : World) (h : trait_is.f a0 = some r) :
  Calls Tryz.prog 79 #[.int .u8 a0] w fun e w' => e = .returned (.bool r) ∧ Drawn0 w w' := by
 have H : (if a0 ≥ 1 then (some (decide (a0 ≤ 8))) else (some false)) = some r := h
 clear h
 by_cases c2 : a0 ≥ 1
 ·rw [if_pos c2] at H
  have c2b0 : decide (1 ≤ a0) = true := decide_eq_true c2
  clear c2
  obtain rfl := Option.some.inj H
  go_enter Tryz.func79, Tryz.ntmps79
  go_wp2
  go_ret
  exact ⟨Zt, Zd⟩
 ·rw [if_neg c2] at H
  have c2b0 : decide (1 ≤ a0) = false := decide_eq_false c2
  clear c2
  obtain rfl := Option.some.inj H
  go_enter Tryz.func79, Tryz.ntmps79
  go_wp2
  go_ret
  exact ⟨Zt, Zd⟩
def trait_bit.f (a0 : Int) : Option (Int) := (trait_is.f a0).bind fun t388 => (if t388 = true then (some (shl .u16 1 ((a0 - 1) % 256))) else (some 0))
set_option maxHeartbeats 8000000 in
set_option maxRecDepth 100000 in
theorem trait_bit.calls (a0 : Int) (r : Int) (w : World) (h : trait_bit.f a0 = some r) :
  Calls Tryz.prog 116 #[.int .u8 a0] w fun e w' => e = .returned (.int .u16 r) ∧ Drawn0 w w' := by
 have H : ((trait_is.f a0).bind fun t388 => (if t388 = true then (some (shl .u16 1 ((a0 - 1) % 256))) else (some 0))) = some r := h
 clear h
 replace H := Option.bind_eq_some_iff.mp H
 obtain ⟨t388, A20, H⟩ := H
 replace H : (if t388 = true then (some (shl .u16 1 ((a0 - 1) % 256))) else (some 0)) = some r := H
 have A2 := Aside0.mk A20
 clear A20
 by_cases c3 : t388 = true
 ·subst c3
  have H1 : (some (shl .u16 1 ((a0 - 1) % 256))) = some r := by rw [if_pos rfl] at H; exact H
  clear H
  have H := H1
  clear H1
  obtain ⟨ji4, hji4⟩ : ∃ j_ : Int, (shl .u16 1 ((a0 - 1) % 256)) = j_ := ⟨_, rfl⟩
  replace H : (some ji4) = some r := by first | (rw [hji4] at H; exact H) | (simp only [hji4] at H ⊢; exact H)
  (try rw [hji4] at A2)
  have hji4_ : (IntKind.u16.wrap (1 * 2 ^ min ((a0 - 1) % 256).toNat 16)) = ji4 := hji4
  have hji4s : ∀ yk_, Op.shift .shl .u16 1 yk_ ((a0 - 1) % 256) = pure (.int .u16 ji4) := fun yk_ => (shift_shl_any .u16 yk_ 1 ((a0 - 1) % 256) (by omega)).trans (by rw [hji4])
  have hji4z : ((a0 - 1) % 256) ≤ 16 → (IntKind.u16.wrap (1 * 2 ^ ((a0 - 1) % 256).toNat)) = ji4 := shl_small hji4
  have hji4u : (IntKind.u16.wrap (2 ^ min ((a0 - 1) % 256).toNat 16)) = ji4 := by have h_ := hji4_; rw [Int.one_mul] at h_; exact h_
  have hji4v : ((a0 - 1) % 256) ≤ 16 → (IntKind.u16.wrap (2 ^ ((a0 - 1) % 256).toNat)) = ji4 := fun hle_ => by have h_ := hji4z hle_; rw [Int.one_mul] at h_; exact h_
  obtain rfl := Option.some.inj H
  go_enter Tryz.func116, Tryz.ntmps116
  go_wp2_with (first | ((with_reducible refine gate_callee (f := 79) rfl ?_); refine goesL_ (some 4) rfl rfl Tryz.func79 (by kernel_rfl) rfl #[.int .u8 a0] rfl Zl ?_; (with_reducible refine (trait_is.calls a0 true _ A2.out).mono ?_); rintro e w' ⟨rfl, ⟨nd, rfl⟩⟩; refine ⟨_, rfl, ?_⟩))
  go_ret
  exact ⟨by first | rfl | (simp; done) | (simp only [← hji4] <;> (first | rfl | simp)) | (simp [*]; done), Zd⟩
 ·replace c3 := Bool.eq_false_iff.mpr c3
  subst c3
  have H1 : (some 0) = some r := by rw [if_neg (show ¬ (false = true) by decide)] at H; exact H
  clear H
  have H := H1
  clear H1
  obtain rfl := Option.some.inj H
  go_enter Tryz.func116, Tryz.ntmps116
  go_wp2_with (first | ((with_reducible refine gate_callee (f := 79) rfl ?_); refine goesL_ (some 4) rfl rfl Tryz.func79 (by kernel_rfl) rfl #[.int .u8 a0] rfl Zl ?_; (with_reducible refine (trait_is.calls a0 false _ A2.out).mono ?_); rintro e w' ⟨rfl, ⟨nd, rfl⟩⟩; refine ⟨_, rfl, ?_⟩))
  go_ret
  exact ⟨Zt, Zd⟩
def trait_Has.f (a0 : Int) (a1 : Int) : Option (Bool) := (trait_bit.f a1).bind fun t389 => (some ((Go.bits .and .u16 a0 t389) != 0))
set_option maxHeartbeats 8000000 in
set_option maxRecDepth 100000 in
theorem trait_Has.calls (a0 : Int) (a1 : Int) (r : Bool) (w : World) (h : trait_Has.f a0 a1 = some r) :
  Calls Tryz.prog 78 #[.int .u16 a0, .int .u8 a1] w fun e w' => e = .returned (.bool r) ∧ Drawn0 w w' := by
 have H : ((trait_bit.f a1).bind fun t389 => (some ((Go.bits .and .u16 a0 t389) != 0))) = some r := h
 clear h
 replace H := Option.bind_eq_some_iff.mp H
 obtain ⟨t389, A30, H⟩ := H
 replace H : (some ((Go.bits .and .u16 a0 t389) != 0)) = some r := H
 have A3 := Aside0.mk A30
 clear A30
 obtain rfl := Option.some.inj H
 go_enter Tryz.func78, Tryz.ntmps78
 go_wp2_with (first | ((with_reducible refine gate_callee (f := 116) rfl ?_); refine goesL_ (some 7) rfl rfl Tryz.func116 (by kernel_rfl) rfl #[.int .u8 a1] rfl Zl ?_; (with_reducible refine (trait_bit.calls a1 t389 _ A3.out).mono ?_); rintro e w' ⟨rfl, ⟨nd, rfl⟩⟩; refine ⟨_, rfl, ?_⟩))
 go_ret
 exact ⟨Zt, Zd⟩
def trait_List.l0 : Nat → Int → List Int → Int → Option (List Int)
 | 0, _, _, _ => none
 | k + 1, x0, x3, x4 => if x4 ≤ 8 then ((trait_Has.f x0 x4).bind fun t390 => (if t390 = true then (if x3.length < 140737488355328 then (trait_List.l0 k x0 (x3 ++ [x4]) ((x4 + 1) % 256)) else (none)) else (trait_List.l0 k x0 x3 ((x4 + 1) % 256)))) else (some x3)
def trait_List.f (k : Nat) (a0 : Int) : Option (List Int) := trait_List.l0 k a0 ([] : List Int) 1
theorem trait_List.mono_l : ∀ k, (∀ y0 y1 y2, LeO (trait_List.l0 k y0 y1 y2) (trait_List.l0 (k + 1) y0 y1 y2))
 | 0 => fun _ _ _ r h => by simp [trait_List.l0] at h
 | k + 1 => by
  have ih0 := trait_List.mono_l k
  ·intro y0 y1 y2
   unfold trait_List.l0
   repeat' first
   | (with_reducible exact ih0 _ _ _)
   | (with_reducible exact LeO.refl _)
   | (with_reducible exact LeO.none _)
   | (with_reducible refine LeO.ite ?_ ?_)
   | (with_reducible refine LeO.bind ?_ (fun _ => ?_))
   | exact ih0 _ _ _
   | exact LeO.none _
   | refine LeO.ite ?_ ?_
   | refine LeO.bind ?_ (fun _ => ?_)
theorem trait_List.mono : ∀ a0 k, LeO (trait_List.f k a0) (trait_List.f (k + 1) a0) := by
 intro a0 k
 have ih0 := trait_List.mono_l k
 unfold trait_List.f
 repeat' first
   | (with_reducible exact ih0 _ _ _)
   | (with_reducible exact LeO.refl _)
   | (with_reducible exact LeO.none _)
   | (with_reducible refine LeO.ite ?_ ?_)
   | (with_reducible refine LeO.bind ?_ (fun _ => ?_))
   | exact ih0 _ _ _
   | exact LeO.none _
   | refine LeO.ite ?_ ?_
   | refine LeO.bind ?_ (fun _ => ?_)
set_option maxHeartbeats 8000000 in
set_option maxRecDepth 100000 in
theorem trait_List.calls (k : Nat) (a0 : Int) (r : List Int) (w : World) (h : trait_List.f k a0 = some r) :
  Calls Tryz.prog 33 #[.int .u16 a0] w fun e w' => ∃ v0_ : Value, e = .returned (v0_) ∧ Kd.R (Kd.int .u8) 45 w' w.heap.size (fun _ => True) v0_ r ∧ Below w.heap.size w w' := by
 have HB := Aside0.mk (Below.refl w.heap.size w)
 have H : (trait_List.l0 k a0 ([] : List Int) 1) = some r := h
 clear h
 have H' := Aside0.mk H
 clear H
 go_enter Tryz.func33, Tryz.ntmps33
 go_wp2
 go_loopg [3, 4] k (fun kq v3 v4 w' => ∃ (x3_1 : List Int) (x4_1 : Int), v4 = .int .u8 x4_1 ∧ Aside0 (trait_List.l0 kq a0 x3_1 x4_1 = some r) ∧ Aside0 (kq ≤ k) ∧ Aside0 (Kd.R (Kd.int .u8) 45 w' w.heap.size (fun _ => True) v3 x3_1) ∧ Aside0 (Below w.heap.size w w'))
 case atStart => exact ⟨(([] : List Int)), (1), Zs, H', ⟨Nat.le_refl _⟩, ⟨by first | exact Kd.R_nil _ _ _ _ _ | exact Kd.N_nil _ _ _ _ _ | exact Kd.V_nil _ _ _ _ _ | exact Kd.Q_nil _ _ _ _ _ | exact Kd.S_nil _ _ _ _ _⟩, ⟨Zb⟩⟩
 case round =>
  clear H'
  obtain ⟨x3_1, x4_1, rfl, HA, HK1, HO_3, HB⟩ := hrel
  cases gk with
  | zero => exact absurd HA.out (by simp [trait_List.l0])
  | succ k1 =>
   have H := HA.out
   clear HA
   simp only [trait_List.l0] at H
   by_cases c2 : x4_1 ≤ 8
   ·rw [if_pos c2] at H
    have c2b0 : decide (x4_1 ≤ 8) = true := decide_eq_true c2
    clear c2
    replace H := Option.bind_eq_some_iff.mp H
    obtain ⟨t390, A30, H⟩ := H
    replace H : (if t390 = true then (if x3_1.length < 140737488355328 then (trait_List.l0 k1 a0 (x3_1 ++ [x4_1]) ((x4_1 + 1) % 256)) else (none)) else (trait_List.l0 k1 a0 x3_1 ((x4_1 + 1) % 256))) = some r := H
    have A3 := Aside0.mk A30
    clear A30
    by_cases c4 : t390 = true
    ·subst c4
     have H1 : (if x3_1.length < 140737488355328 then (trait_List.l0 k1 a0 (x3_1 ++ [x4_1]) ((x4_1 + 1) % 256)) else (none)) = some r := by rw [if_pos rfl] at H; exact H
     clear H
     have H := H1
     clear H1
     by_cases c5 : x3_1.length < 140737488355328
     ·rw [if_pos c5] at H
      have LMc5 := Aside0.mk c5
      clear c5
      obtain ⟨y391, hy391⟩ : ∃ y_ : List Int, y_ = (x3_1 ++ [x4_1]) := ⟨_, rfl⟩
      replace H : (trait_List.l0 k1 a0 y391 ((x4_1 + 1) % 256)) = some r := by first | (rw [hy391]; with_reducible exact H) | (have H2_ := (Option.bind_some _ _).symm.trans H; rw [hy391]; with_reducible exact H2_) | (have H2_ := (Option.bind_some _ _).symm.trans H; with_reducible exact H2_) | with_reducible exact H | (rw [hy391]; exact H) | exact H
      have Ny391 := Aside0.mk hy391
      clear hy391
      have H' := Aside0.mk H
      clear H
      go_wp2_with (first | ((with_reducible refine gate_callee (f := 78) rfl ?_); refine goesL_ (some 11) rfl rfl Tryz.func78 (by kernel_rfl) rfl #[.int .u16 a0, .int .u8 x4_1] rfl Zl ?_; (with_reducible refine (trait_Has.calls a0 x4_1 true _ A3.out).mono ?_); rintro e w' ⟨rfl, ⟨nd, rfl⟩⟩; refine ⟨_, rfl, ?_⟩) | ((with_reducible refine gate_builtin (b := .append) (xs := #[.tmp 12, .tmp 14]) rfl ?_); at_builtin; refine Kd.R_append (Kd.int .u8) (w0 := w) w.heap.size rfl (.tmp 12) (.tmp 14) 64 45 (.int .u8 0) 1 rfl Tryz.underlying64 info45 rfl (by decide) (by omega) u3 x3_1 x4_1 [.int .u8 x4_1] (fun _ => True) (fun _ => False) rfl rfl ?aP (fun _ hk => hk.elim) ?aF ?aO ?aB ?aS ?aL ?_; (case aP => exact rfl); (case aB => exact Zb); (case aF => exact (fun _ _ => trivial)); (case aO => exact (Zr HO_3.out)); (case aS => exact (below_size Zb)); (case aL => have := LMc5.out; omega); intro v392 w6 ho hb hg hat; rw [← Ny391.out] at ho; replace HB := Aside0.mk (hb); have HO393 := Aside0.mk (ho); clear HO_3 ho hb hg hat))
      go_roundg k1
      case measure => have := HK1.out; omega
      case rel => exact ⟨(y391), ((x4_1 + 1) % 256), Zs, H', ⟨by have := HK1.out; omega⟩, ⟨Zr HO393.out⟩, ⟨Zb⟩⟩
     ·rw [if_neg c5] at H
      exact absurd H (by simp)
    ·replace c4 := Bool.eq_false_iff.mpr c4
     subst c4
     have H1 : (trait_List.l0 k1 a0 x3_1 ((x4_1 + 1) % 256)) = some r := by rw [if_neg (show ¬ (false = true) by decide)] at H; exact H
     clear H
     have H := H1
     clear H1
     have H' := Aside0.mk H
     clear H
     go_wp2_with (first | ((with_reducible refine gate_callee (f := 78) rfl ?_); refine goesL_ (some 11) rfl rfl Tryz.func78 (by kernel_rfl) rfl #[.int .u16 a0, .int .u8 x4_1] rfl Zl ?_; (with_reducible refine (trait_Has.calls a0 x4_1 false _ A3.out).mono ?_); rintro e w' ⟨rfl, ⟨nd, rfl⟩⟩; refine ⟨_, rfl, ?_⟩))
     go_roundg k1
     case measure => have := HK1.out; omega
     case rel => exact ⟨(x3_1), ((x4_1 + 1) % 256), Zs, H', ⟨by have := HK1.out; omega⟩, ⟨Zr HO_3.out⟩, ⟨Zb⟩⟩
   ·rw [if_neg c2] at H
    have c2b0 : decide (x4_1 ≤ 8) = false := decide_eq_false c2
    clear c2
    obtain rfl := Option.some.inj H
    go_wp2
    go_ret
    exact ⟨_, Ze, Zr HO_3.out, Zb⟩
def trait_With.f (a0 : Int) (a1 : Int) : Option (Int) := (trait_bit.f a1).bind fun t493 => (some (Go.bits .or .u16 a0 t493))
set_option maxHeartbeats 8000000 in
set_option maxRecDepth 100000 in
theorem trait_With.calls (a0 : Int) (a1 : Int) (r : Int) (w : World) (h : trait_With.f a0 a1 = some r) :
  Calls Tryz.prog 112 #[.int .u16 a0, .int .u8 a1] w fun e w' => e = .returned (.int .u16 r) ∧ Drawn0 w w' := by
 have H : ((trait_bit.f a1).bind fun t493 => (some (Go.bits .or .u16 a0 t493))) = some r := h
 clear h
 replace H := Option.bind_eq_some_iff.mp H
 obtain ⟨t493, A30, H⟩ := H
 replace H : (some (Go.bits .or .u16 a0 t493)) = some r := H
 have A3 := Aside0.mk A30
 clear A30
 obtain rfl := Option.some.inj H
 go_enter Tryz.func112, Tryz.ntmps112
 go_wp2_with (first | ((with_reducible refine gate_callee (f := 116) rfl ?_); refine goesL_ (some 7) rfl rfl Tryz.func116 (by kernel_rfl) rfl #[.int .u8 a1] rfl Zl ?_; (with_reducible refine (trait_bit.calls a1 t493 _ A3.out).mono ?_); rintro e w' ⟨rfl, ⟨nd, rfl⟩⟩; refine ⟨_, rfl, ?_⟩))
 go_ret
 exact ⟨Zt, Zd⟩
end Go.Proofs.YtfpcideomanbbaaGreatDoor.PA
end
section
namespace Go.Proofs.YtfpcideomanbbaaGreatDoor.PA
open Go.RowKit Go.Proofs.YtfpcideomanbbaaGreatDoorW.PrintWords Go.Proofs.YtfpcideomanbbaaGreatDoorW.PrintLast Go.Proofs.YtfpcideomanbbaaGreatDoorW.PrintMore
attribute [local go_sem] max2_int min2_int max_two min_two max_three min_three max_four min_four
set_option linter.unusedVariables false
set_option linter.unusedSimpArgs false
attribute [local go_sem high] eqA48
def gambitkit_SameParts.l0 : Nat → List (S48) → List (S48) → Int → Option (Bool)
 | 0, _, _, _ => none
 | k + 1, x0, x1, x5 => if x5 < (x0.length : Int) then (if 0 ≤ x5 then (if x5 < (x1.length : Int) then (if (!(((rd_T48 x0 x5).f0) == ((rd_T48 x1 x5).f0)) || (!(((rd_T48 x0 x5).f1) == ((rd_T48 x1 x5).f1)) || (!(((rd_T48 x0 x5).f2) == ((rd_T48 x1 x5).f2)) || (!(((rd_T48 x0 x5).f3) == ((rd_T48 x1 x5).f3)) || (!(((rd_T48 x0 x5).f4) == ((rd_T48 x1 x5).f4)) || (!(((rd_T48 x0 x5).f5) == ((rd_T48 x1 x5).f5)) || (!(((rd_T48 x0 x5).f6) == ((rd_T48 x1 x5).f6)) || (!((((rd_T48 x0 x5).f7).toList) == (((rd_T48 x1 x5).f7).toList)))))))))) = true then (some false) else (gambitkit_SameParts.l0 k x0 x1 (wrap64 (x5 + 1)))) else (none)) else (none)) else (some true)
def gambitkit_SameParts.f (k : Nat) (l0 : List (S48)) (l1 : List (S48)) : Option (Bool) := if (l0.length : Int) = (l1.length : Int) then (gambitkit_SameParts.l0 k l0 l1 0) else (some false)
theorem gambitkit_SameParts.mono_l : ∀ k, (∀ y0 y1 y2, LeO (gambitkit_SameParts.l0 k y0 y1 y2) (gambitkit_SameParts.l0 (k + 1) y0 y1 y2))
 | 0 => fun _ _ _ r h => by simp [gambitkit_SameParts.l0] at h
 | k + 1 => by
  have ih0 := gambitkit_SameParts.mono_l k
  ·intro y0 y1 y2
   unfold gambitkit_SameParts.l0
   repeat' first
   | (with_reducible exact ih0 _ _ _)
   | (with_reducible exact LeO.refl _)
   | (with_reducible exact LeO.none _)
   | (with_reducible refine LeO.ite ?_ ?_)
   | (with_reducible refine LeO.bind ?_ (fun _ => ?_))
   | exact ih0 _ _ _
   | exact LeO.none _
   | refine LeO.ite ?_ ?_
   | refine LeO.bind ?_ (fun _ => ?_)
theorem gambitkit_SameParts.mono : ∀ a0 a1 k, LeO (gambitkit_SameParts.f k a0 a1) (gambitkit_SameParts.f (k + 1) a0 a1) := by
 intro a0 a1 k
 have ih0 := gambitkit_SameParts.mono_l k
 unfold gambitkit_SameParts.f
 repeat' first
   | (with_reducible exact ih0 _ _ _)
   | (with_reducible exact LeO.refl _)
   | (with_reducible exact LeO.none _)
   | (with_reducible refine LeO.ite ?_ ?_)
   | (with_reducible refine LeO.bind ?_ (fun _ => ?_))
   | exact ih0 _ _ _
   | exact LeO.none _
   | refine LeO.ite ?_ ?_
   | refine LeO.bind ?_ (fun _ => ?_)
set_option maxHeartbeats 8000000 in
set_option maxRecDepth 100000 in
theorem gambitkit_SameParts.calls (k : Nat) (A0 : Option Addr) (c0 : Nat) (l0 : List (S48)) (A1 : Option Addr) (c1 : Nat) (l1 : List (S48)) (r : Bool) (w : World) (hr0 : Kd.C k48 w A0 l0.length l0) (hc0 : l0.length ≤ c0) (hr1 : Kd.C k48 w A1 l1.length l1) (hc1 : l1.length ≤ c1) (h : gambitkit_SameParts.f k l0 l1 = some r) :
  Calls Tryz.prog 47 #[.slice A0 l0.length c0, .slice A1 l1.length c1] w fun e w' => e = .returned (.bool r) ∧ Drawn0 w w' := by
 have hu48 := Tryz.underlying48
 have HR0 := Aside0.mk hr0
 have HC0 := Aside0.mk hc0
 clear hr0 hc0
 have HR1 := Aside0.mk hr1
 have HC1 := Aside0.mk hc1
 clear hr1 hc1
 have H : (if (l0.length : Int) = (l1.length : Int) then (gambitkit_SameParts.l0 k l0 l1 0) else (some false)) = some r := h
 clear h
 by_cases c3 : (l0.length : Int) = (l1.length : Int)
 ·rw [if_pos c3] at H
  have c3b0 : ((l0.length : Int) == (l1.length : Int)) = true := beq_iff_eq.mpr c3
  have c3b1 : ((l0.length : Int) != (l1.length : Int)) = false := bne_eq_false_iff_eq.mpr c3
  have c3b2 : (l0.length == l1.length) = true := by first | simpa using c3 | (simp at c3 ⊢; omega)
  clear c3
  have H' := Aside0.mk H
  clear H
  go_enter Tryz.func47, Tryz.ntmps47
  go_wp2
  repeat (go_quiet (fail); try go_wp2)
  go_loopg [5] k (fun kq v5 w' => ∃ (x5_1 : Int), v5 = .int .i64 x5_1 ∧ Aside0 (gambitkit_SameParts.l0 kq l0 l1 x5_1 = some r) ∧ Aside0 (kq ≤ k) ∧ Drawn0 w w')
  case atStart => exact ⟨(0), Zs, H', ⟨Nat.le_refl _⟩, Zd⟩
  case round =>
   clear H'
   try clear c1
   try clear p2
   try clear c3
   try clear c3b0
   try clear c3b1
   try clear c3b2
   obtain ⟨x5_1, rfl, HA, HK1, ⟨m1, rfl⟩⟩ := hrel
   cases gk with
   | zero => exact absurd HA.out (by simp [gambitkit_SameParts.l0])
   | succ k1 =>
    have H := HA.out
    clear HA
    simp only [gambitkit_SameParts.l0] at H
    by_cases c4 : x5_1 < (l0.length : Int)
    ·rw [if_pos c4] at H
     have c4b0 : decide (x5_1 < (l0.length : Int)) = true := decide_eq_true c4
     clear c4
     by_cases c5 : 0 ≤ x5_1
     ·rw [if_pos c5] at H
      have c5b0 : decide (0 ≤ x5_1) = true := decide_eq_true c5
      clear c5
      by_cases c6 : x5_1 < (l1.length : Int)
      ·rw [if_pos c6] at H
       have c6b0 : decide (x5_1 < (l1.length : Int)) = true := decide_eq_true c6
       clear c6
       by_cases c7 : (!(((rd_T48 l0 x5_1).f0) == ((rd_T48 l1 x5_1).f0)) || (!(((rd_T48 l0 x5_1).f1) == ((rd_T48 l1 x5_1).f1)) || (!(((rd_T48 l0 x5_1).f2) == ((rd_T48 l1 x5_1).f2)) || (!(((rd_T48 l0 x5_1).f3) == ((rd_T48 l1 x5_1).f3)) || (!(((rd_T48 l0 x5_1).f4) == ((rd_T48 l1 x5_1).f4)) || (!(((rd_T48 l0 x5_1).f5) == ((rd_T48 l1 x5_1).f5)) || (!(((rd_T48 l0 x5_1).f6) == ((rd_T48 l1 x5_1).f6)) || (!((((rd_T48 l0 x5_1).f7).toList) == (((rd_T48 l1 x5_1).f7).toList)))))))))) = true
       ·rw [if_pos c7] at H
        have c7b0 : (!(((rd_T48 l0 x5_1).f0) == ((rd_T48 l1 x5_1).f0)) || (!(((rd_T48 l0 x5_1).f1) == ((rd_T48 l1 x5_1).f1)) || (!(((rd_T48 l0 x5_1).f2) == ((rd_T48 l1 x5_1).f2)) || (!(((rd_T48 l0 x5_1).f3) == ((rd_T48 l1 x5_1).f3)) || (!(((rd_T48 l0 x5_1).f4) == ((rd_T48 l1 x5_1).f4)) || (!(((rd_T48 l0 x5_1).f5) == ((rd_T48 l1 x5_1).f5)) || (!(((rd_T48 l0 x5_1).f6) == ((rd_T48 l1 x5_1).f6)) || (!((((rd_T48 l0 x5_1).f7).toList) == (((rd_T48 l1 x5_1).f7).toList)))))))))) = true := c7
        clear c7
        obtain rfl := Option.some.inj H
        have p469 : 0 ≤ (x5_1 : Int) := of_decide_eq_true Za
        have q469 : x5_1 < (l0.length : Int) := of_decide_eq_true Za
        obtain ⟨ad469, e469, hx469_0, hx469_1, hx469_2, hx469_3, hx469_4, hx469_5, hx469_6, hx469_7⟩ := at_T48 HR0.out x5_1 p469 q469
        cases e469
        replace p469 := eq_true p469
        replace q469 := eq_true q469
        have p470 : 0 ≤ (x5_1 : Int) := of_decide_eq_true Za
        have q470 : x5_1 < (l1.length : Int) := of_decide_eq_true Za
        obtain ⟨ad470, e470, hx470_0, hx470_1, hx470_2, hx470_3, hx470_4, hx470_5, hx470_6, hx470_7⟩ := at_T48 HR1.out x5_1 p470 q470
        cases e470
        replace p470 := eq_true p470
        replace q470 := eq_true q470
        go_wp2
        repeat (go_quiet (fail); try go_wp2)
        go_ret
        exact ⟨Zt, Zd⟩
       ·rw [if_neg c7] at H
        have c7b0 : (!(((rd_T48 l0 x5_1).f0) == ((rd_T48 l1 x5_1).f0)) || (!(((rd_T48 l0 x5_1).f1) == ((rd_T48 l1 x5_1).f1)) || (!(((rd_T48 l0 x5_1).f2) == ((rd_T48 l1 x5_1).f2)) || (!(((rd_T48 l0 x5_1).f3) == ((rd_T48 l1 x5_1).f3)) || (!(((rd_T48 l0 x5_1).f4) == ((rd_T48 l1 x5_1).f4)) || (!(((rd_T48 l0 x5_1).f5) == ((rd_T48 l1 x5_1).f5)) || (!(((rd_T48 l0 x5_1).f6) == ((rd_T48 l1 x5_1).f6)) || (!((((rd_T48 l0 x5_1).f7).toList) == (((rd_T48 l1 x5_1).f7).toList)))))))))) = false := by simpa using c7
        clear c7
        have H' := Aside0.mk H
        clear H
        have p469 : 0 ≤ (x5_1 : Int) := of_decide_eq_true Za
        have q469 : x5_1 < (l0.length : Int) := of_decide_eq_true Za
        obtain ⟨ad469, e469, hx469_0, hx469_1, hx469_2, hx469_3, hx469_4, hx469_5, hx469_6, hx469_7⟩ := at_T48 HR0.out x5_1 p469 q469
        cases e469
        replace p469 := eq_true p469
        replace q469 := eq_true q469
        have p470 : 0 ≤ (x5_1 : Int) := of_decide_eq_true Za
        have q470 : x5_1 < (l1.length : Int) := of_decide_eq_true Za
        obtain ⟨ad470, e470, hx470_0, hx470_1, hx470_2, hx470_3, hx470_4, hx470_5, hx470_6, hx470_7⟩ := at_T48 HR1.out x5_1 p470 q470
        cases e470
        replace p470 := eq_true p470
        replace q470 := eq_true q470
        go_wp2
        repeat (go_quiet (fail); try go_wp2)
        go_roundg k1
        case measure => have := HK1.out; omega
        case rel => exact ⟨(wrap64 (x5_1 + 1)), Zs, H', ⟨by have := HK1.out; omega⟩, Zd⟩
      ·rw [if_neg c6] at H
       exact absurd H (by simp)
     ·rw [if_neg c5] at H
      exact absurd H (by simp)
    ·rw [if_neg c4] at H
     have c4b0 : decide (x5_1 < (l0.length : Int)) = false := decide_eq_false c4
     clear c4
     obtain rfl := Option.some.inj H
     go_wp2
     repeat (go_quiet (fail); try go_wp2)
     go_ret
     exact ⟨Zt, Zd⟩
 ·rw [if_neg c3] at H
  have c3b0 : ((l0.length : Int) == (l1.length : Int)) = false := beq_eq_false_iff_ne.mpr c3
  have c3b1 : ((l0.length : Int) != (l1.length : Int)) = true := bne_iff_ne.mpr c3
  have c3b2 : (l0.length == l1.length) = false := by first | simpa using c3 | (simp at c3 ⊢; omega)
  obtain rfl := Option.some.inj H
  go_enter Tryz.func47, Tryz.ntmps47
  go_wp2
  repeat (go_quiet (fail); try go_wp2)
  go_ret
  exact ⟨Zt, Zd⟩
end Go.Proofs.YtfpcideomanbbaaGreatDoor.PA
end
section
namespace Go.Proofs.YtfpcideomanbbaaGreatDoor.PA
open Go.RowKit Go.Proofs.YtfpcideomanbbaaGreatDoorW.PrintWords Go.Proofs.YtfpcideomanbbaaGreatDoorW.PrintLast Go.Proofs.YtfpcideomanbbaaGreatDoorW.PrintMore
attribute [local go_sem] max2_int min2_int max_two min_two max_three min_three max_four min_four
set_option linter.unusedVariables false
set_option linter.unusedSimpArgs false
def gambitkit_SameCard.f (k : Nat) (a0_0 : ByteArray) (a0_1 : Int) (a0_2 : Int) (a0_3 : Int) (a0_4 : Int) (a0_5 : Int) (a0_6 : Int) (a0_7 : Bool) (l0_8 : List (S48)) (a1_0 : ByteArray) (a1_1 : Int) (a1_2 : Int) (a1_3 : Int) (a1_4 : Int) (a1_5 : Int) (a1_6 : Int) (a1_7 : Bool) (l1_8 : List (S48)) : Option (Bool) := if a0_0.toList = a1_0.toList then (if a0_1 = a1_1 then (if a0_2 = a1_2 then (if a0_3 = a1_3 then (if a0_4 = a1_4 then (if a0_5 = a1_5 then (if a0_6 = a1_6 then (if (a0_7 == a1_7) = true then ((gambitkit_SameParts.f k l0_8 l1_8).bind fun t487 => (some t487)) else (some false)) else (some false)) else (some false)) else (some false)) else (some false)) else (some false)) else (some false)) else (some false)
theorem gambitkit_SameCard.mono : ∀ a0 a1 a2 a3 a4 a5 a6 a7 a8 a9 a10 a11 a12 a13 a14 a15 a16 a17 k, LeO (gambitkit_SameCard.f k a0 a1 a2 a3 a4 a5 a6 a7 a8 a9 a10 a11 a12 a13 a14 a15 a16 a17) (gambitkit_SameCard.f (k + 1) a0 a1 a2 a3 a4 a5 a6 a7 a8 a9 a10 a11 a12 a13 a14 a15 a16 a17) := by
 intro a0 a1 a2 a3 a4 a5 a6 a7 a8 a9 a10 a11 a12 a13 a14 a15 a16 a17 k
 unfold gambitkit_SameCard.f
 repeat' first
   | (with_reducible exact gambitkit_SameParts.mono _ _ _)
   | (with_reducible exact LeO.refl _)
   | (with_reducible exact LeO.none _)
   | (with_reducible refine LeO.ite ?_ ?_)
   | (with_reducible refine LeO.bind ?_ (fun _ => ?_))
   | exact gambitkit_SameParts.mono _ _ _
   | exact LeO.none _
   | refine LeO.ite ?_ ?_
   | refine LeO.bind ?_ (fun _ => ?_)
set_option maxHeartbeats 8000000 in
set_option maxRecDepth 100000 in
theorem gambitkit_SameCard.calls (k : Nat) (a0_0 : ByteArray) (a0_1 : Int) (a0_2 : Int) (a0_3 : Int) (a0_4 : Int) (a0_5 : Int) (a0_6 : Int) (a0_7 : Bool) (A0_8 : Option Addr) (c0_8 : Nat) (l0_8 : List (S48)) (a1_0 : ByteArray) (a1_1 : Int) (a1_2 : Int) (a1_3 : Int) (a1_4 : Int) (a1_5 : Int) (a1_6 : Int) (a1_7 : Bool) (A1_8 : Option Addr) (c1_8 : Nat) (l1_8 : List (S48)) (r : Bool) (w : World) (hr0_8 : Kd.C k48 w A0_8 l0_8.length l0_8) (hc0_8 : l0_8.length ≤ c0_8) (hr1_8 : Kd.C k48 w A1_8 l1_8.length l1_8) (hc1_8 : l1_8.length ≤ c1_8) (h : gambitkit_SameCard.f k a0_0 a0_1 a0_2 a0_3 a0_4 a0_5 a0_6 a0_7 l0_8 a1_0 a1_1 a1_2 a1_3 a1_4 a1_5 a1_6 a1_7 l1_8 = some r) :
  Calls Tryz.prog 18 #[.agg #[.string a0_0, .int .u8 a0_1, .int .u8 a0_2, .int .i64 a0_3, .int .i64 a0_4, .int .i64 a0_5, .int .u16 a0_6, .bool a0_7, .slice A0_8 l0_8.length c0_8], .agg #[.string a1_0, .int .u8 a1_1, .int .u8 a1_2, .int .i64 a1_3, .int .i64 a1_4, .int .i64 a1_5, .int .u16 a1_6, .bool a1_7, .slice A1_8 l1_8.length c1_8]] w fun e w' => e = .returned (.bool r) ∧ Below w.heap.size w w' := by
 have hu28 := Tryz.underlying28
 have HR0_8 := Aside0.mk hr0_8
 have HC0_8 := Aside0.mk hc0_8
 clear hr0_8 hc0_8
 have HR1_8 := Aside0.mk hr1_8
 have HC1_8 := Aside0.mk hc1_8
 clear hr1_8 hc1_8
 have HB := Aside0.mk (Below.refl w.heap.size w)
 have H : (if a0_0.toList = a1_0.toList then (if a0_1 = a1_1 then (if a0_2 = a1_2 then (if a0_3 = a1_3 then (if a0_4 = a1_4 then (if a0_5 = a1_5 then (if a0_6 = a1_6 then (if (a0_7 == a1_7) = true then ((gambitkit_SameParts.f k l0_8 l1_8).bind fun t487 => (some t487)) else (some false)) else (some false)) else (some false)) else (some false)) else (some false)) else (some false)) else (some false)) else (some false)) = some r := h
 clear h
 by_cases c3 : a0_0.toList = a1_0.toList
 ·rw [if_pos c3] at H
  have c3b0 : (a0_0.toList == a1_0.toList) = true := beq_iff_eq.mpr c3
  have c3b1 : (a0_0.toList != a1_0.toList) = false := bne_eq_false_iff_eq.mpr c3
  clear c3
  by_cases c4 : a0_1 = a1_1
  ·rw [if_pos c4] at H
   have c4b0 : (a0_1 == a1_1) = true := beq_iff_eq.mpr c4
   have c4b1 : (a0_1 != a1_1) = false := bne_eq_false_iff_eq.mpr c4
   clear c4
   by_cases c5 : a0_2 = a1_2
   ·rw [if_pos c5] at H
    have c5b0 : (a0_2 == a1_2) = true := beq_iff_eq.mpr c5
    have c5b1 : (a0_2 != a1_2) = false := bne_eq_false_iff_eq.mpr c5
    clear c5
    by_cases c6 : a0_3 = a1_3
    ·rw [if_pos c6] at H
     have c6b0 : (a0_3 == a1_3) = true := beq_iff_eq.mpr c6
     have c6b1 : (a0_3 != a1_3) = false := bne_eq_false_iff_eq.mpr c6
     clear c6
     by_cases c7 : a0_4 = a1_4
     ·rw [if_pos c7] at H
      have c7b0 : (a0_4 == a1_4) = true := beq_iff_eq.mpr c7
      have c7b1 : (a0_4 != a1_4) = false := bne_eq_false_iff_eq.mpr c7
      clear c7
      by_cases c8 : a0_5 = a1_5
      ·rw [if_pos c8] at H
       have c8b0 : (a0_5 == a1_5) = true := beq_iff_eq.mpr c8
       have c8b1 : (a0_5 != a1_5) = false := bne_eq_false_iff_eq.mpr c8
       clear c8
       by_cases c9 : a0_6 = a1_6
       ·rw [if_pos c9] at H
        have c9b0 : (a0_6 == a1_6) = true := beq_iff_eq.mpr c9
        have c9b1 : (a0_6 != a1_6) = false := bne_eq_false_iff_eq.mpr c9
        clear c9
        by_cases c10 : (a0_7 == a1_7) = true
        ·rw [if_pos c10] at H
         have c10b0 : (a0_7 == a1_7) = true := c10
         (try (have c10b1 : decide (a0_7 = a1_7) = true := by simpa using c10))
         (try (have c10b2 : (a0_7 == a1_7) = true := by simpa using c10))
         clear c10
         replace H := Option.bind_eq_some_iff.mp H
         obtain ⟨t487, A110, H⟩ := H
         replace H : (some t487) = some r := H
         have A11 := Aside0.mk A110
         clear A110
         obtain rfl := Option.some.inj H
         go_enter Tryz.func18, Tryz.ntmps18
         go_wp2_with (first | ((with_reducible refine gate_dst (N := 2) rfl ?_); refine box_event ?hg (N := 2) ?hd (cs := #[.string a0_0, .int .u8 a0_1, .int .u8 a0_2, .int .i64 a0_3, .int .i64 a0_4, .int .i64 a0_5, .int .u16 a0_6, .bool a0_7, .slice A0_8 l0_8.length c0_8]) (t := 28) ?hr ?_; (case hd => rfl); (case hg => rfl); (case hr => first | (go_simp; done) | (go_simp; rfl)); intro gb485 hg w12 hbox hb; have BK485 := Aside0.mk (hbox); have GW485 := Aside0.mk ((by rw [hg]; exact (below_size Zb) : w.heap.size ≤ gb485)); have GE485 := Aside0.mk ((by rw [hg]; exact (below_size Zb) : w.heap.size ≤ gb485)); replace HB := Aside0.mk (below_step Zb hb); clear hb hbox hg) | ((with_reducible refine gate_dst (N := 3) rfl ?_); refine box_event ?hg (N := 3) ?hd (cs := #[.string a1_0, .int .u8 a1_1, .int .u8 a1_2, .int .i64 a1_3, .int .i64 a1_4, .int .i64 a1_5, .int .u16 a1_6, .bool a1_7, .slice A1_8 l1_8.length c1_8]) (t := 28) ?hr ?_; (case hd => rfl); (case hg => rfl); (case hr => first | (go_simp; done) | (go_simp; rfl)); intro gb486 hg w13 hbox hb; have BK486 := Aside0.mk (hbox); have GW486 := Aside0.mk ((by rw [hg]; exact (below_size (Zb1 GE485.out)) : w.heap.size ≤ gb486)); have GE486 := Aside0.mk ((by rw [hg]; exact (below_size (Zb1 GE485.out)) : w.heap.size ≤ gb486)); replace HB := Aside0.mk (below_step (Zb1 GE485.out) hb); have NB485_486 := Aside0.mk ((by rw [hg]; exact Nat.ne_of_lt (blk_lt (Zj BK485.out)) : gb485 ≠ gb486)); have NB486_485 := Aside0.mk ((by rw [hg]; exact Nat.ne_of_gt (blk_lt (Zj BK485.out)) : gb486 ≠ gb485)); replace BK485 := Aside0.mk (blk_below (Zj BK485.out) hb); clear hb hbox hg; have hnb14 := NB485_486.out; have hnc14 := NB486_485.out; obtain ⟨hcz15_0, hcz15_1, hcz15_2, hcz15_3, hcz15_4, hcz15_5, hcz15_6, hcz15_7, hcz15_8, hfz15_0, hfz15_1, hfz15_2, hfz15_3, hfz15_4, hfz15_5, hfz15_6, hfz15_7, hfz15_8⟩ := Z9 BK485.out; obtain ⟨hcz16_0, hcz16_1, hcz16_2, hcz16_3, hcz16_4, hcz16_5, hcz16_6, hcz16_7, hcz16_8, hfz16_0, hfz16_1, hfz16_2, hfz16_3, hfz16_4, hfz16_5, hfz16_6, hfz16_7, hfz16_8⟩ := Z9 BK486.out) | (go_at_call 47; (with_reducible refine (gambitkit_SameParts.calls k _ _ l0_8 _ _ l1_8 t487 _ ?side1 ?side2 ?side3 ?side4 A11.out).mono ?_); (case side1 => repeat (first | exact (Kd.C_below HR0_8.out HB.out) | (with_reducible refine Kd.C_alloc ?_ _) | (with_reducible refine Kd.C_drewN ?_ _) | (with_reducible refine Kd.C_drew ?_))); (case side2 => exact HC0_8.out); (case side3 => repeat (first | exact (Kd.C_below HR1_8.out HB.out) | (with_reducible refine Kd.C_alloc ?_ _) | (with_reducible refine Kd.C_drewN ?_ _) | (with_reducible refine Kd.C_drew ?_))); (case side4 => exact HC1_8.out); rintro e w' ⟨rfl, ⟨nd, rfl⟩⟩))
         go_ret
         exact ⟨Ze, Zb2 GE485.out GE486.out⟩
        ·rw [if_neg c10] at H
         have c10b0 : (a0_7 == a1_7) = false := by simpa using c10
         (try (have c10b1 : decide (a0_7 = a1_7) = false := by simpa using c10))
         (try (have c10b2 : (a0_7 == a1_7) = false := by simpa using c10))
         (try (have c10b3 : ¬ (a0_7 = a1_7) := by simpa using c10))
         clear c10
         obtain rfl := Option.some.inj H
         go_enter Tryz.func18, Tryz.ntmps18
         go_wp2_with (first | ((with_reducible refine gate_dst (N := 2) rfl ?_); refine box_event ?hg (N := 2) ?hd (cs := #[.string a0_0, .int .u8 a0_1, .int .u8 a0_2, .int .i64 a0_3, .int .i64 a0_4, .int .i64 a0_5, .int .u16 a0_6, .bool a0_7, .slice A0_8 l0_8.length c0_8]) (t := 28) ?hr ?_; (case hd => rfl); (case hg => rfl); (case hr => first | (go_simp; done) | (go_simp; rfl)); intro gb485 hg w17 hbox hb; have BK485 := Aside0.mk (hbox); have GW485 := Aside0.mk ((by rw [hg]; exact (below_size Zb) : w.heap.size ≤ gb485)); have GE485 := Aside0.mk ((by rw [hg]; exact (below_size Zb) : w.heap.size ≤ gb485)); replace HB := Aside0.mk (below_step Zb hb); clear hb hbox hg) | ((with_reducible refine gate_dst (N := 3) rfl ?_); refine box_event ?hg (N := 3) ?hd (cs := #[.string a1_0, .int .u8 a1_1, .int .u8 a1_2, .int .i64 a1_3, .int .i64 a1_4, .int .i64 a1_5, .int .u16 a1_6, .bool a1_7, .slice A1_8 l1_8.length c1_8]) (t := 28) ?hr ?_; (case hd => rfl); (case hg => rfl); (case hr => first | (go_simp; done) | (go_simp; rfl)); intro gb486 hg w18 hbox hb; have BK486 := Aside0.mk (hbox); have GW486 := Aside0.mk ((by rw [hg]; exact (below_size (Zb1 GE485.out)) : w.heap.size ≤ gb486)); have GE486 := Aside0.mk ((by rw [hg]; exact (below_size (Zb1 GE485.out)) : w.heap.size ≤ gb486)); replace HB := Aside0.mk (below_step (Zb1 GE485.out) hb); have NB485_486 := Aside0.mk ((by rw [hg]; exact Nat.ne_of_lt (blk_lt (Zj BK485.out)) : gb485 ≠ gb486)); have NB486_485 := Aside0.mk ((by rw [hg]; exact Nat.ne_of_gt (blk_lt (Zj BK485.out)) : gb486 ≠ gb485)); replace BK485 := Aside0.mk (blk_below (Zj BK485.out) hb); clear hb hbox hg; have hnb19 := NB485_486.out; have hnc19 := NB486_485.out; obtain ⟨hcz20_0, hcz20_1, hcz20_2, hcz20_3, hcz20_4, hcz20_5, hcz20_6, hcz20_7, hcz20_8, hfz20_0, hfz20_1, hfz20_2, hfz20_3, hfz20_4, hfz20_5, hfz20_6, hfz20_7, hfz20_8⟩ := Z9 BK485.out; obtain ⟨hcz21_0, hcz21_1, hcz21_2, hcz21_3, hcz21_4, hcz21_5, hcz21_6, hcz21_7, hcz21_8, hfz21_0, hfz21_1, hfz21_2, hfz21_3, hfz21_4, hfz21_5, hfz21_6, hfz21_7, hfz21_8⟩ := Z9 BK486.out))
         go_ret
         exact ⟨Ze, Zb2 GE485.out GE486.out⟩
       ·rw [if_neg c9] at H
        have c9b0 : (a0_6 == a1_6) = false := beq_eq_false_iff_ne.mpr c9
        have c9b1 : (a0_6 != a1_6) = true := bne_iff_ne.mpr c9
        obtain rfl := Option.some.inj H
        go_enter Tryz.func18, Tryz.ntmps18
        go_wp2_with (first | ((with_reducible refine gate_dst (N := 2) rfl ?_); refine box_event ?hg (N := 2) ?hd (cs := #[.string a0_0, .int .u8 a0_1, .int .u8 a0_2, .int .i64 a0_3, .int .i64 a0_4, .int .i64 a0_5, .int .u16 a0_6, .bool a0_7, .slice A0_8 l0_8.length c0_8]) (t := 28) ?hr ?_; (case hd => rfl); (case hg => rfl); (case hr => first | (go_simp; done) | (go_simp; rfl)); intro gb485 hg w22 hbox hb; have BK485 := Aside0.mk (hbox); have GW485 := Aside0.mk ((by rw [hg]; exact (below_size Zb) : w.heap.size ≤ gb485)); have GE485 := Aside0.mk ((by rw [hg]; exact (below_size Zb) : w.heap.size ≤ gb485)); replace HB := Aside0.mk (below_step Zb hb); clear hb hbox hg) | ((with_reducible refine gate_dst (N := 3) rfl ?_); refine box_event ?hg (N := 3) ?hd (cs := #[.string a1_0, .int .u8 a1_1, .int .u8 a1_2, .int .i64 a1_3, .int .i64 a1_4, .int .i64 a1_5, .int .u16 a1_6, .bool a1_7, .slice A1_8 l1_8.length c1_8]) (t := 28) ?hr ?_; (case hd => rfl); (case hg => rfl); (case hr => first | (go_simp; done) | (go_simp; rfl)); intro gb486 hg w23 hbox hb; have BK486 := Aside0.mk (hbox); have GW486 := Aside0.mk ((by rw [hg]; exact (below_size (Zb1 GE485.out)) : w.heap.size ≤ gb486)); have GE486 := Aside0.mk ((by rw [hg]; exact (below_size (Zb1 GE485.out)) : w.heap.size ≤ gb486)); replace HB := Aside0.mk (below_step (Zb1 GE485.out) hb); have NB485_486 := Aside0.mk ((by rw [hg]; exact Nat.ne_of_lt (blk_lt (Zj BK485.out)) : gb485 ≠ gb486)); have NB486_485 := Aside0.mk ((by rw [hg]; exact Nat.ne_of_gt (blk_lt (Zj BK485.out)) : gb486 ≠ gb485)); replace BK485 := Aside0.mk (blk_below (Zj BK485.out) hb); clear hb hbox hg; have hnb24 := NB485_486.out; have hnc24 := NB486_485.out; obtain ⟨hcz25_0, hcz25_1, hcz25_2, hcz25_3, hcz25_4, hcz25_5, hcz25_6, hcz25_7, hcz25_8, hfz25_0, hfz25_1, hfz25_2, hfz25_3, hfz25_4, hfz25_5, hfz25_6, hfz25_7, hfz25_8⟩ := Z9 BK485.out; obtain ⟨hcz26_0, hcz26_1, hcz26_2, hcz26_3, hcz26_4, hcz26_5, hcz26_6, hcz26_7, hcz26_8, hfz26_0, hfz26_1, hfz26_2, hfz26_3, hfz26_4, hfz26_5, hfz26_6, hfz26_7, hfz26_8⟩ := Z9 BK486.out))
        go_ret
        exact ⟨Ze, Zb2 GE485.out GE486.out⟩
      ·rw [if_neg c8] at H
       have c8b0 : (a0_5 == a1_5) = false := beq_eq_false_iff_ne.mpr c8
       have c8b1 : (a0_5 != a1_5) = true := bne_iff_ne.mpr c8
       obtain rfl := Option.some.inj H
       go_enter Tryz.func18, Tryz.ntmps18
       go_wp2_with (first | ((with_reducible refine gate_dst (N := 2) rfl ?_); refine box_event ?hg (N := 2) ?hd (cs := #[.string a0_0, .int .u8 a0_1, .int .u8 a0_2, .int .i64 a0_3, .int .i64 a0_4, .int .i64 a0_5, .int .u16 a0_6, .bool a0_7, .slice A0_8 l0_8.length c0_8]) (t := 28) ?hr ?_; (case hd => rfl); (case hg => rfl); (case hr => first | (go_simp; done) | (go_simp; rfl)); intro gb485 hg w27 hbox hb; have BK485 := Aside0.mk (hbox); have GW485 := Aside0.mk ((by rw [hg]; exact (below_size Zb) : w.heap.size ≤ gb485)); have GE485 := Aside0.mk ((by rw [hg]; exact (below_size Zb) : w.heap.size ≤ gb485)); replace HB := Aside0.mk (below_step Zb hb); clear hb hbox hg) | ((with_reducible refine gate_dst (N := 3) rfl ?_); refine box_event ?hg (N := 3) ?hd (cs := #[.string a1_0, .int .u8 a1_1, .int .u8 a1_2, .int .i64 a1_3, .int .i64 a1_4, .int .i64 a1_5, .int .u16 a1_6, .bool a1_7, .slice A1_8 l1_8.length c1_8]) (t := 28) ?hr ?_; (case hd => rfl); (case hg => rfl); (case hr => first | (go_simp; done) | (go_simp; rfl)); intro gb486 hg w28 hbox hb; have BK486 := Aside0.mk (hbox); have GW486 := Aside0.mk ((by rw [hg]; exact (below_size (Zb1 GE485.out)) : w.heap.size ≤ gb486)); have GE486 := Aside0.mk ((by rw [hg]; exact (below_size (Zb1 GE485.out)) : w.heap.size ≤ gb486)); replace HB := Aside0.mk (below_step (Zb1 GE485.out) hb); have NB485_486 := Aside0.mk ((by rw [hg]; exact Nat.ne_of_lt (blk_lt (Zj BK485.out)) : gb485 ≠ gb486)); have NB486_485 := Aside0.mk ((by rw [hg]; exact Nat.ne_of_gt (blk_lt (Zj BK485.out)) : gb486 ≠ gb485)); replace BK485 := Aside0.mk (blk_below (Zj BK485.out) hb); clear hb hbox hg; have hnb29 := NB485_486.out; have hnc29 := NB486_485.out; obtain ⟨hcz30_0, hcz30_1, hcz30_2, hcz30_3, hcz30_4, hcz30_5, hcz30_6, hcz30_7, hcz30_8, hfz30_0, hfz30_1, hfz30_2, hfz30_3, hfz30_4, hfz30_5, hfz30_6, hfz30_7, hfz30_8⟩ := Z9 BK485.out; obtain ⟨hcz31_0, hcz31_1, hcz31_2, hcz31_3, hcz31_4, hcz31_5, hcz31_6, hcz31_7, hcz31_8, hfz31_0, hfz31_1, hfz31_2, hfz31_3, hfz31_4, hfz31_5, hfz31_6, hfz31_7, hfz31_8⟩ := Z9 BK486.out))
       go_ret
       exact ⟨Ze, Zb2 GE485.out GE486.out⟩
     ·rw [if_neg c7] at H
      have c7b0 : (a0_4 == a1_4) = false := beq_eq_false_iff_ne.mpr c7
      have c7b1 : (a0_4 != a1_4) = true := bne_iff_ne.mpr c7
      obtain rfl := Option.some.inj H
      go_enter Tryz.func18, Tryz.ntmps18
      go_wp2_with (first | ((with_reducible refine gate_dst (N := 2) rfl ?_); refine box_event ?hg (N := 2) ?hd (cs := #[.string a0_0, .int .u8 a0_1, .int .u8 a0_2, .int .i64 a0_3, .int .i64 a0_4, .int .i64 a0_5, .int .u16 a0_6, .bool a0_7, .slice A0_8 l0_8.length c0_8]) (t := 28) ?hr ?_; (case hd => rfl); (case hg => rfl); (case hr => first | (go_simp; done) | (go_simp; rfl)); intro gb485 hg w32 hbox hb; have BK485 := Aside0.mk (hbox); have GW485 := Aside0.mk ((by rw [hg]; exact (below_size Zb) : w.heap.size ≤ gb485)); have GE485 := Aside0.mk ((by rw [hg]; exact (below_size Zb) : w.heap.size ≤ gb485)); replace HB := Aside0.mk (below_step Zb hb); clear hb hbox hg) | ((with_reducible refine gate_dst (N := 3) rfl ?_); refine box_event ?hg (N := 3) ?hd (cs := #[.string a1_0, .int .u8 a1_1, .int .u8 a1_2, .int .i64 a1_3, .int .i64 a1_4, .int .i64 a1_5, .int .u16 a1_6, .bool a1_7, .slice A1_8 l1_8.length c1_8]) (t := 28) ?hr ?_; (case hd => rfl); (case hg => rfl); (case hr => first | (go_simp; done) | (go_simp; rfl)); intro gb486 hg w33 hbox hb; have BK486 := Aside0.mk (hbox); have GW486 := Aside0.mk ((by rw [hg]; exact (below_size (Zb1 GE485.out)) : w.heap.size ≤ gb486)); have GE486 := Aside0.mk ((by rw [hg]; exact (below_size (Zb1 GE485.out)) : w.heap.size ≤ gb486)); replace HB := Aside0.mk (below_step (Zb1 GE485.out) hb); have NB485_486 := Aside0.mk ((by rw [hg]; exact Nat.ne_of_lt (blk_lt (Zj BK485.out)) : gb485 ≠ gb486)); have NB486_485 := Aside0.mk ((by rw [hg]; exact Nat.ne_of_gt (blk_lt (Zj BK485.out)) : gb486 ≠ gb485)); replace BK485 := Aside0.mk (blk_below (Zj BK485.out) hb); clear hb hbox hg; have hnb34 := NB485_486.out; have hnc34 := NB486_485.out; obtain ⟨hcz35_0, hcz35_1, hcz35_2, hcz35_3, hcz35_4, hcz35_5, hcz35_6, hcz35_7, hcz35_8, hfz35_0, hfz35_1, hfz35_2, hfz35_3, hfz35_4, hfz35_5, hfz35_6, hfz35_7, hfz35_8⟩ := Z9 BK485.out; obtain ⟨hcz36_0, hcz36_1, hcz36_2, hcz36_3, hcz36_4, hcz36_5, hcz36_6, hcz36_7, hcz36_8, hfz36_0, hfz36_1, hfz36_2, hfz36_3, hfz36_4, hfz36_5, hfz36_6, hfz36_7, hfz36_8⟩ := Z9 BK486.out))
      go_ret
      exact ⟨Ze, Zb2 GE485.out GE486.out⟩
    ·rw [if_neg c6] at H
     have c6b0 : (a0_3 == a1_3) = false := beq_eq_false_iff_ne.mpr c6
     have c6b1 : (a0_3 != a1_3) = true := bne_iff_ne.mpr c6
     obtain rfl := Option.some.inj H
     go_enter Tryz.func18, Tryz.ntmps18
     go_wp2_with (first | ((with_reducible refine gate_dst (N := 2) rfl ?_); refine box_event ?hg (N := 2) ?hd (cs := #[.string a0_0, .int .u8 a0_1, .int .u8 a0_2, .int .i64 a0_3, .int .i64 a0_4, .int .i64 a0_5, .int .u16 a0_6, .bool a0_7, .slice A0_8 l0_8.length c0_8]) (t := 28) ?hr ?_; (case hd => rfl); (case hg => rfl); (case hr => first | (go_simp; done) | (go_simp; rfl)); intro gb485 hg w37 hbox hb; have BK485 := Aside0.mk (hbox); have GW485 := Aside0.mk ((by rw [hg]; exact (below_size Zb) : w.heap.size ≤ gb485)); have GE485 := Aside0.mk ((by rw [hg]; exact (below_size Zb) : w.heap.size ≤ gb485)); replace HB := Aside0.mk (below_step Zb hb); clear hb hbox hg) | ((with_reducible refine gate_dst (N := 3) rfl ?_); refine box_event ?hg (N := 3) ?hd (cs := #[.string a1_0, .int .u8 a1_1, .int .u8 a1_2, .int .i64 a1_3, .int .i64 a1_4, .int .i64 a1_5, .int .u16 a1_6, .bool a1_7, .slice A1_8 l1_8.length c1_8]) (t := 28) ?hr ?_; (case hd => rfl); (case hg => rfl); (case hr => first | (go_simp; done) | (go_simp; rfl)); intro gb486 hg w38 hbox hb; have BK486 := Aside0.mk (hbox); have GW486 := Aside0.mk ((by rw [hg]; exact (below_size (Zb1 GE485.out)) : w.heap.size ≤ gb486)); have GE486 := Aside0.mk ((by rw [hg]; exact (below_size (Zb1 GE485.out)) : w.heap.size ≤ gb486)); replace HB := Aside0.mk (below_step (Zb1 GE485.out) hb); have NB485_486 := Aside0.mk ((by rw [hg]; exact Nat.ne_of_lt (blk_lt (Zj BK485.out)) : gb485 ≠ gb486)); have NB486_485 := Aside0.mk ((by rw [hg]; exact Nat.ne_of_gt (blk_lt (Zj BK485.out)) : gb486 ≠ gb485)); replace BK485 := Aside0.mk (blk_below (Zj BK485.out) hb); clear hb hbox hg; have hnb39 := NB485_486.out; have hnc39 := NB486_485.out; obtain ⟨hcz40_0, hcz40_1, hcz40_2, hcz40_3, hcz40_4, hcz40_5, hcz40_6, hcz40_7, hcz40_8, hfz40_0, hfz40_1, hfz40_2, hfz40_3, hfz40_4, hfz40_5, hfz40_6, hfz40_7, hfz40_8⟩ := Z9 BK485.out; obtain ⟨hcz41_0, hcz41_1, hcz41_2, hcz41_3, hcz41_4, hcz41_5, hcz41_6, hcz41_7, hcz41_8, hfz41_0, hfz41_1, hfz41_2, hfz41_3, hfz41_4, hfz41_5, hfz41_6, hfz41_7, hfz41_8⟩ := Z9 BK486.out))
     go_ret
     exact ⟨Ze, Zb2 GE485.out GE486.out⟩
   ·rw [if_neg c5] at H
    have c5b0 : (a0_2 == a1_2) = false := beq_eq_false_iff_ne.mpr c5
    have c5b1 : (a0_2 != a1_2) = true := bne_iff_ne.mpr c5
    obtain rfl := Option.some.inj H
    go_enter Tryz.func18, Tryz.ntmps18
    go_wp2_with (first | ((with_reducible refine gate_dst (N := 2) rfl ?_); refine box_event ?hg (N := 2) ?hd (cs := #[.string a0_0, .int .u8 a0_1, .int .u8 a0_2, .int .i64 a0_3, .int .i64 a0_4, .int .i64 a0_5, .int .u16 a0_6, .bool a0_7, .slice A0_8 l0_8.length c0_8]) (t := 28) ?hr ?_; (case hd => rfl); (case hg => rfl); (case hr => first | (go_simp; done) | (go_simp; rfl)); intro gb485 hg w42 hbox hb; have BK485 := Aside0.mk (hbox); have GW485 := Aside0.mk ((by rw [hg]; exact (below_size Zb) : w.heap.size ≤ gb485)); have GE485 := Aside0.mk ((by rw [hg]; exact (below_size Zb) : w.heap.size ≤ gb485)); replace HB := Aside0.mk (below_step Zb hb); clear hb hbox hg) | ((with_reducible refine gate_dst (N := 3) rfl ?_); refine box_event ?hg (N := 3) ?hd (cs := #[.string a1_0, .int .u8 a1_1, .int .u8 a1_2, .int .i64 a1_3, .int .i64 a1_4, .int .i64 a1_5, .int .u16 a1_6, .bool a1_7, .slice A1_8 l1_8.length c1_8]) (t := 28) ?hr ?_; (case hd => rfl); (case hg => rfl); (case hr => first | (go_simp; done) | (go_simp; rfl)); intro gb486 hg w43 hbox hb; have BK486 := Aside0.mk (hbox); have GW486 := Aside0.mk ((by rw [hg]; exact (below_size (Zb1 GE485.out)) : w.heap.size ≤ gb486)); have GE486 := Aside0.mk ((by rw [hg]; exact (below_size (Zb1 GE485.out)) : w.heap.size ≤ gb486)); replace HB := Aside0.mk (below_step (Zb1 GE485.out) hb); have NB485_486 := Aside0.mk ((by rw [hg]; exact Nat.ne_of_lt (blk_lt (Zj BK485.out)) : gb485 ≠ gb486)); have NB486_485 := Aside0.mk ((by rw [hg]; exact Nat.ne_of_gt (blk_lt (Zj BK485.out)) : gb486 ≠ gb485)); replace BK485 := Aside0.mk (blk_below (Zj BK485.out) hb); clear hb hbox hg; have hnb44 := NB485_486.out; have hnc44 := NB486_485.out; obtain ⟨hcz45_0, hcz45_1, hcz45_2, hcz45_3, hcz45_4, hcz45_5, hcz45_6, hcz45_7, hcz45_8, hfz45_0, hfz45_1, hfz45_2, hfz45_3, hfz45_4, hfz45_5, hfz45_6, hfz45_7, hfz45_8⟩ := Z9 BK485.out; obtain ⟨hcz46_0, hcz46_1, hcz46_2, hcz46_3, hcz46_4, hcz46_5, hcz46_6, hcz46_7, hcz46_8, hfz46_0, hfz46_1, hfz46_2, hfz46_3, hfz46_4, hfz46_5, hfz46_6, hfz46_7, hfz46_8⟩ := Z9 BK486.out))
    go_ret
    exact ⟨Ze, Zb2 GE485.out GE486.out⟩
  ·rw [if_neg c4] at H
   have c4b0 : (a0_1 == a1_1) = false := beq_eq_false_iff_ne.mpr c4
   have c4b1 : (a0_1 != a1_1) = true := bne_iff_ne.mpr c4
   obtain rfl := Option.some.inj H
   go_enter Tryz.func18, Tryz.ntmps18
   go_wp2_with (first | ((with_reducible refine gate_dst (N := 2) rfl ?_); refine box_event ?hg (N := 2) ?hd (cs := #[.string a0_0, .int .u8 a0_1, .int .u8 a0_2, .int .i64 a0_3, .int .i64 a0_4, .int .i64 a0_5, .int .u16 a0_6, .bool a0_7, .slice A0_8 l0_8.length c0_8]) (t := 28) ?hr ?_; (case hd => rfl); (case hg => rfl); (case hr => first | (go_simp; done) | (go_simp; rfl)); intro gb485 hg w47 hbox hb; have BK485 := Aside0.mk (hbox); have GW485 := Aside0.mk ((by rw [hg]; exact (below_size Zb) : w.heap.size ≤ gb485)); have GE485 := Aside0.mk ((by rw [hg]; exact (below_size Zb) : w.heap.size ≤ gb485)); replace HB := Aside0.mk (below_step Zb hb); clear hb hbox hg) | ((with_reducible refine gate_dst (N := 3) rfl ?_); refine box_event ?hg (N := 3) ?hd (cs := #[.string a1_0, .int .u8 a1_1, .int .u8 a1_2, .int .i64 a1_3, .int .i64 a1_4, .int .i64 a1_5, .int .u16 a1_6, .bool a1_7, .slice A1_8 l1_8.length c1_8]) (t := 28) ?hr ?_; (case hd => rfl); (case hg => rfl); (case hr => first | (go_simp; done) | (go_simp; rfl)); intro gb486 hg w48 hbox hb; have BK486 := Aside0.mk (hbox); have GW486 := Aside0.mk ((by rw [hg]; exact (below_size (Zb1 GE485.out)) : w.heap.size ≤ gb486)); have GE486 := Aside0.mk ((by rw [hg]; exact (below_size (Zb1 GE485.out)) : w.heap.size ≤ gb486)); replace HB := Aside0.mk (below_step (Zb1 GE485.out) hb); have NB485_486 := Aside0.mk ((by rw [hg]; exact Nat.ne_of_lt (blk_lt (Zj BK485.out)) : gb485 ≠ gb486)); have NB486_485 := Aside0.mk ((by rw [hg]; exact Nat.ne_of_gt (blk_lt (Zj BK485.out)) : gb486 ≠ gb485)); replace BK485 := Aside0.mk (blk_below (Zj BK485.out) hb); clear hb hbox hg; have hnb49 := NB485_486.out; have hnc49 := NB486_485.out; obtain ⟨hcz50_0, hcz50_1, hcz50_2, hcz50_3, hcz50_4, hcz50_5, hcz50_6, hcz50_7, hcz50_8, hfz50_0, hfz50_1, hfz50_2, hfz50_3, hfz50_4, hfz50_5, hfz50_6, hfz50_7, hfz50_8⟩ := Z9 BK485.out; obtain ⟨hcz51_0, hcz51_1, hcz51_2, hcz51_3, hcz51_4, hcz51_5, hcz51_6, hcz51_7, hcz51_8, hfz51_0, hfz51_1, hfz51_2, hfz51_3, hfz51_4, hfz51_5, hfz51_6, hfz51_7, hfz51_8⟩ := Z9 BK486.out))
   go_ret
   exact ⟨Ze, Zb2 GE485.out GE486.out⟩
 ·rw [if_neg c3] at H
  have c3b0 : (a0_0.toList == a1_0.toList) = false := beq_eq_false_iff_ne.mpr c3
  have c3b1 : (a0_0.toList != a1_0.toList) = true := bne_iff_ne.mpr c3
  obtain rfl := Option.some.inj H
  go_enter Tryz.func18, Tryz.ntmps18
  go_wp2_with (first | ((with_reducible refine gate_dst (N := 2) rfl ?_); refine box_event ?hg (N := 2) ?hd (cs := #[.string a0_0, .int .u8 a0_1, .int .u8 a0_2, .int .i64 a0_3, .int .i64 a0_4, .int .i64 a0_5, .int .u16 a0_6, .bool a0_7, .slice A0_8 l0_8.length c0_8]) (t := 28) ?hr ?_; (case hd => rfl); (case hg => rfl); (case hr => first | (go_simp; done) | (go_simp; rfl)); intro gb485 hg w52 hbox hb; have BK485 := Aside0.mk (hbox); have GW485 := Aside0.mk ((by rw [hg]; exact (below_size Zb) : w.heap.size ≤ gb485)); have GE485 := Aside0.mk ((by rw [hg]; exact (below_size Zb) : w.heap.size ≤ gb485)); replace HB := Aside0.mk (below_step Zb hb); clear hb hbox hg) | ((with_reducible refine gate_dst (N := 3) rfl ?_); refine box_event ?hg (N := 3) ?hd (cs := #[.string a1_0, .int .u8 a1_1, .int .u8 a1_2, .int .i64 a1_3, .int .i64 a1_4, .int .i64 a1_5, .int .u16 a1_6, .bool a1_7, .slice A1_8 l1_8.length c1_8]) (t := 28) ?hr ?_; (case hd => rfl); (case hg => rfl); (case hr => first | (go_simp; done) | (go_simp; rfl)); intro gb486 hg w53 hbox hb; have BK486 := Aside0.mk (hbox); have GW486 := Aside0.mk ((by rw [hg]; exact (below_size (Zb1 GE485.out)) : w.heap.size ≤ gb486)); have GE486 := Aside0.mk ((by rw [hg]; exact (below_size (Zb1 GE485.out)) : w.heap.size ≤ gb486)); replace HB := Aside0.mk (below_step (Zb1 GE485.out) hb); have NB485_486 := Aside0.mk ((by rw [hg]; exact Nat.ne_of_lt (blk_lt (Zj BK485.out)) : gb485 ≠ gb486)); have NB486_485 := Aside0.mk ((by rw [hg]; exact Nat.ne_of_gt (blk_lt (Zj BK485.out)) : gb486 ≠ gb485)); replace BK485 := Aside0.mk (blk_below (Zj BK485.out) hb); clear hb hbox hg; have hnb54 := NB485_486.out; have hnc54 := NB486_485.out; obtain ⟨hcz55_0, hcz55_1, hcz55_2, hcz55_3, hcz55_4, hcz55_5, hcz55_6, hcz55_7, hcz55_8, hfz55_0, hfz55_1, hfz55_2, hfz55_3, hfz55_4, hfz55_5, hfz55_6, hfz55_7, hfz55_8⟩ := Z9 BK485.out; obtain ⟨hcz56_0, hcz56_1, hcz56_2, hcz56_3, hcz56_4, hcz56_5, hcz56_6, hcz56_7, hcz56_8, hfz56_0, hfz56_1, hfz56_2, hfz56_3, hfz56_4, hfz56_5, hfz56_6, hfz56_7, hfz56_8⟩ := Z9 BK486.out))
  go_ret
  exact ⟨Ze, Zb2 GE485.out GE486.out⟩
def gambitlaw06_rock.f  : Option (ByteArray × Int × Int × Int × Int × Int × Int × Bool × (List (S48))) := some ((⟨#[114, 111, 99, 107]⟩ : ByteArray), 2, 1, 1, 1, 1, 0, false, ([] : List (S48)))
set_option maxHeartbeats 8000000 in
set_option maxRecDepth 100000 in
theorem gambitlaw06_rock.calls  (r1 : ByteArray) (r2 : Int) (r3 : Int) (r4 : Int) (r5 : Int) (r6 : Int) (r7 : Int) (r8 : Bool) (r9 : List (S48)) (w : World) (h : gambitlaw06_rock.f  = some (r1, r2, r3, r4, r5, r6, r7, r8, r9)) :
  Calls Tryz.prog 73 #[] w fun e w' => ∃ v8_ : Value, e = .returned (.agg #[.string r1, .int .u8 r2, .int .u8 r3, .int .i64 r4, .int .i64 r5, .int .i64 r6, .int .u16 r7, .bool r8, v8_]) ∧ Kd.R k48 48 w' w.heap.size (fun _ => True) v8_ r9 ∧ Below w.heap.size w w' := by
 have hu28 := Tryz.underlying28
 have HB := Aside0.mk (Below.refl w.heap.size w)
 have H : (some ((⟨#[114, 111, 99, 107]⟩ : ByteArray), 2, 1, 1, 1, 1, 0, false, ([] : List (S48)))) = some (r1, r2, r3, r4, r5, r6, r7, r8, r9) := h
 clear h
 simp only [Option.some.injEq, Prod.mk.injEq] at H
 obtain ⟨rfl, rfl, rfl, rfl, rfl, rfl, rfl, rfl, rfl⟩ := H
 go_enter Tryz.func73, Tryz.ntmps73
 go_wp2_with (first | ((with_reducible refine gate_dst (N := 0) rfl ?_); refine box_event ?hg (N := 0) ?hd (cs := #[.string (⟨#[]⟩ : ByteArray), .int .u8 0, .int .u8 0, .int .i64 0, .int .i64 0, .int .i64 0, .int .u16 0, .bool false, .slice none 0 0]) (t := 28) ?hr ?_; (case hd => rfl); (case hg => rfl); (case hr => first | (go_simp; done) | (go_simp; rfl)); intro gb636 hg w1 hbox hb; have BK636 := Aside0.mk (hbox); have GW636 := Aside0.mk ((by rw [hg]; exact (below_size Zb) : w.heap.size ≤ gb636)); have GE636 := Aside0.mk ((by rw [hg]; exact (below_size Zb) : w.heap.size ≤ gb636)); replace HB := Aside0.mk (below_step Zb hb); clear hb hbox hg; obtain ⟨hcz2_0, hcz2_1, hcz2_2, hcz2_3, hcz2_4, hcz2_5, hcz2_6, hcz2_7, hcz2_8, hfz2_0, hfz2_1, hfz2_2, hfz2_3, hfz2_4, hfz2_5, hfz2_6, hfz2_7, hfz2_8⟩ := Z9 BK636.out))
 refine bodyPost_ret (results_cell_row rfl _ _ gb636 28 #[.string (⟨#[114, 111, 99, 107]⟩ : ByteArray), .int .u8 2, .int .u8 1, .int .i64 1, .int .i64 1, .int .i64 1, .int .u16 0, .bool false, .slice none 0 0] (0, 0) _ rfl (by (with_reducible repeat (first | apply blk_kn | apply blk_kd | apply blk_ka)); refine blk_put (cs := #[.string (⟨#[114, 111, 99, 107]⟩ : ByteArray), .int .u8 2, .int .u8 1, .int .i64 1, .int .i64 1, .int .i64 1, .int .u16 0, .bool false, .slice none 0 0]) ?_ 8 _ rfl; (with_reducible repeat (first | apply blk_kn | apply blk_kd | apply blk_ka)); refine blk_put (cs := #[.string (⟨#[114, 111, 99, 107]⟩ : ByteArray), .int .u8 2, .int .u8 1, .int .i64 1, .int .i64 1, .int .i64 1, .int .u16 0, .bool false, .slice none 0 0]) ?_ 7 _ rfl; (with_reducible repeat (first | apply blk_kn | apply blk_kd | apply blk_ka)); refine blk_put (cs := #[.string (⟨#[114, 111, 99, 107]⟩ : ByteArray), .int .u8 2, .int .u8 1, .int .i64 1, .int .i64 1, .int .i64 1, .int .u16 0, .bool false, .slice none 0 0]) ?_ 6 _ rfl; (with_reducible repeat (first | apply blk_kn | apply blk_kd | apply blk_ka)); refine blk_put (cs := #[.string (⟨#[114, 111, 99, 107]⟩ : ByteArray), .int .u8 2, .int .u8 1, .int .i64 1, .int .i64 1, .int .i64 0, .int .u16 0, .bool false, .slice none 0 0]) ?_ 5 _ rfl; (with_reducible repeat (first | apply blk_kn | apply blk_kd | apply blk_ka)); refine blk_put (cs := #[.string (⟨#[114, 111, 99, 107]⟩ : ByteArray), .int .u8 2, .int .u8 1, .int .i64 1, .int .i64 0, .int .i64 0, .int .u16 0, .bool false, .slice none 0 0]) ?_ 4 _ rfl; (with_reducible repeat (first | apply blk_kn | apply blk_kd | apply blk_ka)); refine blk_put (cs := #[.string (⟨#[114, 111, 99, 107]⟩ : ByteArray), .int .u8 2, .int .u8 1, .int .i64 0, .int .i64 0, .int .i64 0, .int .u16 0, .bool false, .slice none 0 0]) ?_ 3 _ rfl; (with_reducible repeat (first | apply blk_kn | apply blk_kd | apply blk_ka)); refine blk_put (cs := #[.string (⟨#[114, 111, 99, 107]⟩ : ByteArray), .int .u8 2, .int .u8 0, .int .i64 0, .int .i64 0, .int .i64 0, .int .u16 0, .bool false, .slice none 0 0]) ?_ 2 _ rfl; (with_reducible repeat (first | apply blk_kn | apply blk_kd | apply blk_ka)); refine blk_put (cs := #[.string (⟨#[114, 111, 99, 107]⟩ : ByteArray), .int .u8 0, .int .u8 0, .int .i64 0, .int .i64 0, .int .i64 0, .int .u16 0, .bool false, .slice none 0 0]) ?_ 1 _ rfl; (with_reducible repeat (first | apply blk_kn | apply blk_kd | apply blk_ka)); refine blk_put (cs := #[.string (⟨#[]⟩ : ByteArray), .int .u8 0, .int .u8 0, .int .i64 0, .int .i64 0, .int .i64 0, .int .u16 0, .bool false, .slice none 0 0]) ?_ 0 _ rfl; exact Zk BK636.out) Tryz.underlying28 rfl (by kernel_rfl)) rfl ?_
 exact ⟨_, Ze, by first | exact Kd.R_nil _ _ _ _ _ | exact Kd.N_nil _ _ _ _ _ | exact Kd.V_nil _ _ _ _ _ | exact Kd.Q_nil _ _ _ _ _ | exact Kd.S_nil _ _ _ _ _, Zb1 GE636.out⟩
end Go.Proofs.YtfpcideomanbbaaGreatDoor.PA
end
section
namespace Go.Proofs.YtfpcideomanbbaaGreatDoor
open Go.ChangeShapes Go.WideShapes Go.ChangeAt Go.RowKit Go.Deep Go.Joins
section
variable {H : Type} {enc : TypeId × Value → H} {P : Program} {w : World} {base : Nat} {spare : Nat → Bool} {held : Bool}
theorem part_size : Tryz.prog.cellsOf 48 = 8 := by kernel_rfl
end
end Go.Proofs.YtfpcideomanbbaaGreatDoor
end
section
namespace Go.Proofs.YtfpcideomanbbaaGreatDoor
open Go.ChangeShapes Go.WideShapes Go.ChangeAt Go.RowKit Go.Deep Go.Joins Go.Proofs.YtfpcideomanbbaaGreatDoorW.PrintWords Go.Proofs.YtfpcideomanbbaaGreatDoorW.PrintLast Go.Proofs.YtfpcideomanbbaaGreatDoorW.PrintMore
section
variable {H : Type} {enc : TypeId × Value → H} {w : World} {base : Nat} {spare : Nat → Bool} {held : Bool}
def enc48 (p : PA.S48) : List Value := [.int .u8 p.f0, .int .u8 p.f1, .int .u8 p.f2, .int .i64 p.f3, .int .u8 p.f4, .int .u8 p.f5, .int .u8 p.f6, .string p.f7]
theorem k48_mk (w : World) (p : PA.S48) : PA.k48.K w p (enc48 p) :=
  ⟨[_], _, rfl, rfl, [_], _, rfl, rfl, [_], _, rfl, rfl, [_], _, rfl, rfl, [_], _, rfl, rfl, [_], _, rfl, rfl, [_], _, rfl, rfl, rfl⟩
set_option maxRecDepth 100000 in
theorem read_part {n : Nat} {cs : List Value} {y : DataW H × List MemPlace} (h : DataW.trod enc Tryz.prog w base spare held n 48 cs = some y) : ∃ p : PA.S48, cs = enc48 p := by
  obtain ⟨xs, n', _, hx, hl, hlen, hg⟩ := DataW.trod_struct Tryz.underlying48 h
  rw [part_size] at hl
  obtain ⟨c0, c1, c2, c3, c4, c5, c6, c7, rfl⟩ : ∃ c0 c1 c2 c3 c4 c5 c6 c7, cs = [c0, c1, c2, c3, c4, c5, c6, c7] := by
    match cs, hl with
    | [c0, c1, c2, c3, c4, c5, c6, c7], _ => exact ⟨c0, c1, c2, c3, c4, c5, c6, c7, rfl⟩
  have k42 : Tryz.prog.cellsOf 42 = 1 := by kernel_rfl
  have k43 : Tryz.prog.cellsOf 43 = 1 := by kernel_rfl
  have k44 : Tryz.prog.cellsOf 44 = 1 := by kernel_rfl
  have k3 : Tryz.prog.cellsOf 3 = 1 := by kernel_rfl
  have k22 : Tryz.prog.cellsOf 22 = 1 := by kernel_rfl
  have k45 : Tryz.prog.cellsOf 45 = 1 := by kernel_rfl
  have k46 : Tryz.prog.cellsOf 46 = 1 := by kernel_rfl
  have k9 : Tryz.prog.cellsOf 9 = 1 := by kernel_rfl
  match xs, hlen with
  | [y0, y1, y2, y3, y4, y5, y6, y7], _ =>
    have g0 : DataW.trod enc Tryz.prog w base spare held n' 42 [c0] = some y0 := by simpa [Value.cells, k42] using hg 0 _ rfl
    have g1 : DataW.trod enc Tryz.prog w base spare held n' 43 [c1] = some y1 := by simpa [Value.cells, k43] using hg 1 _ rfl
    have g2 : DataW.trod enc Tryz.prog w base spare held n' 44 [c2] = some y2 := by simpa [Value.cells, k44] using hg 2 _ rfl
    have g3 : DataW.trod enc Tryz.prog w base spare held n' 3 [c3] = some y3 := by simpa [Value.cells, k3] using hg 3 _ rfl
    have g4 : DataW.trod enc Tryz.prog w base spare held n' 22 [c4] = some y4 := by simpa [Value.cells, k22] using hg 4 _ rfl
    have g5 : DataW.trod enc Tryz.prog w base spare held n' 45 [c5] = some y5 := by simpa [Value.cells, k45] using hg 5 _ rfl
    have g6 : DataW.trod enc Tryz.prog w base spare held n' 46 [c6] = some y6 := by simpa [Value.cells, k46] using hg 6 _ rfl
    have g7 : DataW.trod enc Tryz.prog w base spare held n' 9 [c7] = some y7 := by simpa [Value.cells, k9] using hg 7 _ rfl
    obtain ⟨a0, e0, _⟩ := DataW.trod_int (k := .u8) (by kernel_rfl) g0
    obtain ⟨a1, e1, _⟩ := DataW.trod_int (k := .u8) (by kernel_rfl) g1
    obtain ⟨a2, e2, _⟩ := DataW.trod_int (k := .u8) (by kernel_rfl) g2
    obtain ⟨a3, e3, _⟩ := DataW.trod_int (k := .i64) (by kernel_rfl) g3
    obtain ⟨a4, e4, _⟩ := DataW.trod_int (k := .u8) (by kernel_rfl) g4
    obtain ⟨a5, e5, _⟩ := DataW.trod_int (k := .u8) (by kernel_rfl) g5
    obtain ⟨a6, e6, _⟩ := DataW.trod_int (k := .u8) (by kernel_rfl) g6
    obtain ⟨a7, e7, _⟩ := DataW.trod_string (by kernel_rfl) g7
    obtain rfl := List.cons.inj e0 |>.1
    obtain rfl := List.cons.inj e1 |>.1
    obtain rfl := List.cons.inj e2 |>.1
    obtain rfl := List.cons.inj e3 |>.1
    obtain rfl := List.cons.inj e4 |>.1
    obtain rfl := List.cons.inj e5 |>.1
    obtain rfl := List.cons.inj e6 |>.1
    obtain rfl := List.cons.inj e7 |>.1
    exact ⟨⟨a0, a1, a2, a3, a4, a5, a6, a7⟩, rfl⟩
theorem open_parts {n : Nat} {v : Value} {y : DataW H × List MemPlace} (h : DataW.trod enc Tryz.prog w base spare held n 26 [v] = some y) :
    ∃ (A : Option Addr) (l : List PA.S48) (c : Nat), v = .slice A l.length c ∧ l.length ≤ c ∧ Kd.C PA.k48 w A l.length l := by
  rcases open_slice Tryz.underlying26 h with ⟨hcs, _⟩ | ⟨a, len, cap, m, n, D, Pl, hcs, hb, hl, hm, hmm, hx, hi⟩
  · obtain rfl := List.cons.inj hcs |>.1
    exact ⟨none, [], 0, rfl, Nat.le_refl _, Kd.C_nil _ _⟩
  · obtain rfl := List.cons.inj hcs |>.1
    have hlm : len ≤ m := by rw [hmm]; split <;> omega
    have each : ∀ i, i < len → ∃ p : PA.S48, ∀ j u, (enc48 p)[j]? = some u → w.cell? (a.add (i * 8 + j)) = some u := by
      intro i hil
      obtain ⟨cs', hc, ht⟩ := hi i (by omega)
      obtain ⟨p, rfl⟩ := read_part ht
      rw [part_size] at hc
      refine ⟨p, fun j u hu => ?_⟩
      obtain ⟨_, _, hat⟩ := World.cells?_some hc
      have hj : j < 8 := by have := (List.getElem?_eq_some_iff.1 hu).1; simpa [enc48] using this
      have := hat j hj
      rw [← hu, ← this, Go.Deep.add_add]
    obtain ⟨f, hf⟩ : ∃ f : Nat → PA.S48, ∀ i, i < len → ∀ j u, (enc48 (f i))[j]? = some u → w.cell? (a.add (i * 8 + j)) = some u :=
      ⟨fun i => if h : i < len then Classical.choose (each i h) else PA.z48, fun i hil => by simp only [dif_pos hil]; exact Classical.choose_spec (each i hil)⟩
    refine ⟨some a, (List.range len).map f, cap, by simp, by simpa using hl, rfl, by simp; unfold maxLen at hm; omega, fun hn => ⟨a, rfl, fun j p hp => ⟨enc48 p, rfl, k48_mk w p, fun i u hu => ?_⟩⟩⟩
    obtain ⟨hj, rfl⟩ : j < len ∧ p = f j := by
      rw [List.getElem?_map] at hp
      by_cases hj : j < len
      · rw [List.getElem?_range hj] at hp
        exact ⟨hj, (Option.some.inj hp).symm⟩
      · rw [List.getElem?_eq_none (by simpa using hj)] at hp; cases hp
    exact hf j hj i u hu
theorem card_size : Tryz.prog.cellsOf 28 = 9 := by kernel_rfl
theorem array9 {α : Type} {cs : Array α} (h : cs.size = 9) : ∃ c0 c1 c2 c3 c4 c5 c6 c7 c8, cs = #[c0, c1, c2, c3, c4, c5, c6, c7, c8] := by
  obtain ⟨l⟩ := cs
  match l, h with
  | [c0, c1, c2, c3, c4, c5, c6, c7, c8], _ => exact ⟨c0, c1, c2, c3, c4, c5, c6, c7, c8, rfl⟩
set_option maxRecDepth 100000 in
theorem open_card {r : Reach} {b0 : Nat} {v : Value} {d : DataW H} {p : List MemPlace} (hv : Value.okWide Tryz.prog w r b0 28 v) (h : DataW.Trod enc Tryz.prog w base spare held 28 v d p) :
    ∃ (a0 : ByteArray) (a1 a2 a3 a4 a5 a6 : Int) (a7 : Bool) (A : Option Addr) (l : List PA.S48) (c : Nat), v = .agg #[.string a0, .int .u8 a1, .int .u8 a2, .int .i64 a3, .int .i64 a4, .int .i64 a5, .int .u16 a6, .bool a7, .slice A l.length c] ∧ l.length ≤ c ∧ Kd.C PA.k48 w A l.length l := by
  obtain ⟨cs, rfl, hsz⟩ := okWide_struct Tryz.underlying28 hv
  obtain ⟨c0, c1, c2, c3, c4, c5, c6, c7, c8, rfl⟩ := array9 (hsz.trans card_size)
  obtain ⟨fuel, hf⟩ := h
  obtain ⟨xs, n, _, hx, _, hlen, hg⟩ := DataW.trod_struct Tryz.underlying28 hf
  have k9 : Tryz.prog.cellsOf 9 = 1 := by kernel_rfl
  have k22 : Tryz.prog.cellsOf 22 = 1 := by kernel_rfl
  have k23 : Tryz.prog.cellsOf 23 = 1 := by kernel_rfl
  have k3 : Tryz.prog.cellsOf 3 = 1 := by kernel_rfl
  have k25 : Tryz.prog.cellsOf 25 = 1 := by kernel_rfl
  have k4 : Tryz.prog.cellsOf 4 = 1 := by kernel_rfl
  have k26 : Tryz.prog.cellsOf 26 = 1 := by kernel_rfl
  match xs, hlen with
  | [y0, y1, y2, y3, y4, y5, y6, y7, y8], _ =>
    have g0 : DataW.trod enc Tryz.prog w base spare held n 9 [c0] = some y0 := by simpa [Value.cells, k9] using hg 0 _ rfl
    have g1 : DataW.trod enc Tryz.prog w base spare held n 22 [c1] = some y1 := by simpa [Value.cells, k22] using hg 1 _ rfl
    have g2 : DataW.trod enc Tryz.prog w base spare held n 23 [c2] = some y2 := by simpa [Value.cells, k23] using hg 2 _ rfl
    have g3 : DataW.trod enc Tryz.prog w base spare held n 3 [c3] = some y3 := by simpa [Value.cells, k3] using hg 3 _ rfl
    have g4 : DataW.trod enc Tryz.prog w base spare held n 3 [c4] = some y4 := by simpa [Value.cells, k3] using hg 4 _ rfl
    have g5 : DataW.trod enc Tryz.prog w base spare held n 3 [c5] = some y5 := by simpa [Value.cells, k3] using hg 5 _ rfl
    have g6 : DataW.trod enc Tryz.prog w base spare held n 25 [c6] = some y6 := by simpa [Value.cells, k25] using hg 6 _ rfl
    have g7 : DataW.trod enc Tryz.prog w base spare held n 4 [c7] = some y7 := by simpa [Value.cells, k4] using hg 7 _ rfl
    have g8 : DataW.trod enc Tryz.prog w base spare held n 26 [c8] = some y8 := by simpa [Value.cells, k26] using hg 8 _ rfl
    obtain ⟨a0, e0, _⟩ := DataW.trod_string (by kernel_rfl) g0
    obtain ⟨a1, e1, _⟩ := DataW.trod_int (k := .u8) (by kernel_rfl) g1
    obtain ⟨a2, e2, _⟩ := DataW.trod_int (k := .u8) (by kernel_rfl) g2
    obtain ⟨a3, e3, _⟩ := DataW.trod_int (k := .i64) (by kernel_rfl) g3
    obtain ⟨a4, e4, _⟩ := DataW.trod_int (k := .i64) (by kernel_rfl) g4
    obtain ⟨a5, e5, _⟩ := DataW.trod_int (k := .i64) (by kernel_rfl) g5
    obtain ⟨a6, e6, _⟩ := DataW.trod_int (k := .u16) (by kernel_rfl) g6
    obtain ⟨a7, e7, _⟩ := DataW.trod_bool (by kernel_rfl) g7
    obtain ⟨A, l, c, rfl, hl, hC⟩ := open_parts g8
    obtain rfl := List.cons.inj e0 |>.1
    obtain rfl := List.cons.inj e1 |>.1
    obtain rfl := List.cons.inj e2 |>.1
    obtain rfl := List.cons.inj e3 |>.1
    obtain rfl := List.cons.inj e4 |>.1
    obtain rfl := List.cons.inj e5 |>.1
    obtain rfl := List.cons.inj e6 |>.1
    obtain rfl := List.cons.inj e7 |>.1
    exact ⟨a0, a1, a2, a3, a4, a5, a6, a7, A, l, c, rfl, hl, hC⟩
end
end Go.Proofs.YtfpcideomanbbaaGreatDoor
end
