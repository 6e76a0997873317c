/-
  Part 2 of a proof in 5 parts: lemmas, contracts and plain laws that its last part joins; no conditions of its own.
-/
import Derived.Test.YtfpcideomanbbaaGreatDoorProg
import Derived.Test.YtfpcideomanbbaaGreatDoorBZ
import Derived.Test.YtfpcideomanbbaaGreatDoorB1
import Derived.WalkKit
import Derived.WalkSmall
import Derived.Below
import Derived.Lib.LaidTab
import Derived.KernelRfl
import Derived.Lib.ItoaNum
import Derived.Lib.Space
import Derived.Lib.AtoiErrMem
import Derived.Deep.Draws
import Derived.Deep.AppendLies
import Derived.Maps.AppendAt
import Derived.OwnWalk
import Derived.Laws.BytesArg
import Derived.Laws.MakeOwn
import Derived.Laws.OwnMore
import Derived.Deep.OwnRows
import Derived.Tactics
import Derived.Lib.ConvBytes
import Derived.Laws.Slices
import Derived.RowKit3
import Derived.Deep.LoopGhost
import Derived.Deep.QuietTactic
import Derived.BigQuiet
import Derived.WideLaws
import Derived.Deep.DeepCutAuto
import Derived.Deep.CutBlock
import Derived.Deep.RegionHeld3
import Derived.Laws.Rows
import Derived.Lib.AppendStr
import Derived.ArgAppend
import Derived.Laws.IdiomCopy
import Derived.RowKit
import Derived.OrdersHeld
import Derived.Laws.BitsLemmas
import Derived.Laws.StructEq
import Derived.OpenShut
import Derived.Lib.SmallJoins
set_option linter.unusedVariables false
set_option linter.unusedSimpArgs false
section
namespace Go.Proofs.YtfpcideomanbbaaGreatDoor
open Go.RowKit
def traitNames : List (List UInt8) := [[], [102, 97, 115, 116], [103, 117, 97, 114, 100], [118, 101, 110, 111, 109], [108, 111, 110, 101], [100, 114, 97, 105, 110], [109, 117, 116, 101], [102, 105, 120, 101, 100], [115, 119, 105, 102, 116]]
structure GP (w : World) : Prop where
  maxLen : ∃ m, w.cell? ⟨5, 0, none⟩ = some (.int .i64 m)
  errSyntax : ∃ ev, w.cell? ⟨3, 0, none⟩ = some ev ∧ (ev = .nilIface ∨ ∃ te pe, ev = .iface te pe)
  errRange : ∃ ev, w.cell? ⟨4, 0, none⟩ = some ev ∧ (ev = .nilIface ∨ ∃ te pe, ev = .iface te pe)
  pow : Lib.TabIs Tryz.prog w "internal/strconv.uint64pow10" .u64 Lib.pow10Tab
  space : Lib.TabIs Tryz.prog w "strings.asciiSpace" .u8 Lib.asciiSpaceTab
  names : ∀ i, i < 9 → w.cell? ⟨0, i, none⟩ = some (.string ⟨(traitNames.getD i []).toArray⟩)
theorem gPow : Tryz.prog.globalNamed "internal/strconv.uint64pow10" = some 6 := by kernel_rfl
theorem gSpace : Tryz.prog.globalNamed "strings.asciiSpace" = some 1 := by kernel_rfl
theorem GP_below {w w' : World} (h : GP w) (hb : Below w.heap.size w w') : GP w' := by
  have lt : ∀ {g i : Nat} {v : Value}, w.cell? ⟨g, i, none⟩ = some v → g < w.heap.size := fun h => Lib.lt_of_cell h
  have keep : ∀ {g i : Nat} {v : Value}, w.cell? ⟨g, i, none⟩ = some v → w'.cell? ⟨g, i, none⟩ = some v := fun {g i v} h => by
    rw [hb.cell (p := ⟨g, i, none⟩) (lt h)]; exact h
  obtain ⟨m, hm⟩ := h.maxLen
  obtain ⟨ev, hev, he⟩ := h.errSyntax
  obtain ⟨rv, hrv, hr⟩ := h.errRange
  have hp := h.pow.cell gPow 0 (by decide)
  have hs := h.space.cell gSpace 0 (by rw [Lib.asciiSpaceTab_length]; decide)
  exact ⟨⟨m, keep hm⟩, ⟨ev, keep hev, he⟩, ⟨rv, keep hrv, hr⟩, var?_below hb gPow (lt hp) h.pow, var?_below hb gSpace (lt hs) h.space, fun i hi => keep (h.names i hi)⟩
end Go.Proofs.YtfpcideomanbbaaGreatDoor
end
section
namespace Go.Proofs.YtfpcideomanbbaaGreatDoor.PA
open Go.RowKit Go.Proofs.YtfpcideomanbbaaGreatDoorW.PrintWords Go.Proofs.YtfpcideomanbbaaGreatDoorW.PrintLast Go.Proofs.YtfpcideomanbbaaGreatDoorW.PrintMore
attribute [local go_sem] max2_int min2_int max_two min_two max_three min_three max_four min_four
set_option linter.unusedVariables false
set_option linter.unusedSimpArgs false
def errW : Option Int → Value
 | none => .nilIface
 | some c => .iface 0 (.int .i64 c)
theorem errW_none : errW none = .nilIface := rfl
theorem errW_some (c : Int) : errW (some c) = .iface 0 (.int .i64 c) := rfl
theorem info9 : (Tryz.prog.info? 9).map (fun i => (i.zero, i.size, i.bytes)) = some (some (.string ⟨#[]⟩), 1, 16) := by kernel_rfl
structure S116 where
 f0 : Int
 f1 : ByteArray
 f2 : Int
 f3 : ByteArray
def z116 : S116 := ⟨(0 : Int), (⟨#[]⟩ : ByteArray), (0 : Int), (⟨#[]⟩ : ByteArray)⟩
def rd_T116 (xs : List S116) (i : Int) : S116 := xs.getD i.toNat z116
end Go.Proofs.YtfpcideomanbbaaGreatDoor.PA
end
section
namespace Go.Proofs.YtfpcideomanbbaaGreatDoor.PA
open Go.RowKit Go.Proofs.YtfpcideomanbbaaGreatDoorW.PrintWords Go.Proofs.YtfpcideomanbbaaGreatDoorW.PrintLast Go.Proofs.YtfpcideomanbbaaGreatDoorW.PrintMore
attribute [local go_sem] max2_int min2_int max_two min_two max_three min_three max_four min_four
set_option linter.unusedVariables false
set_option linter.unusedSimpArgs false
def gambitref05_Cut.l0 : Nat → ByteArray → List ByteArray → Int → Int → Option (List ByteArray)
 | 0, _, _, _, _ => none
 | k + 1, x0, x3, x4, x5 => if x5 ≤ (x0.size : Int) then (if x5 = (x0.size : Int) then (if 0 ≤ x4 then (if x4 ≤ x5 then (if x3.length < 8796093022208 then (gambitref05_Cut.l0 k x0 (x3 ++ [x0.extract (x4 : Int).toNat (x5 : Int).toNat]) (wrap64 (x5 + 1)) (wrap64 (x5 + 1))) else (none)) else (none)) else (none)) else (if 0 ≤ x5 then (if x5 < (x0.size : Int) then (if (bt x0 x5) = 32 then (if 0 ≤ x4 then (if x4 ≤ x5 then (if x3.length < 8796093022208 then (gambitref05_Cut.l0 k x0 (x3 ++ [x0.extract (x4 : Int).toNat (x5 : Int).toNat]) (wrap64 (x5 + 1)) (wrap64 (x5 + 1))) else (none)) else (none)) else (none)) else (gambitref05_Cut.l0 k x0 x3 x4 (wrap64 (x5 + 1)))) else (none)) else (none))) else (some x3)
def gambitref05_Cut.f (k : Nat) (a0 : ByteArray) : Option (List ByteArray) := gambitref05_Cut.l0 k a0 ([] : List ByteArray) 0 0
theorem gambitref05_Cut.mono_l : ∀ k, (∀ y0 y1 y2 y3, LeO (gambitref05_Cut.l0 k y0 y1 y2 y3) (gambitref05_Cut.l0 (k + 1) y0 y1 y2 y3))
 | 0 => fun _ _ _ _ r h => by simp [gambitref05_Cut.l0] at h
 | k + 1 => by
  have ih0 := gambitref05_Cut.mono_l k
  ·intro y0 y1 y2 y3
   unfold gambitref05_Cut.l0
   repeat' first
   | (with_reducible exact ih0 _ _ _ _)
   | (with_reducible exact LeO.refl _)
   | (with_reducible exact LeO.none _)
   | (with_reducible refine LeO.ite ?_ ?_)
   | (with_reducible refine LeO.bind ?_ (fun _ => ?_))
   | exact ih0 _ _ _ _
   | exact LeO.none _
   | refine LeO.ite ?_ ?_
   | refine LeO.bind ?_ (fun _ => ?_)
theorem gambitref05_Cut.mono : ∀ a0 k, LeO (gambitref05_Cut.f k a0) (gambitref05_Cut.f (k + 1) a0) := by
 intro a0 k
 have ih0 := gambitref05_Cut.mono_l k
 unfold gambitref05_Cut.f
 repeat' first
   | (with_reducible exact ih0 _ _ _ _)
   | (with_reducible exact LeO.refl _)
   | (with_reducible exact LeO.none _)
   | (with_reducible refine LeO.ite ?_ ?_)
   | (with_reducible refine LeO.bind ?_ (fun _ => ?_))
   | exact ih0 _ _ _ _
   | exact LeO.none _
   | refine LeO.ite ?_ ?_
   | refine LeO.bind ?_ (fun _ => ?_)
end Go.Proofs.YtfpcideomanbbaaGreatDoor.PA
end
section
namespace Go.Proofs.YtfpcideomanbbaaGreatDoor.PA
open Go.RowKit Go.Proofs.YtfpcideomanbbaaGreatDoorW.PrintWords Go.Proofs.YtfpcideomanbbaaGreatDoorW.PrintLast Go.Proofs.YtfpcideomanbbaaGreatDoorW.PrintMore
attribute [local go_sem] max2_int min2_int max_two min_two max_three min_three max_four min_four
set_option linter.unusedVariables false
set_option linter.unusedSimpArgs false
def effect_Uses.j0 : Nat → Int → Bool → Bool → Bool → Bool → Bool → Int → Bool → Option (Bool × Bool × Bool × Bool × Bool)
 | 0, _, _, _, _, _, _, _, _ => none
 | k + 1, x1, x4, x5, x6, x7, x8, x9, x10 => if x10 = true then (if x5 = true then (if x6 = true then (some (true, true, true, x7, x8)) else (some (true, true, (x1 == 10), x7, x8))) else (if x6 = true then (some (true, (x1 == 9), true, x7, x8)) else (some (true, (x1 == 9), (x1 == 10), x7, x8)))) else (if x9 = 9 then (if x5 = true then (if x6 = true then (some (true, true, true, true, x8)) else (some (true, true, (x1 == 10), true, x8))) else (if x6 = true then (some (true, (x1 == 9), true, true, x8)) else (some (true, (x1 == 9), (x1 == 10), true, x8)))) else (if x9 = 7 then (if x5 = true then (if x6 = true then (some (true, true, true, x7, true)) else (some (true, true, (x1 == 10), x7, true))) else (if x6 = true then (some (true, (x1 == 9), true, x7, true)) else (some (true, (x1 == 9), (x1 == 10), x7, true)))) else (if x9 = 11 then (if x6 = true then (some (x4, true, true, x7, x8)) else (some (x4, true, (x1 == 10), x7, x8))) else (if x9 = 12 then (if x5 = true then (some (x4, true, true, x7, x8)) else (some (x4, (x1 == 9), true, x7, x8))) else (if x9 = 13 then (if x5 = true then (some (x4, true, true, x7, x8)) else (some (x4, (x1 == 9), true, x7, x8))) else (if x5 = true then (if x6 = true then (some (x4, true, true, x7, x8)) else (some (x4, true, (x1 == 10), x7, x8))) else (if x6 = true then (some (x4, (x1 == 9), true, x7, x8)) else (some (x4, (x1 == 9), (x1 == 10), x7, x8)))))))))
def effect_Uses.f (k : Nat) (a0 : Int) (a1 : Int) : Option (Bool × Bool × Bool × Bool × Bool) := if a0 = 1 then (effect_Uses.j0 k a1 false false false false false a0 (a0 == 1)) else (if a0 = 2 then (effect_Uses.j0 k a1 false false false false false a0 (a0 == 2)) else (if a0 = 3 then (effect_Uses.j0 k a1 false false false false false a0 (a0 == 3)) else (if a0 = 4 then (effect_Uses.j0 k a1 false false false false false a0 (a0 == 4)) else (if a0 = 5 then (effect_Uses.j0 k a1 false false false false false a0 (a0 == 5)) else (if a0 = 14 then (effect_Uses.j0 k a1 false false false false false a0 (a0 == 14)) else (if a0 = 15 then (effect_Uses.j0 k a1 false false false false false a0 (a0 == 15)) else (if a0 = 16 then (effect_Uses.j0 k a1 false false false false false a0 (a0 == 16)) else (effect_Uses.j0 k a1 false false false false false a0 (a0 == 19)))))))))
theorem effect_Uses.mono_l : ∀ k, (∀ y0 y1 y2 y3 y4 y5 y6 y7, LeO (effect_Uses.j0 k y0 y1 y2 y3 y4 y5 y6 y7) (effect_Uses.j0 (k + 1) y0 y1 y2 y3 y4 y5 y6 y7))
 | 0 => fun _ _ _ _ _ _ _ _ r h => by simp [effect_Uses.j0] at h
 | k + 1 => by
  have ih0 := effect_Uses.mono_l k
  ·intro y0 y1 y2 y3 y4 y5 y6 y7
   unfold effect_Uses.j0
   repeat' first
   | (with_reducible exact ih0 _ _ _ _ _ _ _ _)
   | (with_reducible exact LeO.refl _)
   | (with_reducible exact LeO.none _)
   | (with_reducible refine LeO.ite ?_ ?_)
   | (with_reducible refine LeO.bind ?_ (fun _ => ?_))
   | exact ih0 _ _ _ _ _ _ _ _
   | exact LeO.none _
   | refine LeO.ite ?_ ?_
   | refine LeO.bind ?_ (fun _ => ?_)
theorem effect_Uses.mono : ∀ a0 a1 k, LeO (effect_Uses.f k a0 a1) (effect_Uses.f (k + 1) a0 a1) := by
 intro a0 a1 k
 have ih0 := effect_Uses.mono_l k
 unfold effect_Uses.f
 repeat' first
   | (with_reducible exact ih0 _ _ _ _ _ _ _ _)
   | (with_reducible exact LeO.refl _)
   | (with_reducible exact LeO.none _)
   | (with_reducible refine LeO.ite ?_ ?_)
   | (with_reducible refine LeO.bind ?_ (fun _ => ?_))
   | exact ih0 _ _ _ _ _ _ _ _
   | exact LeO.none _
   | refine LeO.ite ?_ ?_
   | refine LeO.bind ?_ (fun _ => ?_)
set_option maxHeartbeats 8000000 in
set_option maxRecDepth 100000 in
theorem effect_Uses.calls (k : Nat) (a0 : Int) (a1 : Int) (r1 : Bool) (r2 : Bool) (r3 : Bool) (r4 : Bool) (r5 : Bool) (w : World) (h : effect_Uses.f k a0 a1 = some (r1, r2, r3, r4, r5)) :
  Calls Tryz.prog 54 #[.int .u8 a0, .int .u8 a1] w fun e w' => e = .returned (.tuple #[.bool r1, .bool r2, .bool r3, .bool r4, .bool r5]) ∧ Drawn0 w w' := by
 have H : (if a0 = 1 then (effect_Uses.j0 k a1 false false false false false a0 (a0 == 1)) else (if a0 = 2 then (effect_Uses.j0 k a1 false false false false false a0 (a0 == 2)) else (if a0 = 3 then (effect_Uses.j0 k a1 false false false false false a0 (a0 == 3)) else (if a0 = 4 then (effect_Uses.j0 k a1 false false false false false a0 (a0 == 4)) else (if a0 = 5 then (effect_Uses.j0 k a1 false false false false false a0 (a0 == 5)) else (if a0 = 14 then (effect_Uses.j0 k a1 false false false false false a0 (a0 == 14)) else (if a0 = 15 then (effect_Uses.j0 k a1 false false false false false a0 (a0 == 15)) else (if a0 = 16 then (effect_Uses.j0 k a1 false false false false false a0 (a0 == 16)) else (effect_Uses.j0 k a1 false false false false false a0 (a0 == 19)))))))))) = some (r1, r2, r3, r4, r5) := h
 clear h
 have HC3 := Aside0.mk H
 clear H
 go_enter Tryz.func54, Tryz.ntmps54
 go_upto_if 10 with (fail)
 go_cut [10] (fun v10 wc => ∃ (kq : Nat) (x10_2 : Bool), v10 = .bool x10_2 ∧ Aside0 (effect_Uses.j0 kq a1 false false false false false a0 x10_2 = some (r1, r2, r3, r4, r5)) ∧ Aside0 (kq ≤ k) ∧ Drawn0 w wc)
 case first =>
  have H := HC3.out
  clear HC3
  by_cases c4 : a0 = 1
  ·rw [if_pos c4] at H
   have c4b0 : (a0 == 1) = true := beq_iff_eq.mpr c4
   have c4b1 : (a0 != 1) = false := bne_eq_false_iff_eq.mpr c4
   clear c4
   (first | rw [c4b0] | (simp only [i64_w, i32_w]; rw [c4b0]) | skip)
   have H' := Aside0.mk H
   clear H
   go_wp2
   go_meet
   case rel => exact ⟨_, ((a0 == 1)), Zs, H', ⟨by first | omega | exact Nat.le_refl _⟩, Zd⟩
  ·rw [if_neg c4] at H
   have c4b0 : (a0 == 1) = false := beq_eq_false_iff_ne.mpr c4
   have c4b1 : (a0 != 1) = true := bne_iff_ne.mpr c4
   (first | rw [c4b0] | (simp only [i64_w, i32_w]; rw [c4b0]) | skip)
   by_cases c5 : a0 = 2
   ·rw [if_pos c5] at H
    have c5b0 : (a0 == 2) = true := beq_iff_eq.mpr c5
    have c5b1 : (a0 != 2) = false := bne_eq_false_iff_eq.mpr c5
    clear c5
    have H' := Aside0.mk H
    clear H
    go_wp2
    go_meet
    case rel => exact ⟨_, ((a0 == 2)), Zs, H', ⟨by first | omega | exact Nat.le_refl _⟩, Zd⟩
   ·rw [if_neg c5] at H
    have c5b0 : (a0 == 2) = false := beq_eq_false_iff_ne.mpr c5
    have c5b1 : (a0 != 2) = true := bne_iff_ne.mpr c5
    by_cases c6 : a0 = 3
    ·rw [if_pos c6] at H
     have c6b0 : (a0 == 3) = true := beq_iff_eq.mpr c6
     have c6b1 : (a0 != 3) = false := bne_eq_false_iff_eq.mpr c6
     clear c6
     have H' := Aside0.mk H
     clear H
     go_wp2
     go_meet
     case rel => exact ⟨_, ((a0 == 3)), Zs, H', ⟨by first | omega | exact Nat.le_refl _⟩, Zd⟩
    ·rw [if_neg c6] at H
     have c6b0 : (a0 == 3) = false := beq_eq_false_iff_ne.mpr c6
     have c6b1 : (a0 != 3) = true := bne_iff_ne.mpr c6
     by_cases c7 : a0 = 4
     ·rw [if_pos c7] at H
      have c7b0 : (a0 == 4) = true := beq_iff_eq.mpr c7
      have c7b1 : (a0 != 4) = false := bne_eq_false_iff_eq.mpr c7
      clear c7
      have H' := Aside0.mk H
      clear H
      go_wp2
      go_meet
      case rel => exact ⟨_, ((a0 == 4)), Zs, H', ⟨by first | omega | exact Nat.le_refl _⟩, Zd⟩
     ·rw [if_neg c7] at H
      have c7b0 : (a0 == 4) = false := beq_eq_false_iff_ne.mpr c7
      have c7b1 : (a0 != 4) = true := bne_iff_ne.mpr c7
      by_cases c8 : a0 = 5
      ·rw [if_pos c8] at H
       have c8b0 : (a0 == 5) = true := beq_iff_eq.mpr c8
       have c8b1 : (a0 != 5) = false := bne_eq_false_iff_eq.mpr c8
       clear c8
       have H' := Aside0.mk H
       clear H
       go_wp2
       go_meet
       case rel => exact ⟨_, ((a0 == 5)), Zs, H', ⟨by first | omega | exact Nat.le_refl _⟩, Zd⟩
      ·rw [if_neg c8] at H
       have c8b0 : (a0 == 5) = false := beq_eq_false_iff_ne.mpr c8
       have c8b1 : (a0 != 5) = true := bne_iff_ne.mpr c8
       by_cases c9 : a0 = 14
       ·rw [if_pos c9] at H
        have c9b0 : (a0 == 14) = true := beq_iff_eq.mpr c9
        have c9b1 : (a0 != 14) = false := bne_eq_false_iff_eq.mpr c9
        clear c9
        have H' := Aside0.mk H
        clear H
        go_wp2
        go_meet
        case rel => exact ⟨_, ((a0 == 14)), Zs, H', ⟨by first | omega | exact Nat.le_refl _⟩, Zd⟩
       ·rw [if_neg c9] at H
        have c9b0 : (a0 == 14) = false := beq_eq_false_iff_ne.mpr c9
        have c9b1 : (a0 != 14) = true := bne_iff_ne.mpr c9
        by_cases c10 : a0 = 15
        ·rw [if_pos c10] at H
         have c10b0 : (a0 == 15) = true := beq_iff_eq.mpr c10
         have c10b1 : (a0 != 15) = false := bne_eq_false_iff_eq.mpr c10
         clear c10
         have H' := Aside0.mk H
         clear H
         go_wp2
         go_meet
         case rel => exact ⟨_, ((a0 == 15)), Zs, H', ⟨by first | omega | exact Nat.le_refl _⟩, Zd⟩
        ·rw [if_neg c10] at H
         have c10b0 : (a0 == 15) = false := beq_eq_false_iff_ne.mpr c10
         have c10b1 : (a0 != 15) = true := bne_iff_ne.mpr c10
         by_cases c11 : a0 = 16
         ·rw [if_pos c11] at H
          have c11b0 : (a0 == 16) = true := beq_iff_eq.mpr c11
          have c11b1 : (a0 != 16) = false := bne_eq_false_iff_eq.mpr c11
          clear c11
          have H' := Aside0.mk H
          clear H
          go_wp2
          go_meet
          case rel => exact ⟨_, ((a0 == 16)), Zs, H', ⟨by first | omega | exact Nat.le_refl _⟩, Zd⟩
         ·rw [if_neg c11] at H
          have c11b0 : (a0 == 16) = false := beq_eq_false_iff_ne.mpr c11
          have c11b1 : (a0 != 16) = true := bne_iff_ne.mpr c11
          have H' := Aside0.mk H
          clear H
          go_wp2
          go_meet
          case rel => exact ⟨_, ((a0 == 19)), Zs, H', ⟨by first | omega | exact Nat.le_refl _⟩, Zd⟩
 case rest =>
  clear HC3
  try clear c1
  try clear p2
  try clear c4
  try clear c4b0
  try clear c4b1
  try clear c5
  try clear c5b0
  try clear c5b1
  try clear c6
  try clear c6b0
  try clear c6b1
  try clear c7
  try clear c7b0
  try clear c7b1
  try clear c8
  try clear c8b0
  try clear c8b1
  try clear c9
  try clear c9b0
  try clear c9b1
  try clear c10
  try clear c10b0
  try clear c10b1
  try clear c11
  try clear c11b0
  try clear c11b1
  obtain ⟨kq, x10_2, rfl, HA, HJ2, ⟨mc2, rfl⟩⟩ := hcut
  cases kq with
  | zero => exact absurd HA.out (by simp [effect_Uses.j0])
  | succ kj2 =>
   have H := HA.out
   clear HA
   simp only [effect_Uses.j0] at H
   by_cases c12 : x10_2 = true
   ·subst c12
    have H1 : (if false = true then (if false = true then (some (true, true, true, false, false)) else (some (true, true, (a1 == 10), false, false))) else (if false = true then (some (true, (a1 == 9), true, false, false)) else (some (true, (a1 == 9), (a1 == 10), false, false)))) = some (r1, r2, r3, r4, r5) := by rw [if_pos rfl] at H; exact H
    clear H
    have H := H1
    clear H1
    have H1 : (if false = true then (some (true, (a1 == 9), true, false, false)) else (some (true, (a1 == 9), (a1 == 10), false, false))) = some (r1, r2, r3, r4, r5) := by rw [if_neg (show ¬ (false = true) by decide)] at H; exact H
    clear H
    have H := H1
    clear H1
    have H1 : (some (true, (a1 == 9), (a1 == 10), false, false)) = some (r1, r2, r3, r4, r5) := by rw [if_neg (show ¬ (false = true) by decide)] at H; exact H
    clear H
    have H := H1
    clear H1
    simp only [Option.some.injEq, Prod.mk.injEq] at H
    obtain ⟨rfl, rfl, rfl, rfl, rfl⟩ := H
    go_wp2
    refine bodyPost_ret (results_list (rs := [.tmp 4, .tmp 5, .tmp 6, .tmp 7, .tmp 8]) rfl (by simp) (.tmp (.tmp (.tmp (.tmp (.tmp .nil)))))) rfl ?_
    exact ⟨Zt, Zd⟩
   ·replace c12 := Bool.eq_false_iff.mpr c12
    subst c12
    have H1 : (if a0 = 9 then (if false = true then (if false = true then (some (true, true, true, true, false)) else (some (true, true, (a1 == 10), true, false))) else (if false = true then (some (true, (a1 == 9), true, true, false)) else (some (true, (a1 == 9), (a1 == 10), true, false)))) else (if a0 = 7 then (if false = true then (if false = true then (some (true, true, true, false, true)) else (some (true, true, (a1 == 10), false, true))) else (if false = true then (some (true, (a1 == 9), true, false, true)) else (some (true, (a1 == 9), (a1 == 10), false, true)))) else (if a0 = 11 then (if false = true then (some (false, true, true, false, false)) else (some (false, true, (a1 == 10), false, false))) else (if a0 = 12 then (if false = true then (some (false, true, true, false, false)) else (some (false, (a1 == 9), true, false, false))) else (if a0 = 13 then (if false = true then (some (false, true, true, false, false)) else (some (false, (a1 == 9), true, false, false))) else (if false = true then (if false = true then (some (false, true, true, false, false)) else (some (false, true, (a1 == 10), false, false))) else (if false = true then (some (false, (a1 == 9), true, false, false)) else (some (false, (a1 == 9), (a1 == 10), false, false))))))))) = some (r1, r2, r3, r4, r5) := by rw [if_neg (show ¬ (false = true) by decide)] at H; exact H
    clear H
    have H := H1
    clear H1
    by_cases c13 : a0 = 9
    ·rw [if_pos c13] at H
     have c13b0 : (a0 == 9) = true := beq_iff_eq.mpr c13
     have c13b1 : (a0 != 9) = false := bne_eq_false_iff_eq.mpr c13
     clear c13
     have H1 : (if false = true then (some (true, (a1 == 9), true, true, false)) else (some (true, (a1 == 9), (a1 == 10), true, false))) = some (r1, r2, r3, r4, r5) := by rw [if_neg (show ¬ (false = true) by decide)] at H; exact H
     clear H
     have H := H1
     clear H1
     have H1 : (some (true, (a1 == 9), (a1 == 10), true, false)) = some (r1, r2, r3, r4, r5) := by rw [if_neg (show ¬ (false = true) by decide)] at H; exact H
     clear H
     have H := H1
     clear H1
     simp only [Option.some.injEq, Prod.mk.injEq] at H
     obtain ⟨rfl, rfl, rfl, rfl, rfl⟩ := H
     go_wp2
     refine bodyPost_ret (results_list (rs := [.tmp 4, .tmp 5, .tmp 6, .tmp 7, .tmp 8]) rfl (by simp) (.tmp (.tmp (.tmp (.tmp (.tmp .nil)))))) rfl ?_
     exact ⟨Zt, Zd⟩
    ·rw [if_neg c13] at H
     have c13b0 : (a0 == 9) = false := beq_eq_false_iff_ne.mpr c13
     have c13b1 : (a0 != 9) = true := bne_iff_ne.mpr c13
     by_cases c14 : a0 = 7
     ·rw [if_pos c14] at H
      have c14b0 : (a0 == 7) = true := beq_iff_eq.mpr c14
      have c14b1 : (a0 != 7) = false := bne_eq_false_iff_eq.mpr c14
      clear c14
      have H1 : (if false = true then (some (true, (a1 == 9), true, false, true)) else (some (true, (a1 == 9), (a1 == 10), false, true))) = some (r1, r2, r3, r4, r5) := by rw [if_neg (show ¬ (false = true) by decide)] at H; exact H
      clear H
      have H := H1
      clear H1
      have H1 : (some (true, (a1 == 9), (a1 == 10), false, true)) = some (r1, r2, r3, r4, r5) := by rw [if_neg (show ¬ (false = true) by decide)] at H; exact H
      clear H
      have H := H1
      clear H1
      simp only [Option.some.injEq, Prod.mk.injEq] at H
      obtain ⟨rfl, rfl, rfl, rfl, rfl⟩ := H
      go_wp2
      refine bodyPost_ret (results_list (rs := [.tmp 4, .tmp 5, .tmp 6, .tmp 7, .tmp 8]) rfl (by simp) (.tmp (.tmp (.tmp (.tmp (.tmp .nil)))))) rfl ?_
      exact ⟨Zt, Zd⟩
     ·rw [if_neg c14] at H
      have c14b0 : (a0 == 7) = false := beq_eq_false_iff_ne.mpr c14
      have c14b1 : (a0 != 7) = true := bne_iff_ne.mpr c14
      by_cases c15 : a0 = 11
      ·rw [if_pos c15] at H
       have c15b0 : (a0 == 11) = true := beq_iff_eq.mpr c15
       have c15b1 : (a0 != 11) = false := bne_eq_false_iff_eq.mpr c15
       clear c15
       have H1 : (some (false, true, (a1 == 10), false, false)) = some (r1, r2, r3, r4, r5) := by rw [if_neg (show ¬ (false = true) by decide)] at H; exact H
       clear H
       have H := H1
       clear H1
       simp only [Option.some.injEq, Prod.mk.injEq] at H
       obtain ⟨rfl, rfl, rfl, rfl, rfl⟩ := H
       go_wp2
       refine bodyPost_ret (results_list (rs := [.tmp 4, .tmp 5, .tmp 6, .tmp 7, .tmp 8]) rfl (by simp) (.tmp (.tmp (.tmp (.tmp (.tmp .nil)))))) rfl ?_
       exact ⟨Zt, Zd⟩
      ·rw [if_neg c15] at H
       have c15b0 : (a0 == 11) = false := beq_eq_false_iff_ne.mpr c15
       have c15b1 : (a0 != 11) = true := bne_iff_ne.mpr c15
       by_cases c16 : a0 = 12
       ·rw [if_pos c16] at H
        have c16b0 : (a0 == 12) = true := beq_iff_eq.mpr c16
        have c16b1 : (a0 != 12) = false := bne_eq_false_iff_eq.mpr c16
        clear c16
        have H1 : (some (false, (a1 == 9), true, false, false)) = some (r1, r2, r3, r4, r5) := by rw [if_neg (show ¬ (false = true) by decide)] at H; exact H
        clear H
        have H := H1
        clear H1
        simp only [Option.some.injEq, Prod.mk.injEq] at H
        obtain ⟨rfl, rfl, rfl, rfl, rfl⟩ := H
        go_wp2
        refine bodyPost_ret (results_list (rs := [.tmp 4, .tmp 5, .tmp 6, .tmp 7, .tmp 8]) rfl (by simp) (.tmp (.tmp (.tmp (.tmp (.tmp .nil)))))) rfl ?_
        exact ⟨Zt, Zd⟩
       ·rw [if_neg c16] at H
        have c16b0 : (a0 == 12) = false := beq_eq_false_iff_ne.mpr c16
        have c16b1 : (a0 != 12) = true := bne_iff_ne.mpr c16
        by_cases c17 : a0 = 13
        ·rw [if_pos c17] at H
         have c17b0 : (a0 == 13) = true := beq_iff_eq.mpr c17
         have c17b1 : (a0 != 13) = false := bne_eq_false_iff_eq.mpr c17
         clear c17
         have H1 : (some (false, (a1 == 9), true, false, false)) = some (r1, r2, r3, r4, r5) := by rw [if_neg (show ¬ (false = true) by decide)] at H; exact H
         clear H
         have H := H1
         clear H1
         simp only [Option.some.injEq, Prod.mk.injEq] at H
         obtain ⟨rfl, rfl, rfl, rfl, rfl⟩ := H
         go_wp2
         refine bodyPost_ret (results_list (rs := [.tmp 4, .tmp 5, .tmp 6, .tmp 7, .tmp 8]) rfl (by simp) (.tmp (.tmp (.tmp (.tmp (.tmp .nil)))))) rfl ?_
         exact ⟨Zt, Zd⟩
        ·rw [if_neg c17] at H
         have c17b0 : (a0 == 13) = false := beq_eq_false_iff_ne.mpr c17
         have c17b1 : (a0 != 13) = true := bne_iff_ne.mpr c17
         have H1 : (if false = true then (some (false, (a1 == 9), true, false, false)) else (some (false, (a1 == 9), (a1 == 10), false, false))) = some (r1, r2, r3, r4, r5) := by rw [if_neg (show ¬ (false = true) by decide)] at H; exact H
         clear H
         have H := H1
         clear H1
         have H1 : (some (false, (a1 == 9), (a1 == 10), false, false)) = some (r1, r2, r3, r4, r5) := by rw [if_neg (show ¬ (false = true) by decide)] at H; exact H
         clear H
         have H := H1
         clear H1
         simp only [Option.some.injEq, Prod.mk.injEq] at H
         obtain ⟨rfl, rfl, rfl, rfl, rfl⟩ := H
         go_wp2
         refine bodyPost_ret (results_list (rs := [.tmp 4, .tmp 5, .tmp 6, .tmp 7, .tmp 8]) rfl (by simp) (.tmp (.tmp (.tmp (.tmp (.tmp .nil)))))) rfl ?_
         exact ⟨Zt, Zd⟩
end Go.Proofs.YtfpcideomanbbaaGreatDoor.PA
end
section
namespace Go.Proofs.YtfpcideomanbbaaGreatDoor.PA
open Go.RowKit Go.Proofs.YtfpcideomanbbaaGreatDoorW.PrintWords Go.Proofs.YtfpcideomanbbaaGreatDoorW.PrintLast Go.Proofs.YtfpcideomanbbaaGreatDoorW.PrintMore
attribute [local go_sem] max2_int min2_int max_two min_two max_three min_three max_four min_four
set_option linter.unusedVariables false
set_option linter.unusedSimpArgs false
def effect_bounds.j0 : Nat → Int → Bool → Option (Int × Int × Bool)
 | 0, _, _ => none
 | k + 1, x5, x6 => if x6 = true then (some ((-99), 99, false)) else (if x5 = 5 then (some ((-9), 9, false)) else (if x5 = 14 then (some (0, 99, true)) else (some (1, 99, false))))
def effect_bounds.f (k : Nat) (a0 : Int) : Option (Int × Int × Bool) := if a0 = 9 then (effect_bounds.j0 k a0 (a0 == 9)) else (effect_bounds.j0 k a0 (a0 == 15))
theorem effect_bounds.mono_l : ∀ k, (∀ y0 y1, LeO (effect_bounds.j0 k y0 y1) (effect_bounds.j0 (k + 1) y0 y1))
 | 0 => fun _ _ r h => by simp [effect_bounds.j0] at h
 | k + 1 => by
  have ih0 := effect_bounds.mono_l k
  ·intro y0 y1
   unfold effect_bounds.j0
   repeat' first
   | (with_reducible exact ih0 _ _)
   | (with_reducible exact LeO.refl _)
   | (with_reducible exact LeO.none _)
   | (with_reducible refine LeO.ite ?_ ?_)
   | (with_reducible refine LeO.bind ?_ (fun _ => ?_))
   | exact ih0 _ _
   | exact LeO.none _
   | refine LeO.ite ?_ ?_
   | refine LeO.bind ?_ (fun _ => ?_)
theorem effect_bounds.mono : ∀ a0 k, LeO (effect_bounds.f k a0) (effect_bounds.f (k + 1) a0) := by
 intro a0 k
 have ih0 := effect_bounds.mono_l k
 unfold effect_bounds.f
 repeat' first
   | (with_reducible exact ih0 _ _)
   | (with_reducible exact LeO.refl _)
   | (with_reducible exact LeO.none _)
   | (with_reducible refine LeO.ite ?_ ?_)
   | (with_reducible refine LeO.bind ?_ (fun _ => ?_))
   | exact ih0 _ _
   | exact LeO.none _
   | refine LeO.ite ?_ ?_
   | refine LeO.bind ?_ (fun _ => ?_)
set_option maxHeartbeats 8000000 in
set_option maxRecDepth 100000 in
theorem effect_bounds.calls (k : Nat) (a0 : Int) (r1 : Int) (r2 : Int) (r3 : Bool) (w : World) (h : effect_bounds.f k a0 = some (r1, r2, r3)) :
  Calls Tryz.prog 61 #[.int .u8 a0] w fun e w' => e = .returned (.tuple #[.int .i64 r1, .int .i64 r2, .bool r3]) ∧ Drawn0 w w' := by
 have H : (if a0 = 9 then (effect_bounds.j0 k a0 (a0 == 9)) else (effect_bounds.j0 k a0 (a0 == 15))) = some (r1, r2, r3) := h
 clear h
 have HC2 := Aside0.mk H
 clear H
 go_enter Tryz.func61, Tryz.ntmps61
 go_upto_if 6 with (fail)
 go_cut [6] (fun v6 wc => ∃ (kq : Nat) (x6_1 : Bool), v6 = .bool x6_1 ∧ Aside0 (effect_bounds.j0 kq a0 x6_1 = some (r1, r2, r3)) ∧ Aside0 (kq ≤ k) ∧ Drawn0 w wc)
 case first =>
  have H := HC2.out
  clear HC2
  by_cases c3 : a0 = 9
  ·rw [if_pos c3] at H
   have c3b0 : (a0 == 9) = true := beq_iff_eq.mpr c3
   have c3b1 : (a0 != 9) = false := bne_eq_false_iff_eq.mpr c3
   clear c3
   (first | rw [c3b0] | (simp only [i64_w, i32_w]; rw [c3b0]) | skip)
   have H' := Aside0.mk H
   clear H
   go_wp2
   go_meet
   case rel => exact ⟨_, ((a0 == 9)), Zs, H', ⟨by first | omega | exact Nat.le_refl _⟩, Zd⟩
  ·rw [if_neg c3] at H
   have c3b0 : (a0 == 9) = false := beq_eq_false_iff_ne.mpr c3
   have c3b1 : (a0 != 9) = true := bne_iff_ne.mpr c3
   (first | rw [c3b0] | (simp only [i64_w, i32_w]; rw [c3b0]) | skip)
   have H' := Aside0.mk H
   clear H
   go_wp2
   go_meet
   case rel => exact ⟨_, ((a0 == 15)), Zs, H', ⟨by first | omega | exact Nat.le_refl _⟩, Zd⟩
 case rest =>
  clear HC2
  try clear p2
  try clear c3
  try clear c3b0
  try clear c3b1
  obtain ⟨kq, x6_1, rfl, HA, HJ1, ⟨mc1, rfl⟩⟩ := hcut
  cases kq with
  | zero => exact absurd HA.out (by simp [effect_bounds.j0])
  | succ kj1 =>
   have H := HA.out
   clear HA
   simp only [effect_bounds.j0] at H
   by_cases c4 : x6_1 = true
   ·subst c4
    have H1 : (some ((-99), 99, false)) = some (r1, r2, r3) := by rw [if_pos rfl] at H; exact H
    clear H
    have H := H1
    clear H1
    simp only [Option.some.injEq, Prod.mk.injEq] at H
    obtain ⟨rfl, rfl, rfl⟩ := H
    go_wp2
    go_ret3
    exact ⟨Zt, Zd⟩
   ·replace c4 := Bool.eq_false_iff.mpr c4
    subst c4
    have H1 : (if a0 = 5 then (some ((-9), 9, false)) else (if a0 = 14 then (some (0, 99, true)) else (some (1, 99, false)))) = some (r1, r2, r3) := by rw [if_neg (show ¬ (false = true) by decide)] at H; exact H
    clear H
    have H := H1
    clear H1
    by_cases c5 : a0 = 5
    ·rw [if_pos c5] at H
     have c5b0 : (a0 == 5) = true := beq_iff_eq.mpr c5
     have c5b1 : (a0 != 5) = false := bne_eq_false_iff_eq.mpr c5
     clear c5
     simp only [Option.some.injEq, Prod.mk.injEq] at H
     obtain ⟨rfl, rfl, rfl⟩ := H
     go_wp2
     go_ret3
     exact ⟨Zt, Zd⟩
    ·rw [if_neg c5] at H
     have c5b0 : (a0 == 5) = false := beq_eq_false_iff_ne.mpr c5
     have c5b1 : (a0 != 5) = true := bne_iff_ne.mpr c5
     by_cases c6 : a0 = 14
     ·rw [if_pos c6] at H
      have c6b0 : (a0 == 14) = true := beq_iff_eq.mpr c6
      have c6b1 : (a0 != 14) = false := bne_eq_false_iff_eq.mpr c6
      clear c6
      simp only [Option.some.injEq, Prod.mk.injEq] at H
      obtain ⟨rfl, rfl, rfl⟩ := H
      go_wp2
      go_ret3
      exact ⟨Zt, Zd⟩
     ·rw [if_neg c6] at H
      have c6b0 : (a0 == 14) = false := beq_eq_false_iff_ne.mpr c6
      have c6b1 : (a0 != 14) = true := bne_iff_ne.mpr c6
      simp only [Option.some.injEq, Prod.mk.injEq] at H
      obtain ⟨rfl, rfl, rfl⟩ := H
      go_wp2
      go_ret3
      exact ⟨Zt, Zd⟩
end Go.Proofs.YtfpcideomanbbaaGreatDoor.PA
end
section
namespace Go.Proofs.YtfpcideomanbbaaGreatDoor.PA
open Go.RowKit Go.Proofs.YtfpcideomanbbaaGreatDoorW.PrintWords Go.Proofs.YtfpcideomanbbaaGreatDoorW.PrintLast Go.Proofs.YtfpcideomanbbaaGreatDoorW.PrintMore
attribute [local go_sem] max2_int min2_int max_two min_two max_three min_three max_four min_four
set_option linter.unusedVariables false
set_option linter.unusedSimpArgs false
def effect_standing.f (a0 : Int) : Option (Bool) := if a0 ≥ 10 then (some (decide (a0 ≤ 15))) else (some false)
set_option maxHeartbeats 8000000 in
set_option maxRecDepth 100000 in
theorem effect_standing.calls (a0 : Int) (r : Bool) (w : World) (h : effect_standing.f a0 = some r) :
  Calls Tryz.prog 106 #[.int .u8 a0] w fun e w' => e = .returned (.bool r) ∧ Drawn0 w w' := by
 have H : (if a0 ≥ 10 then (some (decide (a0 ≤ 15))) else (some false)) = some r := h
 clear h
 by_cases c2 : a0 ≥ 10
 ·rw [if_pos c2] at H
  have c2b0 : decide (10 ≤ a0) = true := decide_eq_true c2
  clear c2
  obtain rfl := Option.some.inj H
  go_enter Tryz.func106, Tryz.ntmps106
  go_wp2
  go_ret
  exact ⟨Zt, Zd⟩
 ·rw [if_neg c2] at H
  have c2b0 : decide (10 ≤ a0) = false := decide_eq_false c2
  clear c2
  obtain rfl := Option.some.inj H
  go_enter Tryz.func106, Tryz.ntmps106
  go_wp2
  go_ret
  exact ⟨Zt, Zd⟩
end Go.Proofs.YtfpcideomanbbaaGreatDoor.PA
end
section
namespace Go.Proofs.YtfpcideomanbbaaGreatDoor.PA
open Go.RowKit Go.Proofs.YtfpcideomanbbaaGreatDoorW.PrintWords Go.Proofs.YtfpcideomanbbaaGreatDoorW.PrintLast Go.Proofs.YtfpcideomanbbaaGreatDoorW.PrintMore
attribute [local go_sem] max2_int min2_int max_two min_two max_three min_three max_four min_four
set_option linter.unusedVariables false
set_option linter.unusedSimpArgs false
def effect_swapping.f (a0 : Int) : Option (Bool) := if a0 ≥ 16 then (some (decide (a0 ≤ 19))) else (some false)
set_option maxHeartbeats 8000000 in
set_option maxRecDepth 100000 in
theorem effect_swapping.calls (a0 : Int) (r : Bool) (w : World) (h : effect_swapping.f a0 = some r) :
  Calls Tryz.prog 107 #[.int .u8 a0] w fun e w' => e = .returned (.bool r) ∧ Drawn0 w w' := by
 have H : (if a0 ≥ 16 then (some (decide (a0 ≤ 19))) else (some false)) = some r := h
 clear h
 by_cases c2 : a0 ≥ 16
 ·rw [if_pos c2] at H
  have c2b0 : decide (16 ≤ a0) = true := decide_eq_true c2
  clear c2
  obtain rfl := Option.some.inj H
  go_enter Tryz.func107, Tryz.ntmps107
  go_wp2
  go_ret
  exact ⟨Zt, Zd⟩
 ·rw [if_neg c2] at H
  have c2b0 : decide (16 ≤ a0) = false := decide_eq_false c2
  clear c2
  obtain rfl := Option.some.inj H
  go_enter Tryz.func107, Tryz.ntmps107
  go_wp2
  go_ret
  exact ⟨Zt, Zd⟩
end Go.Proofs.YtfpcideomanbbaaGreatDoor.PA
end
section
namespace Go.Proofs.YtfpcideomanbbaaGreatDoor.PA
open Go.RowKit Go.Proofs.YtfpcideomanbbaaGreatDoorW.PrintWords Go.Proofs.YtfpcideomanbbaaGreatDoorW.PrintLast Go.Proofs.YtfpcideomanbbaaGreatDoorW.PrintMore
attribute [local go_sem] max2_int min2_int max_two min_two max_three min_three max_four min_four
set_option linter.unusedVariables false
set_option linter.unusedSimpArgs false
def effect_event.f (a0 : Int) : Option (Bool) := if a0 ≥ 1 then (some (decide (a0 ≤ 9))) else (some false)
set_option maxHeartbeats 8000000 in
set_option maxRecDepth 100000 in
theorem effect_event.calls (a0 : Int) (r : Bool) (w : World) (h : effect_event.f a0 = some r) :
  Calls Tryz.prog 108 #[.int .u8 a0] w fun e w' => e = .returned (.bool r) ∧ Drawn0 w w' := by
 have H : (if a0 ≥ 1 then (some (decide (a0 ≤ 9))) else (some false)) = some r := h
 clear h
 by_cases c2 : a0 ≥ 1
 ·rw [if_pos c2] at H
  have c2b0 : decide (1 ≤ a0) = true := decide_eq_true c2
  clear c2
  obtain rfl := Option.some.inj H
  go_enter Tryz.func108, Tryz.ntmps108
  go_wp2
  go_ret
  exact ⟨Zt, Zd⟩
 ·rw [if_neg c2] at H
  have c2b0 : decide (1 ≤ a0) = false := decide_eq_false c2
  clear c2
  obtain rfl := Option.some.inj H
  go_enter Tryz.func108, Tryz.ntmps108
  go_wp2
  go_ret
  exact ⟨Zt, Zd⟩
end Go.Proofs.YtfpcideomanbbaaGreatDoor.PA
end
section
namespace Go.Proofs.YtfpcideomanbbaaGreatDoor.PA
open Go.RowKit Go.Proofs.YtfpcideomanbbaaGreatDoorW.PrintWords Go.Proofs.YtfpcideomanbbaaGreatDoorW.PrintLast Go.Proofs.YtfpcideomanbbaaGreatDoorW.PrintMore
attribute [local go_sem] max2_int min2_int max_two min_two max_three min_three max_four min_four
set_option linter.unusedVariables false
set_option linter.unusedSimpArgs false
def effect_wanted.f (a0 : Int) (a1 : Int) : Option (Bool) := if a0 = 5 then ((effect_standing.f a1).bind fun t234 => (some t234)) else (if a0 = 6 then ((effect_swapping.f a1).bind fun t235 => (some t235)) else ((effect_event.f a1).bind fun t236 => (some t236)))
set_option maxHeartbeats 8000000 in
set_option maxRecDepth 100000 in
theorem effect_wanted.calls (a0 : Int) (a1 : Int) (r : Bool) (w : World) (h : effect_wanted.f a0 a1 = some r) :
  Calls Tryz.prog 62 #[.int .u8 a0, .int .u8 a1] w fun e w' => e = .returned (.bool r) ∧ Drawn0 w w' := by
 have H : (if a0 = 5 then ((effect_standing.f a1).bind fun t234 => (some t234)) else (if a0 = 6 then ((effect_swapping.f a1).bind fun t235 => (some t235)) else ((effect_event.f a1).bind fun t236 => (some t236)))) = some r := h
 clear h
 by_cases c3 : a0 = 5
 ·rw [if_pos c3] at H
  have c3b0 : (a0 == 5) = true := beq_iff_eq.mpr c3
  have c3b1 : (a0 != 5) = false := bne_eq_false_iff_eq.mpr c3
  clear c3
  replace H := Option.bind_eq_some_iff.mp H
  obtain ⟨t234, A40, H⟩ := H
  replace H : (some t234) = some r := H
  have A4 := Aside0.mk A40
  clear A40
  obtain rfl := Option.some.inj H
  go_enter Tryz.func62, Tryz.ntmps62
  go_wp2_with (first | ((with_reducible refine gate_callee (f := 106) rfl ?_); refine goesL_ (some 9) rfl rfl Tryz.func106 (by kernel_rfl) rfl #[.int .u8 a1] rfl Zl ?_; (with_reducible refine (effect_standing.calls a1 t234 _ A4.out).mono ?_); rintro e w' ⟨rfl, ⟨nd, rfl⟩⟩; refine ⟨_, rfl, ?_⟩))
  go_ret
  exact ⟨Zt, Zd⟩
 ·rw [if_neg c3] at H
  have c3b0 : (a0 == 5) = false := beq_eq_false_iff_ne.mpr c3
  have c3b1 : (a0 != 5) = true := bne_iff_ne.mpr c3
  by_cases c5 : a0 = 6
  ·rw [if_pos c5] at H
   have c5b0 : (a0 == 6) = true := beq_iff_eq.mpr c5
   have c5b1 : (a0 != 6) = false := bne_eq_false_iff_eq.mpr c5
   clear c5
   replace H := Option.bind_eq_some_iff.mp H
   obtain ⟨t235, A60, H⟩ := H
   replace H : (some t235) = some r := H
   have A6 := Aside0.mk A60
   clear A60
   obtain rfl := Option.some.inj H
   go_enter Tryz.func62, Tryz.ntmps62
   go_wp2_with (first | ((with_reducible refine gate_callee (f := 107) rfl ?_); refine goesL_ (some 13) rfl rfl Tryz.func107 (by kernel_rfl) rfl #[.int .u8 a1] rfl Zl ?_; (with_reducible refine (effect_swapping.calls a1 t235 _ A6.out).mono ?_); rintro e w' ⟨rfl, ⟨nd, rfl⟩⟩; refine ⟨_, rfl, ?_⟩))
   go_ret
   exact ⟨Zt, Zd⟩
  ·rw [if_neg c5] at H
   have c5b0 : (a0 == 6) = false := beq_eq_false_iff_ne.mpr c5
   have c5b1 : (a0 != 6) = true := bne_iff_ne.mpr c5
   replace H := Option.bind_eq_some_iff.mp H
   obtain ⟨t236, A70, H⟩ := H
   replace H : (some t236) = some r := H
   have A7 := Aside0.mk A70
   clear A70
   obtain rfl := Option.some.inj H
   go_enter Tryz.func62, Tryz.ntmps62
   go_wp2_with (first | ((with_reducible refine gate_callee (f := 108) rfl ?_); refine goesL_ (some 15) rfl rfl Tryz.func108 (by kernel_rfl) rfl #[.int .u8 a1] rfl Zl ?_; (with_reducible refine (effect_event.calls a1 t236 _ A7.out).mono ?_); rintro e w' ⟨rfl, ⟨nd, rfl⟩⟩; refine ⟨_, rfl, ?_⟩))
   go_ret
   exact ⟨Zt, Zd⟩
end Go.Proofs.YtfpcideomanbbaaGreatDoor.PA
end
section
namespace Go.Proofs.YtfpcideomanbbaaGreatDoor.PA
open Go.RowKit Go.Proofs.YtfpcideomanbbaaGreatDoorW.PrintWords Go.Proofs.YtfpcideomanbbaaGreatDoorW.PrintLast Go.Proofs.YtfpcideomanbbaaGreatDoorW.PrintMore
attribute [local go_sem] max2_int min2_int max_two min_two max_three min_three max_four min_four
set_option linter.unusedVariables false
set_option linter.unusedSimpArgs false
def effect_about.j0 : Nat → Bool → Int → Int → Int → Int → Int → Int → Int → ByteArray → Option (Bool)
 | 0, _, _, _, _, _, _, _, _, _ => none
 | k + 1, x3, x238000, x238001, x238002, x238003, x238004, x238005, x238006, x238007 => (effect_standing.f x238001).bind fun t238 => (if t238 = true then (if x3 = true then (some false) else (some (x238002 != 3))) else ((effect_swapping.f x238001).bind fun t239 => (if t239 = true then (some (x238002 != 3)) else (if x238002 = 3 then (some (x238000 == 1)) else (if x3 = true then (if x238001 = 6 then (some false) else (if x238001 = 8 then (some false) else (some (x238001 != 9)))) else (some true))))))
def effect_about.f (k : Nat) (a0_0 : Int) (a0_1 : Int) (a0_2 : Int) (a0_3 : Int) (a0_4 : Int) (a0_5 : Int) (a0_6 : Int) (a0_7 : ByteArray) : Option (Bool) := if a0_2 = 1 then (effect_about.j0 k true a0_0 a0_1 a0_2 a0_3 a0_4 a0_5 a0_6 a0_7) else (effect_about.j0 k (a0_2 == 2) a0_0 a0_1 a0_2 a0_3 a0_4 a0_5 a0_6 a0_7)
theorem effect_about.mono_l : ∀ k, (∀ y0 y1 y2 y3 y4 y5 y6 y7 y8, LeO (effect_about.j0 k y0 y1 y2 y3 y4 y5 y6 y7 y8) (effect_about.j0 (k + 1) y0 y1 y2 y3 y4 y5 y6 y7 y8))
 | 0 => fun _ _ _ _ _ _ _ _ _ r h => by simp [effect_about.j0] at h
 | k + 1 => by
  have ih0 := effect_about.mono_l k
  ·intro y0 y1 y2 y3 y4 y5 y6 y7 y8
   unfold effect_about.j0
   repeat' first
   | (with_reducible exact ih0 _ _ _ _ _ _ _ _ _)
   | (with_reducible exact LeO.refl _)
   | (with_reducible exact LeO.none _)
   | (with_reducible refine LeO.ite ?_ ?_)
   | (with_reducible refine LeO.bind ?_ (fun _ => ?_))
   | exact ih0 _ _ _ _ _ _ _ _ _
   | exact LeO.none _
   | refine LeO.ite ?_ ?_
   | refine LeO.bind ?_ (fun _ => ?_)
theorem effect_about.mono : ∀ a0 a1 a2 a3 a4 a5 a6 a7 k, LeO (effect_about.f k a0 a1 a2 a3 a4 a5 a6 a7) (effect_about.f (k + 1) a0 a1 a2 a3 a4 a5 a6 a7) := by
 intro a0 a1 a2 a3 a4 a5 a6 a7 k
 have ih0 := effect_about.mono_l k
 unfold effect_about.f
 repeat' first
   | (with_reducible exact ih0 _ _ _ _ _ _ _ _ _)
   | (with_reducible exact LeO.refl _)
   | (with_reducible exact LeO.none _)
   | (with_reducible refine LeO.ite ?_ ?_)
   | (with_reducible refine LeO.bind ?_ (fun _ => ?_))
   | exact ih0 _ _ _ _ _ _ _ _ _
   | exact LeO.none _
   | refine LeO.ite ?_ ?_
   | refine LeO.bind ?_ (fun _ => ?_)
set_option maxHeartbeats 8000000 in
set_option maxRecDepth 100000 in
theorem effect_about.calls (k : Nat) (a0_0 : Int) (a0_1 : Int) (a0_2 : Int) (a0_3 : Int) (a0_4 : Int) (a0_5 : Int) (a0_6 : Int) (a0_7 : ByteArray) (r : Bool) (w : World) (h : effect_about.f k a0_0 a0_1 a0_2 a0_3 a0_4 a0_5 a0_6 a0_7 = some r) :
  Calls Tryz.prog 63 #[.agg #[.int .u8 a0_0, .int .u8 a0_1, .int .u8 a0_2, .int .i64 a0_3, .int .u8 a0_4, .int .u8 a0_5, .int .u8 a0_6, .string a0_7]] w fun e w' => e = .returned (.bool r) ∧ Below w.heap.size w w' := by
 have hu48 := Tryz.underlying48
 have HB := Aside0.mk (Below.refl w.heap.size w)
 have H : (if a0_2 = 1 then (effect_about.j0 k true a0_0 a0_1 a0_2 a0_3 a0_4 a0_5 a0_6 a0_7) else (effect_about.j0 k (a0_2 == 2) a0_0 a0_1 a0_2 a0_3 a0_4 a0_5 a0_6 a0_7)) = some r := h
 clear h
 have HC2 := Aside0.mk H
 clear H
 go_enter Tryz.func63, Tryz.ntmps63
 go_upto_region 1 with (first | ((with_reducible refine gate_dst (N := 1) rfl ?_); refine box_event ?hg (N := 1) ?hd (cs := #[.int .u8 a0_0, .int .u8 a0_1, .int .u8 a0_2, .int .i64 a0_3, .int .u8 a0_4, .int .u8 a0_5, .int .u8 a0_6, .string a0_7]) (t := 48) ?hr ?_; (case hd => rfl); (case hg => rfl); (case hr => first | (go_simp; done) | (go_simp; rfl)); intro gb237 hg w3 hbox hb; have BK237 := Aside0.mk (hbox); have GW237 := Aside0.mk ((by rw [hg]; exact (below_size Zb) : w.heap.size ≤ gb237)); have GE237 := Aside0.mk ((by rw [hg]; exact (below_size Zb) : w.heap.size ≤ gb237)); replace HB := Aside0.mk (below_step Zb hb); clear hb hbox hg))
 (try simp only [Act.put, List.setIfInBounds_toArray, List.set_cons_zero, List.set_cons_succ])
 go_cut [3] (fun v3 wc => ∃ (kq : Nat) (x3_1 : Bool), v3 = .bool x3_1 ∧ Aside0 (effect_about.j0 kq x3_1 a0_0 a0_1 a0_2 a0_3 a0_4 a0_5 a0_6 a0_7 = some r) ∧ Aside0 (kq ≤ k) ∧ Aside0 (wc.heap[gb237]? = some (.cells #[.int .u8 a0_0, .int .u8 a0_1, .int .u8 a0_2, .int .i64 a0_3, .int .u8 a0_4, .int .u8 a0_5, .int .u8 a0_6, .string a0_7] 48 (0, 0))) ∧ Aside0 (Below w.heap.size w wc))
 case first =>
  have H := HC2.out
  clear HC2
  by_cases c4 : a0_2 = 1
  ·rw [if_pos c4] at H
   have c4b0 : (a0_2 == 1) = true := beq_iff_eq.mpr c4
   have c4b1 : (a0_2 != 1) = false := bne_eq_false_iff_eq.mpr c4
   clear c4
   (first | rw [c4b0] | (simp only [i64_w, i32_w]; rw [c4b0]) | skip)
   have H' := Aside0.mk H
   clear H
   have hcz5_0 := Zc BK237.out 0 (.int .u8 a0_0) rfl
   have hcz5_1 := Zc BK237.out 1 (.int .u8 a0_1) rfl
   have hcz5_2 := Zc BK237.out 2 (.int .u8 a0_2) rfl
   have hcz5_3 := Zc BK237.out 3 (.int .i64 a0_3) rfl
   have hcz5_4 := Zc BK237.out 4 (.int .u8 a0_4) rfl
   have hcz5_5 := Zc BK237.out 5 (.int .u8 a0_5) rfl
   have hcz5_6 := Zc BK237.out 6 (.int .u8 a0_6) rfl
   have hcz5_7 := Zc BK237.out 7 (.string a0_7) rfl
   have hfz5_0 := blk_frozen BK237.out 0
   have hfz5_1 := blk_frozen BK237.out 1
   have hfz5_2 := blk_frozen BK237.out 2
   have hfz5_3 := blk_frozen BK237.out 3
   have hfz5_4 := blk_frozen BK237.out 4
   have hfz5_5 := blk_frozen BK237.out 5
   have hfz5_6 := blk_frozen BK237.out 6
   have hfz5_7 := blk_frozen BK237.out 7
   go_wp2
   go_meet
   case rel => exact ⟨_, (true), Zs, H', ⟨by first | omega | exact Nat.le_refl _⟩, ⟨Zk BK237.out⟩, ⟨Zb1 GE237.out⟩⟩
  ·rw [if_neg c4] at H
   have c4b0 : (a0_2 == 1) = false := beq_eq_false_iff_ne.mpr c4
   have c4b1 : (a0_2 != 1) = true := bne_iff_ne.mpr c4
   (first | rw [c4b0] | (simp only [i64_w, i32_w]; rw [c4b0]) | skip)
   have H' := Aside0.mk H
   clear H
   have hcz6_0 := Zc BK237.out 0 (.int .u8 a0_0) rfl
   have hcz6_1 := Zc BK237.out 1 (.int .u8 a0_1) rfl
   have hcz6_2 := Zc BK237.out 2 (.int .u8 a0_2) rfl
   have hcz6_3 := Zc BK237.out 3 (.int .i64 a0_3) rfl
   have hcz6_4 := Zc BK237.out 4 (.int .u8 a0_4) rfl
   have hcz6_5 := Zc BK237.out 5 (.int .u8 a0_5) rfl
   have hcz6_6 := Zc BK237.out 6 (.int .u8 a0_6) rfl
   have hcz6_7 := Zc BK237.out 7 (.string a0_7) rfl
   have hfz6_0 := blk_frozen BK237.out 0
   have hfz6_1 := blk_frozen BK237.out 1
   have hfz6_2 := blk_frozen BK237.out 2
   have hfz6_3 := blk_frozen BK237.out 3
   have hfz6_4 := blk_frozen BK237.out 4
   have hfz6_5 := blk_frozen BK237.out 5
   have hfz6_6 := blk_frozen BK237.out 6
   have hfz6_7 := blk_frozen BK237.out 7
   go_wp2
   go_meet
   case rel => exact ⟨_, ((a0_2 == 2)), Zs, H', ⟨by first | omega | exact Nat.le_refl _⟩, ⟨Zk BK237.out⟩, ⟨Zb1 GE237.out⟩⟩
 case rest =>
  clear HC2
  try clear p2
  try clear c4
  try clear c4b0
  try clear c4b1
  try clear c6
  try clear hcz5_0
  try clear hcz5_1
  try clear hcz5_2
  try clear hcz5_3
  try clear hcz5_4
  try clear hcz5_5
  try clear hcz5_6
  try clear hcz5_7
  try clear hcz6_0
  try clear hcz6_1
  try clear hcz6_2
  try clear hcz6_3
  try clear hcz6_4
  try clear hcz6_5
  try clear hcz6_6
  try clear hcz6_7
  try clear hfz5_0
  try clear hfz5_1
  try clear hfz5_2
  try clear hfz5_3
  try clear hfz5_4
  try clear hfz5_5
  try clear hfz5_6
  try clear hfz5_7
  try clear hfz6_0
  try clear hfz6_1
  try clear hfz6_2
  try clear hfz6_3
  try clear hfz6_4
  try clear hfz6_5
  try clear hfz6_6
  try clear hfz6_7
  obtain ⟨kq, x3_1, rfl, HA, HJ1, BK237, HB⟩ := hcut
  cases kq with
  | zero => exact absurd HA.out (by simp [effect_about.j0])
  | succ kj1 =>
   have H := HA.out
   clear HA
   simp only [effect_about.j0] at H
   replace H := Option.bind_eq_some_iff.mp H
   obtain ⟨t238, A70, H⟩ := H
   replace H : (if t238 = true then (if x3_1 = true then (some false) else (some (a0_2 != 3))) else ((effect_swapping.f a0_1).bind fun t239 => (if t239 = true then (some (a0_2 != 3)) else (if a0_2 = 3 then (some (a0_0 == 1)) else (if x3_1 = true then (if a0_1 = 6 then (some false) else (if a0_1 = 8 then (some false) else (some (a0_1 != 9)))) else (some true)))))) = some r := H
   have A7 := Aside0.mk A70
   clear A70
   by_cases c8 : t238 = true
   ·subst c8
    have H1 : (if x3_1 = true then (some false) else (some (a0_2 != 3))) = some r := by rw [if_pos rfl] at H; exact H
    clear H
    have H := H1
    clear H1
    by_cases c9 : x3_1 = true
    ·subst c9
     have H1 : (some false) = some r := by rw [if_pos rfl] at H; exact H
     clear H
     have H := H1
     clear H1
     obtain rfl := Option.some.inj H
     have hcz10_0 := Zc BK237.out 0 (.int .u8 a0_0) rfl
     have hcz10_1 := Zc BK237.out 1 (.int .u8 a0_1) rfl
     have hcz10_2 := Zc BK237.out 2 (.int .u8 a0_2) rfl
     have hcz10_3 := Zc BK237.out 3 (.int .i64 a0_3) rfl
     have hcz10_4 := Zc BK237.out 4 (.int .u8 a0_4) rfl
     have hcz10_5 := Zc BK237.out 5 (.int .u8 a0_5) rfl
     have hcz10_6 := Zc BK237.out 6 (.int .u8 a0_6) rfl
     have hcz10_7 := Zc BK237.out 7 (.string a0_7) rfl
     have hfz10_0 := blk_frozen BK237.out 0
     have hfz10_1 := blk_frozen BK237.out 1
     have hfz10_2 := blk_frozen BK237.out 2
     have hfz10_3 := blk_frozen BK237.out 3
     have hfz10_4 := blk_frozen BK237.out 4
     have hfz10_5 := blk_frozen BK237.out 5
     have hfz10_6 := blk_frozen BK237.out 6
     have hfz10_7 := blk_frozen BK237.out 7
     go_wp2_with (first | ((with_reducible refine gate_callee (f := 106) rfl ?_); refine goesL_ (some 15) rfl rfl Tryz.func106 (by kernel_rfl) rfl #[.int .u8 a0_1] rfl Zl ?_; (with_reducible refine (effect_standing.calls a0_1 true _ A7.out).mono ?_); rintro e w' ⟨rfl, ⟨nd, rfl⟩⟩; refine ⟨_, rfl, ?_⟩))
     go_ret
     exact ⟨Ze, Zb1 GE237.out⟩
    ·replace c9 := Bool.eq_false_iff.mpr c9
     subst c9
     have H1 : (some (a0_2 != 3)) = some r := by rw [if_neg (show ¬ (false = true) by decide)] at H; exact H
     clear H
     have H := H1
     clear H1
     obtain rfl := Option.some.inj H
     have hcz11_0 := Zc BK237.out 0 (.int .u8 a0_0) rfl
     have hcz11_1 := Zc BK237.out 1 (.int .u8 a0_1) rfl
     have hcz11_2 := Zc BK237.out 2 (.int .u8 a0_2) rfl
     have hcz11_3 := Zc BK237.out 3 (.int .i64 a0_3) rfl
     have hcz11_4 := Zc BK237.out 4 (.int .u8 a0_4) rfl
     have hcz11_5 := Zc BK237.out 5 (.int .u8 a0_5) rfl
     have hcz11_6 := Zc BK237.out 6 (.int .u8 a0_6) rfl
     have hcz11_7 := Zc BK237.out 7 (.string a0_7) rfl
     have hfz11_0 := blk_frozen BK237.out 0
     have hfz11_1 := blk_frozen BK237.out 1
     have hfz11_2 := blk_frozen BK237.out 2
     have hfz11_3 := blk_frozen BK237.out 3
     have hfz11_4 := blk_frozen BK237.out 4
     have hfz11_5 := blk_frozen BK237.out 5
     have hfz11_6 := blk_frozen BK237.out 6
     have hfz11_7 := blk_frozen BK237.out 7
     go_wp2_with (first | ((with_reducible refine gate_callee (f := 106) rfl ?_); refine goesL_ (some 15) rfl rfl Tryz.func106 (by kernel_rfl) rfl #[.int .u8 a0_1] rfl Zl ?_; (with_reducible refine (effect_standing.calls a0_1 true _ A7.out).mono ?_); rintro e w' ⟨rfl, ⟨nd, rfl⟩⟩; refine ⟨_, rfl, ?_⟩))
     go_ret
     exact ⟨Ze, Zb1 GE237.out⟩
   ·replace c8 := Bool.eq_false_iff.mpr c8
    subst c8
    have H1 : ((effect_swapping.f a0_1).bind fun t239 => (if t239 = true then (some (a0_2 != 3)) else (if a0_2 = 3 then (some (a0_0 == 1)) else (if x3_1 = true then (if a0_1 = 6 then (some false) else (if a0_1 = 8 then (some false) else (some (a0_1 != 9)))) else (some true))))) = some r := by rw [if_neg (show ¬ (false = true) by decide)] at H; exact H
    clear H
    have H := H1
    clear H1
    replace H := Option.bind_eq_some_iff.mp H
    obtain ⟨t239, A120, H⟩ := H
    replace H : (if t239 = true then (some (a0_2 != 3)) else (if a0_2 = 3 then (some (a0_0 == 1)) else (if x3_1 = true then (if a0_1 = 6 then (some false) else (if a0_1 = 8 then (some false) else (some (a0_1 != 9)))) else (some true)))) = some r := H
    have A12 := Aside0.mk A120
    clear A120
    by_cases c13 : t239 = true
    ·subst c13
     have H1 : (some (a0_2 != 3)) = some r := by rw [if_pos rfl] at H; exact H
     clear H
     have H := H1
     clear H1
     obtain rfl := Option.some.inj H
     have hcz14_0 := Zc BK237.out 0 (.int .u8 a0_0) rfl
     have hcz14_1 := Zc BK237.out 1 (.int .u8 a0_1) rfl
     have hcz14_2 := Zc BK237.out 2 (.int .u8 a0_2) rfl
     have hcz14_3 := Zc BK237.out 3 (.int .i64 a0_3) rfl
     have hcz14_4 := Zc BK237.out 4 (.int .u8 a0_4) rfl
     have hcz14_5 := Zc BK237.out 5 (.int .u8 a0_5) rfl
     have hcz14_6 := Zc BK237.out 6 (.int .u8 a0_6) rfl
     have hcz14_7 := Zc BK237.out 7 (.string a0_7) rfl
     have hfz14_0 := blk_frozen BK237.out 0
     have hfz14_1 := blk_frozen BK237.out 1
     have hfz14_2 := blk_frozen BK237.out 2
     have hfz14_3 := blk_frozen BK237.out 3
     have hfz14_4 := blk_frozen BK237.out 4
     have hfz14_5 := blk_frozen BK237.out 5
     have hfz14_6 := blk_frozen BK237.out 6
     have hfz14_7 := blk_frozen BK237.out 7
     go_wp2_with (first | ((with_reducible refine gate_callee (f := 106) rfl ?_); refine goesL_ (some 15) rfl rfl Tryz.func106 (by kernel_rfl) rfl #[.int .u8 a0_1] rfl Zl ?_; (with_reducible refine (effect_standing.calls a0_1 false _ A7.out).mono ?_); rintro e w' ⟨rfl, ⟨nd, rfl⟩⟩; refine ⟨_, rfl, ?_⟩) | ((with_reducible refine gate_callee (f := 107) rfl ?_); refine goesL_ (some 26) rfl rfl Tryz.func107 (by kernel_rfl) rfl #[.int .u8 a0_1] rfl Zl ?_; (with_reducible refine (effect_swapping.calls a0_1 true _ A12.out).mono ?_); rintro e w' ⟨rfl, ⟨nd, rfl⟩⟩; refine ⟨_, rfl, ?_⟩))
     go_ret
     exact ⟨Ze, Zb1 GE237.out⟩
    ·replace c13 := Bool.eq_false_iff.mpr c13
     subst c13
     have H1 : (if a0_2 = 3 then (some (a0_0 == 1)) else (if x3_1 = true then (if a0_1 = 6 then (some false) else (if a0_1 = 8 then (some false) else (some (a0_1 != 9)))) else (some true))) = some r := by rw [if_neg (show ¬ (false = true) by decide)] at H; exact H
     clear H
     have H := H1
     clear H1
     by_cases c15 : a0_2 = 3
     ·rw [if_pos c15] at H
      have c15b0 : (a0_2 == 3) = true := beq_iff_eq.mpr c15
      have c15b1 : (a0_2 != 3) = false := bne_eq_false_iff_eq.mpr c15
      clear c15
      obtain rfl := Option.some.inj H
      have hcz16_0 := Zc BK237.out 0 (.int .u8 a0_0) rfl
      have hcz16_1 := Zc BK237.out 1 (.int .u8 a0_1) rfl
      have hcz16_2 := Zc BK237.out 2 (.int .u8 a0_2) rfl
      have hcz16_3 := Zc BK237.out 3 (.int .i64 a0_3) rfl
      have hcz16_4 := Zc BK237.out 4 (.int .u8 a0_4) rfl
      have hcz16_5 := Zc BK237.out 5 (.int .u8 a0_5) rfl
      have hcz16_6 := Zc BK237.out 6 (.int .u8 a0_6) rfl
      have hcz16_7 := Zc BK237.out 7 (.string a0_7) rfl
      have hfz16_0 := blk_frozen BK237.out 0
      have hfz16_1 := blk_frozen BK237.out 1
      have hfz16_2 := blk_frozen BK237.out 2
      have hfz16_3 := blk_frozen BK237.out 3
      have hfz16_4 := blk_frozen BK237.out 4
      have hfz16_5 := blk_frozen BK237.out 5
      have hfz16_6 := blk_frozen BK237.out 6
      have hfz16_7 := blk_frozen BK237.out 7
      go_wp2_with (first | ((with_reducible refine gate_callee (f := 106) rfl ?_); refine goesL_ (some 15) rfl rfl Tryz.func106 (by kernel_rfl) rfl #[.int .u8 a0_1] rfl Zl ?_; (with_reducible refine (effect_standing.calls a0_1 false _ A7.out).mono ?_); rintro e w' ⟨rfl, ⟨nd, rfl⟩⟩; refine ⟨_, rfl, ?_⟩) | ((with_reducible refine gate_callee (f := 107) rfl ?_); refine goesL_ (some 26) rfl rfl Tryz.func107 (by kernel_rfl) rfl #[.int .u8 a0_1] rfl Zl ?_; (with_reducible refine (effect_swapping.calls a0_1 false _ A12.out).mono ?_); rintro e w' ⟨rfl, ⟨nd, rfl⟩⟩; refine ⟨_, rfl, ?_⟩))
      go_ret
      exact ⟨Ze, Zb1 GE237.out⟩
     ·rw [if_neg c15] at H
      have c15b0 : (a0_2 == 3) = false := beq_eq_false_iff_ne.mpr c15
      have c15b1 : (a0_2 != 3) = true := bne_iff_ne.mpr c15
      by_cases c17 : x3_1 = true
      ·subst c17
       have H1 : (if a0_1 = 6 then (some false) else (if a0_1 = 8 then (some false) else (some (a0_1 != 9)))) = some r := by rw [if_pos rfl] at H; exact H
       clear H
       have H := H1
       clear H1
       by_cases c18 : a0_1 = 6
       ·rw [if_pos c18] at H
        have c18b0 : (a0_1 == 6) = true := beq_iff_eq.mpr c18
        have c18b1 : (a0_1 != 6) = false := bne_eq_false_iff_eq.mpr c18
        clear c18
        obtain rfl := Option.some.inj H
        have hcz19_0 := Zc BK237.out 0 (.int .u8 a0_0) rfl
        have hcz19_1 := Zc BK237.out 1 (.int .u8 a0_1) rfl
        have hcz19_2 := Zc BK237.out 2 (.int .u8 a0_2) rfl
        have hcz19_3 := Zc BK237.out 3 (.int .i64 a0_3) rfl
        have hcz19_4 := Zc BK237.out 4 (.int .u8 a0_4) rfl
        have hcz19_5 := Zc BK237.out 5 (.int .u8 a0_5) rfl
        have hcz19_6 := Zc BK237.out 6 (.int .u8 a0_6) rfl
        have hcz19_7 := Zc BK237.out 7 (.string a0_7) rfl
        have hfz19_0 := blk_frozen BK237.out 0
        have hfz19_1 := blk_frozen BK237.out 1
        have hfz19_2 := blk_frozen BK237.out 2
        have hfz19_3 := blk_frozen BK237.out 3
        have hfz19_4 := blk_frozen BK237.out 4
        have hfz19_5 := blk_frozen BK237.out 5
        have hfz19_6 := blk_frozen BK237.out 6
        have hfz19_7 := blk_frozen BK237.out 7
        go_wp2_with (first | ((with_reducible refine gate_callee (f := 106) rfl ?_); refine goesL_ (some 15) rfl rfl Tryz.func106 (by kernel_rfl) rfl #[.int .u8 a0_1] rfl Zl ?_; (with_reducible refine (effect_standing.calls a0_1 false _ A7.out).mono ?_); rintro e w' ⟨rfl, ⟨nd, rfl⟩⟩; refine ⟨_, rfl, ?_⟩) | ((with_reducible refine gate_callee (f := 107) rfl ?_); refine goesL_ (some 26) rfl rfl Tryz.func107 (by kernel_rfl) rfl #[.int .u8 a0_1] rfl Zl ?_; (with_reducible refine (effect_swapping.calls a0_1 false _ A12.out).mono ?_); rintro e w' ⟨rfl, ⟨nd, rfl⟩⟩; refine ⟨_, rfl, ?_⟩))
        go_ret
        exact ⟨Ze, Zb1 GE237.out⟩
       ·rw [if_neg c18] at H
        have c18b0 : (a0_1 == 6) = false := beq_eq_false_iff_ne.mpr c18
        have c18b1 : (a0_1 != 6) = true := bne_iff_ne.mpr c18
        by_cases c20 : a0_1 = 8
        ·rw [if_pos c20] at H
         have c20b0 : (a0_1 == 8) = true := beq_iff_eq.mpr c20
         have c20b1 : (a0_1 != 8) = false := bne_eq_false_iff_eq.mpr c20
         clear c20
         obtain rfl := Option.some.inj H
         have hcz21_0 := Zc BK237.out 0 (.int .u8 a0_0) rfl
         have hcz21_1 := Zc BK237.out 1 (.int .u8 a0_1) rfl
         have hcz21_2 := Zc BK237.out 2 (.int .u8 a0_2) rfl
         have hcz21_3 := Zc BK237.out 3 (.int .i64 a0_3) rfl
         have hcz21_4 := Zc BK237.out 4 (.int .u8 a0_4) rfl
         have hcz21_5 := Zc BK237.out 5 (.int .u8 a0_5) rfl
         have hcz21_6 := Zc BK237.out 6 (.int .u8 a0_6) rfl
         have hcz21_7 := Zc BK237.out 7 (.string a0_7) rfl
         have hfz21_0 := blk_frozen BK237.out 0
         have hfz21_1 := blk_frozen BK237.out 1
         have hfz21_2 := blk_frozen BK237.out 2
         have hfz21_3 := blk_frozen BK237.out 3
         have hfz21_4 := blk_frozen BK237.out 4
         have hfz21_5 := blk_frozen BK237.out 5
         have hfz21_6 := blk_frozen BK237.out 6
         have hfz21_7 := blk_frozen BK237.out 7
         go_wp2_with (first | ((with_reducible refine gate_callee (f := 106) rfl ?_); refine goesL_ (some 15) rfl rfl Tryz.func106 (by kernel_rfl) rfl #[.int .u8 a0_1] rfl Zl ?_; (with_reducible refine (effect_standing.calls a0_1 false _ A7.out).mono ?_); rintro e w' ⟨rfl, ⟨nd, rfl⟩⟩; refine ⟨_, rfl, ?_⟩) | ((with_reducible refine gate_callee (f := 107) rfl ?_); refine goesL_ (some 26) rfl rfl Tryz.func107 (by kernel_rfl) rfl #[.int .u8 a0_1] rfl Zl ?_; (with_reducible refine (effect_swapping.calls a0_1 false _ A12.out).mono ?_); rintro e w' ⟨rfl, ⟨nd, rfl⟩⟩; refine ⟨_, rfl, ?_⟩))
         go_ret
         exact ⟨Ze, Zb1 GE237.out⟩
        ·rw [if_neg c20] at H
         have c20b0 : (a0_1 == 8) = false := beq_eq_false_iff_ne.mpr c20
         have c20b1 : (a0_1 != 8) = true := bne_iff_ne.mpr c20
         obtain rfl := Option.some.inj H
         have hcz22_0 := Zc BK237.out 0 (.int .u8 a0_0) rfl
         have hcz22_1 := Zc BK237.out 1 (.int .u8 a0_1) rfl
         have hcz22_2 := Zc BK237.out 2 (.int .u8 a0_2) rfl
         have hcz22_3 := Zc BK237.out 3 (.int .i64 a0_3) rfl
         have hcz22_4 := Zc BK237.out 4 (.int .u8 a0_4) rfl
         have hcz22_5 := Zc BK237.out 5 (.int .u8 a0_5) rfl
         have hcz22_6 := Zc BK237.out 6 (.int .u8 a0_6) rfl
         have hcz22_7 := Zc BK237.out 7 (.string a0_7) rfl
         have hfz22_0 := blk_frozen BK237.out 0
         have hfz22_1 := blk_frozen BK237.out 1
         have hfz22_2 := blk_frozen BK237.out 2
         have hfz22_3 := blk_frozen BK237.out 3
         have hfz22_4 := blk_frozen BK237.out 4
         have hfz22_5 := blk_frozen BK237.out 5
         have hfz22_6 := blk_frozen BK237.out 6
         have hfz22_7 := blk_frozen BK237.out 7
         go_wp2_with (first | ((with_reducible refine gate_callee (f := 106) rfl ?_); refine goesL_ (some 15) rfl rfl Tryz.func106 (by kernel_rfl) rfl #[.int .u8 a0_1] rfl Zl ?_; (with_reducible refine (effect_standing.calls a0_1 false _ A7.out).mono ?_); rintro e w' ⟨rfl, ⟨nd, rfl⟩⟩; refine ⟨_, rfl, ?_⟩) | ((with_reducible refine gate_callee (f := 107) rfl ?_); refine goesL_ (some 26) rfl rfl Tryz.func107 (by kernel_rfl) rfl #[.int .u8 a0_1] rfl Zl ?_; (with_reducible refine (effect_swapping.calls a0_1 false _ A12.out).mono ?_); rintro e w' ⟨rfl, ⟨nd, rfl⟩⟩; refine ⟨_, rfl, ?_⟩))
         go_ret
         exact ⟨Ze, Zb1 GE237.out⟩
      ·replace c17 := Bool.eq_false_iff.mpr c17
       subst c17
       have H1 : (some true) = some r := by rw [if_neg (show ¬ (false = true) by decide)] at H; exact H
       clear H
       have H := H1
       clear H1
       obtain rfl := Option.some.inj H
       have hcz23_0 := Zc BK237.out 0 (.int .u8 a0_0) rfl
       have hcz23_1 := Zc BK237.out 1 (.int .u8 a0_1) rfl
       have hcz23_2 := Zc BK237.out 2 (.int .u8 a0_2) rfl
       have hcz23_3 := Zc BK237.out 3 (.int .i64 a0_3) rfl
       have hcz23_4 := Zc BK237.out 4 (.int .u8 a0_4) rfl
       have hcz23_5 := Zc BK237.out 5 (.int .u8 a0_5) rfl
       have hcz23_6 := Zc BK237.out 6 (.int .u8 a0_6) rfl
       have hcz23_7 := Zc BK237.out 7 (.string a0_7) rfl
       have hfz23_0 := blk_frozen BK237.out 0
       have hfz23_1 := blk_frozen BK237.out 1
       have hfz23_2 := blk_frozen BK237.out 2
       have hfz23_3 := blk_frozen BK237.out 3
       have hfz23_4 := blk_frozen BK237.out 4
       have hfz23_5 := blk_frozen BK237.out 5
       have hfz23_6 := blk_frozen BK237.out 6
       have hfz23_7 := blk_frozen BK237.out 7
       go_wp2_with (first | ((with_reducible refine gate_callee (f := 106) rfl ?_); refine goesL_ (some 15) rfl rfl Tryz.func106 (by kernel_rfl) rfl #[.int .u8 a0_1] rfl Zl ?_; (with_reducible refine (effect_standing.calls a0_1 false _ A7.out).mono ?_); rintro e w' ⟨rfl, ⟨nd, rfl⟩⟩; refine ⟨_, rfl, ?_⟩) | ((with_reducible refine gate_callee (f := 107) rfl ?_); refine goesL_ (some 26) rfl rfl Tryz.func107 (by kernel_rfl) rfl #[.int .u8 a0_1] rfl Zl ?_; (with_reducible refine (effect_swapping.calls a0_1 false _ A12.out).mono ?_); rintro e w' ⟨rfl, ⟨nd, rfl⟩⟩; refine ⟨_, rfl, ?_⟩))
       go_ret
       exact ⟨Ze, Zb1 GE237.out⟩
end Go.Proofs.YtfpcideomanbbaaGreatDoor.PA
end
section
namespace Go.Proofs.YtfpcideomanbbaaGreatDoor.PA
open Go.RowKit Go.Proofs.YtfpcideomanbbaaGreatDoorW.PrintWords Go.Proofs.YtfpcideomanbbaaGreatDoorW.PrintLast Go.Proofs.YtfpcideomanbbaaGreatDoorW.PrintMore
attribute [local go_sem] max2_int min2_int max_two min_two max_three min_three max_four min_four
set_option linter.unusedVariables false
set_option linter.unusedSimpArgs false
def effect_within_int.f (a0 : Int) (a1 : Bool) (a2 : Int) (a3 : Int) : Option (Bool) := if a1 = true then (if a0 ≥ a2 then (some (decide (a0 ≤ a3))) else (some false)) else (some (a0 == 0))
set_option maxHeartbeats 8000000 in
set_option maxRecDepth 100000 in
theorem effect_within_int.calls (a0 : Int) (a1 : Bool) (a2 : Int) (a3 : Int) (r : Bool) (w : World) (h : effect_within_int.f a0 a1 a2 a3 = some r) :
  Calls Tryz.prog 64 #[.int .i64 a0, .bool a1, .int .i64 a2, .int .i64 a3] w fun e w' => e = .returned (.bool r) ∧ Drawn0 w w' := by
 have H : (if a1 = true then (if a0 ≥ a2 then (some (decide (a0 ≤ a3))) else (some false)) else (some (a0 == 0))) = some r := h
 clear h
 by_cases c5 : a1 = true
 ·subst c5
  have H1 : (if a0 ≥ a2 then (some (decide (a0 ≤ a3))) else (some false)) = some r := by rw [if_pos rfl] at H; exact H
  clear H
  have H := H1
  clear H1
  by_cases c6 : a0 ≥ a2
  ·rw [if_pos c6] at H
   have c6b0 : decide (a2 ≤ a0) = true := decide_eq_true c6
   clear c6
   obtain rfl := Option.some.inj H
   go_enter Tryz.func64, Tryz.ntmps64
   go_wp2
   go_ret
   exact ⟨Zt, Zd⟩
  ·rw [if_neg c6] at H
   have c6b0 : decide (a2 ≤ a0) = false := decide_eq_false c6
   clear c6
   obtain rfl := Option.some.inj H
   go_enter Tryz.func64, Tryz.ntmps64
   go_wp2
   go_ret
   exact ⟨Zt, Zd⟩
 ·replace c5 := Bool.eq_false_iff.mpr c5
  subst c5
  have H1 : (some (a0 == 0)) = some r := by rw [if_neg (show ¬ (false = true) by decide)] at H; exact H
  clear H
  have H := H1
  clear H1
  obtain rfl := Option.some.inj H
  go_enter Tryz.func64, Tryz.ntmps64
  go_wp2
  go_ret
  exact ⟨Zt, Zd⟩
end Go.Proofs.YtfpcideomanbbaaGreatDoor.PA
end
section
namespace Go.Proofs.YtfpcideomanbbaaGreatDoor.PA
open Go.RowKit Go.Proofs.YtfpcideomanbbaaGreatDoorW.PrintWords Go.Proofs.YtfpcideomanbbaaGreatDoorW.PrintLast Go.Proofs.YtfpcideomanbbaaGreatDoorW.PrintMore
attribute [local go_sem] max2_int min2_int max_two min_two max_three min_three max_four min_four
set_option linter.unusedVariables false
set_option linter.unusedSimpArgs false
def api_Suit.f (a0 : Int) (a1 : Bool) (a2 : Int) (a3 : Int) : Option (Bool) := if a1 = true then (if a0 ≥ a2 then (some (decide (a0 ≤ a3))) else (some false)) else (some (a0 == 0))
set_option maxHeartbeats 8000000 in
set_option maxRecDepth 100000 in
theorem api_Suit.calls (a0 : Int) (a1 : Bool) (a2 : Int) (a3 : Int) (r : Bool) (w : World) (h : api_Suit.f a0 a1 a2 a3 = some r) :
  Calls Tryz.prog 65 #[.int .u8 a0, .bool a1, .int .u8 a2, .int .u8 a3] w fun e w' => e = .returned (.bool r) ∧ Drawn0 w w' := by
 have H : (if a1 = true then (if a0 ≥ a2 then (some (decide (a0 ≤ a3))) else (some false)) else (some (a0 == 0))) = some r := h
 clear h
 by_cases c5 : a1 = true
 ·subst c5
  have H1 : (if a0 ≥ a2 then (some (decide (a0 ≤ a3))) else (some false)) = some r := by rw [if_pos rfl] at H; exact H
  clear H
  have H := H1
  clear H1
  by_cases c6 : a0 ≥ a2
  ·rw [if_pos c6] at H
   have c6b0 : decide (a2 ≤ a0) = true := decide_eq_true c6
   clear c6
   obtain rfl := Option.some.inj H
   go_enter Tryz.func65, Tryz.ntmps65
   go_wp2
   go_ret
   exact ⟨Zt, Zd⟩
  ·rw [if_neg c6] at H
   have c6b0 : decide (a2 ≤ a0) = false := decide_eq_false c6
   clear c6
   obtain rfl := Option.some.inj H
   go_enter Tryz.func65, Tryz.ntmps65
   go_wp2
   go_ret
   exact ⟨Zt, Zd⟩
 ·replace c5 := Bool.eq_false_iff.mpr c5
  subst c5
  have H1 : (some (a0 == 0)) = some r := by rw [if_neg (show ¬ (false = true) by decide)] at H; exact H
  clear H
  have H := H1
  clear H1
  obtain rfl := Option.some.inj H
  go_enter Tryz.func65, Tryz.ntmps65
  go_wp2
  go_ret
  exact ⟨Zt, Zd⟩
end Go.Proofs.YtfpcideomanbbaaGreatDoor.PA
end
section
namespace Go.Proofs.YtfpcideomanbbaaGreatDoor.PA
open Go.RowKit Go.Proofs.YtfpcideomanbbaaGreatDoorW.PrintWords Go.Proofs.YtfpcideomanbbaaGreatDoorW.PrintLast Go.Proofs.YtfpcideomanbbaaGreatDoorW.PrintMore
attribute [local go_sem] max2_int min2_int max_two min_two max_three min_three max_four min_four
set_option linter.unusedVariables false
set_option linter.unusedSimpArgs false
def api_Trait.f (a0 : Int) (a1 : Bool) (a2 : Int) (a3 : Int) : Option (Bool) := if a1 = true then (if a0 ≥ a2 then (some (decide (a0 ≤ a3))) else (some false)) else (some (a0 == 0))
set_option maxHeartbeats 8000000 in
set_option maxRecDepth 100000 in
theorem api_Trait.calls (a0 : Int) (a1 : Bool) (a2 : Int) (a3 : Int) (r : Bool) (w : World) (h : api_Trait.f a0 a1 a2 a3 = some r) :
  Calls Tryz.prog 66 #[.int .u8 a0, .bool a1, .int .u8 a2, .int .u8 a3] w fun e w' => e = .returned (.bool r) ∧ Drawn0 w w' := by
 have H : (if a1 = true then (if a0 ≥ a2 then (some (decide (a0 ≤ a3))) else (some false)) else (some (a0 == 0))) = some r := h
 clear h
 by_cases c5 : a1 = true
 ·subst c5
  have H1 : (if a0 ≥ a2 then (some (decide (a0 ≤ a3))) else (some false)) = some r := by rw [if_pos rfl] at H; exact H
  clear H
  have H := H1
  clear H1
  by_cases c6 : a0 ≥ a2
  ·rw [if_pos c6] at H
   have c6b0 : decide (a2 ≤ a0) = true := decide_eq_true c6
   clear c6
   obtain rfl := Option.some.inj H
   go_enter Tryz.func66, Tryz.ntmps66
   go_wp2
   go_ret
   exact ⟨Zt, Zd⟩
  ·rw [if_neg c6] at H
   have c6b0 : decide (a2 ≤ a0) = false := decide_eq_false c6
   clear c6
   obtain rfl := Option.some.inj H
   go_enter Tryz.func66, Tryz.ntmps66
   go_wp2
   go_ret
   exact ⟨Zt, Zd⟩
 ·replace c5 := Bool.eq_false_iff.mpr c5
  subst c5
  have H1 : (some (a0 == 0)) = some r := by rw [if_neg (show ¬ (false = true) by decide)] at H; exact H
  clear H
  have H := H1
  clear H1
  obtain rfl := Option.some.inj H
  go_enter Tryz.func66, Tryz.ntmps66
  go_wp2
  go_ret
  exact ⟨Zt, Zd⟩
end Go.Proofs.YtfpcideomanbbaaGreatDoor.PA
end
section
namespace Go.Proofs.YtfpcideomanbbaaGreatDoor.PA
open Go.RowKit Go.Proofs.YtfpcideomanbbaaGreatDoorW.PrintWords Go.Proofs.YtfpcideomanbbaaGreatDoorW.PrintLast Go.Proofs.YtfpcideomanbbaaGreatDoorW.PrintMore
attribute [local go_sem] max2_int min2_int max_two min_two max_three min_three max_four min_four
set_option linter.unusedVariables false
set_option linter.unusedSimpArgs false
def api_Mark.f (a0 : Int) (a1 : Bool) (a2 : Int) (a3 : Int) : Option (Bool) := if a1 = true then (if a0 ≥ a2 then (some (decide (a0 ≤ a3))) else (some false)) else (some (a0 == 0))
set_option maxHeartbeats 8000000 in
set_option maxRecDepth 100000 in
theorem api_Mark.calls (a0 : Int) (a1 : Bool) (a2 : Int) (a3 : Int) (r : Bool) (w : World) (h : api_Mark.f a0 a1 a2 a3 = some r) :
  Calls Tryz.prog 67 #[.int .u8 a0, .bool a1, .int .u8 a2, .int .u8 a3] w fun e w' => e = .returned (.bool r) ∧ Drawn0 w w' := by
 have H : (if a1 = true then (if a0 ≥ a2 then (some (decide (a0 ≤ a3))) else (some false)) else (some (a0 == 0))) = some r := h
 clear h
 by_cases c5 : a1 = true
 ·subst c5
  have H1 : (if a0 ≥ a2 then (some (decide (a0 ≤ a3))) else (some false)) = some r := by rw [if_pos rfl] at H; exact H
  clear H
  have H := H1
  clear H1
  by_cases c6 : a0 ≥ a2
  ·rw [if_pos c6] at H
   have c6b0 : decide (a2 ≤ a0) = true := decide_eq_true c6
   clear c6
   obtain rfl := Option.some.inj H
   go_enter Tryz.func67, Tryz.ntmps67
   go_wp2
   go_ret
   exact ⟨Zt, Zd⟩
  ·rw [if_neg c6] at H
   have c6b0 : decide (a2 ≤ a0) = false := decide_eq_false c6
   clear c6
   obtain rfl := Option.some.inj H
   go_enter Tryz.func67, Tryz.ntmps67
   go_wp2
   go_ret
   exact ⟨Zt, Zd⟩
 ·replace c5 := Bool.eq_false_iff.mpr c5
  subst c5
  have H1 : (some (a0 == 0)) = some r := by rw [if_neg (show ¬ (false = true) by decide)] at H; exact H
  clear H
  have H := H1
  clear H1
  obtain rfl := Option.some.inj H
  go_enter Tryz.func67, Tryz.ntmps67
  go_wp2
  go_ret
  exact ⟨Zt, Zd⟩
end Go.Proofs.YtfpcideomanbbaaGreatDoor.PA
end
section
namespace Go.Proofs.YtfpcideomanbbaaGreatDoor.PA
open Go.RowKit Go.Proofs.YtfpcideomanbbaaGreatDoorW.PrintWords Go.Proofs.YtfpcideomanbbaaGreatDoorW.PrintLast Go.Proofs.YtfpcideomanbbaaGreatDoorW.PrintMore
attribute [local go_sem] max2_int min2_int max_two min_two max_three min_three max_four min_four
set_option linter.unusedVariables false
set_option linter.unusedSimpArgs false
mutual
def gambitref05_counts.j0 : Nat → Int → Bool → Option (Int × Int)
 | 0, _, _ => none
 | k + 1, x4, x5 => if x5 = true then (some (1, 99)) else (if x4 = 9 then (gambitref05_counts.j1 k x4 (x4 == 9)) else (gambitref05_counts.j1 k x4 (x4 == 15)))
def gambitref05_counts.j1 : Nat → Int → Bool → Option (Int × Int)
 | 0, _, _ => none
 | k + 1, x4, x13 => if x13 = true then (some ((-99), 99)) else (if x4 = 5 then (some ((-9), 9)) else (if x4 = 14 then (some (0, 99)) else (some (0, 0))))
end
def gambitref05_counts.f (k : Nat) (a0 : Int) : Option (Int × Int) := if a0 = 1 then (gambitref05_counts.j0 k a0 (a0 == 1)) else (if a0 = 2 then (gambitref05_counts.j0 k a0 (a0 == 2)) else (if a0 = 3 then (gambitref05_counts.j0 k a0 (a0 == 3)) else (if a0 = 4 then (gambitref05_counts.j0 k a0 (a0 == 4)) else (if a0 = 7 then (gambitref05_counts.j0 k a0 (a0 == 7)) else (if a0 = 16 then (gambitref05_counts.j0 k a0 (a0 == 16)) else (gambitref05_counts.j0 k a0 (a0 == 19)))))))
theorem gambitref05_counts.mono_l : ∀ k, (∀ y0 y1, LeO (gambitref05_counts.j0 k y0 y1) (gambitref05_counts.j0 (k + 1) y0 y1)) ∧ (∀ y0 y1, LeO (gambitref05_counts.j1 k y0 y1) (gambitref05_counts.j1 (k + 1) y0 y1))
 | 0 => ⟨fun _ _ r h => by simp [gambitref05_counts.j0] at h, fun _ _ r h => by simp [gambitref05_counts.j1] at h⟩
 | k + 1 => by
  obtain ⟨ih0, ih1⟩ := gambitref05_counts.mono_l k
  refine ⟨?_, ?_⟩
  ·intro y0 y1
   unfold gambitref05_counts.j0
   repeat' first
   | (with_reducible exact ih0 _ _)
   | (with_reducible exact ih1 _ _)
   | (with_reducible exact LeO.refl _)
   | (with_reducible exact LeO.none _)
   | (with_reducible refine LeO.ite ?_ ?_)
   | (with_reducible refine LeO.bind ?_ (fun _ => ?_))
   | exact ih0 _ _
   | exact ih1 _ _
   | exact LeO.none _
   | refine LeO.ite ?_ ?_
   | refine LeO.bind ?_ (fun _ => ?_)
  ·intro y0 y1
   unfold gambitref05_counts.j1
   repeat' first
   | (with_reducible exact ih0 _ _)
   | (with_reducible exact ih1 _ _)
   | (with_reducible exact LeO.refl _)
   | (with_reducible exact LeO.none _)
   | (with_reducible refine LeO.ite ?_ ?_)
   | (with_reducible refine LeO.bind ?_ (fun _ => ?_))
   | exact ih0 _ _
   | exact ih1 _ _
   | exact LeO.none _
   | refine LeO.ite ?_ ?_
   | refine LeO.bind ?_ (fun _ => ?_)
theorem gambitref05_counts.mono : ∀ a0 k, LeO (gambitref05_counts.f k a0) (gambitref05_counts.f (k + 1) a0) := by
 intro a0 k
 obtain ⟨ih0, ih1⟩ := gambitref05_counts.mono_l k
 unfold gambitref05_counts.f
 repeat' first
   | (with_reducible exact ih0 _ _)
   | (with_reducible exact ih1 _ _)
   | (with_reducible exact LeO.refl _)
   | (with_reducible exact LeO.none _)
   | (with_reducible refine LeO.ite ?_ ?_)
   | (with_reducible refine LeO.bind ?_ (fun _ => ?_))
   | exact ih0 _ _
   | exact ih1 _ _
   | exact LeO.none _
   | refine LeO.ite ?_ ?_
   | refine LeO.bind ?_ (fun _ => ?_)
end Go.Proofs.YtfpcideomanbbaaGreatDoor.PA
end
section
namespace Go.Proofs.YtfpcideomanbbaaGreatDoor.PA
open Go.RowKit Go.Proofs.YtfpcideomanbbaaGreatDoorW.PrintWords Go.Proofs.YtfpcideomanbbaaGreatDoorW.PrintLast Go.Proofs.YtfpcideomanbbaaGreatDoorW.PrintMore
attribute [local go_sem] max2_int min2_int max_two min_two max_three min_three max_four min_four
set_option linter.unusedVariables false
set_option linter.unusedSimpArgs false
def gambitref05_Uses.f (k : Nat) (a0 : Int) (a1 : Int) : Option (Bool × Bool × Bool × Bool × Bool) := (gambitref05_counts.f k a0).bind fun bt116 => (if a0 = 11 then (if a0 = 12 then (some (decide (bt116.2 > 0), true, true, (a0 == 9), (a0 == 7))) else (if a0 = 13 then (some (decide (bt116.2 > 0), true, true, (a0 == 9), (a0 == 7))) else (some (decide (bt116.2 > 0), true, (a1 == 10), (a0 == 9), (a0 == 7))))) else (if a0 = 12 then (some (decide (bt116.2 > 0), (a1 == 9), true, (a0 == 9), (a0 == 7))) else (if a0 = 13 then (some (decide (bt116.2 > 0), (a1 == 9), true, (a0 == 9), (a0 == 7))) else (some (decide (bt116.2 > 0), (a1 == 9), (a1 == 10), (a0 == 9), (a0 == 7))))))
theorem gambitref05_Uses.mono : ∀ a0 a1 k, LeO (gambitref05_Uses.f k a0 a1) (gambitref05_Uses.f (k + 1) a0 a1) := by
 intro a0 a1 k
 unfold gambitref05_Uses.f
 repeat' first
   | (with_reducible exact gambitref05_counts.mono _ _)
   | (with_reducible exact LeO.refl _)
   | (with_reducible exact LeO.none _)
   | (with_reducible refine LeO.ite ?_ ?_)
   | (with_reducible refine LeO.bind ?_ (fun _ => ?_))
   | exact gambitref05_counts.mono _ _
   | exact LeO.none _
   | refine LeO.ite ?_ ?_
   | refine LeO.bind ?_ (fun _ => ?_)
end Go.Proofs.YtfpcideomanbbaaGreatDoor.PA
end
section
namespace Go.Proofs.YtfpcideomanbbaaGreatDoor.PA
open Go.RowKit Go.Proofs.YtfpcideomanbbaaGreatDoorW.PrintWords Go.Proofs.YtfpcideomanbbaaGreatDoorW.PrintLast Go.Proofs.YtfpcideomanbbaaGreatDoorW.PrintMore
attribute [local go_sem] max2_int min2_int max_two min_two max_three min_three max_four min_four
set_option linter.unusedVariables false
set_option linter.unusedSimpArgs false
mutual
def gambitref05_kind.j0 : Nat → Int → Bool → Option (Int)
 | 0, _, _ => none
 | k + 1, x0, x3 => if x3 = true then (some 1) else (if x0 ≥ 10 then (gambitref05_kind.j1 k x0 (decide (x0 ≤ 15))) else (gambitref05_kind.j1 k x0 false))
def gambitref05_kind.j1 : Nat → Int → Bool → Option (Int)
 | 0, _, _ => none
 | k + 1, x0, x10 => if x10 = true then (some 2) else (if x0 ≥ 16 then (if x0 ≤ 19 then (some 3) else (some 0)) else (some 0))
end
def gambitref05_kind.f (k : Nat) (a0 : Int) : Option (Int) := if a0 ≥ 1 then (gambitref05_kind.j0 k a0 (decide (a0 ≤ 9))) else (gambitref05_kind.j0 k a0 false)
theorem gambitref05_kind.mono_l : ∀ k, (∀ y0 y1, LeO (gambitref05_kind.j0 k y0 y1) (gambitref05_kind.j0 (k + 1) y0 y1)) ∧ (∀ y0 y1, LeO (gambitref05_kind.j1 k y0 y1) (gambitref05_kind.j1 (k + 1) y0 y1))
 | 0 => ⟨fun _ _ r h => by simp [gambitref05_kind.j0] at h, fun _ _ r h => by simp [gambitref05_kind.j1] at h⟩
 | k + 1 => by
  obtain ⟨ih0, ih1⟩ := gambitref05_kind.mono_l k
  refine ⟨?_, ?_⟩
  ·intro y0 y1
   unfold gambitref05_kind.j0
   repeat' first
   | (with_reducible exact ih0 _ _)
   | (with_reducible exact ih1 _ _)
   | (with_reducible exact LeO.refl _)
   | (with_reducible exact LeO.none _)
   | (with_reducible refine LeO.ite ?_ ?_)
   | (with_reducible refine LeO.bind ?_ (fun _ => ?_))
   | exact ih0 _ _
   | exact ih1 _ _
   | exact LeO.none _
   | refine LeO.ite ?_ ?_
   | refine LeO.bind ?_ (fun _ => ?_)
  ·intro y0 y1
   unfold gambitref05_kind.j1
   repeat' first
   | (with_reducible exact ih0 _ _)
   | (with_reducible exact ih1 _ _)
   | (with_reducible exact LeO.refl _)
   | (with_reducible exact LeO.none _)
   | (with_reducible refine LeO.ite ?_ ?_)
   | (with_reducible refine LeO.bind ?_ (fun _ => ?_))
   | exact ih0 _ _
   | exact ih1 _ _
   | exact LeO.none _
   | refine LeO.ite ?_ ?_
   | refine LeO.bind ?_ (fun _ => ?_)
theorem gambitref05_kind.mono : ∀ a0 k, LeO (gambitref05_kind.f k a0) (gambitref05_kind.f (k + 1) a0) := by
 intro a0 k
 obtain ⟨ih0, ih1⟩ := gambitref05_kind.mono_l k
 unfold gambitref05_kind.f
 repeat' first
   | (with_reducible exact ih0 _ _)
   | (with_reducible exact ih1 _ _)
   | (with_reducible exact LeO.refl _)
   | (with_reducible exact LeO.none _)
   | (with_reducible refine LeO.ite ?_ ?_)
   | (with_reducible refine LeO.bind ?_ (fun _ => ?_))
   | exact ih0 _ _
   | exact ih1 _ _
   | exact LeO.none _
   | refine LeO.ite ?_ ?_
   | refine LeO.bind ?_ (fun _ => ?_)
end Go.Proofs.YtfpcideomanbbaaGreatDoor.PA
end
section
namespace Go.Proofs.YtfpcideomanbbaaGreatDoor.PA
open Go.RowKit Go.Proofs.YtfpcideomanbbaaGreatDoorW.PrintWords Go.Proofs.YtfpcideomanbbaaGreatDoorW.PrintLast Go.Proofs.YtfpcideomanbbaaGreatDoorW.PrintMore
attribute [local go_sem] max2_int min2_int max_two min_two max_three min_three max_four min_four
set_option linter.unusedVariables false
set_option linter.unusedSimpArgs false
def gambitref05_wants.j0 : Nat → Int → Bool → Option (Int)
 | 0, _, _ => none
 | k + 1, x0, x3 => if x3 = true then (some 1) else (if x0 = 5 then (some 2) else (if x0 = 6 then (some 3) else (some 0)))
def gambitref05_wants.f (k : Nat) (a0 : Int) : Option (Int) := if a0 ≥ 1 then (gambitref05_wants.j0 k a0 (decide (a0 ≤ 4))) else (gambitref05_wants.j0 k a0 false)
theorem gambitref05_wants.mono_l : ∀ k, (∀ y0 y1, LeO (gambitref05_wants.j0 k y0 y1) (gambitref05_wants.j0 (k + 1) y0 y1))
 | 0 => fun _ _ r h => by simp [gambitref05_wants.j0] at h
 | k + 1 => by
  have ih0 := gambitref05_wants.mono_l k
  ·intro y0 y1
   unfold gambitref05_wants.j0
   repeat' first
   | (with_reducible exact ih0 _ _)
   | (with_reducible exact LeO.refl _)
   | (with_reducible exact LeO.none _)
   | (with_reducible refine LeO.ite ?_ ?_)
   | (with_reducible refine LeO.bind ?_ (fun _ => ?_))
   | exact ih0 _ _
   | exact LeO.none _
   | refine LeO.ite ?_ ?_
   | refine LeO.bind ?_ (fun _ => ?_)
theorem gambitref05_wants.mono : ∀ a0 k, LeO (gambitref05_wants.f k a0) (gambitref05_wants.f (k + 1) a0) := by
 intro a0 k
 have ih0 := gambitref05_wants.mono_l k
 unfold gambitref05_wants.f
 repeat' first
   | (with_reducible exact ih0 _ _)
   | (with_reducible exact LeO.refl _)
   | (with_reducible exact LeO.none _)
   | (with_reducible refine LeO.ite ?_ ?_)
   | (with_reducible refine LeO.bind ?_ (fun _ => ?_))
   | exact ih0 _ _
   | exact LeO.none _
   | refine LeO.ite ?_ ?_
   | refine LeO.bind ?_ (fun _ => ?_)
end Go.Proofs.YtfpcideomanbbaaGreatDoor.PA
end
section
namespace Go.Proofs.YtfpcideomanbbaaGreatDoor.PA
open Go.RowKit Go.Proofs.YtfpcideomanbbaaGreatDoorW.PrintWords Go.Proofs.YtfpcideomanbbaaGreatDoorW.PrintLast Go.Proofs.YtfpcideomanbbaaGreatDoorW.PrintMore
attribute [local go_sem] max2_int min2_int max_two min_two max_three min_three max_four min_four
set_option linter.unusedVariables false
set_option linter.unusedSimpArgs false
def gambitref05_about.j0 : Nat → Bool → Int → Int → Int → Int → Int → Int → Int → ByteArray → Option (Bool)
 | 0, _, _, _, _, _, _, _, _, _ => none
 | k + 1, x3, x119000, x119001, x119002, x119003, x119004, x119005, x119006, x119007 => (gambitref05_kind.f k x119001).bind fun t119 => (if t119 = 1 then (if x3 = true then (if x119001 = 6 then (some false) else (if x119001 = 8 then (some false) else (if x119001 = 9 then (some false) else (if x119002 = 3 then (some (x119000 == 1)) else (some true))))) else (if x119002 = 3 then (some (x119000 == 1)) else (some true))) else (if t119 = 2 then (if x3 = true then (some false) else (some (x119002 != 3))) else (some (x119002 != 3))))
def gambitref05_about.f (k : Nat) (a0_0 : Int) (a0_1 : Int) (a0_2 : Int) (a0_3 : Int) (a0_4 : Int) (a0_5 : Int) (a0_6 : Int) (a0_7 : ByteArray) : Option (Bool) := if a0_2 = 1 then (gambitref05_about.j0 k true a0_0 a0_1 a0_2 a0_3 a0_4 a0_5 a0_6 a0_7) else (gambitref05_about.j0 k (a0_2 == 2) a0_0 a0_1 a0_2 a0_3 a0_4 a0_5 a0_6 a0_7)
theorem gambitref05_about.mono_l : ∀ k, (∀ y0 y1 y2 y3 y4 y5 y6 y7 y8, LeO (gambitref05_about.j0 k y0 y1 y2 y3 y4 y5 y6 y7 y8) (gambitref05_about.j0 (k + 1) y0 y1 y2 y3 y4 y5 y6 y7 y8))
 | 0 => fun _ _ _ _ _ _ _ _ _ r h => by simp [gambitref05_about.j0] at h
 | k + 1 => by
  have ih0 := gambitref05_about.mono_l k
  ·intro y0 y1 y2 y3 y4 y5 y6 y7 y8
   unfold gambitref05_about.j0
   repeat' first
   | (with_reducible exact ih0 _ _ _ _ _ _ _ _ _)
   | (with_reducible exact gambitref05_kind.mono _ _)
   | (with_reducible exact LeO.refl _)
   | (with_reducible exact LeO.none _)
   | (with_reducible refine LeO.ite ?_ ?_)
   | (with_reducible refine LeO.bind ?_ (fun _ => ?_))
   | exact ih0 _ _ _ _ _ _ _ _ _
   | exact gambitref05_kind.mono _ _
   | exact LeO.none _
   | refine LeO.ite ?_ ?_
   | refine LeO.bind ?_ (fun _ => ?_)
theorem gambitref05_about.mono : ∀ a0 a1 a2 a3 a4 a5 a6 a7 k, LeO (gambitref05_about.f k a0 a1 a2 a3 a4 a5 a6 a7) (gambitref05_about.f (k + 1) a0 a1 a2 a3 a4 a5 a6 a7) := by
 intro a0 a1 a2 a3 a4 a5 a6 a7 k
 have ih0 := gambitref05_about.mono_l k
 unfold gambitref05_about.f
 repeat' first
   | (with_reducible exact ih0 _ _ _ _ _ _ _ _ _)
   | (with_reducible exact gambitref05_kind.mono _ _)
   | (with_reducible exact LeO.refl _)
   | (with_reducible exact LeO.none _)
   | (with_reducible refine LeO.ite ?_ ?_)
   | (with_reducible refine LeO.bind ?_ (fun _ => ?_))
   | exact ih0 _ _ _ _ _ _ _ _ _
   | exact gambitref05_kind.mono _ _
   | exact LeO.none _
   | refine LeO.ite ?_ ?_
   | refine LeO.bind ?_ (fun _ => ?_)
end Go.Proofs.YtfpcideomanbbaaGreatDoor.PA
end
section
namespace Go.Proofs.YtfpcideomanbbaaGreatDoor.PA
open Go.RowKit Go.Proofs.YtfpcideomanbbaaGreatDoorW.PrintWords Go.Proofs.YtfpcideomanbbaaGreatDoorW.PrintLast Go.Proofs.YtfpcideomanbbaaGreatDoorW.PrintMore
attribute [local go_sem] max2_int min2_int max_two min_two max_three min_three max_four min_four
set_option linter.unusedVariables false
set_option linter.unusedSimpArgs false
def gambitref05_counted.f (k : Nat) (a0_0 : Int) (a0_1 : Int) (a0_2 : Int) (a0_3 : Int) (a0_4 : Int) (a0_5 : Int) (a0_6 : Int) (a0_7 : ByteArray) : Option (Bool) := (gambitref05_counts.f k a0_1).bind fun bt121 => (if a0_3 ≥ bt121.1 then (if a0_3 ≤ bt121.2 then (if bt121.1 ≥ 0 then (some true) else (some (a0_3 != 0))) else (some false)) else (some false))
theorem gambitref05_counted.mono : ∀ a0 a1 a2 a3 a4 a5 a6 a7 k, LeO (gambitref05_counted.f k a0 a1 a2 a3 a4 a5 a6 a7) (gambitref05_counted.f (k + 1) a0 a1 a2 a3 a4 a5 a6 a7) := by
 intro a0 a1 a2 a3 a4 a5 a6 a7 k
 unfold gambitref05_counted.f
 repeat' first
   | (with_reducible exact gambitref05_counts.mono _ _)
   | (with_reducible exact LeO.refl _)
   | (with_reducible exact LeO.none _)
   | (with_reducible refine LeO.ite ?_ ?_)
   | (with_reducible refine LeO.bind ?_ (fun _ => ?_))
   | exact gambitref05_counts.mono _ _
   | exact LeO.none _
   | refine LeO.ite ?_ ?_
   | refine LeO.bind ?_ (fun _ => ?_)
end Go.Proofs.YtfpcideomanbbaaGreatDoor.PA
end
section
namespace Go.Proofs.YtfpcideomanbbaaGreatDoor.PA
open Go.RowKit Go.Proofs.YtfpcideomanbbaaGreatDoorW.PrintWords Go.Proofs.YtfpcideomanbbaaGreatDoorW.PrintLast Go.Proofs.YtfpcideomanbbaaGreatDoorW.PrintMore
attribute [local go_sem] max2_int min2_int max_two min_two max_three min_three max_four min_four
set_option linter.unusedVariables false
set_option linter.unusedSimpArgs false
def gambitref05_within.f (a0 : Bool) (a1 : Int) (a2 : Int) : Option (Bool) := if a0 = true then (if a1 ≥ 1 then (some (decide (a1 ≤ a2))) else (some false)) else (some (a1 == 0))
end Go.Proofs.YtfpcideomanbbaaGreatDoor.PA
end
section
namespace Go.Proofs.YtfpcideomanbbaaGreatDoor.PA
open Go.RowKit Go.Proofs.YtfpcideomanbbaaGreatDoorW.PrintWords Go.Proofs.YtfpcideomanbbaaGreatDoorW.PrintLast Go.Proofs.YtfpcideomanbbaaGreatDoorW.PrintMore
attribute [local go_sem] max2_int min2_int max_two min_two max_three min_three max_four min_four
set_option linter.unusedVariables false
set_option linter.unusedSimpArgs false
mutual
def gambitref05_Name.j0 : Nat → ByteArray → Bool → Option (Bool)
 | 0, _, _ => none
 | k + 1, x0, x16 => if x16 = true then (some false) else (gambitref05_Name.l0 k x0 0)
def gambitref05_Name.l0 : Nat → ByteArray → Int → Option (Bool)
 | 0, _, _ => none
 | k + 1, x0, x3 => if x3 < (x0.size : Int) then (if 0 ≤ x3 then (if (bt x0 x3) < 97 then (if (bt x0 x3) = 45 then (gambitref05_Name.l0 k x0 (wrap64 (x3 + 1))) else (some false)) else (if (bt x0 x3) > 122 then (if (bt x0 x3) = 45 then (gambitref05_Name.l0 k x0 (wrap64 (x3 + 1))) else (some false)) else (gambitref05_Name.l0 k x0 (wrap64 (x3 + 1))))) else (none)) else (some true)
end
def gambitref05_Name.f (k : Nat) (a0 : ByteArray) : Option (Bool) := if (a0.size : Int) < 1 then (gambitref05_Name.j0 k a0 true) else (if (a0.size : Int) > 20 then (gambitref05_Name.j0 k a0 true) else (if 0 < (a0.size : Int) then (gambitref05_Name.j0 k a0 ((bt a0 0) == 45)) else (none)))
theorem gambitref05_Name.mono_l : ∀ k, (∀ y0 y1, LeO (gambitref05_Name.j0 k y0 y1) (gambitref05_Name.j0 (k + 1) y0 y1)) ∧ (∀ y0 y1, LeO (gambitref05_Name.l0 k y0 y1) (gambitref05_Name.l0 (k + 1) y0 y1))
 | 0 => ⟨fun _ _ r h => by simp [gambitref05_Name.j0] at h, fun _ _ r h => by simp [gambitref05_Name.l0] at h⟩
 | k + 1 => by
  obtain ⟨ih0, ih1⟩ := gambitref05_Name.mono_l k
  refine ⟨?_, ?_⟩
  ·intro y0 y1
   unfold gambitref05_Name.j0
   repeat' first
   | (with_reducible exact ih0 _ _)
   | (with_reducible exact ih1 _ _)
   | (with_reducible exact LeO.refl _)
   | (with_reducible exact LeO.none _)
   | (with_reducible refine LeO.ite ?_ ?_)
   | (with_reducible refine LeO.bind ?_ (fun _ => ?_))
   | exact ih0 _ _
   | exact ih1 _ _
   | exact LeO.none _
   | refine LeO.ite ?_ ?_
   | refine LeO.bind ?_ (fun _ => ?_)
  ·intro y0 y1
   unfold gambitref05_Name.l0
   repeat' first
   | (with_reducible exact ih0 _ _)
   | (with_reducible exact ih1 _ _)
   | (with_reducible exact LeO.refl _)
   | (with_reducible exact LeO.none _)
   | (with_reducible refine LeO.ite ?_ ?_)
   | (with_reducible refine LeO.bind ?_ (fun _ => ?_))
   | exact ih0 _ _
   | exact ih1 _ _
   | exact LeO.none _
   | refine LeO.ite ?_ ?_
   | refine LeO.bind ?_ (fun _ => ?_)
theorem gambitref05_Name.mono : ∀ a0 k, LeO (gambitref05_Name.f k a0) (gambitref05_Name.f (k + 1) a0) := by
 intro a0 k
 obtain ⟨ih0, ih1⟩ := gambitref05_Name.mono_l k
 unfold gambitref05_Name.f
 repeat' first
   | (with_reducible exact ih0 _ _)
   | (with_reducible exact ih1 _ _)
   | (with_reducible exact LeO.refl _)
   | (with_reducible exact LeO.none _)
   | (with_reducible refine LeO.ite ?_ ?_)
   | (with_reducible refine LeO.bind ?_ (fun _ => ?_))
   | exact ih0 _ _
   | exact ih1 _ _
   | exact LeO.none _
   | refine LeO.ite ?_ ?_
   | refine LeO.bind ?_ (fun _ => ?_)
end Go.Proofs.YtfpcideomanbbaaGreatDoor.PA
end
section
namespace Go.Proofs.YtfpcideomanbbaaGreatDoor.PA
open Go.RowKit Go.Proofs.YtfpcideomanbbaaGreatDoorW.PrintWords Go.Proofs.YtfpcideomanbbaaGreatDoorW.PrintLast Go.Proofs.YtfpcideomanbbaaGreatDoorW.PrintMore
attribute [local go_sem] max2_int min2_int max_two min_two max_three min_three max_four min_four
set_option linter.unusedVariables false
set_option linter.unusedSimpArgs false
mutual
def gambitref05_Check.j0 : Nat → Bool → Int → Int → Int → Int → Int → Int → Int → ByteArray → Option (Int)
 | 0, _, _, _, _, _, _, _, _, _ => none
 | k + 1, x35, x124000, x124001, x124002, x124003, x124004, x124005, x124006, x124007 => if x35 = true then (some 2) else ((gambitref05_Uses.f k x124001 x124002).bind fun bt124 => ((gambitref05_kind.f k x124001).bind fun t129 => ((gambitref05_wants.f k x124000).bind fun t130 => (if t129 = t130 then (if x124001 = 11 then (gambitref05_Check.j1 k bt124.2.1 bt124.2.2.1 bt124.2.2.2.1 bt124.2.2.2.2 (x124002 == 9) x124000 x124001 x124002 x124003 x124004 x124005 x124006 x124007) else (gambitref05_Check.j1 k bt124.2.1 bt124.2.2.1 bt124.2.2.2.1 bt124.2.2.2.2 false x124000 x124001 x124002 x124003 x124004 x124005 x124006 x124007)) else (gambitref05_Check.j1 k bt124.2.1 bt124.2.2.1 bt124.2.2.2.1 bt124.2.2.2.2 true x124000 x124001 x124002 x124003 x124004 x124005 x124006 x124007)))))
def gambitref05_Check.j1 : Nat → Bool → Bool → Bool → Bool → Bool → Int → Int → Int → Int → Int → Int → Int → ByteArray → Option (Int)
 | 0, _, _, _, _, _, _, _, _, _, _, _, _, _ => none
 | k + 1, x4, x5, x6, x7, x47, x124000, x124001, x124002, x124003, x124004, x124005, x124006, x124007 => if x47 = true then (some 8) else ((gambitref05_about.f k x124000 x124001 x124002 x124003 x124004 x124005 x124006 x124007).bind fun t131 => (if t131 = true then ((gambitref05_counted.f k x124000 x124001 x124002 x124003 x124004 x124005 x124006 x124007).bind fun t132 => (if t132 = true then ((gambitref05_within.f x4 (wrap64 (x124004)) 6).bind fun t133 => (if t133 = true then ((gambitref05_within.f x5 (wrap64 (x124005)) 8).bind fun t134 => (if t134 = true then ((gambitref05_within.f x6 (wrap64 (x124006)) 4).bind fun t135 => (gambitref05_Check.j2 k x7 (!t135) x124000 x124001 x124002 x124003 x124004 x124005 x124006 x124007)) else (gambitref05_Check.j2 k x7 true x124000 x124001 x124002 x124003 x124004 x124005 x124006 x124007))) else (gambitref05_Check.j2 k x7 true x124000 x124001 x124002 x124003 x124004 x124005 x124006 x124007))) else (some 2))) else (some 13)))
def gambitref05_Check.j2 : Nat → Bool → Bool → Int → Int → Int → Int → Int → Int → Int → ByteArray → Option (Int)
 | 0, _, _, _, _, _, _, _, _, _, _ => none
 | k + 1, x7, x73, x124000, x124001, x124002, x124003, x124004, x124005, x124006, x124007 => if x73 = true then (some 2) else (if x7 = true then ((gambitref05_Name.f k x124007).bind fun t136 => (if t136 = true then (some 0) else (some 4))) else (if x124007.toList = ([] : List UInt8) then (some 0) else (some 4)))
end
def gambitref05_Check.f (k : Nat) (a0_0 : Int) (a0_1 : Int) (a0_2 : Int) (a0_3 : Int) (a0_4 : Int) (a0_5 : Int) (a0_6 : Int) (a0_7 : ByteArray) : Option (Int) := if a0_0 < 1 then (gambitref05_Check.j0 k true a0_0 a0_1 a0_2 a0_3 a0_4 a0_5 a0_6 a0_7) else (if a0_0 > 6 then (gambitref05_Check.j0 k true a0_0 a0_1 a0_2 a0_3 a0_4 a0_5 a0_6 a0_7) else (if a0_1 < 1 then (gambitref05_Check.j0 k true a0_0 a0_1 a0_2 a0_3 a0_4 a0_5 a0_6 a0_7) else (if a0_1 > 19 then (gambitref05_Check.j0 k true a0_0 a0_1 a0_2 a0_3 a0_4 a0_5 a0_6 a0_7) else (if a0_2 < 1 then (gambitref05_Check.j0 k true a0_0 a0_1 a0_2 a0_3 a0_4 a0_5 a0_6 a0_7) else (gambitref05_Check.j0 k (decide (a0_2 > 10)) a0_0 a0_1 a0_2 a0_3 a0_4 a0_5 a0_6 a0_7)))))
theorem gambitref05_Check.mono_l : ∀ k, (∀ y0 y1 y2 y3 y4 y5 y6 y7 y8, LeO (gambitref05_Check.j0 k y0 y1 y2 y3 y4 y5 y6 y7 y8) (gambitref05_Check.j0 (k + 1) y0 y1 y2 y3 y4 y5 y6 y7 y8)) ∧ (∀ y0 y1 y2 y3 y4 y5 y6 y7 y8 y9 y10 y11 y12, LeO (gambitref05_Check.j1 k y0 y1 y2 y3 y4 y5 y6 y7 y8 y9 y10 y11 y12) (gambitref05_Check.j1 (k + 1) y0 y1 y2 y3 y4 y5 y6 y7 y8 y9 y10 y11 y12)) ∧ (∀ y0 y1 y2 y3 y4 y5 y6 y7 y8 y9, LeO (gambitref05_Check.j2 k y0 y1 y2 y3 y4 y5 y6 y7 y8 y9) (gambitref05_Check.j2 (k + 1) y0 y1 y2 y3 y4 y5 y6 y7 y8 y9))
 | 0 => ⟨fun _ _ _ _ _ _ _ _ _ r h => by simp [gambitref05_Check.j0] at h, fun _ _ _ _ _ _ _ _ _ _ _ _ _ r h => by simp [gambitref05_Check.j1] at h, fun _ _ _ _ _ _ _ _ _ _ r h => by simp [gambitref05_Check.j2] at h⟩
 | k + 1 => by
  obtain ⟨ih0, ih1, ih2⟩ := gambitref05_Check.mono_l k
  refine ⟨?_, ?_, ?_⟩
  ·intro y0 y1 y2 y3 y4 y5 y6 y7 y8
   unfold gambitref05_Check.j0
   repeat' first
   | (with_reducible exact ih0 _ _ _ _ _ _ _ _ _)
   | (with_reducible exact ih1 _ _ _ _ _ _ _ _ _ _ _ _ _)
   | (with_reducible exact ih2 _ _ _ _ _ _ _ _ _ _)
   | (with_reducible exact gambitref05_Name.mono _ _)
   | (with_reducible exact gambitref05_Uses.mono _ _ _)
   | (with_reducible exact gambitref05_about.mono _ _ _ _ _ _ _ _ _)
   | (with_reducible exact gambitref05_counted.mono _ _ _ _ _ _ _ _ _)
   | (with_reducible exact gambitref05_kind.mono _ _)
   | (with_reducible exact gambitref05_wants.mono _ _)
   | (with_reducible exact LeO.refl _)
   | (with_reducible exact LeO.none _)
   | (with_reducible refine LeO.ite ?_ ?_)
   | (with_reducible refine LeO.bind ?_ (fun _ => ?_))
   | exact ih0 _ _ _ _ _ _ _ _ _
   | exact ih1 _ _ _ _ _ _ _ _ _ _ _ _ _
   | exact ih2 _ _ _ _ _ _ _ _ _ _
   | exact gambitref05_Name.mono _ _
   | exact gambitref05_Uses.mono _ _ _
   | exact gambitref05_about.mono _ _ _ _ _ _ _ _ _
   | exact gambitref05_counted.mono _ _ _ _ _ _ _ _ _
   | exact gambitref05_kind.mono _ _
   | exact gambitref05_wants.mono _ _
   | exact LeO.none _
   | refine LeO.ite ?_ ?_
   | refine LeO.bind ?_ (fun _ => ?_)
  ·intro y0 y1 y2 y3 y4 y5 y6 y7 y8 y9 y10 y11 y12
   unfold gambitref05_Check.j1
   repeat' first
   | (with_reducible exact ih0 _ _ _ _ _ _ _ _ _)
   | (with_reducible exact ih1 _ _ _ _ _ _ _ _ _ _ _ _ _)
   | (with_reducible exact ih2 _ _ _ _ _ _ _ _ _ _)
   | (with_reducible exact gambitref05_Name.mono _ _)
   | (with_reducible exact gambitref05_Uses.mono _ _ _)
   | (with_reducible exact gambitref05_about.mono _ _ _ _ _ _ _ _ _)
   | (with_reducible exact gambitref05_counted.mono _ _ _ _ _ _ _ _ _)
   | (with_reducible exact gambitref05_kind.mono _ _)
   | (with_reducible exact gambitref05_wants.mono _ _)
   | (with_reducible exact LeO.refl _)
   | (with_reducible exact LeO.none _)
   | (with_reducible refine LeO.ite ?_ ?_)
   | (with_reducible refine LeO.bind ?_ (fun _ => ?_))
   | exact ih0 _ _ _ _ _ _ _ _ _
   | exact ih1 _ _ _ _ _ _ _ _ _ _ _ _ _
   | exact ih2 _ _ _ _ _ _ _ _ _ _
   | exact gambitref05_Name.mono _ _
   | exact gambitref05_Uses.mono _ _ _
   | exact gambitref05_about.mono _ _ _ _ _ _ _ _ _
   | exact gambitref05_counted.mono _ _ _ _ _ _ _ _ _
   | exact gambitref05_kind.mono _ _
   | exact gambitref05_wants.mono _ _
   | exact LeO.none _
   | refine LeO.ite ?_ ?_
   | refine LeO.bind ?_ (fun _ => ?_)
  ·intro y0 y1 y2 y3 y4 y5 y6 y7 y8 y9
   unfold gambitref05_Check.j2
   repeat' first
   | (with_reducible exact ih0 _ _ _ _ _ _ _ _ _)
   | (with_reducible exact ih1 _ _ _ _ _ _ _ _ _ _ _ _ _)
   | (with_reducible exact ih2 _ _ _ _ _ _ _ _ _ _)
   | (with_reducible exact gambitref05_Name.mono _ _)
   | (with_reducible exact gambitref05_Uses.mono _ _ _)
   | (with_reducible exact gambitref05_about.mono _ _ _ _ _ _ _ _ _)
   | (with_reducible exact gambitref05_counted.mono _ _ _ _ _ _ _ _ _)
   | (with_reducible exact gambitref05_kind.mono _ _)
   | (with_reducible exact gambitref05_wants.mono _ _)
   | (with_reducible exact LeO.refl _)
   | (with_reducible exact LeO.none _)
   | (with_reducible refine LeO.ite ?_ ?_)
   | (with_reducible refine LeO.bind ?_ (fun _ => ?_))
   | exact ih0 _ _ _ _ _ _ _ _ _
   | exact ih1 _ _ _ _ _ _ _ _ _ _ _ _ _
   | exact ih2 _ _ _ _ _ _ _ _ _ _
   | exact gambitref05_Name.mono _ _
   | exact gambitref05_Uses.mono _ _ _
   | exact gambitref05_about.mono _ _ _ _ _ _ _ _ _
   | exact gambitref05_counted.mono _ _ _ _ _ _ _ _ _
   | exact gambitref05_kind.mono _ _
   | exact gambitref05_wants.mono _ _
   | exact LeO.none _
   | refine LeO.ite ?_ ?_
   | refine LeO.bind ?_ (fun _ => ?_)
theorem gambitref05_Check.mono : ∀ a0 a1 a2 a3 a4 a5 a6 a7 k, LeO (gambitref05_Check.f k a0 a1 a2 a3 a4 a5 a6 a7) (gambitref05_Check.f (k + 1) a0 a1 a2 a3 a4 a5 a6 a7) := by
 intro a0 a1 a2 a3 a4 a5 a6 a7 k
 obtain ⟨ih0, ih1, ih2⟩ := gambitref05_Check.mono_l k
 unfold gambitref05_Check.f
 repeat' first
   | (with_reducible exact ih0 _ _ _ _ _ _ _ _ _)
   | (with_reducible exact ih1 _ _ _ _ _ _ _ _ _ _ _ _ _)
   | (with_reducible exact ih2 _ _ _ _ _ _ _ _ _ _)
   | (with_reducible exact gambitref05_Name.mono _ _)
   | (with_reducible exact gambitref05_Uses.mono _ _ _)
   | (with_reducible exact gambitref05_about.mono _ _ _ _ _ _ _ _ _)
   | (with_reducible exact gambitref05_counted.mono _ _ _ _ _ _ _ _ _)
   | (with_reducible exact gambitref05_kind.mono _ _)
   | (with_reducible exact gambitref05_wants.mono _ _)
   | (with_reducible exact LeO.refl _)
   | (with_reducible exact LeO.none _)
   | (with_reducible refine LeO.ite ?_ ?_)
   | (with_reducible refine LeO.bind ?_ (fun _ => ?_))
   | exact ih0 _ _ _ _ _ _ _ _ _
   | exact ih1 _ _ _ _ _ _ _ _ _ _ _ _ _
   | exact ih2 _ _ _ _ _ _ _ _ _ _
   | exact gambitref05_Name.mono _ _
   | exact gambitref05_Uses.mono _ _ _
   | exact gambitref05_about.mono _ _ _ _ _ _ _ _ _
   | exact gambitref05_counted.mono _ _ _ _ _ _ _ _ _
   | exact gambitref05_kind.mono _ _
   | exact gambitref05_wants.mono _ _
   | exact LeO.none _
   | refine LeO.ite ?_ ?_
   | refine LeO.bind ?_ (fun _ => ?_)
end Go.Proofs.YtfpcideomanbbaaGreatDoor.PA
end
section
namespace Go.Proofs.YtfpcideomanbbaaGreatDoor.PA
open Go.RowKit Go.Proofs.YtfpcideomanbbaaGreatDoorW.PrintWords Go.Proofs.YtfpcideomanbbaaGreatDoorW.PrintLast Go.Proofs.YtfpcideomanbbaaGreatDoorW.PrintMore
attribute [local go_sem] max2_int min2_int max_two min_two max_three min_three max_four min_four
set_option linter.unusedVariables false
set_option linter.unusedSimpArgs false
def suit_Name.f (a0 : Int) : Option (ByteArray) := if a0 = 1 then (some (⟨#[97, 105, 114]⟩ : ByteArray)) else (if a0 = 2 then (some (⟨#[101, 97, 114, 116, 104]⟩ : ByteArray)) else (if a0 = 3 then (some (⟨#[102, 105, 114, 101]⟩ : ByteArray)) else (if a0 = 4 then (some (⟨#[119, 97, 116, 101, 114]⟩ : ByteArray)) else (if a0 = 5 then (some (⟨#[118, 111, 105, 100]⟩ : ByteArray)) else (if a0 = 6 then (some (⟨#[103, 111, 108, 100]⟩ : ByteArray)) else (some (⟨#[]⟩ : ByteArray)))))))
set_option maxHeartbeats 8000000 in
set_option maxRecDepth 100000 in
theorem suit_Name.calls (a0 : Int) (r : ByteArray) (w : World) (h : suit_Name.f a0 = some r) :
  Calls Tryz.prog 30 #[.int .u8 a0] w fun e w' => e = .returned (.string r) ∧ Drawn0 w w' := by
 have H : (if a0 = 1 then (some (⟨#[97, 105, 114]⟩ : ByteArray)) else (if a0 = 2 then (some (⟨#[101, 97, 114, 116, 104]⟩ : ByteArray)) else (if a0 = 3 then (some (⟨#[102, 105, 114, 101]⟩ : ByteArray)) else (if a0 = 4 then (some (⟨#[119, 97, 116, 101, 114]⟩ : ByteArray)) else (if a0 = 5 then (some (⟨#[118, 111, 105, 100]⟩ : ByteArray)) else (if a0 = 6 then (some (⟨#[103, 111, 108, 100]⟩ : ByteArray)) else (some (⟨#[]⟩ : ByteArray)))))))) = some r := h
 clear h
 by_cases c2 : a0 = 1
 ·rw [if_pos c2] at H
  have c2b0 : (a0 == 1) = true := beq_iff_eq.mpr c2
  have c2b1 : (a0 != 1) = false := bne_eq_false_iff_eq.mpr c2
  clear c2
  obtain rfl := Option.some.inj H
  go_enter Tryz.func30, Tryz.ntmps30
  go_wp2
  go_ret
  exact ⟨Zt, Zd⟩
 ·rw [if_neg c2] at H
  have c2b0 : (a0 == 1) = false := beq_eq_false_iff_ne.mpr c2
  have c2b1 : (a0 != 1) = true := bne_iff_ne.mpr c2
  by_cases c3 : a0 = 2
  ·rw [if_pos c3] at H
   have c3b0 : (a0 == 2) = true := beq_iff_eq.mpr c3
   have c3b1 : (a0 != 2) = false := bne_eq_false_iff_eq.mpr c3
   clear c3
   obtain rfl := Option.some.inj H
   go_enter Tryz.func30, Tryz.ntmps30
   go_wp2
   go_ret
   exact ⟨Zt, Zd⟩
  ·rw [if_neg c3] at H
   have c3b0 : (a0 == 2) = false := beq_eq_false_iff_ne.mpr c3
   have c3b1 : (a0 != 2) = true := bne_iff_ne.mpr c3
   by_cases c4 : a0 = 3
   ·rw [if_pos c4] at H
    have c4b0 : (a0 == 3) = true := beq_iff_eq.mpr c4
    have c4b1 : (a0 != 3) = false := bne_eq_false_iff_eq.mpr c4
    clear c4
    obtain rfl := Option.some.inj H
    go_enter Tryz.func30, Tryz.ntmps30
    go_wp2
    go_ret
    exact ⟨Zt, Zd⟩
   ·rw [if_neg c4] at H
    have c4b0 : (a0 == 3) = false := beq_eq_false_iff_ne.mpr c4
    have c4b1 : (a0 != 3) = true := bne_iff_ne.mpr c4
    by_cases c5 : a0 = 4
    ·rw [if_pos c5] at H
     have c5b0 : (a0 == 4) = true := beq_iff_eq.mpr c5
     have c5b1 : (a0 != 4) = false := bne_eq_false_iff_eq.mpr c5
     clear c5
     obtain rfl := Option.some.inj H
     go_enter Tryz.func30, Tryz.ntmps30
     go_wp2
     go_ret
     exact ⟨Zt, Zd⟩
    ·rw [if_neg c5] at H
     have c5b0 : (a0 == 4) = false := beq_eq_false_iff_ne.mpr c5
     have c5b1 : (a0 != 4) = true := bne_iff_ne.mpr c5
     by_cases c6 : a0 = 5
     ·rw [if_pos c6] at H
      have c6b0 : (a0 == 5) = true := beq_iff_eq.mpr c6
      have c6b1 : (a0 != 5) = false := bne_eq_false_iff_eq.mpr c6
      clear c6
      obtain rfl := Option.some.inj H
      go_enter Tryz.func30, Tryz.ntmps30
      go_wp2
      go_ret
      exact ⟨Zt, Zd⟩
     ·rw [if_neg c6] at H
      have c6b0 : (a0 == 5) = false := beq_eq_false_iff_ne.mpr c6
      have c6b1 : (a0 != 5) = true := bne_iff_ne.mpr c6
      by_cases c7 : a0 = 6
      ·rw [if_pos c7] at H
       have c7b0 : (a0 == 6) = true := beq_iff_eq.mpr c7
       have c7b1 : (a0 != 6) = false := bne_eq_false_iff_eq.mpr c7
       clear c7
       obtain rfl := Option.some.inj H
       go_enter Tryz.func30, Tryz.ntmps30
       go_wp2
       go_ret
       exact ⟨Zt, Zd⟩
      ·rw [if_neg c7] at H
       have c7b0 : (a0 == 6) = false := beq_eq_false_iff_ne.mpr c7
       have c7b1 : (a0 != 6) = true := bne_iff_ne.mpr c7
       obtain rfl := Option.some.inj H
       go_enter Tryz.func30, Tryz.ntmps30
       go_wp2
       go_ret
       exact ⟨Zt, Zd⟩
end Go.Proofs.YtfpcideomanbbaaGreatDoor.PA
end
section
namespace Go.Proofs.YtfpcideomanbbaaGreatDoor.PA
open Go.RowKit Go.Proofs.YtfpcideomanbbaaGreatDoorW.PrintWords Go.Proofs.YtfpcideomanbbaaGreatDoorW.PrintLast Go.Proofs.YtfpcideomanbbaaGreatDoorW.PrintMore
attribute [local go_sem] max2_int min2_int max_two min_two max_three min_three max_four min_four
set_option linter.unusedVariables false
set_option linter.unusedSimpArgs false
def gambitref03_Name.f (a0 : Int) : Option (ByteArray) := if a0 = 1 then (some (⟨#[97, 105, 114]⟩ : ByteArray)) else (if a0 = 2 then (some (⟨#[101, 97, 114, 116, 104]⟩ : ByteArray)) else (if a0 = 3 then (some (⟨#[102, 105, 114, 101]⟩ : ByteArray)) else (if a0 = 4 then (some (⟨#[119, 97, 116, 101, 114]⟩ : ByteArray)) else (if a0 = 5 then (some (⟨#[118, 111, 105, 100]⟩ : ByteArray)) else (if a0 = 6 then (some (⟨#[103, 111, 108, 100]⟩ : ByteArray)) else (some (⟨#[]⟩ : ByteArray)))))))
end Go.Proofs.YtfpcideomanbbaaGreatDoor.PA
end
section
namespace Go.Proofs.YtfpcideomanbbaaGreatDoor.PA
open Go.RowKit Go.Proofs.YtfpcideomanbbaaGreatDoorW.PrintWords Go.Proofs.YtfpcideomanbbaaGreatDoorW.PrintLast Go.Proofs.YtfpcideomanbbaaGreatDoorW.PrintMore
attribute [local go_sem] max2_int min2_int max_two min_two max_three min_three max_four min_four
set_option linter.unusedVariables false
set_option linter.unusedSimpArgs false
def gambitref04_Rows.f  : Option ((List (S116))) := some (([(⟨1, (⟨#[102, 97, 115, 116]⟩ : ByteArray), 1, (⟨#[109, 97, 121, 32, 115, 116, 114, 105, 107, 101, 32, 111, 110, 32, 116, 104, 101, 32, 116, 117, 114, 110, 32, 111, 110, 32, 119, 104, 105, 99, 104, 32, 105, 116, 32, 99, 97, 109, 101]⟩ : ByteArray)⟩ : S116), (⟨2, (⟨#[103, 117, 97, 114, 100]⟩ : ByteArray), 2, (⟨#[105, 115, 32, 115, 116, 114, 117, 99, 107, 32, 97, 104, 101, 97, 100, 32, 111, 102, 32, 97, 108, 108, 32, 116, 104, 97, 116, 32, 105, 115, 32, 110, 111, 32, 103, 117, 97, 114, 100]⟩ : ByteArray)⟩ : S116), (⟨3, (⟨#[118, 101, 110, 111, 109]⟩ : ByteArray), 3, (⟨#[119, 104, 97, 116, 101, 118, 101, 114, 32, 105, 116, 32, 104, 97, 114, 109, 115, 32, 98, 114, 101, 97, 107, 115]⟩ : ByteArray)⟩ : S116), (⟨4, (⟨#[108, 111, 110, 101]⟩ : ByteArray), 4, (⟨#[99, 97, 110, 110, 111, 116, 32, 98, 101, 32, 109, 101, 97, 110, 116, 32, 98, 121, 32, 116, 104, 101, 32, 102, 111, 101]⟩ : ByteArray)⟩ : S116), (⟨5, (⟨#[100, 114, 97, 105, 110]⟩ : ByteArray), 4, (⟨#[119, 104, 97, 116, 32, 105, 116, 32, 104, 97, 114, 109, 115, 32, 109, 101, 110, 100, 115, 32, 105, 116, 115, 32, 104, 111, 108, 100, 101, 114]⟩ : ByteArray)⟩ : S116), (⟨6, (⟨#[109, 117, 116, 101]⟩ : ByteArray), 5, (⟨#[105, 116, 115, 32, 99, 97, 114, 100, 39, 115, 32, 112, 97, 114, 116, 115, 32, 99, 111, 117, 110, 116, 32, 102, 111, 114, 32, 110, 111, 116, 104, 105, 110, 103]⟩ : ByteArray)⟩ : S116), (⟨7, (⟨#[102, 105, 120, 101, 100]⟩ : ByteArray), 6, (⟨#[99, 97, 110, 110, 111, 116, 32, 115, 116, 114, 105, 107, 101]⟩ : ByteArray)⟩ : S116), (⟨8, (⟨#[115, 119, 105, 102, 116]⟩ : ByteArray), 1, (⟨#[115, 116, 114, 105, 107, 101, 115, 32, 97, 32, 115, 101, 99, 111, 110, 100, 32, 116, 105, 109, 101, 32, 101, 97, 99, 104, 32, 116, 117, 114, 110]⟩ : ByteArray)⟩ : S116)] : List (S116)))
end Go.Proofs.YtfpcideomanbbaaGreatDoor.PA
end
section
namespace Go.Proofs.YtfpcideomanbbaaGreatDoor.PA
open Go.RowKit Go.Proofs.YtfpcideomanbbaaGreatDoorW.PrintWords Go.Proofs.YtfpcideomanbbaaGreatDoorW.PrintLast Go.Proofs.YtfpcideomanbbaaGreatDoorW.PrintMore
attribute [local go_sem] max2_int min2_int max_two min_two max_three min_three max_four min_four
set_option linter.unusedVariables false
set_option linter.unusedSimpArgs false
def gambitref04_row.l0 : Nat → Int → List (S116) → Int → Option (Int × ByteArray × Int × ByteArray × Bool)
 | 0, _, _, _ => none
 | k + 1, x0, x4, x5 => if x5 < (x4.length : Int) then (if 0 ≤ x5 then (if ((rd_T116 x4 x5).f0) = x0 then (some ((rd_T116 x4 x5).f0, (rd_T116 x4 x5).f1, (rd_T116 x4 x5).f2, (rd_T116 x4 x5).f3, true)) else (gambitref04_row.l0 k x0 x4 (wrap64 (x5 + 1)))) else (none)) else (some (0, (⟨#[]⟩ : ByteArray), 0, (⟨#[]⟩ : ByteArray), false))
def gambitref04_row.f (k : Nat) (a0 : Int) : Option (Int × ByteArray × Int × ByteArray × Bool) := (gambitref04_Rows.f).bind fun t105 => (gambitref04_row.l0 k a0 t105 0)
theorem gambitref04_row.mono_l : ∀ k, (∀ y0 y1 y2, LeO (gambitref04_row.l0 k y0 y1 y2) (gambitref04_row.l0 (k + 1) y0 y1 y2))
 | 0 => fun _ _ _ r h => by simp [gambitref04_row.l0] at h
 | k + 1 => by
  have ih0 := gambitref04_row.mono_l k
  ·intro y0 y1 y2
   unfold gambitref04_row.l0
   repeat' first
   | (with_reducible exact ih0 _ _ _)
   | (with_reducible exact LeO.refl _)
   | (with_reducible exact LeO.none _)
   | (with_reducible refine LeO.ite ?_ ?_)
   | (with_reducible refine LeO.bind ?_ (fun _ => ?_))
   | exact ih0 _ _ _
   | exact LeO.none _
   | refine LeO.ite ?_ ?_
   | refine LeO.bind ?_ (fun _ => ?_)
theorem gambitref04_row.mono : ∀ a0 k, LeO (gambitref04_row.f k a0) (gambitref04_row.f (k + 1) a0) := by
 intro a0 k
 have ih0 := gambitref04_row.mono_l k
 unfold gambitref04_row.f
 repeat' first
   | (with_reducible exact ih0 _ _ _)
   | (with_reducible exact LeO.refl _)
   | (with_reducible exact LeO.none _)
   | (with_reducible refine LeO.ite ?_ ?_)
   | (with_reducible refine LeO.bind ?_ (fun _ => ?_))
   | exact ih0 _ _ _
   | exact LeO.none _
   | refine LeO.ite ?_ ?_
   | refine LeO.bind ?_ (fun _ => ?_)
end Go.Proofs.YtfpcideomanbbaaGreatDoor.PA
end
section
namespace Go.Proofs.YtfpcideomanbbaaGreatDoor.PA
open Go.RowKit Go.Proofs.YtfpcideomanbbaaGreatDoorW.PrintWords Go.Proofs.YtfpcideomanbbaaGreatDoorW.PrintLast Go.Proofs.YtfpcideomanbbaaGreatDoorW.PrintMore
attribute [local go_sem] max2_int min2_int max_two min_two max_three min_three max_four min_four
set_option linter.unusedVariables false
set_option linter.unusedSimpArgs false
def gambitref04_Name.f (k : Nat) (a0 : Int) : Option (ByteArray) := (gambitref04_row.f k a0).bind fun bt110 => (some bt110.2.1)
theorem gambitref04_Name.mono : ∀ a0 k, LeO (gambitref04_Name.f k a0) (gambitref04_Name.f (k + 1) a0) := by
 intro a0 k
 unfold gambitref04_Name.f
 repeat' first
   | (with_reducible exact gambitref04_row.mono _ _)
   | (with_reducible exact LeO.refl _)
   | (with_reducible exact LeO.none _)
   | (with_reducible refine LeO.ite ?_ ?_)
   | (with_reducible refine LeO.bind ?_ (fun _ => ?_))
   | exact gambitref04_row.mono _ _
   | exact LeO.none _
   | refine LeO.ite ?_ ?_
   | refine LeO.bind ?_ (fun _ => ?_)
end Go.Proofs.YtfpcideomanbbaaGreatDoor.PA
end
section
namespace Go.Proofs.YtfpcideomanbbaaGreatDoor.PA
open Go.RowKit Go.Proofs.YtfpcideomanbbaaGreatDoorW.PrintWords Go.Proofs.YtfpcideomanbbaaGreatDoorW.PrintLast Go.Proofs.YtfpcideomanbbaaGreatDoorW.PrintMore
attribute [local go_sem] max2_int min2_int max_two min_two max_three min_three max_four min_four
set_option linter.unusedVariables false
set_option linter.unusedSimpArgs false
def gambitref05_whens.f  : Option (List ByteArray) := some (([(⟨#[112, 108, 97, 121, 101, 100]⟩ : ByteArray), (⟨#[98, 114, 111, 107, 101, 110]⟩ : ByteArray), (⟨#[98, 101, 103, 117, 110]⟩ : ByteArray), (⟨#[115, 116, 114, 117, 99, 107]⟩ : ByteArray), (⟨#[97, 108, 119, 97, 121, 115]⟩ : ByteArray), (⟨#[114, 97, 116, 104, 101, 114]⟩ : ByteArray)] : List ByteArray))
end Go.Proofs.YtfpcideomanbbaaGreatDoor.PA
end
section
namespace Go.Proofs.YtfpcideomanbbaaGreatDoor.PA
open Go.RowKit Go.Proofs.YtfpcideomanbbaaGreatDoorW.PrintWords Go.Proofs.YtfpcideomanbbaaGreatDoorW.PrintLast Go.Proofs.YtfpcideomanbbaaGreatDoorW.PrintMore
attribute [local go_sem] max2_int min2_int max_two min_two max_three min_three max_four min_four
set_option linter.unusedVariables false
set_option linter.unusedSimpArgs false
def gambitref05_verbs.f  : Option (List ByteArray) := some (([(⟨#[104, 97, 114, 109]⟩ : ByteArray), (⟨#[109, 101, 110, 100]⟩ : ByteArray), (⟨#[100, 114, 97, 119]⟩ : ByteArray), (⟨#[100, 114, 111, 112]⟩ : ByteArray), (⟨#[103, 97, 105, 110]⟩ : ByteArray), (⟨#[98, 114, 101, 97, 107]⟩ : ByteArray), (⟨#[99, 97, 108, 108]⟩ : ByteArray), (⟨#[98, 97, 99, 107]⟩ : ByteArray), (⟨#[112, 117, 116]⟩ : ByteArray), (⟨#[115, 101, 105, 122, 101]⟩ : ByteArray), (⟨#[100, 121, 101]⟩ : ByteArray), (⟨#[103, 114, 97, 110, 116]⟩ : ByteArray), (⟨#[115, 116, 114, 105, 112]⟩ : ByteArray), (⟨#[98, 97, 115, 101]⟩ : ByteArray), (⟨#[114, 97, 105, 115, 101]⟩ : ByteArray), (⟨#[108, 101, 115, 115]⟩ : ByteArray), (⟨#[116, 119, 105, 99, 101]⟩ : ByteArray), (⟨#[116, 117, 114, 110, 101, 100]⟩ : ByteArray), (⟨#[105, 110, 115, 116, 101, 97, 100]⟩ : ByteArray)] : List ByteArray))
end Go.Proofs.YtfpcideomanbbaaGreatDoor.PA
end
section
namespace Go.Proofs.YtfpcideomanbbaaGreatDoor.PA
open Go.RowKit Go.Proofs.YtfpcideomanbbaaGreatDoorW.PrintWords Go.Proofs.YtfpcideomanbbaaGreatDoorW.PrintLast Go.Proofs.YtfpcideomanbbaaGreatDoorW.PrintMore
attribute [local go_sem] max2_int min2_int max_two min_two max_three min_three max_four min_four
set_option linter.unusedVariables false
set_option linter.unusedSimpArgs false
def gambitref05_whoms.f  : Option (List ByteArray) := some (([(⟨#[121, 111, 117]⟩ : ByteArray), (⟨#[102, 111, 101]⟩ : ByteArray), (⟨#[105, 116]⟩ : ByteArray), (⟨#[115, 101, 108, 102]⟩ : ByteArray), (⟨#[121, 111, 117, 114, 115]⟩ : ByteArray), (⟨#[116, 104, 101, 105, 114, 115]⟩ : ByteArray), (⟨#[97, 108, 108]⟩ : ByteArray), (⟨#[114, 101, 115, 116]⟩ : ByteArray), (⟨#[100, 121, 101, 100]⟩ : ByteArray), (⟨#[119, 105, 116, 104]⟩ : ByteArray)] : List ByteArray))
end Go.Proofs.YtfpcideomanbbaaGreatDoor.PA
end
section
namespace Go.Proofs.YtfpcideomanbbaaGreatDoor.PA
open Go.RowKit Go.Proofs.YtfpcideomanbbaaGreatDoorW.PrintWords Go.Proofs.YtfpcideomanbbaaGreatDoorW.PrintLast Go.Proofs.YtfpcideomanbbaaGreatDoorW.PrintMore
attribute [local go_sem] max2_int min2_int max_two min_two max_three min_three max_four min_four
set_option linter.unusedVariables false
set_option linter.unusedSimpArgs false
def gambitref05_Digits.f : Nat → Int → Option (ByteArray)
 | 0, _ => none
 | k + 1, a0 => if a0 < 0 then ((gambitref05_Digits.f k (wrap64 (-a0))).bind fun t146 => (if 1 + t146.size ≤ 9223372036854775807 then (some ((⟨#[45]⟩ : ByteArray) ++ t146)) else (none))) else (if a0 < 10 then (if 0 ≤ a0 then (if a0 ≤ (wrap64 (a0 + 1)) then (if (wrap64 (a0 + 1)) ≤ 10 then (some ((⟨#[48, 49, 50, 51, 52, 53, 54, 55, 56, 57]⟩ : ByteArray).extract (a0 : Int).toNat ((wrap64 (a0 + 1)) : Int).toNat)) else (none)) else (none)) else (none)) else ((gambitref05_Digits.f k (wrap64 (Int.tdiv a0 10))).bind fun t147 => ((gambitref05_Digits.f k (Int.tmod a0 10)).bind fun t148 => (if t147.size + t148.size ≤ 9223372036854775807 then (some (t147 ++ t148)) else (none)))))
theorem gambitref05_Digits.mono_l : ∀ k, (∀ y0, LeO (gambitref05_Digits.f k y0) (gambitref05_Digits.f (k + 1) y0))
 | 0 => fun _ r h => by simp [gambitref05_Digits.f] at h
 | k + 1 => by
  have ih0 := gambitref05_Digits.mono_l k
  ·intro y0
   unfold gambitref05_Digits.f
   repeat' first
   | (with_reducible exact ih0 _)
   | (with_reducible exact LeO.refl _)
   | (with_reducible exact LeO.none _)
   | (with_reducible refine LeO.ite ?_ ?_)
   | (with_reducible refine LeO.bind ?_ (fun _ => ?_))
   | exact ih0 _
   | exact LeO.none _
   | refine LeO.ite ?_ ?_
   | refine LeO.bind ?_ (fun _ => ?_)
theorem gambitref05_Digits.mono : ∀ a0 k, LeO (gambitref05_Digits.f k a0) (gambitref05_Digits.f (k + 1) a0) := by
 intro a0 k
 have ih0 := gambitref05_Digits.mono_l k
 exact ih0 a0
end Go.Proofs.YtfpcideomanbbaaGreatDoor.PA
end
section
namespace Go.Proofs.YtfpcideomanbbaaGreatDoor.PA
open Go.RowKit Go.Proofs.YtfpcideomanbbaaGreatDoorW.PrintWords Go.Proofs.YtfpcideomanbbaaGreatDoorW.PrintLast Go.Proofs.YtfpcideomanbbaaGreatDoorW.PrintMore
attribute [local go_sem] max2_int min2_int max_two min_two max_three min_three max_four min_four
set_option linter.unusedVariables false
set_option linter.unusedSimpArgs false
mutual
def gambitref05_Print.j0 : Nat → ByteArray → Bool → Bool → Bool → Bool → Int → Int → Int → Int → Int → Int → Int → ByteArray → Option (ByteArray × Int)
 | 0, _, _, _, _, _, _, _, _, _, _, _, _, _ => none
 | k + 1, x5, x7, x8, x9, x10, x150000, x150001, x150002, x150003, x150004, x150005, x150006, x150007 => if x7 = true then (if x5.size + 1 ≤ 9223372036854775807 then ((gambitref03_Name.f x150004).bind fun t169 => (if (x5 ++ (⟨#[32]⟩ : ByteArray)).size + t169.size ≤ 9223372036854775807 then (gambitref05_Print.j1 k ((x5 ++ (⟨#[32]⟩ : ByteArray)) ++ t169) x8 x9 x10 x150000 x150001 x150002 x150003 x150004 x150005 x150006 x150007) else (none))) else (none)) else (gambitref05_Print.j1 k x5 x8 x9 x10 x150000 x150001 x150002 x150003 x150004 x150005 x150006 x150007)
def gambitref05_Print.j1 : Nat → ByteArray → Bool → Bool → Bool → Int → Int → Int → Int → Int → Int → Int → ByteArray → Option (ByteArray × Int)
 | 0, _, _, _, _, _, _, _, _, _, _, _, _ => none
 | k + 1, x5, x8, x9, x10, x150000, x150001, x150002, x150003, x150004, x150005, x150006, x150007 => if x8 = true then (if x5.size + 1 ≤ 9223372036854775807 then ((gambitref04_Name.f k x150005).bind fun t170 => (if (x5 ++ (⟨#[32]⟩ : ByteArray)).size + t170.size ≤ 9223372036854775807 then (gambitref05_Print.j2 k ((x5 ++ (⟨#[32]⟩ : ByteArray)) ++ t170) x9 x10 x150000 x150001 x150002 x150003 x150004 x150005 x150006 x150007) else (none))) else (none)) else (gambitref05_Print.j2 k x5 x9 x10 x150000 x150001 x150002 x150003 x150004 x150005 x150006 x150007)
def gambitref05_Print.j2 : Nat → ByteArray → Bool → Bool → Int → Int → Int → Int → Int → Int → Int → ByteArray → Option (ByteArray × Int)
 | 0, _, _, _, _, _, _, _, _, _, _, _ => none
 | k + 1, x5, x9, x10, x150000, x150001, x150002, x150003, x150004, x150005, x150006, x150007 => if x9 = true then (if x5.size + 1 ≤ 9223372036854775807 then ((gambitref05_Digits.f k (wrap64 (x150006))).bind fun t171 => (if (x5 ++ (⟨#[32]⟩ : ByteArray)).size + t171.size ≤ 9223372036854775807 then (if x10 = true then (if ((x5 ++ (⟨#[32]⟩ : ByteArray)) ++ t171).size + 1 ≤ 9223372036854775807 then (if (((x5 ++ (⟨#[32]⟩ : ByteArray)) ++ t171) ++ (⟨#[32]⟩ : ByteArray)).size + x150007.size ≤ 9223372036854775807 then (some ((((x5 ++ (⟨#[32]⟩ : ByteArray)) ++ t171) ++ (⟨#[32]⟩ : ByteArray)) ++ x150007, 0)) else (none)) else (none)) else (some ((x5 ++ (⟨#[32]⟩ : ByteArray)) ++ t171, 0))) else (none))) else (none)) else (if x10 = true then (if x5.size + 1 ≤ 9223372036854775807 then (if (x5 ++ (⟨#[32]⟩ : ByteArray)).size + x150007.size ≤ 9223372036854775807 then (some ((x5 ++ (⟨#[32]⟩ : ByteArray)) ++ x150007, 0)) else (none)) else (none)) else (some (x5, 0)))
end
def gambitref05_Print.f (k : Nat) (a0_0 : Int) (a0_1 : Int) (a0_2 : Int) (a0_3 : Int) (a0_4 : Int) (a0_5 : Int) (a0_6 : Int) (a0_7 : ByteArray) : Option (ByteArray × Int) := (gambitref05_Check.f k a0_0 a0_1 a0_2 a0_3 a0_4 a0_5 a0_6 a0_7).bind fun t150 => (if t150 = 0 then ((gambitref05_whens.f).bind fun t151 => (if 0 ≤ ((a0_0 - 1) % 256) then (if ((a0_0 - 1) % 256) < (t151.length : Int) then (if (rdOf ByteArray.empty t151 ((a0_0 - 1) % 256)).size + 1 ≤ 9223372036854775807 then ((gambitref05_verbs.f).bind fun t155 => (if 0 ≤ ((a0_1 - 1) % 256) then (if ((a0_1 - 1) % 256) < (t155.length : Int) then (if ((rdOf ByteArray.empty t151 ((a0_0 - 1) % 256)) ++ (⟨#[32]⟩ : ByteArray)).size + (rdOf ByteArray.empty t155 ((a0_1 - 1) % 256)).size ≤ 9223372036854775807 then (if (((rdOf ByteArray.empty t151 ((a0_0 - 1) % 256)) ++ (⟨#[32]⟩ : ByteArray)) ++ (rdOf ByteArray.empty t155 ((a0_1 - 1) % 256))).size + 1 ≤ 9223372036854775807 then ((gambitref05_whoms.f).bind fun t159 => (if 0 ≤ ((a0_2 - 1) % 256) then (if ((a0_2 - 1) % 256) < (t159.length : Int) then (if ((((rdOf ByteArray.empty t151 ((a0_0 - 1) % 256)) ++ (⟨#[32]⟩ : ByteArray)) ++ (rdOf ByteArray.empty t155 ((a0_1 - 1) % 256))) ++ (⟨#[32]⟩ : ByteArray)).size + (rdOf ByteArray.empty t159 ((a0_2 - 1) % 256)).size ≤ 9223372036854775807 then ((gambitref05_Uses.f k a0_1 a0_2).bind fun bt163 => (if bt163.1 = true then (if (((((rdOf ByteArray.empty t151 ((a0_0 - 1) % 256)) ++ (⟨#[32]⟩ : ByteArray)) ++ (rdOf ByteArray.empty t155 ((a0_1 - 1) % 256))) ++ (⟨#[32]⟩ : ByteArray)) ++ (rdOf ByteArray.empty t159 ((a0_2 - 1) % 256))).size + 1 ≤ 9223372036854775807 then ((gambitref05_Digits.f k a0_3).bind fun t168 => (if ((((((rdOf ByteArray.empty t151 ((a0_0 - 1) % 256)) ++ (⟨#[32]⟩ : ByteArray)) ++ (rdOf ByteArray.empty t155 ((a0_1 - 1) % 256))) ++ (⟨#[32]⟩ : ByteArray)) ++ (rdOf ByteArray.empty t159 ((a0_2 - 1) % 256))) ++ (⟨#[32]⟩ : ByteArray)).size + t168.size ≤ 9223372036854775807 then (gambitref05_Print.j0 k (((((((rdOf ByteArray.empty t151 ((a0_0 - 1) % 256)) ++ (⟨#[32]⟩ : ByteArray)) ++ (rdOf ByteArray.empty t155 ((a0_1 - 1) % 256))) ++ (⟨#[32]⟩ : ByteArray)) ++ (rdOf ByteArray.empty t159 ((a0_2 - 1) % 256))) ++ (⟨#[32]⟩ : ByteArray)) ++ t168) bt163.2.1 bt163.2.2.1 bt163.2.2.2.1 bt163.2.2.2.2 a0_0 a0_1 a0_2 a0_3 a0_4 a0_5 a0_6 a0_7) else (none))) else (none)) else (gambitref05_Print.j0 k (((((rdOf ByteArray.empty t151 ((a0_0 - 1) % 256)) ++ (⟨#[32]⟩ : ByteArray)) ++ (rdOf ByteArray.empty t155 ((a0_1 - 1) % 256))) ++ (⟨#[32]⟩ : ByteArray)) ++ (rdOf ByteArray.empty t159 ((a0_2 - 1) % 256))) bt163.2.1 bt163.2.2.1 bt163.2.2.2.1 bt163.2.2.2.2 a0_0 a0_1 a0_2 a0_3 a0_4 a0_5 a0_6 a0_7))) else (none)) else (none)) else (none))) else (none)) else (none)) else (none)) else (none))) else (none)) else (none)) else (none))) else (some ((⟨#[]⟩ : ByteArray), t150)))
theorem gambitref05_Print.mono_l : ∀ k, (∀ y0 y1 y2 y3 y4 y5 y6 y7 y8 y9 y10 y11 y12, LeO (gambitref05_Print.j0 k y0 y1 y2 y3 y4 y5 y6 y7 y8 y9 y10 y11 y12) (gambitref05_Print.j0 (k + 1) y0 y1 y2 y3 y4 y5 y6 y7 y8 y9 y10 y11 y12)) ∧ (∀ y0 y1 y2 y3 y4 y5 y6 y7 y8 y9 y10 y11, LeO (gambitref05_Print.j1 k y0 y1 y2 y3 y4 y5 y6 y7 y8 y9 y10 y11) (gambitref05_Print.j1 (k + 1) y0 y1 y2 y3 y4 y5 y6 y7 y8 y9 y10 y11)) ∧ (∀ y0 y1 y2 y3 y4 y5 y6 y7 y8 y9 y10, LeO (gambitref05_Print.j2 k y0 y1 y2 y3 y4 y5 y6 y7 y8 y9 y10) (gambitref05_Print.j2 (k + 1) y0 y1 y2 y3 y4 y5 y6 y7 y8 y9 y10))
 | 0 => ⟨fun _ _ _ _ _ _ _ _ _ _ _ _ _ r h => by simp [gambitref05_Print.j0] at h, fun _ _ _ _ _ _ _ _ _ _ _ _ r h => by simp [gambitref05_Print.j1] at h, fun _ _ _ _ _ _ _ _ _ _ _ r h => by simp [gambitref05_Print.j2] at h⟩
 | k + 1 => by
  obtain ⟨ih0, ih1, ih2⟩ := gambitref05_Print.mono_l k
  refine ⟨?_, ?_, ?_⟩
  ·intro y0 y1 y2 y3 y4 y5 y6 y7 y8 y9 y10 y11 y12
   unfold gambitref05_Print.j0
   repeat' first
   | (with_reducible exact ih0 _ _ _ _ _ _ _ _ _ _ _ _ _)
   | (with_reducible exact ih1 _ _ _ _ _ _ _ _ _ _ _ _)
   | (with_reducible exact ih2 _ _ _ _ _ _ _ _ _ _ _)
   | (with_reducible exact gambitref04_Name.mono _ _)
   | (with_reducible exact gambitref05_Check.mono _ _ _ _ _ _ _ _ _)
   | (with_reducible exact gambitref05_Digits.mono _ _)
   | (with_reducible exact gambitref05_Uses.mono _ _ _)
   | (with_reducible exact LeO.refl _)
   | (with_reducible exact LeO.none _)
   | (with_reducible refine LeO.ite ?_ ?_)
   | (with_reducible refine LeO.bind ?_ (fun _ => ?_))
   | exact ih0 _ _ _ _ _ _ _ _ _ _ _ _ _
   | exact ih1 _ _ _ _ _ _ _ _ _ _ _ _
   | exact ih2 _ _ _ _ _ _ _ _ _ _ _
   | exact gambitref04_Name.mono _ _
   | exact gambitref05_Check.mono _ _ _ _ _ _ _ _ _
   | exact gambitref05_Digits.mono _ _
   | exact gambitref05_Uses.mono _ _ _
   | exact LeO.none _
   | refine LeO.ite ?_ ?_
   | refine LeO.bind ?_ (fun _ => ?_)
  ·intro y0 y1 y2 y3 y4 y5 y6 y7 y8 y9 y10 y11
   unfold gambitref05_Print.j1
   repeat' first
   | (with_reducible exact ih0 _ _ _ _ _ _ _ _ _ _ _ _ _)
   | (with_reducible exact ih1 _ _ _ _ _ _ _ _ _ _ _ _)
   | (with_reducible exact ih2 _ _ _ _ _ _ _ _ _ _ _)
   | (with_reducible exact gambitref04_Name.mono _ _)
   | (with_reducible exact gambitref05_Check.mono _ _ _ _ _ _ _ _ _)
   | (with_reducible exact gambitref05_Digits.mono _ _)
   | (with_reducible exact gambitref05_Uses.mono _ _ _)
   | (with_reducible exact LeO.refl _)
   | (with_reducible exact LeO.none _)
   | (with_reducible refine LeO.ite ?_ ?_)
   | (with_reducible refine LeO.bind ?_ (fun _ => ?_))
   | exact ih0 _ _ _ _ _ _ _ _ _ _ _ _ _
   | exact ih1 _ _ _ _ _ _ _ _ _ _ _ _
   | exact ih2 _ _ _ _ _ _ _ _ _ _ _
   | exact gambitref04_Name.mono _ _
   | exact gambitref05_Check.mono _ _ _ _ _ _ _ _ _
   | exact gambitref05_Digits.mono _ _
   | exact gambitref05_Uses.mono _ _ _
   | exact LeO.none _
   | refine LeO.ite ?_ ?_
   | refine LeO.bind ?_ (fun _ => ?_)
  ·intro y0 y1 y2 y3 y4 y5 y6 y7 y8 y9 y10
   unfold gambitref05_Print.j2
   repeat' first
   | (with_reducible exact ih0 _ _ _ _ _ _ _ _ _ _ _ _ _)
   | (with_reducible exact ih1 _ _ _ _ _ _ _ _ _ _ _ _)
   | (with_reducible exact ih2 _ _ _ _ _ _ _ _ _ _ _)
   | (with_reducible exact gambitref04_Name.mono _ _)
   | (with_reducible exact gambitref05_Check.mono _ _ _ _ _ _ _ _ _)
   | (with_reducible exact gambitref05_Digits.mono _ _)
   | (with_reducible exact gambitref05_Uses.mono _ _ _)
   | (with_reducible exact LeO.refl _)
   | (with_reducible exact LeO.none _)
   | (with_reducible refine LeO.ite ?_ ?_)
   | (with_reducible refine LeO.bind ?_ (fun _ => ?_))
   | exact ih0 _ _ _ _ _ _ _ _ _ _ _ _ _
   | exact ih1 _ _ _ _ _ _ _ _ _ _ _ _
   | exact ih2 _ _ _ _ _ _ _ _ _ _ _
   | exact gambitref04_Name.mono _ _
   | exact gambitref05_Check.mono _ _ _ _ _ _ _ _ _
   | exact gambitref05_Digits.mono _ _
   | exact gambitref05_Uses.mono _ _ _
   | exact LeO.none _
   | refine LeO.ite ?_ ?_
   | refine LeO.bind ?_ (fun _ => ?_)
theorem gambitref05_Print.mono : ∀ a0 a1 a2 a3 a4 a5 a6 a7 k, LeO (gambitref05_Print.f k a0 a1 a2 a3 a4 a5 a6 a7) (gambitref05_Print.f (k + 1) a0 a1 a2 a3 a4 a5 a6 a7) := by
 intro a0 a1 a2 a3 a4 a5 a6 a7 k
 obtain ⟨ih0, ih1, ih2⟩ := gambitref05_Print.mono_l k
 unfold gambitref05_Print.f
 repeat' first
   | (with_reducible exact ih0 _ _ _ _ _ _ _ _ _ _ _ _ _)
   | (with_reducible exact ih1 _ _ _ _ _ _ _ _ _ _ _ _)
   | (with_reducible exact ih2 _ _ _ _ _ _ _ _ _ _ _)
   | (with_reducible exact gambitref04_Name.mono _ _)
   | (with_reducible exact gambitref05_Check.mono _ _ _ _ _ _ _ _ _)
   | (with_reducible exact gambitref05_Digits.mono _ _)
   | (with_reducible exact gambitref05_Uses.mono _ _ _)
   | (with_reducible exact LeO.refl _)
   | (with_reducible exact LeO.none _)
   | (with_reducible refine LeO.ite ?_ ?_)
   | (with_reducible refine LeO.bind ?_ (fun _ => ?_))
   | exact ih0 _ _ _ _ _ _ _ _ _ _ _ _ _
   | exact ih1 _ _ _ _ _ _ _ _ _ _ _ _
   | exact ih2 _ _ _ _ _ _ _ _ _ _ _
   | exact gambitref04_Name.mono _ _
   | exact gambitref05_Check.mono _ _ _ _ _ _ _ _ _
   | exact gambitref05_Digits.mono _ _
   | exact gambitref05_Uses.mono _ _ _
   | exact LeO.none _
   | refine LeO.ite ?_ ?_
   | refine LeO.bind ?_ (fun _ => ?_)
end Go.Proofs.YtfpcideomanbbaaGreatDoor.PA
end
section
namespace Go.Proofs.YtfpcideomanbbaaGreatDoor.PA
open Go.RowKit Go.Proofs.YtfpcideomanbbaaGreatDoorW.PrintWords Go.Proofs.YtfpcideomanbbaaGreatDoorW.PrintLast Go.Proofs.YtfpcideomanbbaaGreatDoorW.PrintMore
attribute [local go_sem] max2_int min2_int max_two min_two max_three min_three max_four min_four
set_option linter.unusedVariables false
set_option linter.unusedSimpArgs false
def gambitref05_place.l0 : Nat → List ByteArray → ByteArray → Int → Option (Int)
 | 0, _, _, _ => none
 | k + 1, x0, x1, x5 => if x5 < (x0.length : Int) then (if 0 ≤ x5 then (if (rdOf ByteArray.empty x0 x5).toList = x1.toList then (some (wrap64 (x5 + 1))) else (gambitref05_place.l0 k x0 x1 (wrap64 (x5 + 1)))) else (none)) else (some 0)
def gambitref05_place.f (k : Nat) (l0 : List ByteArray) (a1 : ByteArray) : Option (Int) := gambitref05_place.l0 k l0 a1 0
theorem gambitref05_place.mono_l : ∀ k, (∀ y0 y1 y2, LeO (gambitref05_place.l0 k y0 y1 y2) (gambitref05_place.l0 (k + 1) y0 y1 y2))
 | 0 => fun _ _ _ r h => by simp [gambitref05_place.l0] at h
 | k + 1 => by
  have ih0 := gambitref05_place.mono_l k
  ·intro y0 y1 y2
   unfold gambitref05_place.l0
   repeat' first
   | (with_reducible exact ih0 _ _ _)
   | (with_reducible exact LeO.refl _)
   | (with_reducible exact LeO.none _)
   | (with_reducible refine LeO.ite ?_ ?_)
   | (with_reducible refine LeO.bind ?_ (fun _ => ?_))
   | exact ih0 _ _ _
   | exact LeO.none _
   | refine LeO.ite ?_ ?_
   | refine LeO.bind ?_ (fun _ => ?_)
theorem gambitref05_place.mono : ∀ a0 a1 k, LeO (gambitref05_place.f k a0 a1) (gambitref05_place.f (k + 1) a0 a1) := by
 intro a0 a1 k
 have ih0 := gambitref05_place.mono_l k
 unfold gambitref05_place.f
 repeat' first
   | (with_reducible exact ih0 _ _ _)
   | (with_reducible exact LeO.refl _)
   | (with_reducible exact LeO.none _)
   | (with_reducible refine LeO.ite ?_ ?_)
   | (with_reducible refine LeO.bind ?_ (fun _ => ?_))
   | exact ih0 _ _ _
   | exact LeO.none _
   | refine LeO.ite ?_ ?_
   | refine LeO.bind ?_ (fun _ => ?_)
end Go.Proofs.YtfpcideomanbbaaGreatDoor.PA
end
section
namespace Go.Proofs.YtfpcideomanbbaaGreatDoor.PA
open Go.RowKit Go.Proofs.YtfpcideomanbbaaGreatDoorW.PrintWords Go.Proofs.YtfpcideomanbbaaGreatDoorW.PrintLast Go.Proofs.YtfpcideomanbbaaGreatDoorW.PrintMore
attribute [local go_sem] max2_int min2_int max_two min_two max_three min_three max_four min_four
set_option linter.unusedVariables false
set_option linter.unusedSimpArgs false
mutual
def gambitref05_number.j0 : Nat → ByteArray → Int → Bool → Option (Int)
 | 0, _, _, _ => none
 | k + 1, x0, x3, x4 => gambitref05_number.l0 k x0 x3 x4 0
def gambitref05_number.l0 : Nat → ByteArray → Int → Bool → Int → Option (Int)
 | 0, _, _, _, _ => none
 | k + 1, x0, x3, x4, x5 => if x5 < (x0.size : Int) then (gambitref05_number.j2 k x0 x3 x4 x5 (decide (x5 < 3))) else (gambitref05_number.j2 k x0 x3 x4 x5 false)
def gambitref05_number.j2 : Nat → ByteArray → Int → Bool → Int → Bool → Option (Int)
 | 0, _, _, _, _, _ => none
 | k + 1, x0, x3, x4, x5, x21 => if x21 = true then (if 0 ≤ x5 then (if x5 < (x0.size : Int) then (if (bt x0 x5) ≥ 48 then (if (bt x0 x5) ≤ 57 then (gambitref05_number.l0 k x0 (wrap64 ((wrap64 (10 * x3)) + (((bt x0 x5) - 48) % 256))) x4 (wrap64 (x5 + 1))) else (gambitref05_number.l0 k x0 x3 x4 (wrap64 (x5 + 1)))) else (gambitref05_number.l0 k x0 x3 x4 (wrap64 (x5 + 1)))) else (none)) else (none)) else (if x4 = true then (some (wrap64 (-x3))) else (some x3))
end
def gambitref05_number.f (k : Nat) (a0 : ByteArray) : Option (Int) := if (a0.size : Int) > 0 then (if 0 < (a0.size : Int) then (gambitref05_number.j0 k a0 0 ((bt a0 0) == 45)) else (none)) else (gambitref05_number.j0 k a0 0 false)
theorem gambitref05_number.mono_l : ∀ k, (∀ y0 y1 y2, LeO (gambitref05_number.j0 k y0 y1 y2) (gambitref05_number.j0 (k + 1) y0 y1 y2)) ∧ (∀ y0 y1 y2 y3, LeO (gambitref05_number.l0 k y0 y1 y2 y3) (gambitref05_number.l0 (k + 1) y0 y1 y2 y3)) ∧ (∀ y0 y1 y2 y3 y4, LeO (gambitref05_number.j2 k y0 y1 y2 y3 y4) (gambitref05_number.j2 (k + 1) y0 y1 y2 y3 y4))
 | 0 => ⟨fun _ _ _ r h => by simp [gambitref05_number.j0] at h, fun _ _ _ _ r h => by simp [gambitref05_number.l0] at h, fun _ _ _ _ _ r h => by simp [gambitref05_number.j2] at h⟩
 | k + 1 => by
  obtain ⟨ih0, ih1, ih2⟩ := gambitref05_number.mono_l k
  refine ⟨?_, ?_, ?_⟩
  ·intro y0 y1 y2
   unfold gambitref05_number.j0
   repeat' first
   | (with_reducible exact ih0 _ _ _)
   | (with_reducible exact ih1 _ _ _ _)
   | (with_reducible exact ih2 _ _ _ _ _)
   | (with_reducible exact LeO.refl _)
   | (with_reducible exact LeO.none _)
   | (with_reducible refine LeO.ite ?_ ?_)
   | (with_reducible refine LeO.bind ?_ (fun _ => ?_))
   | exact ih0 _ _ _
   | exact ih1 _ _ _ _
   | exact ih2 _ _ _ _ _
   | exact LeO.none _
   | refine LeO.ite ?_ ?_
   | refine LeO.bind ?_ (fun _ => ?_)
  ·intro y0 y1 y2 y3
   unfold gambitref05_number.l0
   repeat' first
   | (with_reducible exact ih0 _ _ _)
   | (with_reducible exact ih1 _ _ _ _)
   | (with_reducible exact ih2 _ _ _ _ _)
   | (with_reducible exact LeO.refl _)
   | (with_reducible exact LeO.none _)
   | (with_reducible refine LeO.ite ?_ ?_)
   | (with_reducible refine LeO.bind ?_ (fun _ => ?_))
   | exact ih0 _ _ _
   | exact ih1 _ _ _ _
   | exact ih2 _ _ _ _ _
   | exact LeO.none _
   | refine LeO.ite ?_ ?_
   | refine LeO.bind ?_ (fun _ => ?_)
  ·intro y0 y1 y2 y3 y4
   unfold gambitref05_number.j2
   repeat' first
   | (with_reducible exact ih0 _ _ _)
   | (with_reducible exact ih1 _ _ _ _)
   | (with_reducible exact ih2 _ _ _ _ _)
   | (with_reducible exact LeO.refl _)
   | (with_reducible exact LeO.none _)
   | (with_reducible refine LeO.ite ?_ ?_)
   | (with_reducible refine LeO.bind ?_ (fun _ => ?_))
   | exact ih0 _ _ _
   | exact ih1 _ _ _ _
   | exact ih2 _ _ _ _ _
   | exact LeO.none _
   | refine LeO.ite ?_ ?_
   | refine LeO.bind ?_ (fun _ => ?_)
theorem gambitref05_number.mono : ∀ a0 k, LeO (gambitref05_number.f k a0) (gambitref05_number.f (k + 1) a0) := by
 intro a0 k
 obtain ⟨ih0, ih1, ih2⟩ := gambitref05_number.mono_l k
 unfold gambitref05_number.f
 repeat' first
   | (with_reducible exact ih0 _ _ _)
   | (with_reducible exact ih1 _ _ _ _)
   | (with_reducible exact ih2 _ _ _ _ _)
   | (with_reducible exact LeO.refl _)
   | (with_reducible exact LeO.none _)
   | (with_reducible refine LeO.ite ?_ ?_)
   | (with_reducible refine LeO.bind ?_ (fun _ => ?_))
   | exact ih0 _ _ _
   | exact ih1 _ _ _ _
   | exact ih2 _ _ _ _ _
   | exact LeO.none _
   | refine LeO.ite ?_ ?_
   | refine LeO.bind ?_ (fun _ => ?_)
end Go.Proofs.YtfpcideomanbbaaGreatDoor.PA
end
section
namespace Go.Proofs.YtfpcideomanbbaaGreatDoor.PA
open Go.RowKit Go.Proofs.YtfpcideomanbbaaGreatDoorW.PrintWords Go.Proofs.YtfpcideomanbbaaGreatDoorW.PrintLast Go.Proofs.YtfpcideomanbbaaGreatDoorW.PrintMore
attribute [local go_sem] max2_int min2_int max_two min_two max_three min_three max_four min_four
set_option linter.unusedVariables false
set_option linter.unusedSimpArgs false
def gambitref03_Of.l0 : Nat → ByteArray → Int → Option (Int × Bool)
 | 0, _, _ => none
 | k + 1, x0, x4 => if x4 ≤ 6 then ((gambitref03_Name.f x4).bind fun t173 => (if t173.toList = x0.toList then (some (x4, true)) else (gambitref03_Of.l0 k x0 ((x4 + 1) % 256)))) else (some (0, false))
def gambitref03_Of.f (k : Nat) (a0 : ByteArray) : Option (Int × Bool) := gambitref03_Of.l0 k a0 1
theorem gambitref03_Of.mono_l : ∀ k, (∀ y0 y1, LeO (gambitref03_Of.l0 k y0 y1) (gambitref03_Of.l0 (k + 1) y0 y1))
 | 0 => fun _ _ r h => by simp [gambitref03_Of.l0] at h
 | k + 1 => by
  have ih0 := gambitref03_Of.mono_l k
  ·intro y0 y1
   unfold gambitref03_Of.l0
   repeat' first
   | (with_reducible exact ih0 _ _)
   | (with_reducible exact LeO.refl _)
   | (with_reducible exact LeO.none _)
   | (with_reducible refine LeO.ite ?_ ?_)
   | (with_reducible refine LeO.bind ?_ (fun _ => ?_))
   | exact ih0 _ _
   | exact LeO.none _
   | refine LeO.ite ?_ ?_
   | refine LeO.bind ?_ (fun _ => ?_)
theorem gambitref03_Of.mono : ∀ a0 k, LeO (gambitref03_Of.f k a0) (gambitref03_Of.f (k + 1) a0) := by
 intro a0 k
 have ih0 := gambitref03_Of.mono_l k
 unfold gambitref03_Of.f
 repeat' first
   | (with_reducible exact ih0 _ _)
   | (with_reducible exact LeO.refl _)
   | (with_reducible exact LeO.none _)
   | (with_reducible refine LeO.ite ?_ ?_)
   | (with_reducible refine LeO.bind ?_ (fun _ => ?_))
   | exact ih0 _ _
   | exact LeO.none _
   | refine LeO.ite ?_ ?_
   | refine LeO.bind ?_ (fun _ => ?_)
end Go.Proofs.YtfpcideomanbbaaGreatDoor.PA
end
section
namespace Go.Proofs.YtfpcideomanbbaaGreatDoor.PA
open Go.RowKit Go.Proofs.YtfpcideomanbbaaGreatDoorW.PrintWords Go.Proofs.YtfpcideomanbbaaGreatDoorW.PrintLast Go.Proofs.YtfpcideomanbbaaGreatDoorW.PrintMore
attribute [local go_sem] max2_int min2_int max_two min_two max_three min_three max_four min_four
set_option linter.unusedVariables false
set_option linter.unusedSimpArgs false
def gambitref04_Of.l0 : Nat → ByteArray → List (S116) → Int → Option (Int × Bool)
 | 0, _, _, _ => none
 | k + 1, x0, x4, x5 => if x5 < (x4.length : Int) then (if 0 ≤ x5 then (if ((rd_T116 x4 x5).f1).toList = x0.toList then (some ((rd_T116 x4 x5).f0, true)) else (gambitref04_Of.l0 k x0 x4 (wrap64 (x5 + 1)))) else (none)) else (some (0, false))
def gambitref04_Of.f (k : Nat) (a0 : ByteArray) : Option (Int × Bool) := (gambitref04_Rows.f).bind fun t174 => (gambitref04_Of.l0 k a0 t174 0)
theorem gambitref04_Of.mono_l : ∀ k, (∀ y0 y1 y2, LeO (gambitref04_Of.l0 k y0 y1 y2) (gambitref04_Of.l0 (k + 1) y0 y1 y2))
 | 0 => fun _ _ _ r h => by simp [gambitref04_Of.l0] at h
 | k + 1 => by
  have ih0 := gambitref04_Of.mono_l k
  ·intro y0 y1 y2
   unfold gambitref04_Of.l0
   repeat' first
   | (with_reducible exact ih0 _ _ _)
   | (with_reducible exact LeO.refl _)
   | (with_reducible exact LeO.none _)
   | (with_reducible refine LeO.ite ?_ ?_)
   | (with_reducible refine LeO.bind ?_ (fun _ => ?_))
   | exact ih0 _ _ _
   | exact LeO.none _
   | refine LeO.ite ?_ ?_
   | refine LeO.bind ?_ (fun _ => ?_)
theorem gambitref04_Of.mono : ∀ a0 k, LeO (gambitref04_Of.f k a0) (gambitref04_Of.f (k + 1) a0) := by
 intro a0 k
 have ih0 := gambitref04_Of.mono_l k
 unfold gambitref04_Of.f
 repeat' first
   | (with_reducible exact ih0 _ _ _)
   | (with_reducible exact LeO.refl _)
   | (with_reducible exact LeO.none _)
   | (with_reducible refine LeO.ite ?_ ?_)
   | (with_reducible refine LeO.bind ?_ (fun _ => ?_))
   | exact ih0 _ _ _
   | exact LeO.none _
   | refine LeO.ite ?_ ?_
   | refine LeO.bind ?_ (fun _ => ?_)
end Go.Proofs.YtfpcideomanbbaaGreatDoor.PA
end
section
namespace Go.Proofs.YtfpcideomanbbaaGreatDoor.PA
open Go.RowKit Go.Proofs.YtfpcideomanbbaaGreatDoorW.PrintWords Go.Proofs.YtfpcideomanbbaaGreatDoorW.PrintLast Go.Proofs.YtfpcideomanbbaaGreatDoorW.PrintMore
attribute [local go_sem] max2_int min2_int max_two min_two max_three min_three max_four min_four
set_option linter.unusedVariables false
set_option linter.unusedSimpArgs false
mutual
def gambitref05_read.l0 : Nat → List ByteArray → Int → Int → Int → Int → Int → Int → Int → Int → Int → ByteArray → Bool → Bool → Bool → Bool → Bool → Option (Int × Int × Int × Int × Int × Int × Int × ByteArray)
 | 0, _, _, _, _, _, _, _, _, _, _, _, _, _, _, _, _ => none
 | k + 1, x0, x5, x6, x181000, x181001, x181002, x181003, x181004, x181005, x181006, x181007, x197000, x197001, x197002, x197003, x197004 => if x6 < 5 then (gambitref05_read.j1 k x0 x5 x6 (decide (x5 < (x0.length : Int))) x181000 x181001 x181002 x181003 x181004 x181005 x181006 x181007 x197000 x197001 x197002 x197003 x197004) else (gambitref05_read.j1 k x0 x5 x6 false x181000 x181001 x181002 x181003 x181004 x181005 x181006 x181007 x197000 x197001 x197002 x197003 x197004)
def gambitref05_read.j1 : Nat → List ByteArray → Int → Int → Bool → Int → Int → Int → Int → Int → Int → Int → ByteArray → Bool → Bool → Bool → Bool → Bool → Option (Int × Int × Int × Int × Int × Int × Int × ByteArray)
 | 0, _, _, _, _, _, _, _, _, _, _, _, _, _, _, _, _, _ => none
 | k + 1, x0, x5, x6, x57, x181000, x181001, x181002, x181003, x181004, x181005, x181006, x181007, x197000, x197001, x197002, x197003, x197004 => if x57 = true then (if x6 = 0 then (if x197000 = true then (if 0 ≤ x5 then (if x5 < (x0.length : Int) then ((gambitref05_number.f k (rdOf ByteArray.empty x0 x5)).bind fun t203 => (gambitref05_read.l0 k x0 (wrap64 (x5 + 1)) (wrap64 (x6 + 1)) x181000 x181001 x181002 t203 x181004 x181005 x181006 x181007 x197000 x197001 x197002 x197003 x197004)) else (none)) else (none)) else (gambitref05_read.l0 k x0 x5 (wrap64 (x6 + 1)) x181000 x181001 x181002 x181003 x181004 x181005 x181006 x181007 x197000 x197001 x197002 x197003 x197004)) else (if x6 = 1 then (if x197001 = true then (if 0 ≤ x5 then (if x5 < (x0.length : Int) then ((gambitref03_Of.f k (rdOf ByteArray.empty x0 x5)).bind fun bt205 => (gambitref05_read.l0 k x0 (wrap64 (x5 + 1)) (wrap64 (x6 + 1)) x181000 x181001 x181002 x181003 bt205.1 x181005 x181006 x181007 x197000 x197001 x197002 x197003 x197004)) else (none)) else (none)) else (gambitref05_read.l0 k x0 x5 (wrap64 (x6 + 1)) x181000 x181001 x181002 x181003 x181004 x181005 x181006 x181007 x197000 x197001 x197002 x197003 x197004)) else (if x6 = 2 then (if x197002 = true then (if 0 ≤ x5 then (if x5 < (x0.length : Int) then ((gambitref04_Of.f k (rdOf ByteArray.empty x0 x5)).bind fun bt208 => (gambitref05_read.l0 k x0 (wrap64 (x5 + 1)) (wrap64 (x6 + 1)) x181000 x181001 x181002 x181003 x181004 bt208.1 x181006 x181007 x197000 x197001 x197002 x197003 x197004)) else (none)) else (none)) else (gambitref05_read.l0 k x0 x5 (wrap64 (x6 + 1)) x181000 x181001 x181002 x181003 x181004 x181005 x181006 x181007 x197000 x197001 x197002 x197003 x197004)) else (if x6 = 3 then (if x197003 = true then (if 0 ≤ x5 then (if x5 < (x0.length : Int) then ((gambitref05_number.f k (rdOf ByteArray.empty x0 x5)).bind fun t211 => (gambitref05_read.l0 k x0 (wrap64 (x5 + 1)) (wrap64 (x6 + 1)) x181000 x181001 x181002 x181003 x181004 x181005 ((Int.tmod t211 200) % 256) x181007 x197000 x197001 x197002 x197003 x197004)) else (none)) else (none)) else (gambitref05_read.l0 k x0 x5 (wrap64 (x6 + 1)) x181000 x181001 x181002 x181003 x181004 x181005 x181006 x181007 x197000 x197001 x197002 x197003 x197004)) else (if x6 = 4 then (if x197004 = true then (if 0 ≤ x5 then (if x5 < (x0.length : Int) then (gambitref05_read.l0 k x0 (wrap64 (x5 + 1)) (wrap64 (x6 + 1)) x181000 x181001 x181002 x181003 x181004 x181005 x181006 (rdOf ByteArray.empty x0 x5) x197000 x197001 x197002 x197003 x197004) else (none)) else (none)) else (gambitref05_read.l0 k x0 x5 (wrap64 (x6 + 1)) x181000 x181001 x181002 x181003 x181004 x181005 x181006 x181007 x197000 x197001 x197002 x197003 x197004)) else (none)))))) else (some (x181000, x181001, x181002, x181003, x181004, x181005, x181006, x181007))
end
def gambitref05_read.f (k : Nat) (l0 : List ByteArray) : Option (Int × Int × Int × Int × Int × Int × Int × ByteArray) := if (l0.length : Int) < 3 then (some (0, 0, 0, 0, 0, 0, 0, (⟨#[]⟩ : ByteArray))) else ((gambitref05_whens.f).bind fun t181 => (if 0 < (l0.length : Int) then ((gambitref05_place.f k t181 (rdOf ByteArray.empty l0 0)).bind fun t185 => ((gambitref05_verbs.f).bind fun t186 => (if 1 < (l0.length : Int) then ((gambitref05_place.f k t186 (rdOf ByteArray.empty l0 1)).bind fun t190 => ((gambitref05_whoms.f).bind fun t191 => (if 2 < (l0.length : Int) then ((gambitref05_place.f k t191 (rdOf ByteArray.empty l0 2)).bind fun t195 => ((gambitref05_Uses.f k ((t190) % 256) ((t195) % 256)).bind fun bt197 => (gambitref05_read.l0 k l0 3 0 ((t185) % 256) ((t190) % 256) ((t195) % 256) 0 0 0 0 (⟨#[]⟩ : ByteArray) bt197.1 bt197.2.1 bt197.2.2.1 bt197.2.2.2.1 bt197.2.2.2.2))) else (none)))) else (none)))) else (none)))
theorem gambitref05_read.mono_l : ∀ k, (∀ y0 y1 y2 y3 y4 y5 y6 y7 y8 y9 y10 y11 y12 y13 y14 y15, LeO (gambitref05_read.l0 k y0 y1 y2 y3 y4 y5 y6 y7 y8 y9 y10 y11 y12 y13 y14 y15) (gambitref05_read.l0 (k + 1) y0 y1 y2 y3 y4 y5 y6 y7 y8 y9 y10 y11 y12 y13 y14 y15)) ∧ (∀ y0 y1 y2 y3 y4 y5 y6 y7 y8 y9 y10 y11 y12 y13 y14 y15 y16, LeO (gambitref05_read.j1 k y0 y1 y2 y3 y4 y5 y6 y7 y8 y9 y10 y11 y12 y13 y14 y15 y16) (gambitref05_read.j1 (k + 1) y0 y1 y2 y3 y4 y5 y6 y7 y8 y9 y10 y11 y12 y13 y14 y15 y16))
 | 0 => ⟨fun _ _ _ _ _ _ _ _ _ _ _ _ _ _ _ _ r h => by simp [gambitref05_read.l0] at h, fun _ _ _ _ _ _ _ _ _ _ _ _ _ _ _ _ _ r h => by simp [gambitref05_read.j1] at h⟩
 | k + 1 => by
  obtain ⟨ih0, ih1⟩ := gambitref05_read.mono_l k
  refine ⟨?_, ?_⟩
  ·intro y0 y1 y2 y3 y4 y5 y6 y7 y8 y9 y10 y11 y12 y13 y14 y15
   unfold gambitref05_read.l0
   repeat' first
   | (with_reducible exact ih0 _ _ _ _ _ _ _ _ _ _ _ _ _ _ _ _)
   | (with_reducible exact ih1 _ _ _ _ _ _ _ _ _ _ _ _ _ _ _ _ _)
   | (with_reducible exact gambitref03_Of.mono _ _)
   | (with_reducible exact gambitref04_Of.mono _ _)
   | (with_reducible exact gambitref05_Uses.mono _ _ _)
   | (with_reducible exact gambitref05_number.mono _ _)
   | (with_reducible exact gambitref05_place.mono _ _ _)
   | (with_reducible exact LeO.refl _)
   | (with_reducible exact LeO.none _)
   | (with_reducible refine LeO.ite ?_ ?_)
   | (with_reducible refine LeO.bind ?_ (fun _ => ?_))
   | exact ih0 _ _ _ _ _ _ _ _ _ _ _ _ _ _ _ _
   | exact ih1 _ _ _ _ _ _ _ _ _ _ _ _ _ _ _ _ _
   | exact gambitref03_Of.mono _ _
   | exact gambitref04_Of.mono _ _
   | exact gambitref05_Uses.mono _ _ _
   | exact gambitref05_number.mono _ _
   | exact gambitref05_place.mono _ _ _
   | exact LeO.none _
   | refine LeO.ite ?_ ?_
   | refine LeO.bind ?_ (fun _ => ?_)
  ·intro y0 y1 y2 y3 y4 y5 y6 y7 y8 y9 y10 y11 y12 y13 y14 y15 y16
   unfold gambitref05_read.j1
   repeat' first
   | (with_reducible exact ih0 _ _ _ _ _ _ _ _ _ _ _ _ _ _ _ _)
   | (with_reducible exact ih1 _ _ _ _ _ _ _ _ _ _ _ _ _ _ _ _ _)
   | (with_reducible exact gambitref03_Of.mono _ _)
   | (with_reducible exact gambitref04_Of.mono _ _)
   | (with_reducible exact gambitref05_Uses.mono _ _ _)
   | (with_reducible exact gambitref05_number.mono _ _)
   | (with_reducible exact gambitref05_place.mono _ _ _)
   | (with_reducible exact LeO.refl _)
   | (with_reducible exact LeO.none _)
   | (with_reducible refine LeO.ite ?_ ?_)
   | (with_reducible refine LeO.bind ?_ (fun _ => ?_))
   | exact ih0 _ _ _ _ _ _ _ _ _ _ _ _ _ _ _ _
   | exact ih1 _ _ _ _ _ _ _ _ _ _ _ _ _ _ _ _ _
   | exact gambitref03_Of.mono _ _
   | exact gambitref04_Of.mono _ _
   | exact gambitref05_Uses.mono _ _ _
   | exact gambitref05_number.mono _ _
   | exact gambitref05_place.mono _ _ _
   | exact LeO.none _
   | refine LeO.ite ?_ ?_
   | refine LeO.bind ?_ (fun _ => ?_)
theorem gambitref05_read.mono : ∀ a0 k, LeO (gambitref05_read.f k a0) (gambitref05_read.f (k + 1) a0) := by
 intro a0 k
 obtain ⟨ih0, ih1⟩ := gambitref05_read.mono_l k
 unfold gambitref05_read.f
 repeat' first
   | (with_reducible exact ih0 _ _ _ _ _ _ _ _ _ _ _ _ _ _ _ _)
   | (with_reducible exact ih1 _ _ _ _ _ _ _ _ _ _ _ _ _ _ _ _ _)
   | (with_reducible exact gambitref03_Of.mono _ _)
   | (with_reducible exact gambitref04_Of.mono _ _)
   | (with_reducible exact gambitref05_Uses.mono _ _ _)
   | (with_reducible exact gambitref05_number.mono _ _)
   | (with_reducible exact gambitref05_place.mono _ _ _)
   | (with_reducible exact LeO.refl _)
   | (with_reducible exact LeO.none _)
   | (with_reducible refine LeO.ite ?_ ?_)
   | (with_reducible refine LeO.bind ?_ (fun _ => ?_))
   | exact ih0 _ _ _ _ _ _ _ _ _ _ _ _ _ _ _ _
   | exact ih1 _ _ _ _ _ _ _ _ _ _ _ _ _ _ _ _ _
   | exact gambitref03_Of.mono _ _
   | exact gambitref04_Of.mono _ _
   | exact gambitref05_Uses.mono _ _ _
   | exact gambitref05_number.mono _ _
   | exact gambitref05_place.mono _ _ _
   | exact LeO.none _
   | refine LeO.ite ?_ ?_
   | refine LeO.bind ?_ (fun _ => ?_)
end Go.Proofs.YtfpcideomanbbaaGreatDoor.PA
end
section
namespace Go.Proofs.YtfpcideomanbbaaGreatDoor.PA
open Go.RowKit Go.Proofs.YtfpcideomanbbaaGreatDoorW.PrintWords Go.Proofs.YtfpcideomanbbaaGreatDoorW.PrintLast Go.Proofs.YtfpcideomanbbaaGreatDoorW.PrintMore
attribute [local go_sem] max2_int min2_int max_two min_two max_three min_three max_four min_four
set_option linter.unusedVariables false
set_option linter.unusedSimpArgs false
def gambitref05_Parse.f (k : Nat) (a0 : ByteArray) : Option (Int × Int × Int × Int × Int × Int × Int × ByteArray × Int) := if (a0.size : Int) > 80 then (some (0, 0, 0, 0, 0, 0, 0, (⟨#[]⟩ : ByteArray), 3)) else ((gambitref05_Cut.f k a0).bind fun t220 => ((gambitref05_read.f k t220).bind fun bt223 => ((gambitref05_Print.f k bt223.1 bt223.2.1 bt223.2.2.1 bt223.2.2.2.1 bt223.2.2.2.2.1 bt223.2.2.2.2.2.1 bt223.2.2.2.2.2.2.1 bt223.2.2.2.2.2.2.2).bind fun bt232 => (if bt232.2 = 0 then (if bt232.1.toList = a0.toList then (some (bt223.1, bt223.2.1, bt223.2.2.1, bt223.2.2.2.1, bt223.2.2.2.2.1, bt223.2.2.2.2.2.1, bt223.2.2.2.2.2.2.1, bt223.2.2.2.2.2.2.2, 0)) else (some (0, 0, 0, 0, 0, 0, 0, (⟨#[]⟩ : ByteArray), 150))) else (some (0, 0, 0, 0, 0, 0, 0, (⟨#[]⟩ : ByteArray), 150))))))
theorem gambitref05_Parse.mono : ∀ a0 k, LeO (gambitref05_Parse.f k a0) (gambitref05_Parse.f (k + 1) a0) := by
 intro a0 k
 unfold gambitref05_Parse.f
 repeat' first
   | (with_reducible exact gambitref05_Cut.mono _ _)
   | (with_reducible exact gambitref05_Print.mono _ _ _ _ _ _ _ _ _)
   | (with_reducible exact gambitref05_read.mono _ _)
   | (with_reducible exact LeO.refl _)
   | (with_reducible exact LeO.none _)
   | (with_reducible refine LeO.ite ?_ ?_)
   | (with_reducible refine LeO.bind ?_ (fun _ => ?_))
   | exact gambitref05_Cut.mono _ _
   | exact gambitref05_Print.mono _ _ _ _ _ _ _ _ _
   | exact gambitref05_read.mono _ _
   | exact LeO.none _
   | refine LeO.ite ?_ ?_
   | refine LeO.bind ?_ (fun _ => ?_)
end Go.Proofs.YtfpcideomanbbaaGreatDoor.PA
end
section
namespace Go.Proofs.YtfpcideomanbbaaGreatDoor.PA
open Go.RowKit Go.Proofs.YtfpcideomanbbaaGreatDoorW.PrintWords Go.Proofs.YtfpcideomanbbaaGreatDoorW.PrintLast Go.Proofs.YtfpcideomanbbaaGreatDoorW.PrintMore
attribute [local go_sem] max2_int min2_int max_two min_two max_three min_three max_four min_four
set_option linter.unusedVariables false
set_option linter.unusedSimpArgs false
theorem eqA48 (d : Nat) (w : World) (x0 y0 : Int) (x1 y1 : Int) (x2 y2 : Int) (x3 y3 : Int) (x4 y4 : Int) (x5 y5 : Int) (x6 y6 : Int) (x7 y7 : ByteArray) :
  (Op.equalIn (d + 2) 48 (.agg #[.int .u8 x0, .int .u8 x1, .int .u8 x2, .int .i64 x3, .int .u8 x4, .int .u8 x5, .int .u8 x6, .string x7]) (.agg #[.int .u8 y0, .int .u8 y1, .int .u8 y2, .int .i64 y3, .int .u8 y4, .int .u8 y5, .int .u8 y6, .string y7])).run Tryz.prog w = .ok (x0 == y0 && (x1 == y1 && (x2 == y2 && (x3 == y3 && (x4 == y4 && (x5 == y5 && (x6 == y6 && (x7.toList == y7.toList)))))))) w := by
 refine eqA_of Tryz.underlying48 (by kernel_rfl) ?_
 refine eqf_cons (by rfl) (by go_simp; rfl) (by go_simp; rfl) (by go_simp) ?_
 refine eqf_cons (by rfl) (by go_simp; rfl) (by go_simp; rfl) (by go_simp) ?_
 refine eqf_cons (by rfl) (by go_simp; rfl) (by go_simp; rfl) (by go_simp) ?_
 refine eqf_cons (by rfl) (by go_simp; rfl) (by go_simp; rfl) (by go_simp) ?_
 refine eqf_cons (by rfl) (by go_simp; rfl) (by go_simp; rfl) (by go_simp) ?_
 refine eqf_cons (by rfl) (by go_simp; rfl) (by go_simp; rfl) (by go_simp) ?_
 refine eqf_cons (by rfl) (by go_simp; rfl) (by go_simp; rfl) (by go_simp) ?_
 exact eqf_last (by rfl) (by go_simp; rfl) (by go_simp; rfl) (by go_simp)
end Go.Proofs.YtfpcideomanbbaaGreatDoor.PA
end
section
namespace Go.Proofs.YtfpcideomanbbaaGreatDoor
open Go.ChangeShapes Go.WideShapes Go.ChangeAt Go.RowKit Go.Deep Go.Joins
section
variable {H : Type} {enc : TypeId × Value → H} {P : Program} {w : World} {base : Nat} {spare : Nat → Bool} {held : Bool}
theorem array8 {α : Type} {cs : Array α} (h : cs.size = 8) : ∃ c0 c1 c2 c3 c4 c5 c6 c7, cs = #[c0, c1, c2, c3, c4, c5, c6, c7] := by
  obtain ⟨l⟩ := cs
  match l, h with
  | [c0, c1, c2, c3, c4, c5, c6, c7], _ => exact ⟨c0, c1, c2, c3, c4, c5, c6, c7, rfl⟩
theorem part_size : Tryz.prog.cellsOf 48 = 8 := by kernel_rfl
set_option maxRecDepth 100000 in
theorem open_part {r : Reach} {b0 : Nat} {v : Value} {d : DataW H} {p : List MemPlace} (hv : Value.okWide Tryz.prog w r b0 48 v) (h : DataW.Trod enc Tryz.prog w base spare held 48 v d p) :
    ∃ (a0 a1 a2 a3 a4 a5 a6 : Int) (a7 : ByteArray), v = .agg #[.int .u8 a0, .int .u8 a1, .int .u8 a2, .int .i64 a3, .int .u8 a4, .int .u8 a5, .int .u8 a6, .string a7] := by
  obtain ⟨cs, rfl, hsz⟩ := okWide_struct Tryz.underlying48 hv
  obtain ⟨c0, c1, c2, c3, c4, c5, c6, c7, rfl⟩ := array8 (hsz.trans part_size)
  obtain ⟨fuel, hf⟩ := h
  obtain ⟨xs, n, _, hx, _, hlen, hg⟩ := DataW.trod_struct Tryz.underlying48 hf
  have k4 : Tryz.prog.cellsOf 42 = 1 := by kernel_rfl
  have k43 : Tryz.prog.cellsOf 43 = 1 := by kernel_rfl
  have k44 : Tryz.prog.cellsOf 44 = 1 := by kernel_rfl
  have k3 : Tryz.prog.cellsOf 3 = 1 := by kernel_rfl
  have k22 : Tryz.prog.cellsOf 22 = 1 := by kernel_rfl
  have k45 : Tryz.prog.cellsOf 45 = 1 := by kernel_rfl
  have k46 : Tryz.prog.cellsOf 46 = 1 := by kernel_rfl
  have k9 : Tryz.prog.cellsOf 9 = 1 := by kernel_rfl
  match xs, hlen with
  | [y0, y1, y2, y3, y4, y5, y6, y7], _ =>
    have g0 : DataW.trod enc Tryz.prog w base spare held n 42 [c0] = some y0 := by simpa [Value.cells, k4] using hg 0 _ rfl
    have g1 : DataW.trod enc Tryz.prog w base spare held n 43 [c1] = some y1 := by simpa [Value.cells, k43] using hg 1 _ rfl
    have g2 : DataW.trod enc Tryz.prog w base spare held n 44 [c2] = some y2 := by simpa [Value.cells, k44] using hg 2 _ rfl
    have g3 : DataW.trod enc Tryz.prog w base spare held n 3 [c3] = some y3 := by simpa [Value.cells, k3] using hg 3 _ rfl
    have g4 : DataW.trod enc Tryz.prog w base spare held n 22 [c4] = some y4 := by simpa [Value.cells, k22] using hg 4 _ rfl
    have g5 : DataW.trod enc Tryz.prog w base spare held n 45 [c5] = some y5 := by simpa [Value.cells, k45] using hg 5 _ rfl
    have g6 : DataW.trod enc Tryz.prog w base spare held n 46 [c6] = some y6 := by simpa [Value.cells, k46] using hg 6 _ rfl
    have g7 : DataW.trod enc Tryz.prog w base spare held n 9 [c7] = some y7 := by simpa [Value.cells, k9] using hg 7 _ rfl
    obtain ⟨a0, e0, _⟩ := DataW.trod_int (k := .u8) (by kernel_rfl) g0
    obtain ⟨a1, e1, _⟩ := DataW.trod_int (k := .u8) (by kernel_rfl) g1
    obtain ⟨a2, e2, _⟩ := DataW.trod_int (k := .u8) (by kernel_rfl) g2
    obtain ⟨a3, e3, _⟩ := DataW.trod_int (k := .i64) (by kernel_rfl) g3
    obtain ⟨a4, e4, _⟩ := DataW.trod_int (k := .u8) (by kernel_rfl) g4
    obtain ⟨a5, e5, _⟩ := DataW.trod_int (k := .u8) (by kernel_rfl) g5
    obtain ⟨a6, e6, _⟩ := DataW.trod_int (k := .u8) (by kernel_rfl) g6
    obtain ⟨a7, e7, _⟩ := DataW.trod_string (by kernel_rfl) g7
    obtain rfl := List.cons.inj e0 |>.1
    obtain rfl := List.cons.inj e1 |>.1
    obtain rfl := List.cons.inj e2 |>.1
    obtain rfl := List.cons.inj e3 |>.1
    obtain rfl := List.cons.inj e4 |>.1
    obtain rfl := List.cons.inj e5 |>.1
    obtain rfl := List.cons.inj e6 |>.1
    obtain rfl := List.cons.inj e7 |>.1
    exact ⟨a0, a1, a2, a3, a4, a5, a6, a7, rfl⟩
end
end Go.Proofs.YtfpcideomanbbaaGreatDoor
end
