/-
  Part 4 of a proof in 8 parts: lemmas, contracts and plain laws that its last part joins; no conditions of its own.
-/
import Derived.Test.YtfpcideomanbbaaGreatDoorProg
import Derived.Test.YtfpcideomanbbaaGreatDoorEZ
import Derived.Test.YtfpcideomanbbaaGreatDoorE1
import Derived.Test.YtfpcideomanbbaaGreatDoorE2
import Derived.Test.YtfpcideomanbbaaGreatDoorE3
import Derived.WalkKit
import Derived.WalkSmall
import Derived.Below
import Derived.Lib.LaidTab
import Derived.KernelRfl
import Derived.Lib.ItoaNum
import Derived.Lib.Space
import Derived.Lib.AtoiErrMem
import Derived.Deep.Draws
import Derived.Deep.AppendLies
import Derived.Maps.AppendAt
import Derived.OwnWalk
import Derived.Laws.BytesArg
import Derived.Laws.MakeOwn
import Derived.Laws.OwnMore
import Derived.Deep.OwnRows
import Derived.Tactics
import Derived.Lib.ConvBytes
import Derived.Laws.Slices
import Derived.RowKit3
import Derived.Deep.LoopGhost
import Derived.Deep.QuietTactic
import Derived.BigQuiet
import Derived.WideLaws
import Derived.Deep.DeepCutAuto
import Derived.Deep.CutBlock
import Derived.Deep.RegionHeld3
import Derived.Laws.Rows
import Derived.Lib.AppendStr
import Derived.ArgAppend
import Derived.Laws.IdiomCopy
import Derived.RowKit
import Derived.OrdersHeld
import Derived.Laws.BitsLemmas
import Derived.Laws.StructEq
set_option linter.unusedVariables false
set_option linter.unusedSimpArgs false
section
namespace Go.Proofs.YtfpcideomanbbaaGreatDoor.PA
open Go.RowKit Go.Proofs.YtfpcideomanbbaaGreatDoorW.PrintWords Go.Proofs.YtfpcideomanbbaaGreatDoorW.PrintLast Go.Proofs.YtfpcideomanbbaaGreatDoorW.PrintMore
attribute [local go_sem] max2_int min2_int max_two min_two max_three min_three max_four min_four
set_option linter.unusedVariables false
set_option linter.unusedSimpArgs false
mutual
def gambitref05_Print.j0 : Nat → ByteArray → Bool → Bool → Bool → Bool → Int → Int → Int → Int → Int → Int → Int → ByteArray → Option (ByteArray × Int)
 | 0, _, _, _, _, _, _, _, _, _, _, _, _, _ => none
 | k + 1, x5, x7, x8, x9, x10, x150000, x150001, x150002, x150003, x150004, x150005, x150006, x150007 => if x7 = true then (if x5.size + 1 ≤ 9223372036854775807 then ((gambitref03_Name.f x150004).bind fun t169 => (if (x5 ++ (⟨#[32]⟩ : ByteArray)).size + t169.size ≤ 9223372036854775807 then (gambitref05_Print.j1 k ((x5 ++ (⟨#[32]⟩ : ByteArray)) ++ t169) x8 x9 x10 x150000 x150001 x150002 x150003 x150004 x150005 x150006 x150007) else (none))) else (none)) else (gambitref05_Print.j1 k x5 x8 x9 x10 x150000 x150001 x150002 x150003 x150004 x150005 x150006 x150007)
def gambitref05_Print.j1 : Nat → ByteArray → Bool → Bool → Bool → Int → Int → Int → Int → Int → Int → Int → ByteArray → Option (ByteArray × Int)
 | 0, _, _, _, _, _, _, _, _, _, _, _, _ => none
 | k + 1, x5, x8, x9, x10, x150000, x150001, x150002, x150003, x150004, x150005, x150006, x150007 => if x8 = true then (if x5.size + 1 ≤ 9223372036854775807 then ((gambitref04_Name.f k x150005).bind fun t170 => (if (x5 ++ (⟨#[32]⟩ : ByteArray)).size + t170.size ≤ 9223372036854775807 then (gambitref05_Print.j2 k ((x5 ++ (⟨#[32]⟩ : ByteArray)) ++ t170) x9 x10 x150000 x150001 x150002 x150003 x150004 x150005 x150006 x150007) else (none))) else (none)) else (gambitref05_Print.j2 k x5 x9 x10 x150000 x150001 x150002 x150003 x150004 x150005 x150006 x150007)
def gambitref05_Print.j2 : Nat → ByteArray → Bool → Bool → Int → Int → Int → Int → Int → Int → Int → ByteArray → Option (ByteArray × Int)
 | 0, _, _, _, _, _, _, _, _, _, _, _ => none
 | k + 1, x5, x9, x10, x150000, x150001, x150002, x150003, x150004, x150005, x150006, x150007 => if x9 = true then (if x5.size + 1 ≤ 9223372036854775807 then ((gambitref05_Digits.f k (wrap64 (x150006))).bind fun t171 => (if (x5 ++ (⟨#[32]⟩ : ByteArray)).size + t171.size ≤ 9223372036854775807 then (if x10 = true then (if ((x5 ++ (⟨#[32]⟩ : ByteArray)) ++ t171).size + 1 ≤ 9223372036854775807 then (if (((x5 ++ (⟨#[32]⟩ : ByteArray)) ++ t171) ++ (⟨#[32]⟩ : ByteArray)).size + x150007.size ≤ 9223372036854775807 then (some ((((x5 ++ (⟨#[32]⟩ : ByteArray)) ++ t171) ++ (⟨#[32]⟩ : ByteArray)) ++ x150007, 0)) else (none)) else (none)) else (some ((x5 ++ (⟨#[32]⟩ : ByteArray)) ++ t171, 0))) else (none))) else (none)) else (if x10 = true then (if x5.size + 1 ≤ 9223372036854775807 then (if (x5 ++ (⟨#[32]⟩ : ByteArray)).size + x150007.size ≤ 9223372036854775807 then (some ((x5 ++ (⟨#[32]⟩ : ByteArray)) ++ x150007, 0)) else (none)) else (none)) else (some (x5, 0)))
end
def gambitref05_Print.f (k : Nat) (a0_0 : Int) (a0_1 : Int) (a0_2 : Int) (a0_3 : Int) (a0_4 : Int) (a0_5 : Int) (a0_6 : Int) (a0_7 : ByteArray) : Option (ByteArray × Int) := (gambitref05_Check.f k a0_0 a0_1 a0_2 a0_3 a0_4 a0_5 a0_6 a0_7).bind fun t150 => (if t150 = 0 then ((gambitref05_whens.f).bind fun t151 => (if 0 ≤ ((a0_0 - 1) % 256) then (if ((a0_0 - 1) % 256) < (t151.length : Int) then (if (rdOf ByteArray.empty t151 ((a0_0 - 1) % 256)).size + 1 ≤ 9223372036854775807 then ((gambitref05_verbs.f).bind fun t155 => (if 0 ≤ ((a0_1 - 1) % 256) then (if ((a0_1 - 1) % 256) < (t155.length : Int) then (if ((rdOf ByteArray.empty t151 ((a0_0 - 1) % 256)) ++ (⟨#[32]⟩ : ByteArray)).size + (rdOf ByteArray.empty t155 ((a0_1 - 1) % 256)).size ≤ 9223372036854775807 then (if (((rdOf ByteArray.empty t151 ((a0_0 - 1) % 256)) ++ (⟨#[32]⟩ : ByteArray)) ++ (rdOf ByteArray.empty t155 ((a0_1 - 1) % 256))).size + 1 ≤ 9223372036854775807 then ((gambitref05_whoms.f).bind fun t159 => (if 0 ≤ ((a0_2 - 1) % 256) then (if ((a0_2 - 1) % 256) < (t159.length : Int) then (if ((((rdOf ByteArray.empty t151 ((a0_0 - 1) % 256)) ++ (⟨#[32]⟩ : ByteArray)) ++ (rdOf ByteArray.empty t155 ((a0_1 - 1) % 256))) ++ (⟨#[32]⟩ : ByteArray)).size + (rdOf ByteArray.empty t159 ((a0_2 - 1) % 256)).size ≤ 9223372036854775807 then ((gambitref05_Uses.f k a0_1 a0_2).bind fun bt163 => (if bt163.1 = true then (if (((((rdOf ByteArray.empty t151 ((a0_0 - 1) % 256)) ++ (⟨#[32]⟩ : ByteArray)) ++ (rdOf ByteArray.empty t155 ((a0_1 - 1) % 256))) ++ (⟨#[32]⟩ : ByteArray)) ++ (rdOf ByteArray.empty t159 ((a0_2 - 1) % 256))).size + 1 ≤ 9223372036854775807 then ((gambitref05_Digits.f k a0_3).bind fun t168 => (if ((((((rdOf ByteArray.empty t151 ((a0_0 - 1) % 256)) ++ (⟨#[32]⟩ : ByteArray)) ++ (rdOf ByteArray.empty t155 ((a0_1 - 1) % 256))) ++ (⟨#[32]⟩ : ByteArray)) ++ (rdOf ByteArray.empty t159 ((a0_2 - 1) % 256))) ++ (⟨#[32]⟩ : ByteArray)).size + t168.size ≤ 9223372036854775807 then (gambitref05_Print.j0 k (((((((rdOf ByteArray.empty t151 ((a0_0 - 1) % 256)) ++ (⟨#[32]⟩ : ByteArray)) ++ (rdOf ByteArray.empty t155 ((a0_1 - 1) % 256))) ++ (⟨#[32]⟩ : ByteArray)) ++ (rdOf ByteArray.empty t159 ((a0_2 - 1) % 256))) ++ (⟨#[32]⟩ : ByteArray)) ++ t168) bt163.2.1 bt163.2.2.1 bt163.2.2.2.1 bt163.2.2.2.2 a0_0 a0_1 a0_2 a0_3 a0_4 a0_5 a0_6 a0_7) else (none))) else (none)) else (gambitref05_Print.j0 k (((((rdOf ByteArray.empty t151 ((a0_0 - 1) % 256)) ++ (⟨#[32]⟩ : ByteArray)) ++ (rdOf ByteArray.empty t155 ((a0_1 - 1) % 256))) ++ (⟨#[32]⟩ : ByteArray)) ++ (rdOf ByteArray.empty t159 ((a0_2 - 1) % 256))) bt163.2.1 bt163.2.2.1 bt163.2.2.2.1 bt163.2.2.2.2 a0_0 a0_1 a0_2 a0_3 a0_4 a0_5 a0_6 a0_7))) else (none)) else (none)) else (none))) else (none)) else (none)) else (none)) else (none))) else (none)) else (none)) else (none))) else (some ((⟨#[]⟩ : ByteArray), t150)))
theorem gambitref05_Print.mono_l : ∀ k, (∀ y0 y1 y2 y3 y4 y5 y6 y7 y8 y9 y10 y11 y12, LeO (gambitref05_Print.j0 k y0 y1 y2 y3 y4 y5 y6 y7 y8 y9 y10 y11 y12) (gambitref05_Print.j0 (k + 1) y0 y1 y2 y3 y4 y5 y6 y7 y8 y9 y10 y11 y12)) ∧ (∀ y0 y1 y2 y3 y4 y5 y6 y7 y8 y9 y10 y11, LeO (gambitref05_Print.j1 k y0 y1 y2 y3 y4 y5 y6 y7 y8 y9 y10 y11) (gambitref05_Print.j1 (k + 1) y0 y1 y2 y3 y4 y5 y6 y7 y8 y9 y10 y11)) ∧ (∀ y0 y1 y2 y3 y4 y5 y6 y7 y8 y9 y10, LeO (gambitref05_Print.j2 k y0 y1 y2 y3 y4 y5 y6 y7 y8 y9 y10) (gambitref05_Print.j2 (k + 1) y0 y1 y2 y3 y4 y5 y6 y7 y8 y9 y10))
 | 0 => ⟨fun _ _ _ _ _ _ _ _ _ _ _ _ _ r h => by simp [gambitref05_Print.j0] at h, fun _ _ _ _ _ _ _ _ _ _ _ _ r h => by simp [gambitref05_Print.j1] at h, fun _ _ _ _ _ _ _ _ _ _ _ r h => by simp [gambitref05_Print.j2] at h⟩
 | k + 1 => by
  obtain ⟨ih0, ih1, ih2⟩ := gambitref05_Print.mono_l k
  refine ⟨?_, ?_, ?_⟩
  ·intro y0 y1 y2 y3 y4 y5 y6 y7 y8 y9 y10 y11 y12
   unfold gambitref05_Print.j0
   repeat' first
   | (with_reducible exact ih0 _ _ _ _ _ _ _ _ _ _ _ _ _)
   | (with_reducible exact ih1 _ _ _ _ _ _ _ _ _ _ _ _)
   | (with_reducible exact ih2 _ _ _ _ _ _ _ _ _ _ _)
   | (with_reducible exact gambitref04_Name.mono _ _)
   | (with_reducible exact gambitref05_Check.mono _ _ _ _ _ _ _ _ _)
   | (with_reducible exact gambitref05_Digits.mono _ _)
   | (with_reducible exact gambitref05_Uses.mono _ _ _)
   | (with_reducible exact LeO.refl _)
   | (with_reducible exact LeO.none _)
   | (with_reducible refine LeO.ite ?_ ?_)
   | (with_reducible refine LeO.bind ?_ (fun _ => ?_))
   | exact ih0 _ _ _ _ _ _ _ _ _ _ _ _ _
   | exact ih1 _ _ _ _ _ _ _ _ _ _ _ _
   | exact ih2 _ _ _ _ _ _ _ _ _ _ _
   | exact gambitref04_Name.mono _ _
   | exact gambitref05_Check.mono _ _ _ _ _ _ _ _ _
   | exact gambitref05_Digits.mono _ _
   | exact gambitref05_Uses.mono _ _ _
   | exact LeO.none _
   | refine LeO.ite ?_ ?_
   | refine LeO.bind ?_ (fun _ => ?_)
  ·intro y0 y1 y2 y3 y4 y5 y6 y7 y8 y9 y10 y11
   unfold gambitref05_Print.j1
   repeat' first
   | (with_reducible exact ih0 _ _ _ _ _ _ _ _ _ _ _ _ _)
   | (with_reducible exact ih1 _ _ _ _ _ _ _ _ _ _ _ _)
   | (with_reducible exact ih2 _ _ _ _ _ _ _ _ _ _ _)
   | (with_reducible exact gambitref04_Name.mono _ _)
   | (with_reducible exact gambitref05_Check.mono _ _ _ _ _ _ _ _ _)
   | (with_reducible exact gambitref05_Digits.mono _ _)
   | (with_reducible exact gambitref05_Uses.mono _ _ _)
   | (with_reducible exact LeO.refl _)
   | (with_reducible exact LeO.none _)
   | (with_reducible refine LeO.ite ?_ ?_)
   | (with_reducible refine LeO.bind ?_ (fun _ => ?_))
   | exact ih0 _ _ _ _ _ _ _ _ _ _ _ _ _
   | exact ih1 _ _ _ _ _ _ _ _ _ _ _ _
   | exact ih2 _ _ _ _ _ _ _ _ _ _ _
   | exact gambitref04_Name.mono _ _
   | exact gambitref05_Check.mono _ _ _ _ _ _ _ _ _
   | exact gambitref05_Digits.mono _ _
   | exact gambitref05_Uses.mono _ _ _
   | exact LeO.none _
   | refine LeO.ite ?_ ?_
   | refine LeO.bind ?_ (fun _ => ?_)
  ·intro y0 y1 y2 y3 y4 y5 y6 y7 y8 y9 y10
   unfold gambitref05_Print.j2
   repeat' first
   | (with_reducible exact ih0 _ _ _ _ _ _ _ _ _ _ _ _ _)
   | (with_reducible exact ih1 _ _ _ _ _ _ _ _ _ _ _ _)
   | (with_reducible exact ih2 _ _ _ _ _ _ _ _ _ _ _)
   | (with_reducible exact gambitref04_Name.mono _ _)
   | (with_reducible exact gambitref05_Check.mono _ _ _ _ _ _ _ _ _)
   | (with_reducible exact gambitref05_Digits.mono _ _)
   | (with_reducible exact gambitref05_Uses.mono _ _ _)
   | (with_reducible exact LeO.refl _)
   | (with_reducible exact LeO.none _)
   | (with_reducible refine LeO.ite ?_ ?_)
   | (with_reducible refine LeO.bind ?_ (fun _ => ?_))
   | exact ih0 _ _ _ _ _ _ _ _ _ _ _ _ _
   | exact ih1 _ _ _ _ _ _ _ _ _ _ _ _
   | exact ih2 _ _ _ _ _ _ _ _ _ _ _
   | exact gambitref04_Name.mono _ _
   | exact gambitref05_Check.mono _ _ _ _ _ _ _ _ _
   | exact gambitref05_Digits.mono _ _
   | exact gambitref05_Uses.mono _ _ _
   | exact LeO.none _
   | refine LeO.ite ?_ ?_
   | refine LeO.bind ?_ (fun _ => ?_)
theorem gambitref05_Print.mono : ∀ a0 a1 a2 a3 a4 a5 a6 a7 k, LeO (gambitref05_Print.f k a0 a1 a2 a3 a4 a5 a6 a7) (gambitref05_Print.f (k + 1) a0 a1 a2 a3 a4 a5 a6 a7) := by
 intro a0 a1 a2 a3 a4 a5 a6 a7 k
 obtain ⟨ih0, ih1, ih2⟩ := gambitref05_Print.mono_l k
 unfold gambitref05_Print.f
 repeat' first
   | (with_reducible exact ih0 _ _ _ _ _ _ _ _ _ _ _ _ _)
   | (with_reducible exact ih1 _ _ _ _ _ _ _ _ _ _ _ _)
   | (with_reducible exact ih2 _ _ _ _ _ _ _ _ _ _ _)
   | (with_reducible exact gambitref04_Name.mono _ _)
   | (with_reducible exact gambitref05_Check.mono _ _ _ _ _ _ _ _ _)
   | (with_reducible exact gambitref05_Digits.mono _ _)
   | (with_reducible exact gambitref05_Uses.mono _ _ _)
   | (with_reducible exact LeO.refl _)
   | (with_reducible exact LeO.none _)
   | (with_reducible refine LeO.ite ?_ ?_)
   | (with_reducible refine LeO.bind ?_ (fun _ => ?_))
   | exact ih0 _ _ _ _ _ _ _ _ _ _ _ _ _
   | exact ih1 _ _ _ _ _ _ _ _ _ _ _ _
   | exact ih2 _ _ _ _ _ _ _ _ _ _ _
   | exact gambitref04_Name.mono _ _
   | exact gambitref05_Check.mono _ _ _ _ _ _ _ _ _
   | exact gambitref05_Digits.mono _ _
   | exact gambitref05_Uses.mono _ _ _
   | exact LeO.none _
   | refine LeO.ite ?_ ?_
   | refine LeO.bind ?_ (fun _ => ?_)
def gambitref05_Print.T4 : Bool × List (List Nat × List Nat) := (true, [([], []), ([], []), ([1], [1]), ([2], [2]), ([0, 3], [0, 3]), ([4], [4]), ([5], [5]), ([0], []), ([], []), ([8], [8]), ([9], [9]), ([7, 10], [7, 10]), ([11], [11]), ([6, 12], [6, 12]), ([13], [13]), ([7], []), ([], []), ([16], [16]), ([17], [17]), ([15, 18], [15, 18]), ([19], [19]), ([14, 20], [14, 20]), ([21, 15, 0, 1, 2, 3, 4, 5, 6, 7, 8, 9, 10, 11, 12, 13, 14, 15, 16, 17, 18, 19, 20, 21], [21])])
def gambitref05_Print.B4 : List Nat := [0, 0, 2, 6, 15, 31, 63, 1, 0, 256, 768, 1921, 3969, 8191, 16383, 129, 0, 65536, 196608, 491649, 1015937, 2097151, 4194303]
theorem gambitref05_Print.tab4 : rtab .any (opsOf Tryz.f42 4) = gambitref05_Print.T4 := by kernel_rfl
theorem gambitref05_Print.bits4 : waitsOk gambitref05_Print.T4.2 gambitref05_Print.B4 = true := by kernel_rfl
set_option maxHeartbeats 8000000 in
set_option maxRecDepth 100000 in
theorem gambitref05_Print.calls (k : Nat) (a0_0 : Int) (a0_1 : Int) (a0_2 : Int) (a0_3 : Int) (a0_4 : Int) (a0_5 : Int) (a0_6 : Int) (a0_7 : ByteArray) (r1 : ByteArray) (r2 : Int) (w : World) (h : gambitref05_Print.f k a0_0 a0_1 a0_2 a0_3 a0_4 a0_5 a0_6 a0_7 = some (r1, r2)) :
  Calls Tryz.prog 42 #[.agg #[.int .u8 a0_0, .int .u8 a0_1, .int .u8 a0_2, .int .i64 a0_3, .int .u8 a0_4, .int .u8 a0_5, .int .u8 a0_6, .string a0_7]] w fun e w' => e = .returned (.tuple #[.string r1, .int .i64 r2]) ∧ Below w.heap.size w w' := by
 have hu48 := Tryz.underlying48
 have HB := Aside0.mk (Below.refl w.heap.size w)
 have H : ((gambitref05_Check.f k a0_0 a0_1 a0_2 a0_3 a0_4 a0_5 a0_6 a0_7).bind fun t150 => (if t150 = 0 then ((gambitref05_whens.f).bind fun t151 => (if 0 ≤ ((a0_0 - 1) % 256) then (if ((a0_0 - 1) % 256) < (t151.length : Int) then (if (rdOf ByteArray.empty t151 ((a0_0 - 1) % 256)).size + 1 ≤ 9223372036854775807 then ((gambitref05_verbs.f).bind fun t155 => (if 0 ≤ ((a0_1 - 1) % 256) then (if ((a0_1 - 1) % 256) < (t155.length : Int) then (if ((rdOf ByteArray.empty t151 ((a0_0 - 1) % 256)) ++ (⟨#[32]⟩ : ByteArray)).size + (rdOf ByteArray.empty t155 ((a0_1 - 1) % 256)).size ≤ 9223372036854775807 then (if (((rdOf ByteArray.empty t151 ((a0_0 - 1) % 256)) ++ (⟨#[32]⟩ : ByteArray)) ++ (rdOf ByteArray.empty t155 ((a0_1 - 1) % 256))).size + 1 ≤ 9223372036854775807 then ((gambitref05_whoms.f).bind fun t159 => (if 0 ≤ ((a0_2 - 1) % 256) then (if ((a0_2 - 1) % 256) < (t159.length : Int) then (if ((((rdOf ByteArray.empty t151 ((a0_0 - 1) % 256)) ++ (⟨#[32]⟩ : ByteArray)) ++ (rdOf ByteArray.empty t155 ((a0_1 - 1) % 256))) ++ (⟨#[32]⟩ : ByteArray)).size + (rdOf ByteArray.empty t159 ((a0_2 - 1) % 256)).size ≤ 9223372036854775807 then ((gambitref05_Uses.f k a0_1 a0_2).bind fun bt163 => (if bt163.1 = true then (if (((((rdOf ByteArray.empty t151 ((a0_0 - 1) % 256)) ++ (⟨#[32]⟩ : ByteArray)) ++ (rdOf ByteArray.empty t155 ((a0_1 - 1) % 256))) ++ (⟨#[32]⟩ : ByteArray)) ++ (rdOf ByteArray.empty t159 ((a0_2 - 1) % 256))).size + 1 ≤ 9223372036854775807 then ((gambitref05_Digits.f k a0_3).bind fun t168 => (if ((((((rdOf ByteArray.empty t151 ((a0_0 - 1) % 256)) ++ (⟨#[32]⟩ : ByteArray)) ++ (rdOf ByteArray.empty t155 ((a0_1 - 1) % 256))) ++ (⟨#[32]⟩ : ByteArray)) ++ (rdOf ByteArray.empty t159 ((a0_2 - 1) % 256))) ++ (⟨#[32]⟩ : ByteArray)).size + t168.size ≤ 9223372036854775807 then (gambitref05_Print.j0 k (((((((rdOf ByteArray.empty t151 ((a0_0 - 1) % 256)) ++ (⟨#[32]⟩ : ByteArray)) ++ (rdOf ByteArray.empty t155 ((a0_1 - 1) % 256))) ++ (⟨#[32]⟩ : ByteArray)) ++ (rdOf ByteArray.empty t159 ((a0_2 - 1) % 256))) ++ (⟨#[32]⟩ : ByteArray)) ++ t168) bt163.2.1 bt163.2.2.1 bt163.2.2.2.1 bt163.2.2.2.2 a0_0 a0_1 a0_2 a0_3 a0_4 a0_5 a0_6 a0_7) else (none))) else (none)) else (gambitref05_Print.j0 k (((((rdOf ByteArray.empty t151 ((a0_0 - 1) % 256)) ++ (⟨#[32]⟩ : ByteArray)) ++ (rdOf ByteArray.empty t155 ((a0_1 - 1) % 256))) ++ (⟨#[32]⟩ : ByteArray)) ++ (rdOf ByteArray.empty t159 ((a0_2 - 1) % 256))) bt163.2.1 bt163.2.2.1 bt163.2.2.2.1 bt163.2.2.2.2 a0_0 a0_1 a0_2 a0_3 a0_4 a0_5 a0_6 a0_7))) else (none)) else (none)) else (none))) else (none)) else (none)) else (none)) else (none))) else (none)) else (none)) else (none))) else (some ((⟨#[]⟩ : ByteArray), t150)))) = some (r1, r2) := h
 clear h
 replace H := Option.bind_eq_some_iff.mp H
 obtain ⟨t150, A20, H⟩ := H
 replace H : (if t150 = 0 then ((gambitref05_whens.f).bind fun t151 => (if 0 ≤ ((a0_0 - 1) % 256) then (if ((a0_0 - 1) % 256) < (t151.length : Int) then (if (rdOf ByteArray.empty t151 ((a0_0 - 1) % 256)).size + 1 ≤ 9223372036854775807 then ((gambitref05_verbs.f).bind fun t155 => (if 0 ≤ ((a0_1 - 1) % 256) then (if ((a0_1 - 1) % 256) < (t155.length : Int) then (if ((rdOf ByteArray.empty t151 ((a0_0 - 1) % 256)) ++ (⟨#[32]⟩ : ByteArray)).size + (rdOf ByteArray.empty t155 ((a0_1 - 1) % 256)).size ≤ 9223372036854775807 then (if (((rdOf ByteArray.empty t151 ((a0_0 - 1) % 256)) ++ (⟨#[32]⟩ : ByteArray)) ++ (rdOf ByteArray.empty t155 ((a0_1 - 1) % 256))).size + 1 ≤ 9223372036854775807 then ((gambitref05_whoms.f).bind fun t159 => (if 0 ≤ ((a0_2 - 1) % 256) then (if ((a0_2 - 1) % 256) < (t159.length : Int) then (if ((((rdOf ByteArray.empty t151 ((a0_0 - 1) % 256)) ++ (⟨#[32]⟩ : ByteArray)) ++ (rdOf ByteArray.empty t155 ((a0_1 - 1) % 256))) ++ (⟨#[32]⟩ : ByteArray)).size + (rdOf ByteArray.empty t159 ((a0_2 - 1) % 256)).size ≤ 9223372036854775807 then ((gambitref05_Uses.f k a0_1 a0_2).bind fun bt163 => (if bt163.1 = true then (if (((((rdOf ByteArray.empty t151 ((a0_0 - 1) % 256)) ++ (⟨#[32]⟩ : ByteArray)) ++ (rdOf ByteArray.empty t155 ((a0_1 - 1) % 256))) ++ (⟨#[32]⟩ : ByteArray)) ++ (rdOf ByteArray.empty t159 ((a0_2 - 1) % 256))).size + 1 ≤ 9223372036854775807 then ((gambitref05_Digits.f k a0_3).bind fun t168 => (if ((((((rdOf ByteArray.empty t151 ((a0_0 - 1) % 256)) ++ (⟨#[32]⟩ : ByteArray)) ++ (rdOf ByteArray.empty t155 ((a0_1 - 1) % 256))) ++ (⟨#[32]⟩ : ByteArray)) ++ (rdOf ByteArray.empty t159 ((a0_2 - 1) % 256))) ++ (⟨#[32]⟩ : ByteArray)).size + t168.size ≤ 9223372036854775807 then (gambitref05_Print.j0 k (((((((rdOf ByteArray.empty t151 ((a0_0 - 1) % 256)) ++ (⟨#[32]⟩ : ByteArray)) ++ (rdOf ByteArray.empty t155 ((a0_1 - 1) % 256))) ++ (⟨#[32]⟩ : ByteArray)) ++ (rdOf ByteArray.empty t159 ((a0_2 - 1) % 256))) ++ (⟨#[32]⟩ : ByteArray)) ++ t168) bt163.2.1 bt163.2.2.1 bt163.2.2.2.1 bt163.2.2.2.2 a0_0 a0_1 a0_2 a0_3 a0_4 a0_5 a0_6 a0_7) else (none))) else (none)) else (gambitref05_Print.j0 k (((((rdOf ByteArray.empty t151 ((a0_0 - 1) % 256)) ++ (⟨#[32]⟩ : ByteArray)) ++ (rdOf ByteArray.empty t155 ((a0_1 - 1) % 256))) ++ (⟨#[32]⟩ : ByteArray)) ++ (rdOf ByteArray.empty t159 ((a0_2 - 1) % 256))) bt163.2.1 bt163.2.2.1 bt163.2.2.2.1 bt163.2.2.2.2 a0_0 a0_1 a0_2 a0_3 a0_4 a0_5 a0_6 a0_7))) else (none)) else (none)) else (none))) else (none)) else (none)) else (none)) else (none))) else (none)) else (none)) else (none))) else (some ((⟨#[]⟩ : ByteArray), t150))) = some (r1, r2) := H
 have A2 := Aside0.mk A20
 clear A20
 by_cases c3 : t150 = 0
 ·rw [if_pos c3] at H
  have c3b0 : (t150 == 0) = true := beq_iff_eq.mpr c3
  have c3b1 : (t150 != 0) = false := bne_eq_false_iff_eq.mpr c3
  clear c3
  replace H := Option.bind_eq_some_iff.mp H
  obtain ⟨t151, A40, H⟩ := H
  replace H : (if 0 ≤ ((a0_0 - 1) % 256) then (if ((a0_0 - 1) % 256) < (t151.length : Int) then (if (rdOf ByteArray.empty t151 ((a0_0 - 1) % 256)).size + 1 ≤ 9223372036854775807 then ((gambitref05_verbs.f).bind fun t155 => (if 0 ≤ ((a0_1 - 1) % 256) then (if ((a0_1 - 1) % 256) < (t155.length : Int) then (if ((rdOf ByteArray.empty t151 ((a0_0 - 1) % 256)) ++ (⟨#[32]⟩ : ByteArray)).size + (rdOf ByteArray.empty t155 ((a0_1 - 1) % 256)).size ≤ 9223372036854775807 then (if (((rdOf ByteArray.empty t151 ((a0_0 - 1) % 256)) ++ (⟨#[32]⟩ : ByteArray)) ++ (rdOf ByteArray.empty t155 ((a0_1 - 1) % 256))).size + 1 ≤ 9223372036854775807 then ((gambitref05_whoms.f).bind fun t159 => (if 0 ≤ ((a0_2 - 1) % 256) then (if ((a0_2 - 1) % 256) < (t159.length : Int) then (if ((((rdOf ByteArray.empty t151 ((a0_0 - 1) % 256)) ++ (⟨#[32]⟩ : ByteArray)) ++ (rdOf ByteArray.empty t155 ((a0_1 - 1) % 256))) ++ (⟨#[32]⟩ : ByteArray)).size + (rdOf ByteArray.empty t159 ((a0_2 - 1) % 256)).size ≤ 9223372036854775807 then ((gambitref05_Uses.f k a0_1 a0_2).bind fun bt163 => (if bt163.1 = true then (if (((((rdOf ByteArray.empty t151 ((a0_0 - 1) % 256)) ++ (⟨#[32]⟩ : ByteArray)) ++ (rdOf ByteArray.empty t155 ((a0_1 - 1) % 256))) ++ (⟨#[32]⟩ : ByteArray)) ++ (rdOf ByteArray.empty t159 ((a0_2 - 1) % 256))).size + 1 ≤ 9223372036854775807 then ((gambitref05_Digits.f k a0_3).bind fun t168 => (if ((((((rdOf ByteArray.empty t151 ((a0_0 - 1) % 256)) ++ (⟨#[32]⟩ : ByteArray)) ++ (rdOf ByteArray.empty t155 ((a0_1 - 1) % 256))) ++ (⟨#[32]⟩ : ByteArray)) ++ (rdOf ByteArray.empty t159 ((a0_2 - 1) % 256))) ++ (⟨#[32]⟩ : ByteArray)).size + t168.size ≤ 9223372036854775807 then (gambitref05_Print.j0 k (((((((rdOf ByteArray.empty t151 ((a0_0 - 1) % 256)) ++ (⟨#[32]⟩ : ByteArray)) ++ (rdOf ByteArray.empty t155 ((a0_1 - 1) % 256))) ++ (⟨#[32]⟩ : ByteArray)) ++ (rdOf ByteArray.empty t159 ((a0_2 - 1) % 256))) ++ (⟨#[32]⟩ : ByteArray)) ++ t168) bt163.2.1 bt163.2.2.1 bt163.2.2.2.1 bt163.2.2.2.2 a0_0 a0_1 a0_2 a0_3 a0_4 a0_5 a0_6 a0_7) else (none))) else (none)) else (gambitref05_Print.j0 k (((((rdOf ByteArray.empty t151 ((a0_0 - 1) % 256)) ++ (⟨#[32]⟩ : ByteArray)) ++ (rdOf ByteArray.empty t155 ((a0_1 - 1) % 256))) ++ (⟨#[32]⟩ : ByteArray)) ++ (rdOf ByteArray.empty t159 ((a0_2 - 1) % 256))) bt163.2.1 bt163.2.2.1 bt163.2.2.2.1 bt163.2.2.2.2 a0_0 a0_1 a0_2 a0_3 a0_4 a0_5 a0_6 a0_7))) else (none)) else (none)) else (none))) else (none)) else (none)) else (none)) else (none))) else (none)) else (none)) else (none)) = some (r1, r2) := H
  have A4 := Aside0.mk A40
  clear A40
  obtain ⟨ji5, hji5⟩ : ∃ j_ : Int, ((a0_0 - 1) % 256) = j_ := ⟨_, rfl⟩
  replace H : (if 0 ≤ (ji5) then (if (ji5) < (t151.length : Int) then (if (rdOf ByteArray.empty t151 (ji5)).size + 1 ≤ 9223372036854775807 then ((gambitref05_verbs.f).bind fun t155 => (if 0 ≤ ((a0_1 - 1) % 256) then (if ((a0_1 - 1) % 256) < (t155.length : Int) then (if ((rdOf ByteArray.empty t151 (ji5)) ++ (⟨#[32]⟩ : ByteArray)).size + (rdOf ByteArray.empty t155 ((a0_1 - 1) % 256)).size ≤ 9223372036854775807 then (if (((rdOf ByteArray.empty t151 (ji5)) ++ (⟨#[32]⟩ : ByteArray)) ++ (rdOf ByteArray.empty t155 ((a0_1 - 1) % 256))).size + 1 ≤ 9223372036854775807 then ((gambitref05_whoms.f).bind fun t159 => (if 0 ≤ ((a0_2 - 1) % 256) then (if ((a0_2 - 1) % 256) < (t159.length : Int) then (if ((((rdOf ByteArray.empty t151 (ji5)) ++ (⟨#[32]⟩ : ByteArray)) ++ (rdOf ByteArray.empty t155 ((a0_1 - 1) % 256))) ++ (⟨#[32]⟩ : ByteArray)).size + (rdOf ByteArray.empty t159 ((a0_2 - 1) % 256)).size ≤ 9223372036854775807 then ((gambitref05_Uses.f k a0_1 a0_2).bind fun bt163 => (if bt163.1 = true then (if (((((rdOf ByteArray.empty t151 (ji5)) ++ (⟨#[32]⟩ : ByteArray)) ++ (rdOf ByteArray.empty t155 ((a0_1 - 1) % 256))) ++ (⟨#[32]⟩ : ByteArray)) ++ (rdOf ByteArray.empty t159 ((a0_2 - 1) % 256))).size + 1 ≤ 9223372036854775807 then ((gambitref05_Digits.f k a0_3).bind fun t168 => (if ((((((rdOf ByteArray.empty t151 (ji5)) ++ (⟨#[32]⟩ : ByteArray)) ++ (rdOf ByteArray.empty t155 ((a0_1 - 1) % 256))) ++ (⟨#[32]⟩ : ByteArray)) ++ (rdOf ByteArray.empty t159 ((a0_2 - 1) % 256))) ++ (⟨#[32]⟩ : ByteArray)).size + t168.size ≤ 9223372036854775807 then (gambitref05_Print.j0 k (((((((rdOf ByteArray.empty t151 (ji5)) ++ (⟨#[32]⟩ : ByteArray)) ++ (rdOf ByteArray.empty t155 ((a0_1 - 1) % 256))) ++ (⟨#[32]⟩ : ByteArray)) ++ (rdOf ByteArray.empty t159 ((a0_2 - 1) % 256))) ++ (⟨#[32]⟩ : ByteArray)) ++ t168) bt163.2.1 bt163.2.2.1 bt163.2.2.2.1 bt163.2.2.2.2 a0_0 a0_1 a0_2 a0_3 a0_4 a0_5 a0_6 a0_7) else (none))) else (none)) else (gambitref05_Print.j0 k (((((rdOf ByteArray.empty t151 (ji5)) ++ (⟨#[32]⟩ : ByteArray)) ++ (rdOf ByteArray.empty t155 ((a0_1 - 1) % 256))) ++ (⟨#[32]⟩ : ByteArray)) ++ (rdOf ByteArray.empty t159 ((a0_2 - 1) % 256))) bt163.2.1 bt163.2.2.1 bt163.2.2.2.1 bt163.2.2.2.2 a0_0 a0_1 a0_2 a0_3 a0_4 a0_5 a0_6 a0_7))) else (none)) else (none)) else (none))) else (none)) else (none)) else (none)) else (none))) else (none)) else (none)) else (none)) = some (r1, r2) := by first | (rw [hji5] at H; exact H) | (simp only [hji5] at H ⊢; exact H)
  (try rw [hji5] at A2)
  (try rw [hji5] at A4)
  have hji5w : (IntKind.u8.wrap (a0_0 - 1)) = ji5 := (show IntKind.u8.wrap (a0_0 - 1) = (a0_0 - 1) % 256 from rfl).trans hji5
  by_cases c6 : 0 ≤ (ji5)
  ·rw [if_pos c6] at H
   have c6b0 : decide (0 ≤ (ji5)) = true := decide_eq_true c6
   clear c6
   by_cases c7 : (ji5) < (t151.length : Int)
   ·rw [if_pos c7] at H
    have c7b0 : decide ((ji5) < (t151.length : Int)) = true := decide_eq_true c7
    clear c7
    by_cases c8 : (rdOf ByteArray.empty t151 (ji5)).size + 1 ≤ 9223372036854775807
    ·rw [if_pos c8] at H
     have c8b0 := eq_true c8
     have c8b1 : decide ((rdOf ByteArray.empty t151 (ji5)).size + 1 ≤ 9223372036854775807) = true := decide_eq_true c8
     try have c8b2 : (9223372036854775807 < (rdOf ByteArray.empty t151 (ji5)).size + 1) = False := eq_false (Nat.not_lt.2 c8)
     replace H := Option.bind_eq_some_iff.mp H
     obtain ⟨t155, A90, H⟩ := H
     replace H : (if 0 ≤ ((a0_1 - 1) % 256) then (if ((a0_1 - 1) % 256) < (t155.length : Int) then (if ((rdOf ByteArray.empty t151 (ji5)) ++ (⟨#[32]⟩ : ByteArray)).size + (rdOf ByteArray.empty t155 ((a0_1 - 1) % 256)).size ≤ 9223372036854775807 then (if (((rdOf ByteArray.empty t151 (ji5)) ++ (⟨#[32]⟩ : ByteArray)) ++ (rdOf ByteArray.empty t155 ((a0_1 - 1) % 256))).size + 1 ≤ 9223372036854775807 then ((gambitref05_whoms.f).bind fun t159 => (if 0 ≤ ((a0_2 - 1) % 256) then (if ((a0_2 - 1) % 256) < (t159.length : Int) then (if ((((rdOf ByteArray.empty t151 (ji5)) ++ (⟨#[32]⟩ : ByteArray)) ++ (rdOf ByteArray.empty t155 ((a0_1 - 1) % 256))) ++ (⟨#[32]⟩ : ByteArray)).size + (rdOf ByteArray.empty t159 ((a0_2 - 1) % 256)).size ≤ 9223372036854775807 then ((gambitref05_Uses.f k a0_1 a0_2).bind fun bt163 => (if bt163.1 = true then (if (((((rdOf ByteArray.empty t151 (ji5)) ++ (⟨#[32]⟩ : ByteArray)) ++ (rdOf ByteArray.empty t155 ((a0_1 - 1) % 256))) ++ (⟨#[32]⟩ : ByteArray)) ++ (rdOf ByteArray.empty t159 ((a0_2 - 1) % 256))).size + 1 ≤ 9223372036854775807 then ((gambitref05_Digits.f k a0_3).bind fun t168 => (if ((((((rdOf ByteArray.empty t151 (ji5)) ++ (⟨#[32]⟩ : ByteArray)) ++ (rdOf ByteArray.empty t155 ((a0_1 - 1) % 256))) ++ (⟨#[32]⟩ : ByteArray)) ++ (rdOf ByteArray.empty t159 ((a0_2 - 1) % 256))) ++ (⟨#[32]⟩ : ByteArray)).size + t168.size ≤ 9223372036854775807 then (gambitref05_Print.j0 k (((((((rdOf ByteArray.empty t151 (ji5)) ++ (⟨#[32]⟩ : ByteArray)) ++ (rdOf ByteArray.empty t155 ((a0_1 - 1) % 256))) ++ (⟨#[32]⟩ : ByteArray)) ++ (rdOf ByteArray.empty t159 ((a0_2 - 1) % 256))) ++ (⟨#[32]⟩ : ByteArray)) ++ t168) bt163.2.1 bt163.2.2.1 bt163.2.2.2.1 bt163.2.2.2.2 a0_0 a0_1 a0_2 a0_3 a0_4 a0_5 a0_6 a0_7) else (none))) else (none)) else (gambitref05_Print.j0 k (((((rdOf ByteArray.empty t151 (ji5)) ++ (⟨#[32]⟩ : ByteArray)) ++ (rdOf ByteArray.empty t155 ((a0_1 - 1) % 256))) ++ (⟨#[32]⟩ : ByteArray)) ++ (rdOf ByteArray.empty t159 ((a0_2 - 1) % 256))) bt163.2.1 bt163.2.2.1 bt163.2.2.2.1 bt163.2.2.2.2 a0_0 a0_1 a0_2 a0_3 a0_4 a0_5 a0_6 a0_7))) else (none)) else (none)) else (none))) else (none)) else (none)) else (none)) else (none)) = some (r1, r2) := H
     have A9 := Aside0.mk A90
     clear A90
     obtain ⟨ji10, hji10⟩ : ∃ j_ : Int, ((a0_1 - 1) % 256) = j_ := ⟨_, rfl⟩
     replace H : (if 0 ≤ (ji10) then (if (ji10) < (t155.length : Int) then (if ((rdOf ByteArray.empty t151 (ji5)) ++ (⟨#[32]⟩ : ByteArray)).size + (rdOf ByteArray.empty t155 (ji10)).size ≤ 9223372036854775807 then (if (((rdOf ByteArray.empty t151 (ji5)) ++ (⟨#[32]⟩ : ByteArray)) ++ (rdOf ByteArray.empty t155 (ji10))).size + 1 ≤ 9223372036854775807 then ((gambitref05_whoms.f).bind fun t159 => (if 0 ≤ ((a0_2 - 1) % 256) then (if ((a0_2 - 1) % 256) < (t159.length : Int) then (if ((((rdOf ByteArray.empty t151 (ji5)) ++ (⟨#[32]⟩ : ByteArray)) ++ (rdOf ByteArray.empty t155 (ji10))) ++ (⟨#[32]⟩ : ByteArray)).size + (rdOf ByteArray.empty t159 ((a0_2 - 1) % 256)).size ≤ 9223372036854775807 then ((gambitref05_Uses.f k a0_1 a0_2).bind fun bt163 => (if bt163.1 = true then (if (((((rdOf ByteArray.empty t151 (ji5)) ++ (⟨#[32]⟩ : ByteArray)) ++ (rdOf ByteArray.empty t155 (ji10))) ++ (⟨#[32]⟩ : ByteArray)) ++ (rdOf ByteArray.empty t159 ((a0_2 - 1) % 256))).size + 1 ≤ 9223372036854775807 then ((gambitref05_Digits.f k a0_3).bind fun t168 => (if ((((((rdOf ByteArray.empty t151 (ji5)) ++ (⟨#[32]⟩ : ByteArray)) ++ (rdOf ByteArray.empty t155 (ji10))) ++ (⟨#[32]⟩ : ByteArray)) ++ (rdOf ByteArray.empty t159 ((a0_2 - 1) % 256))) ++ (⟨#[32]⟩ : ByteArray)).size + t168.size ≤ 9223372036854775807 then (gambitref05_Print.j0 k (((((((rdOf ByteArray.empty t151 (ji5)) ++ (⟨#[32]⟩ : ByteArray)) ++ (rdOf ByteArray.empty t155 (ji10))) ++ (⟨#[32]⟩ : ByteArray)) ++ (rdOf ByteArray.empty t159 ((a0_2 - 1) % 256))) ++ (⟨#[32]⟩ : ByteArray)) ++ t168) bt163.2.1 bt163.2.2.1 bt163.2.2.2.1 bt163.2.2.2.2 a0_0 a0_1 a0_2 a0_3 a0_4 a0_5 a0_6 a0_7) else (none))) else (none)) else (gambitref05_Print.j0 k (((((rdOf ByteArray.empty t151 (ji5)) ++ (⟨#[32]⟩ : ByteArray)) ++ (rdOf ByteArray.empty t155 (ji10))) ++ (⟨#[32]⟩ : ByteArray)) ++ (rdOf ByteArray.empty t159 ((a0_2 - 1) % 256))) bt163.2.1 bt163.2.2.1 bt163.2.2.2.1 bt163.2.2.2.2 a0_0 a0_1 a0_2 a0_3 a0_4 a0_5 a0_6 a0_7))) else (none)) else (none)) else (none))) else (none)) else (none)) else (none)) else (none)) = some (r1, r2) := by first | (rw [hji10] at H; exact H) | (simp only [hji10] at H ⊢; exact H)
     (try rw [hji10] at A2)
     (try rw [hji10] at A4)
     (try rw [hji10] at A9)
     have hji10w : (IntKind.u8.wrap (a0_1 - 1)) = ji10 := (show IntKind.u8.wrap (a0_1 - 1) = (a0_1 - 1) % 256 from rfl).trans hji10
     by_cases c11 : 0 ≤ (ji10)
     ·rw [if_pos c11] at H
      have c11b0 : decide (0 ≤ (ji10)) = true := decide_eq_true c11
      clear c11
      by_cases c12 : (ji10) < (t155.length : Int)
      ·rw [if_pos c12] at H
       have c12b0 : decide ((ji10) < (t155.length : Int)) = true := decide_eq_true c12
       clear c12
       by_cases c13 : ((rdOf ByteArray.empty t151 (ji5)) ++ (⟨#[32]⟩ : ByteArray)).size + (rdOf ByteArray.empty t155 (ji10)).size ≤ 9223372036854775807
       ·rw [if_pos c13] at H
        have c13b0 := eq_true c13
        have c13b1 : decide (((rdOf ByteArray.empty t151 (ji5)) ++ (⟨#[32]⟩ : ByteArray)).size + (rdOf ByteArray.empty t155 (ji10)).size ≤ 9223372036854775807) = true := decide_eq_true c13
        try have c13b2 : (9223372036854775807 < ((rdOf ByteArray.empty t151 (ji5)) ++ (⟨#[32]⟩ : ByteArray)).size + (rdOf ByteArray.empty t155 (ji10)).size) = False := eq_false (Nat.not_lt.2 c13)
        (try (have c13s : (rdOf ByteArray.empty t151 (ji5)).size + 1 + (rdOf ByteArray.empty t155 (ji10)).size ≤ 9223372036854775807 := by have h_ := c13; simp only [ByteArray.size_append] at h_; exact h_))
        (try (have c13t : ((rdOf ByteArray.empty t151 (ji5)).size + 1 + (rdOf ByteArray.empty t155 (ji10)).size ≤ 9223372036854775807) = True := eq_true c13s))
        (try (have c13u : (9223372036854775807 < (rdOf ByteArray.empty t151 (ji5)).size + 1 + (rdOf ByteArray.empty t155 (ji10)).size) = False := eq_false (Nat.not_lt.2 c13s)))
        by_cases c14 : (((rdOf ByteArray.empty t151 (ji5)) ++ (⟨#[32]⟩ : ByteArray)) ++ (rdOf ByteArray.empty t155 (ji10))).size + 1 ≤ 9223372036854775807
        ·rw [if_pos c14] at H
         have c14b0 := eq_true c14
         have c14b1 : decide ((((rdOf ByteArray.empty t151 (ji5)) ++ (⟨#[32]⟩ : ByteArray)) ++ (rdOf ByteArray.empty t155 (ji10))).size + 1 ≤ 9223372036854775807) = true := decide_eq_true c14
         try have c14b2 : (9223372036854775807 < (((rdOf ByteArray.empty t151 (ji5)) ++ (⟨#[32]⟩ : ByteArray)) ++ (rdOf ByteArray.empty t155 (ji10))).size + 1) = False := eq_false (Nat.not_lt.2 c14)
         (try (have c14s : (rdOf ByteArray.empty t151 (ji5)).size + 1 + (rdOf ByteArray.empty t155 (ji10)).size + 1 ≤ 9223372036854775807 := by have h_ := c14; simp only [ByteArray.size_append] at h_; exact h_))
         (try (have c14t : ((rdOf ByteArray.empty t151 (ji5)).size + 1 + (rdOf ByteArray.empty t155 (ji10)).size + 1 ≤ 9223372036854775807) = True := eq_true c14s))
         (try (have c14u : (9223372036854775807 < (rdOf ByteArray.empty t151 (ji5)).size + 1 + (rdOf ByteArray.empty t155 (ji10)).size + 1) = False := eq_false (Nat.not_lt.2 c14s)))
         (try (have c14v : (rdOf ByteArray.empty t151 (ji5)).size + 1 + (rdOf ByteArray.empty t155 (ji10)).size ≤ 9223372036854775806 := Nat.le_of_succ_le_succ c14s))
         (try (have c14w : ((rdOf ByteArray.empty t151 (ji5)).size + 1 + (rdOf ByteArray.empty t155 (ji10)).size ≤ 9223372036854775806) = True := eq_true c14v))
         (try (have c14x : (9223372036854775806 < (rdOf ByteArray.empty t151 (ji5)).size + 1 + (rdOf ByteArray.empty t155 (ji10)).size) = False := eq_false (Nat.not_lt.2 c14v)))
         replace H := Option.bind_eq_some_iff.mp H
         obtain ⟨t159, A150, H⟩ := H
         replace H : (if 0 ≤ ((a0_2 - 1) % 256) then (if ((a0_2 - 1) % 256) < (t159.length : Int) then (if ((((rdOf ByteArray.empty t151 (ji5)) ++ (⟨#[32]⟩ : ByteArray)) ++ (rdOf ByteArray.empty t155 (ji10))) ++ (⟨#[32]⟩ : ByteArray)).size + (rdOf ByteArray.empty t159 ((a0_2 - 1) % 256)).size ≤ 9223372036854775807 then ((gambitref05_Uses.f k a0_1 a0_2).bind fun bt163 => (if bt163.1 = true then (if (((((rdOf ByteArray.empty t151 (ji5)) ++ (⟨#[32]⟩ : ByteArray)) ++ (rdOf ByteArray.empty t155 (ji10))) ++ (⟨#[32]⟩ : ByteArray)) ++ (rdOf ByteArray.empty t159 ((a0_2 - 1) % 256))).size + 1 ≤ 9223372036854775807 then ((gambitref05_Digits.f k a0_3).bind fun t168 => (if ((((((rdOf ByteArray.empty t151 (ji5)) ++ (⟨#[32]⟩ : ByteArray)) ++ (rdOf ByteArray.empty t155 (ji10))) ++ (⟨#[32]⟩ : ByteArray)) ++ (rdOf ByteArray.empty t159 ((a0_2 - 1) % 256))) ++ (⟨#[32]⟩ : ByteArray)).size + t168.size ≤ 9223372036854775807 then (gambitref05_Print.j0 k (((((((rdOf ByteArray.empty t151 (ji5)) ++ (⟨#[32]⟩ : ByteArray)) ++ (rdOf ByteArray.empty t155 (ji10))) ++ (⟨#[32]⟩ : ByteArray)) ++ (rdOf ByteArray.empty t159 ((a0_2 - 1) % 256))) ++ (⟨#[32]⟩ : ByteArray)) ++ t168) bt163.2.1 bt163.2.2.1 bt163.2.2.2.1 bt163.2.2.2.2 a0_0 a0_1 a0_2 a0_3 a0_4 a0_5 a0_6 a0_7) else (none))) else (none)) else (gambitref05_Print.j0 k (((((rdOf ByteArray.empty t151 (ji5)) ++ (⟨#[32]⟩ : ByteArray)) ++ (rdOf ByteArray.empty t155 (ji10))) ++ (⟨#[32]⟩ : ByteArray)) ++ (rdOf ByteArray.empty t159 ((a0_2 - 1) % 256))) bt163.2.1 bt163.2.2.1 bt163.2.2.2.1 bt163.2.2.2.2 a0_0 a0_1 a0_2 a0_3 a0_4 a0_5 a0_6 a0_7))) else (none)) else (none)) else (none)) = some (r1, r2) := H
         have A15 := Aside0.mk A150
         clear A150
         obtain ⟨ji16, hji16⟩ : ∃ j_ : Int, ((a0_2 - 1) % 256) = j_ := ⟨_, rfl⟩
         replace H : (if 0 ≤ (ji16) then (if (ji16) < (t159.length : Int) then (if ((((rdOf ByteArray.empty t151 (ji5)) ++ (⟨#[32]⟩ : ByteArray)) ++ (rdOf ByteArray.empty t155 (ji10))) ++ (⟨#[32]⟩ : ByteArray)).size + (rdOf ByteArray.empty t159 (ji16)).size ≤ 9223372036854775807 then ((gambitref05_Uses.f k a0_1 a0_2).bind fun bt163 => (if bt163.1 = true then (if (((((rdOf ByteArray.empty t151 (ji5)) ++ (⟨#[32]⟩ : ByteArray)) ++ (rdOf ByteArray.empty t155 (ji10))) ++ (⟨#[32]⟩ : ByteArray)) ++ (rdOf ByteArray.empty t159 (ji16))).size + 1 ≤ 9223372036854775807 then ((gambitref05_Digits.f k a0_3).bind fun t168 => (if ((((((rdOf ByteArray.empty t151 (ji5)) ++ (⟨#[32]⟩ : ByteArray)) ++ (rdOf ByteArray.empty t155 (ji10))) ++ (⟨#[32]⟩ : ByteArray)) ++ (rdOf ByteArray.empty t159 (ji16))) ++ (⟨#[32]⟩ : ByteArray)).size + t168.size ≤ 9223372036854775807 then (gambitref05_Print.j0 k (((((((rdOf ByteArray.empty t151 (ji5)) ++ (⟨#[32]⟩ : ByteArray)) ++ (rdOf ByteArray.empty t155 (ji10))) ++ (⟨#[32]⟩ : ByteArray)) ++ (rdOf ByteArray.empty t159 (ji16))) ++ (⟨#[32]⟩ : ByteArray)) ++ t168) bt163.2.1 bt163.2.2.1 bt163.2.2.2.1 bt163.2.2.2.2 a0_0 a0_1 a0_2 a0_3 a0_4 a0_5 a0_6 a0_7) else (none))) else (none)) else (gambitref05_Print.j0 k (((((rdOf ByteArray.empty t151 (ji5)) ++ (⟨#[32]⟩ : ByteArray)) ++ (rdOf ByteArray.empty t155 (ji10))) ++ (⟨#[32]⟩ : ByteArray)) ++ (rdOf ByteArray.empty t159 (ji16))) bt163.2.1 bt163.2.2.1 bt163.2.2.2.1 bt163.2.2.2.2 a0_0 a0_1 a0_2 a0_3 a0_4 a0_5 a0_6 a0_7))) else (none)) else (none)) else (none)) = some (r1, r2) := by first | (rw [hji16] at H; exact H) | (simp only [hji16] at H ⊢; exact H)
         (try rw [hji16] at A2)
         (try rw [hji16] at A4)
         (try rw [hji16] at A9)
         (try rw [hji16] at A15)
         have hji16w : (IntKind.u8.wrap (a0_2 - 1)) = ji16 := (show IntKind.u8.wrap (a0_2 - 1) = (a0_2 - 1) % 256 from rfl).trans hji16
         by_cases c17 : 0 ≤ (ji16)
         ·rw [if_pos c17] at H
          have c17b0 : decide (0 ≤ (ji16)) = true := decide_eq_true c17
          clear c17
          by_cases c18 : (ji16) < (t159.length : Int)
          ·rw [if_pos c18] at H
           have c18b0 : decide ((ji16) < (t159.length : Int)) = true := decide_eq_true c18
           clear c18
           by_cases c19 : ((((rdOf ByteArray.empty t151 (ji5)) ++ (⟨#[32]⟩ : ByteArray)) ++ (rdOf ByteArray.empty t155 (ji10))) ++ (⟨#[32]⟩ : ByteArray)).size + (rdOf ByteArray.empty t159 (ji16)).size ≤ 9223372036854775807
           ·rw [if_pos c19] at H
            have c19b0 := eq_true c19
            have c19b1 : decide (((((rdOf ByteArray.empty t151 (ji5)) ++ (⟨#[32]⟩ : ByteArray)) ++ (rdOf ByteArray.empty t155 (ji10))) ++ (⟨#[32]⟩ : ByteArray)).size + (rdOf ByteArray.empty t159 (ji16)).size ≤ 9223372036854775807) = true := decide_eq_true c19
            try have c19b2 : (9223372036854775807 < ((((rdOf ByteArray.empty t151 (ji5)) ++ (⟨#[32]⟩ : ByteArray)) ++ (rdOf ByteArray.empty t155 (ji10))) ++ (⟨#[32]⟩ : ByteArray)).size + (rdOf ByteArray.empty t159 (ji16)).size) = False := eq_false (Nat.not_lt.2 c19)
            (try (have c19s : (rdOf ByteArray.empty t151 (ji5)).size + 1 + (rdOf ByteArray.empty t155 (ji10)).size + 1 + (rdOf ByteArray.empty t159 (ji16)).size ≤ 9223372036854775807 := by have h_ := c19; simp only [ByteArray.size_append] at h_; exact h_))
            (try (have c19t : ((rdOf ByteArray.empty t151 (ji5)).size + 1 + (rdOf ByteArray.empty t155 (ji10)).size + 1 + (rdOf ByteArray.empty t159 (ji16)).size ≤ 9223372036854775807) = True := eq_true c19s))
            (try (have c19u : (9223372036854775807 < (rdOf ByteArray.empty t151 (ji5)).size + 1 + (rdOf ByteArray.empty t155 (ji10)).size + 1 + (rdOf ByteArray.empty t159 (ji16)).size) = False := eq_false (Nat.not_lt.2 c19s)))
            replace H := Option.bind_eq_some_iff.mp H
            obtain ⟨⟨t163, t164, t165, t166, t167⟩, A200, H⟩ := H
            replace H : (if t163 = true then (if (((((rdOf ByteArray.empty t151 (ji5)) ++ (⟨#[32]⟩ : ByteArray)) ++ (rdOf ByteArray.empty t155 (ji10))) ++ (⟨#[32]⟩ : ByteArray)) ++ (rdOf ByteArray.empty t159 (ji16))).size + 1 ≤ 9223372036854775807 then ((gambitref05_Digits.f k a0_3).bind fun t168 => (if ((((((rdOf ByteArray.empty t151 (ji5)) ++ (⟨#[32]⟩ : ByteArray)) ++ (rdOf ByteArray.empty t155 (ji10))) ++ (⟨#[32]⟩ : ByteArray)) ++ (rdOf ByteArray.empty t159 (ji16))) ++ (⟨#[32]⟩ : ByteArray)).size + t168.size ≤ 9223372036854775807 then (gambitref05_Print.j0 k (((((((rdOf ByteArray.empty t151 (ji5)) ++ (⟨#[32]⟩ : ByteArray)) ++ (rdOf ByteArray.empty t155 (ji10))) ++ (⟨#[32]⟩ : ByteArray)) ++ (rdOf ByteArray.empty t159 (ji16))) ++ (⟨#[32]⟩ : ByteArray)) ++ t168) t164 t165 t166 t167 a0_0 a0_1 a0_2 a0_3 a0_4 a0_5 a0_6 a0_7) else (none))) else (none)) else (gambitref05_Print.j0 k (((((rdOf ByteArray.empty t151 (ji5)) ++ (⟨#[32]⟩ : ByteArray)) ++ (rdOf ByteArray.empty t155 (ji10))) ++ (⟨#[32]⟩ : ByteArray)) ++ (rdOf ByteArray.empty t159 (ji16))) t164 t165 t166 t167 a0_0 a0_1 a0_2 a0_3 a0_4 a0_5 a0_6 a0_7)) = some (r1, r2) := H
            have A20 := Aside0.mk A200
            clear A200
            have HC21 := Aside0.mk H
            clear H
            go_enter Tryz.func42, Tryz.ntmps42
            try go_wp2_with (first | ((with_reducible refine gate_dst (N := 1) rfl ?_); refine box_event ?hg (N := 1) ?hd (cs := #[.int .u8 a0_0, .int .u8 a0_1, .int .u8 a0_2, .int .i64 a0_3, .int .u8 a0_4, .int .u8 a0_5, .int .u8 a0_6, .string a0_7]) (t := 48) ?hr ?_; (case hd => rfl); (case hg => rfl); (case hr => first | (go_simp; done) | (go_simp; rfl)); intro gb149 hg w22 hbox hb; have BK149 := Aside0.mk (hbox); have GW149 := Aside0.mk ((by rw [hg]; exact (below_size Zb) : w.heap.size ≤ gb149)); have GE149 := Aside0.mk ((by rw [hg]; exact (below_size Zb) : w.heap.size ≤ gb149)); replace HB := Aside0.mk (below_step Zb hb); clear hb hbox hg; have hcz23_0 := Zc BK149.out 0 (.int .u8 a0_0) rfl; have hcz23_1 := Zc BK149.out 1 (.int .u8 a0_1) rfl; have hcz23_2 := Zc BK149.out 2 (.int .u8 a0_2) rfl; have hcz23_3 := Zc BK149.out 3 (.int .i64 a0_3) rfl; have hcz23_4 := Zc BK149.out 4 (.int .u8 a0_4) rfl; have hcz23_5 := Zc BK149.out 5 (.int .u8 a0_5) rfl; have hcz23_6 := Zc BK149.out 6 (.int .u8 a0_6) rfl; have hcz23_7 := Zc BK149.out 7 (.string a0_7) rfl; have hfz23_0 := blk_frozen BK149.out 0; have hfz23_1 := blk_frozen BK149.out 1; have hfz23_2 := blk_frozen BK149.out 2; have hfz23_3 := blk_frozen BK149.out 3; have hfz23_4 := blk_frozen BK149.out 4; have hfz23_5 := blk_frozen BK149.out 5; have hfz23_6 := blk_frozen BK149.out 6; have hfz23_7 := blk_frozen BK149.out 7) | ((with_reducible refine gate_callee (f := 46) rfl ?_); refine goesL_ (some 12) rfl rfl Tryz.func46 (by kernel_rfl) rfl #[.agg #[.int .u8 a0_0, .int .u8 a0_1, .int .u8 a0_2, .int .i64 a0_3, .int .u8 a0_4, .int .u8 a0_5, .int .u8 a0_6, .string a0_7]] rfl Zl ?_; (with_reducible refine (gambitref05_Check.calls k a0_0 a0_1 a0_2 a0_3 a0_4 a0_5 a0_6 a0_7 t150 _ A2.out).mono ?_); rintro e w24 ⟨rfl, hb⟩; refine ⟨_, rfl, ?_⟩; replace BK149 := Aside0.mk (blk_below (g := gb149) (o := .cells #[.int .u8 a0_0, .int .u8 a0_1, .int .u8 a0_2, .int .i64 a0_3, .int .u8 a0_4, .int .u8 a0_5, .int .u8 a0_6, .string a0_7] 48 (0, 0)) (Zk BK149.out) hb); replace HB := Aside0.mk (below_step (Zb1 GE149.out) hb); (try clear hb); (try clear hb2); (try clear hk); (try clear hi)))
            have pi154 : (0 ≤ ((ji5) : Int)) = True := eq_true (of_decide_eq_true Za)
            have qi154 : ((ji5) < (t151.length : Int)) = True := eq_true (of_decide_eq_true Za)
            have pi158 : (0 ≤ ((ji10) : Int)) = True := eq_true (of_decide_eq_true Za)
            have qi158 : ((ji10) < (t155.length : Int)) = True := eq_true (of_decide_eq_true Za)
            have pi162 : (0 ≤ ((ji16) : Int)) = True := eq_true (of_decide_eq_true Za)
            have qi162 : ((ji16) < (t159.length : Int)) = True := eq_true (of_decide_eq_true Za)
            have n0_ := Aside0.mk (blk_drew BK149.out)
            have n1_ := Aside0.mk (below_drew1 HB.out)
            clear BK149 HB
            have BK149 := n0_
            have HB := n1_
            clear n0_ n1_
            refine start_ (n := 23) (S := fun w' => True) (ds := []) #[false, false, false, false, false, false, false, false, false, false, false, false, false, false, false, false, false, false, false, false, false, false, false] (by kernel_rfl) rfl rfl trivial (fun hHeld => ?_); refine with_tabW gambitref05_Print.tab4 gambitref05_Print.bits4 (fun HT_ HW_ => ?_)
            generalize w24.drew = w25 at BK149 HB hHeld ⊢
            refine pure_ (i := 1) (N := some 17) (v := ?_) (a' := ?_) #[false, true, false, false, false, false, false, false, false, false, false, false, false, false, false, false, false, false, false, false, false, false, false] rfl rfl (any_of HT_.out (by kernel_rfl)) (fun _ _ _ h => h) (Or.inl ⟨by rfl, ?_⟩) ?_ ?_
            rotate_left
            ·intro w'
             go_simp
             with_reducible rfl
            rotate_left
            ·simp only [Act.put, List.setIfInBounds_toArray, List.set_cons_zero, List.set_cons_succ, i64_w, i32_w]
             rfl
            refine pure_ (i := 8) (N := some 24) (v := ?_) (a' := ?_) #[false, true, false, false, false, false, false, false, true, false, false, false, false, false, false, false, false, false, false, false, false, false, false] rfl rfl (any_of HT_.out (by kernel_rfl)) (fun _ _ _ h => h) (Or.inl ⟨by rfl, ?_⟩) ?_ ?_
            rotate_left
            ·intro w'
             go_simp
             with_reducible rfl
            rotate_left
            ·simp only [Act.put, List.setIfInBounds_toArray, List.set_cons_zero, List.set_cons_succ, i64_w, i32_w]
             rfl
            refine pure_ (i := 16) (N := some 32) (v := ?_) (a' := ?_) #[false, true, false, false, false, false, false, false, true, false, false, false, false, false, false, false, true, false, false, false, false, false, false] rfl rfl (any_of HT_.out (by kernel_rfl)) (fun _ _ _ h => h) (Or.inl ⟨by rfl, ?_⟩) ?_ ?_
            rotate_left
            ·intro w'
             go_simp
             with_reducible rfl
            rotate_left
            ·simp only [Act.put, List.setIfInBounds_toArray, List.set_cons_zero, List.set_cons_succ, i64_w, i32_w]
             rfl
            refine inv_at [0, 2, 3, 4, 5, 6, 7, 9, 10, 11, 12, 13, 14, 15, 17, 18, 19, 20, 21, 22] (fun a0_ b a w' => ∃ (v152 : Value) (adz_v152 : Addr) (v156 : Value) (adz_v156 : Addr) (v160 : Value) (adz_v160 : Addr) (m4_ : Value) (m11_ : Value) (m19_ : Value), a = putSel a0_ b [(0, 16, v152), (2, 18, .int .u8 a0_0), (3, 19, .int .u8 ji5), (4, 20, m4_), (5, 21, .string (rdOf ByteArray.empty t151 (ji5))), (6, 22, .string ((rdOf ByteArray.empty t151 (ji5)) ++ (⟨#[32]⟩ : ByteArray))), (7, 23, v156), (9, 25, .int .u8 a0_1), (10, 26, .int .u8 ji10), (11, 27, m11_), (12, 28, .string (rdOf ByteArray.empty t155 (ji10))), (13, 29, .string (((rdOf ByteArray.empty t151 (ji5)) ++ (⟨#[32]⟩ : ByteArray)) ++ (rdOf ByteArray.empty t155 (ji10)))), (14, 30, .string ((((rdOf ByteArray.empty t151 (ji5)) ++ (⟨#[32]⟩ : ByteArray)) ++ (rdOf ByteArray.empty t155 (ji10))) ++ (⟨#[32]⟩ : ByteArray))), (15, 31, v160), (17, 33, .int .u8 a0_2), (18, 34, .int .u8 ji16), (19, 35, m19_), (20, 36, .string (rdOf ByteArray.empty t159 (ji16))), (21, 37, .string (((((rdOf ByteArray.empty t151 (ji5)) ++ (⟨#[32]⟩ : ByteArray)) ++ (rdOf ByteArray.empty t155 (ji10))) ++ (⟨#[32]⟩ : ByteArray)) ++ (rdOf ByteArray.empty t159 (ji16)))), (22, 5, .string (((((rdOf ByteArray.empty t151 (ji5)) ++ (⟨#[32]⟩ : ByteArray)) ++ (rdOf ByteArray.empty t155 (ji10))) ++ (⟨#[32]⟩ : ByteArray)) ++ (rdOf ByteArray.empty t159 (ji16))))] ∧ (w'.heap[gb149]? = some (.cells #[.int .u8 a0_0, .int .u8 a0_1, .int .u8 a0_2, .int .i64 a0_3, .int .u8 a0_4, .int .u8 a0_5, .int .u8 a0_6, .string a0_7] 48 (0, 0))) ∧ (Below w.heap.size w w') ∧ (b 0 = true → Kd.R Kd.string 9 w' w.heap.size (fun _ => True) v152 t151) ∧ (b 0 = true → ∃ c_, (v152 : Value) = .slice (some adz_v152) t151.length c_) ∧ (b 7 = true → Kd.R Kd.string 9 w' w.heap.size (fun _ => True) v156 t155) ∧ (b 7 = true → ∃ c_, (v156 : Value) = .slice (some adz_v156) t155.length c_) ∧ (b 15 = true → Kd.R Kd.string 9 w' w.heap.size (fun _ => True) v160 t159) ∧ (b 15 = true → ∃ c_, (v160 : Value) = .slice (some adz_v160) t159.length c_) ∧ (b 4 = true → (m4_ : Value) = .pointer (some (adz_v152.add ((ji5)).toNat))) ∧ (b 11 = true → (m11_ : Value) = .pointer (some (adz_v156.add ((ji10)).toNat))) ∧ (b 19 = true → (m19_ : Value) = .pointer (some (adz_v160.add ((ji16)).toNat)))) HT_.out HW_.out (by kernel_rfl) (by kernel_rfl) ?_ ?_ ?_
            ·exact ⟨.bool false, ⟨0, 0, none⟩, .bool false, ⟨0, 0, none⟩, .bool false, ⟨0, 0, none⟩, .bool false, .bool false, .bool false, by simp only [putSel, Bool.false_eq_true, if_false], BK149.out, HB.out, fun h_ => absurd h_ (by decide), fun h_ => absurd h_ (by decide), fun h_ => absurd h_ (by decide), fun h_ => absurd h_ (by decide), fun h_ => absurd h_ (by decide), fun h_ => absurd h_ (by decide), fun h_ => absurd h_ (by decide), fun h_ => absurd h_ (by decide), fun h_ => absurd h_ (by decide)⟩
            ·skip
             clear BK149 HB
             refine steps_cons ?_ ?_
             ·rintro b a w' ⟨v152, adz_v152, v156, adz_v156, v160, adz_v160, m4_, m11_, m19_, ha, Q_BK149, Q_HB, Q_HO153, Q_HA_HO153, Q_HO157, Q_HA_HO157, Q_HO161, Q_HA_HO161, Q_X4_, Q_X11_, Q_X19_⟩ hb_ hon hoff
              refine ⟨_, rfl, fun K hK => ?_⟩
              replace ha := Aside0.mk ha
              have BK149 := Aside0.mk Q_BK149
              have HB := Aside0.mk Q_HB
              refine goes_ Tryz.func86 (by kernel_rfl) rfl #[] (by rfl) rfl rfl (by first | (simp only [List.map_toArray, List.map_cons, List.map_nil, Act.eval, Array.getD_eq_getD_getElem?, Option.getD_some]; done) | (simp only [List.map_toArray, List.map_cons, List.map_nil, Act.eval, Array.getD_eq_getD_getElem?, Option.getD_some]; rfl)) ?_
              with_reducible refine (gambitref05_whens.calls  t151 _ A4.out).mono ?_
              rintro e w26 ⟨v152, rfl, ho0, hb⟩
              refine ⟨_, rfl, ?_⟩
              have n0_ := Aside0.mk (Kd.R_lower ho0 (below_size (Zb1 GE149.out)))
              have n1_ := Aside0.mk (blk_below (g := gb149) (o := .cells #[.int .u8 a0_0, .int .u8 a0_1, .int .u8 a0_2, .int .i64 a0_3, .int .u8 a0_4, .int .u8 a0_5, .int .u8 a0_6, .string a0_7] 48 (0, 0)) (Zk BK149.out) hb)
              have n2_ := Aside0.mk (below_step (Zb1 GE149.out) hb)
              clear BK149 HB
              have HO153 := n0_
              have BK149 := n1_
              have HB := n2_
              clear n0_ n1_ n2_
              (try clear hb)
              (try clear hb2)
              (try clear hk)
              (try clear hi)
              (try clear ho0)
              obtain ⟨Ao27, co27, eo27⟩ := Kd.R_slice HO153.out
              subst eo27
              obtain ⟨ado27, fo27, _⟩ := Kd.at_string (Kd.R_reads' HO153.out).2.2 0 (by decide) (by have h1_ : (0 : Int) ≤ (ji5) := (by first | decide | exact of_decide_eq_true (by assumption)); have h2_ : ((ji5) : Int) < (t151.length : Int) := of_decide_eq_true (by assumption); omega)
              cases fo27
              refine hK.out _ _ ⟨.slice (some ado27) t151.length co27, ado27, v156, adz_v156, v160, adz_v160, m4_, m11_, m19_, (by rw [ha.out]; exact putSel_upk 0 hb_ rfl rfl rfl), (Zk BK149.out), (Zb1 GE149.out), fun _ => (Zq HO153.out), fun _ => ⟨_, rfl⟩, fun h0_ => absurd ((hoff 7 (by kernel_rfl)).symm.trans h0_) (by decide), fun h0_ => absurd ((hoff 7 (by kernel_rfl)).symm.trans h0_) (by decide), fun h0_ => absurd ((hoff 15 (by kernel_rfl)).symm.trans h0_) (by decide), fun h0_ => absurd ((hoff 15 (by kernel_rfl)).symm.trans h0_) (by decide), fun h0_ => absurd ((hoff 4 (by kernel_rfl)).symm.trans h0_) (by decide), fun h0_ => absurd ((hoff 11 (by kernel_rfl)).symm.trans h0_) (by decide), fun h0_ => absurd ((hoff 19 (by kernel_rfl)).symm.trans h0_) (by decide)⟩
             refine steps_cons ?_ ?_
             ·rintro b a w' ⟨v152, adz_v152, v156, adz_v156, v160, adz_v160, m4_, m11_, m19_, ha, Q_BK149, Q_HB, Q_HO153, Q_HA_HO153, Q_HO157, Q_HA_HO157, Q_HO161, Q_HA_HO161, Q_X4_, Q_X11_, Q_X19_⟩ hb_ hon hoff
              refine ⟨_, rfl, fun K hK => ?_⟩
              have e17 : a.tmps[17]? = some (.pointer (some ⟨gb149, 0, none⟩)) := by rw [ha]; exact (putSel_off rfl).trans rfl
              replace ha := Aside0.mk ha
              have BK149 := Aside0.mk Q_BK149
              have HB := Aside0.mk Q_HB
              have hc0_ : w'.cell? ⟨gb149, 0, none⟩ = some (.int .u8 a0_0) := (blk_cell BK149.out 0).trans rfl
              have hc1_ : w'.cell? ⟨gb149, 1, none⟩ = some (.int .u8 a0_1) := (blk_cell BK149.out 1).trans rfl
              have hc2_ : w'.cell? ⟨gb149, 2, none⟩ = some (.int .u8 a0_2) := (blk_cell BK149.out 2).trans rfl
              have hc3_ : w'.cell? ⟨gb149, 3, none⟩ = some (.int .i64 a0_3) := (blk_cell BK149.out 3).trans rfl
              have hc4_ : w'.cell? ⟨gb149, 4, none⟩ = some (.int .u8 a0_4) := (blk_cell BK149.out 4).trans rfl
              have hc5_ : w'.cell? ⟨gb149, 5, none⟩ = some (.int .u8 a0_5) := (blk_cell BK149.out 5).trans rfl
              have hc6_ : w'.cell? ⟨gb149, 6, none⟩ = some (.int .u8 a0_6) := (blk_cell BK149.out 6).trans rfl
              have hc7_ : w'.cell? ⟨gb149, 7, none⟩ = some (.string a0_7) := (blk_cell BK149.out 7).trans rfl
              refine value_ (w1 := w') (v := .int .u8 a0_0) (by rfl) rfl ?_ ?_
              ·go_simp
               (try simp only [i64_w])
               (try assumption)
               try rfl
              refine hK.out _ _ ⟨v152, adz_v152, v156, adz_v156, v160, adz_v160, m4_, m11_, m19_, (by rw [ha.out]; exact putSel_upk 1 hb_ rfl rfl rfl), Q_BK149, Q_HB, Q_HO153, Q_HA_HO153, Q_HO157, Q_HA_HO157, Q_HO161, Q_HA_HO161, fun h0_ => absurd ((hoff 4 (by kernel_rfl)).symm.trans h0_) (by decide), Q_X11_, Q_X19_⟩
             refine steps_cons ?_ ?_
             ·rintro b a w' ⟨v152, adz_v152, v156, adz_v156, v160, adz_v160, m4_, m11_, m19_, ha, Q_BK149, Q_HB, Q_HO153, Q_HA_HO153, Q_HO157, Q_HA_HO157, Q_HO161, Q_HA_HO161, Q_X4_, Q_X11_, Q_X19_⟩ hb_ hon hoff
              refine ⟨_, rfl, fun K hK => ?_⟩
              have e18 : a.tmps[18]? = some (.int .u8 a0_0) := by rw [ha]; exact putSel_on (e := (2, 18, .int .u8 a0_0)) 1 rfl rfl (hon 2 (by kernel_rfl)) rfl
              replace ha := Aside0.mk ha
              have BK149 := Aside0.mk Q_BK149
              have HB := Aside0.mk Q_HB
              refine value_ (w1 := w') (v := .int .u8 ji5) (by rfl) rfl ?_ ?_
              ·go_simp
               (try simp only [i64_w])
               (try assumption)
               try rfl
              refine hK.out _ _ ⟨v152, adz_v152, v156, adz_v156, v160, adz_v160, m4_, m11_, m19_, (by rw [ha.out]; exact putSel_upk 2 hb_ rfl rfl rfl), Q_BK149, Q_HB, Q_HO153, Q_HA_HO153, Q_HO157, Q_HA_HO157, Q_HO161, Q_HA_HO161, fun h0_ => absurd ((hoff 4 (by kernel_rfl)).symm.trans h0_) (by decide), Q_X11_, Q_X19_⟩
             refine steps_cons ?_ ?_
             ·rintro b a w' ⟨v152, adz_v152, v156, adz_v156, v160, adz_v160, m4_, m11_, m19_, ha, Q_BK149, Q_HB, Q_HO153, Q_HA_HO153, Q_HO157, Q_HA_HO157, Q_HO161, Q_HA_HO161, Q_X4_, Q_X11_, Q_X19_⟩ hb_ hon hoff
              refine ⟨_, rfl, fun K hK => ?_⟩
              have e16 : a.tmps[16]? = some (v152) := by rw [ha]; exact putSel_on (e := (0, 16, v152)) 0 rfl rfl (hon 0 (by kernel_rfl)) rfl
              have e19 : a.tmps[19]? = some (.int .u8 ji5) := by rw [ha]; exact putSel_on (e := (3, 19, .int .u8 ji5)) 2 rfl rfl (hon 3 (by kernel_rfl)) rfl
              replace ha := Aside0.mk ha
              have BK149 := Aside0.mk Q_BK149
              have HB := Aside0.mk Q_HB
              have HO153 := Aside0.mk (Q_HO153 (hon 0 (by kernel_rfl)))
              have HA_HO153 := Aside0.mk (Q_HA_HO153 (hon 0 (by kernel_rfl)))
              obtain ⟨c_, hv_⟩ := HA_HO153.out
              rw [hv_] at e16
              refine value_ (w1 := w') (v := .pointer (some (adz_v152.add ((ji5)).toNat))) (by rfl) rfl ?_ ?_
              ·go_simp
               (try simp only [i64_w])
               (try assumption)
               try rfl
              refine hK.out _ _ ⟨v152, adz_v152, v156, adz_v156, v160, adz_v160, (.pointer (some (adz_v152.add ((ji5)).toNat))), m11_, m19_, (by rw [ha.out]; exact putSel_upk 3 hb_ rfl rfl rfl), Q_BK149, Q_HB, Q_HO153, Q_HA_HO153, Q_HO157, Q_HA_HO157, Q_HO161, Q_HA_HO161, fun _ => rfl, Q_X11_, Q_X19_⟩
             refine steps_cons ?_ ?_
             ·rintro b a w' ⟨v152, adz_v152, v156, adz_v156, v160, adz_v160, m4_, m11_, m19_, ha, Q_BK149, Q_HB, Q_HO153, Q_HA_HO153, Q_HO157, Q_HA_HO157, Q_HO161, Q_HA_HO161, Q_X4_, Q_X11_, Q_X19_⟩ hb_ hon hoff
              refine ⟨_, rfl, fun K hK => ?_⟩
              have e20 : a.tmps[20]? = some (m4_) := by rw [ha]; exact putSel_on (e := (4, 20, m4_)) 3 rfl rfl (hon 4 (by kernel_rfl)) rfl
              rw [Q_X4_ (hon 4 (by kernel_rfl))] at e20
              replace ha := Aside0.mk ha
              have BK149 := Aside0.mk Q_BK149
              have HB := Aside0.mk Q_HB
              have HO153 := Aside0.mk (Q_HO153 (hon 0 (by kernel_rfl)))
              have HA_HO153 := Aside0.mk (Q_HA_HO153 (hon 0 (by kernel_rfl)))
              obtain ⟨c_, hv_⟩ := HA_HO153.out
              have hF_ := HO153.out
              rw [hv_] at hF_
              obtain ⟨ad_, ea_, hx_⟩ := Kd.at_string (Kd.R_reads' hF_).2.2 (ji5) (of_eq_true pi154) (of_eq_true qi154)
              cases ea_
              refine value_ (w1 := w') (v := .string (rdOf ByteArray.empty t151 (ji5))) (by rfl) rfl ?_ ?_
              ·go_simp
               (try simp only [i64_w])
               (try assumption)
               try rfl
              refine hK.out _ _ ⟨v152, adz_v152, v156, adz_v156, v160, adz_v160, m4_, m11_, m19_, (by rw [ha.out]; exact putSel_upk 4 hb_ rfl rfl rfl), Q_BK149, Q_HB, Q_HO153, Q_HA_HO153, Q_HO157, Q_HA_HO157, Q_HO161, Q_HA_HO161, Q_X4_, Q_X11_, Q_X19_⟩
             refine steps_cons ?_ ?_
             ·rintro b a w' ⟨v152, adz_v152, v156, adz_v156, v160, adz_v160, m4_, m11_, m19_, ha, Q_BK149, Q_HB, Q_HO153, Q_HA_HO153, Q_HO157, Q_HA_HO157, Q_HO161, Q_HA_HO161, Q_X4_, Q_X11_, Q_X19_⟩ hb_ hon hoff
              refine ⟨_, rfl, fun K hK => ?_⟩
              have e21 : a.tmps[21]? = some (.string (rdOf ByteArray.empty t151 (ji5))) := by rw [ha]; exact putSel_on (e := (5, 21, .string (rdOf ByteArray.empty t151 (ji5)))) 4 rfl rfl (hon 5 (by kernel_rfl)) rfl
              replace ha := Aside0.mk ha
              have BK149 := Aside0.mk Q_BK149
              have HB := Aside0.mk Q_HB
              have HO153 := Aside0.mk (Q_HO153 (hon 0 (by kernel_rfl)))
              have HA_HO153 := Aside0.mk (Q_HA_HO153 (hon 0 (by kernel_rfl)))
              refine value_ (w1 := w') (v := .string ((rdOf ByteArray.empty t151 (ji5)) ++ (⟨#[32]⟩ : ByteArray))) (by rfl) rfl ?_ ?_
              ·go_simp
               (try simp only [i64_w])
               (try assumption)
               try rfl
              refine hK.out _ _ ⟨v152, adz_v152, v156, adz_v156, v160, adz_v160, m4_, m11_, m19_, (by rw [ha.out]; exact putSel_upk 5 hb_ rfl rfl rfl), Q_BK149, Q_HB, Q_HO153, Q_HA_HO153, Q_HO157, Q_HA_HO157, Q_HO161, Q_HA_HO161, Q_X4_, Q_X11_, Q_X19_⟩
             refine steps_cons ?_ ?_
             ·rintro b a w' ⟨v152, adz_v152, v156, adz_v156, v160, adz_v160, m4_, m11_, m19_, ha, Q_BK149, Q_HB, Q_HO153, Q_HA_HO153, Q_HO157, Q_HA_HO157, Q_HO161, Q_HA_HO161, Q_X4_, Q_X11_, Q_X19_⟩ hb_ hon hoff
              refine ⟨_, rfl, fun K hK => ?_⟩
              replace ha := Aside0.mk ha
              have BK149 := Aside0.mk Q_BK149
              have HB := Aside0.mk Q_HB
              have HO153 := Aside0.mk (Q_HO153 (hon 0 (by kernel_rfl)))
              have HA_HO153 := Aside0.mk (Q_HA_HO153 (hon 0 (by kernel_rfl)))
              obtain ⟨co29, eo29⟩ := HA_HO153.out
              clear HA_HO153
              subst eo29
              refine goes_ Tryz.func87 (by kernel_rfl) rfl #[] (by rfl) rfl rfl (by first | (simp only [List.map_toArray, List.map_cons, List.map_nil, Act.eval, Array.getD_eq_getD_getElem?, Option.getD_some]; done) | (simp only [List.map_toArray, List.map_cons, List.map_nil, Act.eval, Array.getD_eq_getD_getElem?, Option.getD_some]; rfl)) ?_
              with_reducible refine (gambitref05_verbs.calls  t155 _ A9.out).mono ?_
              rintro e w30 ⟨v156, rfl, ho0, hb⟩
              refine ⟨_, rfl, ?_⟩
              have n0_ := Aside0.mk (Kd.R_elder' (Zq HO153.out) (Kd.R_base ho0) hb)
              have n1_ := Aside0.mk (Kd.R_lower (Kd.R_new' ho0 (Kd.R_lt (Zq HO153.out))) (below_size (Zb1 GE149.out)))
              have n2_ := Aside0.mk (blk_below (g := gb149) (o := .cells #[.int .u8 a0_0, .int .u8 a0_1, .int .u8 a0_2, .int .i64 a0_3, .int .u8 a0_4, .int .u8 a0_5, .int .u8 a0_6, .string a0_7] 48 (0, 0)) (Zk BK149.out) hb)
              have n3_ := Aside0.mk (below_step (Zb1 GE149.out) hb)
              clear HO153 BK149 HB
              have HO153 := n0_
              have HO157 := n1_
              have BK149 := n2_
              have HB := n3_
              clear n0_ n1_ n2_ n3_
              (try clear hb)
              (try clear hb2)
              (try clear hk)
              (try clear hi)
              (try clear ho0)
              obtain ⟨Ao31, co31, eo31⟩ := Kd.R_slice HO157.out
              subst eo31
              obtain ⟨ado31, fo31, _⟩ := Kd.at_string (Kd.R_reads' HO157.out).2.2 0 (by decide) (by have h1_ : (0 : Int) ≤ (ji10) := (by first | decide | exact of_decide_eq_true (by assumption)); have h2_ : ((ji10) : Int) < (t155.length : Int) := of_decide_eq_true (by assumption); omega)
              cases fo31
              refine hK.out _ _ ⟨.slice (some adz_v152) t151.length co29, adz_v152, .slice (some ado31) t155.length co31, ado31, v160, adz_v160, m4_, m11_, m19_, (by rw [ha.out]; exact putSel_upk 6 hb_ rfl rfl rfl), (Zk BK149.out), (Zb1 GE149.out), fun _ => (by (with_reducible repeat (first | apply Kd.R_alloc | apply Kd.R_drewN | apply Kd.R_drew)); exact Kd.R_mono HO153.out (fun _ hk => by exact Zh)), fun _ => ⟨_, rfl⟩, fun _ => (by (with_reducible repeat (first | apply Kd.R_alloc | apply Kd.R_drewN | apply Kd.R_drew)); exact Kd.R_mono HO157.out (fun _ hk => by exact Zh)), fun _ => ⟨_, rfl⟩, fun h0_ => absurd ((hoff 15 (by kernel_rfl)).symm.trans h0_) (by decide), fun h0_ => absurd ((hoff 15 (by kernel_rfl)).symm.trans h0_) (by decide), Q_X4_, fun h0_ => absurd ((hoff 11 (by kernel_rfl)).symm.trans h0_) (by decide), fun h0_ => absurd ((hoff 19 (by kernel_rfl)).symm.trans h0_) (by decide)⟩
             refine steps_cons ?_ ?_
             ·rintro b a w' ⟨v152, adz_v152, v156, adz_v156, v160, adz_v160, m4_, m11_, m19_, ha, Q_BK149, Q_HB, Q_HO153, Q_HA_HO153, Q_HO157, Q_HA_HO157, Q_HO161, Q_HA_HO161, Q_X4_, Q_X11_, Q_X19_⟩ hb_ hon hoff
              refine ⟨_, rfl, fun K hK => ?_⟩
              have e24 : a.tmps[24]? = some (.pointer (some ⟨gb149, 1, none⟩)) := by rw [ha]; exact (putSel_off rfl).trans rfl
              replace ha := Aside0.mk ha
              have BK149 := Aside0.mk Q_BK149
              have HB := Aside0.mk Q_HB
              have hc0_ : w'.cell? ⟨gb149, 0, none⟩ = some (.int .u8 a0_0) := (blk_cell BK149.out 0).trans rfl
              have hc1_ : w'.cell? ⟨gb149, 1, none⟩ = some (.int .u8 a0_1) := (blk_cell BK149.out 1).trans rfl
              have hc2_ : w'.cell? ⟨gb149, 2, none⟩ = some (.int .u8 a0_2) := (blk_cell BK149.out 2).trans rfl
              have hc3_ : w'.cell? ⟨gb149, 3, none⟩ = some (.int .i64 a0_3) := (blk_cell BK149.out 3).trans rfl
              have hc4_ : w'.cell? ⟨gb149, 4, none⟩ = some (.int .u8 a0_4) := (blk_cell BK149.out 4).trans rfl
              have hc5_ : w'.cell? ⟨gb149, 5, none⟩ = some (.int .u8 a0_5) := (blk_cell BK149.out 5).trans rfl
              have hc6_ : w'.cell? ⟨gb149, 6, none⟩ = some (.int .u8 a0_6) := (blk_cell BK149.out 6).trans rfl
              have hc7_ : w'.cell? ⟨gb149, 7, none⟩ = some (.string a0_7) := (blk_cell BK149.out 7).trans rfl
              refine value_ (w1 := w') (v := .int .u8 a0_1) (by rfl) rfl ?_ ?_
              ·go_simp
               (try simp only [i64_w])
               (try assumption)
               try rfl
              refine hK.out _ _ ⟨v152, adz_v152, v156, adz_v156, v160, adz_v160, m4_, m11_, m19_, (by rw [ha.out]; exact putSel_upk 7 hb_ rfl rfl rfl), Q_BK149, Q_HB, Q_HO153, Q_HA_HO153, Q_HO157, Q_HA_HO157, Q_HO161, Q_HA_HO161, Q_X4_, fun h0_ => absurd ((hoff 11 (by kernel_rfl)).symm.trans h0_) (by decide), Q_X19_⟩
             refine steps_cons ?_ ?_
             ·rintro b a w' ⟨v152, adz_v152, v156, adz_v156, v160, adz_v160, m4_, m11_, m19_, ha, Q_BK149, Q_HB, Q_HO153, Q_HA_HO153, Q_HO157, Q_HA_HO157, Q_HO161, Q_HA_HO161, Q_X4_, Q_X11_, Q_X19_⟩ hb_ hon hoff
              refine ⟨_, rfl, fun K hK => ?_⟩
              have e25 : a.tmps[25]? = some (.int .u8 a0_1) := by rw [ha]; exact putSel_on (e := (9, 25, .int .u8 a0_1)) 7 rfl rfl (hon 9 (by kernel_rfl)) rfl
              replace ha := Aside0.mk ha
              have BK149 := Aside0.mk Q_BK149
              have HB := Aside0.mk Q_HB
              refine value_ (w1 := w') (v := .int .u8 ji10) (by rfl) rfl ?_ ?_
              ·go_simp
               (try simp only [i64_w])
               (try assumption)
               try rfl
              refine hK.out _ _ ⟨v152, adz_v152, v156, adz_v156, v160, adz_v160, m4_, m11_, m19_, (by rw [ha.out]; exact putSel_upk 8 hb_ rfl rfl rfl), Q_BK149, Q_HB, Q_HO153, Q_HA_HO153, Q_HO157, Q_HA_HO157, Q_HO161, Q_HA_HO161, Q_X4_, fun h0_ => absurd ((hoff 11 (by kernel_rfl)).symm.trans h0_) (by decide), Q_X19_⟩
             refine steps_cons ?_ ?_
             ·rintro b a w' ⟨v152, adz_v152, v156, adz_v156, v160, adz_v160, m4_, m11_, m19_, ha, Q_BK149, Q_HB, Q_HO153, Q_HA_HO153, Q_HO157, Q_HA_HO157, Q_HO161, Q_HA_HO161, Q_X4_, Q_X11_, Q_X19_⟩ hb_ hon hoff
              refine ⟨_, rfl, fun K hK => ?_⟩
              have e23 : a.tmps[23]? = some (v156) := by rw [ha]; exact putSel_on (e := (7, 23, v156)) 6 rfl rfl (hon 7 (by kernel_rfl)) rfl
              have e26 : a.tmps[26]? = some (.int .u8 ji10) := by rw [ha]; exact putSel_on (e := (10, 26, .int .u8 ji10)) 8 rfl rfl (hon 10 (by kernel_rfl)) rfl
              replace ha := Aside0.mk ha
              have BK149 := Aside0.mk Q_BK149
              have HB := Aside0.mk Q_HB
              have HO153 := Aside0.mk (Q_HO153 (hon 0 (by kernel_rfl)))
              have HA_HO153 := Aside0.mk (Q_HA_HO153 (hon 0 (by kernel_rfl)))
              have HO157 := Aside0.mk (Q_HO157 (hon 7 (by kernel_rfl)))
              have HA_HO157 := Aside0.mk (Q_HA_HO157 (hon 7 (by kernel_rfl)))
              obtain ⟨c_, hv_⟩ := HA_HO157.out
              rw [hv_] at e23
              refine value_ (w1 := w') (v := .pointer (some (adz_v156.add ((ji10)).toNat))) (by rfl) rfl ?_ ?_
              ·go_simp
               (try simp only [i64_w])
               (try assumption)
               try rfl
              refine hK.out _ _ ⟨v152, adz_v152, v156, adz_v156, v160, adz_v160, m4_, (.pointer (some (adz_v156.add ((ji10)).toNat))), m19_, (by rw [ha.out]; exact putSel_upk 9 hb_ rfl rfl rfl), Q_BK149, Q_HB, Q_HO153, Q_HA_HO153, Q_HO157, Q_HA_HO157, Q_HO161, Q_HA_HO161, Q_X4_, fun _ => rfl, Q_X19_⟩
             refine steps_cons ?_ ?_
             ·rintro b a w' ⟨v152, adz_v152, v156, adz_v156, v160, adz_v160, m4_, m11_, m19_, ha, Q_BK149, Q_HB, Q_HO153, Q_HA_HO153, Q_HO157, Q_HA_HO157, Q_HO161, Q_HA_HO161, Q_X4_, Q_X11_, Q_X19_⟩ hb_ hon hoff
              refine ⟨_, rfl, fun K hK => ?_⟩
              have e27 : a.tmps[27]? = some (m11_) := by rw [ha]; exact putSel_on (e := (11, 27, m11_)) 9 rfl rfl (hon 11 (by kernel_rfl)) rfl
              rw [Q_X11_ (hon 11 (by kernel_rfl))] at e27
              replace ha := Aside0.mk ha
              have BK149 := Aside0.mk Q_BK149
              have HB := Aside0.mk Q_HB
              have HO153 := Aside0.mk (Q_HO153 (hon 0 (by kernel_rfl)))
              have HA_HO153 := Aside0.mk (Q_HA_HO153 (hon 0 (by kernel_rfl)))
              have HO157 := Aside0.mk (Q_HO157 (hon 7 (by kernel_rfl)))
              have HA_HO157 := Aside0.mk (Q_HA_HO157 (hon 7 (by kernel_rfl)))
              obtain ⟨c_, hv_⟩ := HA_HO157.out
              have hF_ := HO157.out
              rw [hv_] at hF_
              obtain ⟨ad_, ea_, hx_⟩ := Kd.at_string (Kd.R_reads' hF_).2.2 (ji10) (of_eq_true pi158) (of_eq_true qi158)
              cases ea_
              refine value_ (w1 := w') (v := .string (rdOf ByteArray.empty t155 (ji10))) (by rfl) rfl ?_ ?_
              ·go_simp
               (try simp only [i64_w])
               (try assumption)
               try rfl
              refine hK.out _ _ ⟨v152, adz_v152, v156, adz_v156, v160, adz_v160, m4_, m11_, m19_, (by rw [ha.out]; exact putSel_upk 10 hb_ rfl rfl rfl), Q_BK149, Q_HB, Q_HO153, Q_HA_HO153, Q_HO157, Q_HA_HO157, Q_HO161, Q_HA_HO161, Q_X4_, Q_X11_, Q_X19_⟩
             refine steps_cons ?_ ?_
             ·rintro b a w' ⟨v152, adz_v152, v156, adz_v156, v160, adz_v160, m4_, m11_, m19_, ha, Q_BK149, Q_HB, Q_HO153, Q_HA_HO153, Q_HO157, Q_HA_HO157, Q_HO161, Q_HA_HO161, Q_X4_, Q_X11_, Q_X19_⟩ hb_ hon hoff
              refine ⟨_, rfl, fun K hK => ?_⟩
              have e22 : a.tmps[22]? = some (.string ((rdOf ByteArray.empty t151 (ji5)) ++ (⟨#[32]⟩ : ByteArray))) := by rw [ha]; exact putSel_on (e := (6, 22, .string ((rdOf ByteArray.empty t151 (ji5)) ++ (⟨#[32]⟩ : ByteArray)))) 5 rfl rfl (hon 6 (by kernel_rfl)) rfl
              have e28 : a.tmps[28]? = some (.string (rdOf ByteArray.empty t155 (ji10))) := by rw [ha]; exact putSel_on (e := (12, 28, .string (rdOf ByteArray.empty t155 (ji10)))) 10 rfl rfl (hon 12 (by kernel_rfl)) rfl
              replace ha := Aside0.mk ha
              have BK149 := Aside0.mk Q_BK149
              have HB := Aside0.mk Q_HB
              have HO153 := Aside0.mk (Q_HO153 (hon 0 (by kernel_rfl)))
              have HA_HO153 := Aside0.mk (Q_HA_HO153 (hon 0 (by kernel_rfl)))
              have HO157 := Aside0.mk (Q_HO157 (hon 7 (by kernel_rfl)))
              have HA_HO157 := Aside0.mk (Q_HA_HO157 (hon 7 (by kernel_rfl)))
              refine value_ (w1 := w') (v := .string (((rdOf ByteArray.empty t151 (ji5)) ++ (⟨#[32]⟩ : ByteArray)) ++ (rdOf ByteArray.empty t155 (ji10)))) (by rfl) rfl ?_ ?_
              ·go_simp
               (try simp only [i64_w])
               (try assumption)
               try rfl
              refine hK.out _ _ ⟨v152, adz_v152, v156, adz_v156, v160, adz_v160, m4_, m11_, m19_, (by rw [ha.out]; exact putSel_upk 11 hb_ rfl rfl rfl), Q_BK149, Q_HB, Q_HO153, Q_HA_HO153, Q_HO157, Q_HA_HO157, Q_HO161, Q_HA_HO161, Q_X4_, Q_X11_, Q_X19_⟩
             refine steps_cons ?_ ?_
             ·rintro b a w' ⟨v152, adz_v152, v156, adz_v156, v160, adz_v160, m4_, m11_, m19_, ha, Q_BK149, Q_HB, Q_HO153, Q_HA_HO153, Q_HO157, Q_HA_HO157, Q_HO161, Q_HA_HO161, Q_X4_, Q_X11_, Q_X19_⟩ hb_ hon hoff
              refine ⟨_, rfl, fun K hK => ?_⟩
              have e29 : a.tmps[29]? = some (.string (((rdOf ByteArray.empty t151 (ji5)) ++ (⟨#[32]⟩ : ByteArray)) ++ (rdOf ByteArray.empty t155 (ji10)))) := by rw [ha]; exact putSel_on (e := (13, 29, .string (((rdOf ByteArray.empty t151 (ji5)) ++ (⟨#[32]⟩ : ByteArray)) ++ (rdOf ByteArray.empty t155 (ji10))))) 11 rfl rfl (hon 13 (by kernel_rfl)) rfl
              replace ha := Aside0.mk ha
              have BK149 := Aside0.mk Q_BK149
              have HB := Aside0.mk Q_HB
              have HO153 := Aside0.mk (Q_HO153 (hon 0 (by kernel_rfl)))
              have HA_HO153 := Aside0.mk (Q_HA_HO153 (hon 0 (by kernel_rfl)))
              have HO157 := Aside0.mk (Q_HO157 (hon 7 (by kernel_rfl)))
              have HA_HO157 := Aside0.mk (Q_HA_HO157 (hon 7 (by kernel_rfl)))
              refine value_ (w1 := w') (v := .string ((((rdOf ByteArray.empty t151 (ji5)) ++ (⟨#[32]⟩ : ByteArray)) ++ (rdOf ByteArray.empty t155 (ji10))) ++ (⟨#[32]⟩ : ByteArray))) (by rfl) rfl ?_ ?_
              ·go_simp
               (try simp only [i64_w])
               (try assumption)
               try rfl
              refine hK.out _ _ ⟨v152, adz_v152, v156, adz_v156, v160, adz_v160, m4_, m11_, m19_, (by rw [ha.out]; exact putSel_upk 12 hb_ rfl rfl rfl), Q_BK149, Q_HB, Q_HO153, Q_HA_HO153, Q_HO157, Q_HA_HO157, Q_HO161, Q_HA_HO161, Q_X4_, Q_X11_, Q_X19_⟩
             refine steps_cons ?_ ?_
             ·rintro b a w' ⟨v152, adz_v152, v156, adz_v156, v160, adz_v160, m4_, m11_, m19_, ha, Q_BK149, Q_HB, Q_HO153, Q_HA_HO153, Q_HO157, Q_HA_HO157, Q_HO161, Q_HA_HO161, Q_X4_, Q_X11_, Q_X19_⟩ hb_ hon hoff
              refine ⟨_, rfl, fun K hK => ?_⟩
              replace ha := Aside0.mk ha
              have BK149 := Aside0.mk Q_BK149
              have HB := Aside0.mk Q_HB
              have HO153 := Aside0.mk (Q_HO153 (hon 0 (by kernel_rfl)))
              have HA_HO153 := Aside0.mk (Q_HA_HO153 (hon 0 (by kernel_rfl)))
              have HO157 := Aside0.mk (Q_HO157 (hon 7 (by kernel_rfl)))
              have HA_HO157 := Aside0.mk (Q_HA_HO157 (hon 7 (by kernel_rfl)))
              obtain ⟨co31, eo31⟩ := HA_HO153.out
              clear HA_HO153
              subst eo31
              obtain ⟨co32, eo32⟩ := HA_HO157.out
              clear HA_HO157
              subst eo32
              refine goes_ Tryz.func88 (by kernel_rfl) rfl #[] (by rfl) rfl rfl (by first | (simp only [List.map_toArray, List.map_cons, List.map_nil, Act.eval, Array.getD_eq_getD_getElem?, Option.getD_some]; done) | (simp only [List.map_toArray, List.map_cons, List.map_nil, Act.eval, Array.getD_eq_getD_getElem?, Option.getD_some]; rfl)) ?_
              with_reducible refine (gambitref05_whoms.calls  t159 _ A15.out).mono ?_
              rintro e w33 ⟨v160, rfl, ho0, hb⟩
              refine ⟨_, rfl, ?_⟩
              have n0_ := Aside0.mk (Kd.R_elder' (Zq HO153.out) (Kd.R_base ho0) hb)
              have n1_ := Aside0.mk (Kd.R_elder' (Zq HO157.out) (Kd.R_base ho0) hb)
              have n2_ := Aside0.mk (Kd.R_lower (Kd.R_new' (Kd.R_new' ho0 (Kd.R_lt (Zq HO153.out))) (Kd.R_lt (Zq HO157.out))) (below_size (Zb1 GE149.out)))
              have n3_ := Aside0.mk (blk_below (g := gb149) (o := .cells #[.int .u8 a0_0, .int .u8 a0_1, .int .u8 a0_2, .int .i64 a0_3, .int .u8 a0_4, .int .u8 a0_5, .int .u8 a0_6, .string a0_7] 48 (0, 0)) (Zk BK149.out) hb)
              have n4_ := Aside0.mk (below_step (Zb1 GE149.out) hb)
              clear HO153 HO157 BK149 HB
              have HO153 := n0_
              have HO157 := n1_
              have HO161 := n2_
              have BK149 := n3_
              have HB := n4_
              clear n0_ n1_ n2_ n3_ n4_
              (try clear hb)
              (try clear hb2)
              (try clear hk)
              (try clear hi)
              (try clear ho0)
              obtain ⟨Ao34, co34, eo34⟩ := Kd.R_slice HO161.out
              subst eo34
              obtain ⟨ado34, fo34, _⟩ := Kd.at_string (Kd.R_reads' HO161.out).2.2 0 (by decide) (by have h1_ : (0 : Int) ≤ (ji16) := (by first | decide | exact of_decide_eq_true (by assumption)); have h2_ : ((ji16) : Int) < (t159.length : Int) := of_decide_eq_true (by assumption); omega)
              cases fo34
              refine hK.out _ _ ⟨.slice (some adz_v152) t151.length co31, adz_v152, .slice (some adz_v156) t155.length co32, adz_v156, .slice (some ado34) t159.length co34, ado34, m4_, m11_, m19_, (by rw [ha.out]; exact putSel_upk 13 hb_ rfl rfl rfl), (Zk BK149.out), (Zb1 GE149.out), fun _ => (Zq HO153.out), fun _ => ⟨_, rfl⟩, fun _ => (Zq HO157.out), fun _ => ⟨_, rfl⟩, fun _ => (by (with_reducible repeat (first | apply Kd.R_alloc | apply Kd.R_drewN | apply Kd.R_drew)); exact Kd.R_mono HO161.out (fun _ hk => by first | exact ⟨hk.1.2, hk.2⟩ | exact hk.1 | exact hk.2 | trivial)), fun _ => ⟨_, rfl⟩, Q_X4_, Q_X11_, fun h0_ => absurd ((hoff 19 (by kernel_rfl)).symm.trans h0_) (by decide)⟩
             refine steps_cons ?_ ?_
             ·rintro b a w' ⟨v152, adz_v152, v156, adz_v156, v160, adz_v160, m4_, m11_, m19_, ha, Q_BK149, Q_HB, Q_HO153, Q_HA_HO153, Q_HO157, Q_HA_HO157, Q_HO161, Q_HA_HO161, Q_X4_, Q_X11_, Q_X19_⟩ hb_ hon hoff
              refine ⟨_, rfl, fun K hK => ?_⟩
              have e32 : a.tmps[32]? = some (.pointer (some ⟨gb149, 2, none⟩)) := by rw [ha]; exact (putSel_off rfl).trans rfl
              replace ha := Aside0.mk ha
              have BK149 := Aside0.mk Q_BK149
              have HB := Aside0.mk Q_HB
              have hc0_ : w'.cell? ⟨gb149, 0, none⟩ = some (.int .u8 a0_0) := (blk_cell BK149.out 0).trans rfl
              have hc1_ : w'.cell? ⟨gb149, 1, none⟩ = some (.int .u8 a0_1) := (blk_cell BK149.out 1).trans rfl
              have hc2_ : w'.cell? ⟨gb149, 2, none⟩ = some (.int .u8 a0_2) := (blk_cell BK149.out 2).trans rfl
              have hc3_ : w'.cell? ⟨gb149, 3, none⟩ = some (.int .i64 a0_3) := (blk_cell BK149.out 3).trans rfl
              have hc4_ : w'.cell? ⟨gb149, 4, none⟩ = some (.int .u8 a0_4) := (blk_cell BK149.out 4).trans rfl
              have hc5_ : w'.cell? ⟨gb149, 5, none⟩ = some (.int .u8 a0_5) := (blk_cell BK149.out 5).trans rfl
              have hc6_ : w'.cell? ⟨gb149, 6, none⟩ = some (.int .u8 a0_6) := (blk_cell BK149.out 6).trans rfl
              have hc7_ : w'.cell? ⟨gb149, 7, none⟩ = some (.string a0_7) := (blk_cell BK149.out 7).trans rfl
              refine value_ (w1 := w') (v := .int .u8 a0_2) (by rfl) rfl ?_ ?_
              ·go_simp
               (try simp only [i64_w])
               (try assumption)
               try rfl
              refine hK.out _ _ ⟨v152, adz_v152, v156, adz_v156, v160, adz_v160, m4_, m11_, m19_, (by rw [ha.out]; exact putSel_upk 14 hb_ rfl rfl rfl), Q_BK149, Q_HB, Q_HO153, Q_HA_HO153, Q_HO157, Q_HA_HO157, Q_HO161, Q_HA_HO161, Q_X4_, Q_X11_, fun h0_ => absurd ((hoff 19 (by kernel_rfl)).symm.trans h0_) (by decide)⟩
             refine steps_cons ?_ ?_
             ·rintro b a w' ⟨v152, adz_v152, v156, adz_v156, v160, adz_v160, m4_, m11_, m19_, ha, Q_BK149, Q_HB, Q_HO153, Q_HA_HO153, Q_HO157, Q_HA_HO157, Q_HO161, Q_HA_HO161, Q_X4_, Q_X11_, Q_X19_⟩ hb_ hon hoff
              refine ⟨_, rfl, fun K hK => ?_⟩
              have e33 : a.tmps[33]? = some (.int .u8 a0_2) := by rw [ha]; exact putSel_on (e := (17, 33, .int .u8 a0_2)) 14 rfl rfl (hon 17 (by kernel_rfl)) rfl
              replace ha := Aside0.mk ha
              have BK149 := Aside0.mk Q_BK149
              have HB := Aside0.mk Q_HB
              refine value_ (w1 := w') (v := .int .u8 ji16) (by rfl) rfl ?_ ?_
              ·go_simp
               (try simp only [i64_w])
               (try assumption)
               try rfl
              refine hK.out _ _ ⟨v152, adz_v152, v156, adz_v156, v160, adz_v160, m4_, m11_, m19_, (by rw [ha.out]; exact putSel_upk 15 hb_ rfl rfl rfl), Q_BK149, Q_HB, Q_HO153, Q_HA_HO153, Q_HO157, Q_HA_HO157, Q_HO161, Q_HA_HO161, Q_X4_, Q_X11_, fun h0_ => absurd ((hoff 19 (by kernel_rfl)).symm.trans h0_) (by decide)⟩
             refine steps_cons ?_ ?_
             ·rintro b a w' ⟨v152, adz_v152, v156, adz_v156, v160, adz_v160, m4_, m11_, m19_, ha, Q_BK149, Q_HB, Q_HO153, Q_HA_HO153, Q_HO157, Q_HA_HO157, Q_HO161, Q_HA_HO161, Q_X4_, Q_X11_, Q_X19_⟩ hb_ hon hoff
              refine ⟨_, rfl, fun K hK => ?_⟩
              have e31 : a.tmps[31]? = some (v160) := by rw [ha]; exact putSel_on (e := (15, 31, v160)) 13 rfl rfl (hon 15 (by kernel_rfl)) rfl
              have e34 : a.tmps[34]? = some (.int .u8 ji16) := by rw [ha]; exact putSel_on (e := (18, 34, .int .u8 ji16)) 15 rfl rfl (hon 18 (by kernel_rfl)) rfl
              replace ha := Aside0.mk ha
              have BK149 := Aside0.mk Q_BK149
              have HB := Aside0.mk Q_HB
              have HO153 := Aside0.mk (Q_HO153 (hon 0 (by kernel_rfl)))
              have HA_HO153 := Aside0.mk (Q_HA_HO153 (hon 0 (by kernel_rfl)))
              have HO157 := Aside0.mk (Q_HO157 (hon 7 (by kernel_rfl)))
              have HA_HO157 := Aside0.mk (Q_HA_HO157 (hon 7 (by kernel_rfl)))
              have HO161 := Aside0.mk (Q_HO161 (hon 15 (by kernel_rfl)))
              have HA_HO161 := Aside0.mk (Q_HA_HO161 (hon 15 (by kernel_rfl)))
              obtain ⟨c_, hv_⟩ := HA_HO161.out
              rw [hv_] at e31
              refine value_ (w1 := w') (v := .pointer (some (adz_v160.add ((ji16)).toNat))) (by rfl) rfl ?_ ?_
              ·go_simp
               (try simp only [i64_w])
               (try assumption)
               try rfl
              refine hK.out _ _ ⟨v152, adz_v152, v156, adz_v156, v160, adz_v160, m4_, m11_, (.pointer (some (adz_v160.add ((ji16)).toNat))), (by rw [ha.out]; exact putSel_upk 16 hb_ rfl rfl rfl), Q_BK149, Q_HB, Q_HO153, Q_HA_HO153, Q_HO157, Q_HA_HO157, Q_HO161, Q_HA_HO161, Q_X4_, Q_X11_, fun _ => rfl⟩
             refine steps_cons ?_ ?_
             ·rintro b a w' ⟨v152, adz_v152, v156, adz_v156, v160, adz_v160, m4_, m11_, m19_, ha, Q_BK149, Q_HB, Q_HO153, Q_HA_HO153, Q_HO157, Q_HA_HO157, Q_HO161, Q_HA_HO161, Q_X4_, Q_X11_, Q_X19_⟩ hb_ hon hoff
              refine ⟨_, rfl, fun K hK => ?_⟩
              have e35 : a.tmps[35]? = some (m19_) := by rw [ha]; exact putSel_on (e := (19, 35, m19_)) 16 rfl rfl (hon 19 (by kernel_rfl)) rfl
              rw [Q_X19_ (hon 19 (by kernel_rfl))] at e35
              replace ha := Aside0.mk ha
              have BK149 := Aside0.mk Q_BK149
              have HB := Aside0.mk Q_HB
              have HO153 := Aside0.mk (Q_HO153 (hon 0 (by kernel_rfl)))
              have HA_HO153 := Aside0.mk (Q_HA_HO153 (hon 0 (by kernel_rfl)))
              have HO157 := Aside0.mk (Q_HO157 (hon 7 (by kernel_rfl)))
              have HA_HO157 := Aside0.mk (Q_HA_HO157 (hon 7 (by kernel_rfl)))
              have HO161 := Aside0.mk (Q_HO161 (hon 15 (by kernel_rfl)))
              have HA_HO161 := Aside0.mk (Q_HA_HO161 (hon 15 (by kernel_rfl)))
              obtain ⟨c_, hv_⟩ := HA_HO161.out
              have hF_ := HO161.out
              rw [hv_] at hF_
              obtain ⟨ad_, ea_, hx_⟩ := Kd.at_string (Kd.R_reads' hF_).2.2 (ji16) (of_eq_true pi162) (of_eq_true qi162)
              cases ea_
              refine value_ (w1 := w') (v := .string (rdOf ByteArray.empty t159 (ji16))) (by rfl) rfl ?_ ?_
              ·go_simp
               (try simp only [i64_w])
               (try assumption)
               try rfl
              refine hK.out _ _ ⟨v152, adz_v152, v156, adz_v156, v160, adz_v160, m4_, m11_, m19_, (by rw [ha.out]; exact putSel_upk 17 hb_ rfl rfl rfl), Q_BK149, Q_HB, Q_HO153, Q_HA_HO153, Q_HO157, Q_HA_HO157, Q_HO161, Q_HA_HO161, Q_X4_, Q_X11_, Q_X19_⟩
             refine steps_cons ?_ ?_
             ·rintro b a w' ⟨v152, adz_v152, v156, adz_v156, v160, adz_v160, m4_, m11_, m19_, ha, Q_BK149, Q_HB, Q_HO153, Q_HA_HO153, Q_HO157, Q_HA_HO157, Q_HO161, Q_HA_HO161, Q_X4_, Q_X11_, Q_X19_⟩ hb_ hon hoff
              refine ⟨_, rfl, fun K hK => ?_⟩
              have e30 : a.tmps[30]? = some (.string ((((rdOf ByteArray.empty t151 (ji5)) ++ (⟨#[32]⟩ : ByteArray)) ++ (rdOf ByteArray.empty t155 (ji10))) ++ (⟨#[32]⟩ : ByteArray))) := by rw [ha]; exact putSel_on (e := (14, 30, .string ((((rdOf ByteArray.empty t151 (ji5)) ++ (⟨#[32]⟩ : ByteArray)) ++ (rdOf ByteArray.empty t155 (ji10))) ++ (⟨#[32]⟩ : ByteArray)))) 12 rfl rfl (hon 14 (by kernel_rfl)) rfl
              have e36 : a.tmps[36]? = some (.string (rdOf ByteArray.empty t159 (ji16))) := by rw [ha]; exact putSel_on (e := (20, 36, .string (rdOf ByteArray.empty t159 (ji16)))) 17 rfl rfl (hon 20 (by kernel_rfl)) rfl
              replace ha := Aside0.mk ha
              have BK149 := Aside0.mk Q_BK149
              have HB := Aside0.mk Q_HB
              have HO153 := Aside0.mk (Q_HO153 (hon 0 (by kernel_rfl)))
              have HA_HO153 := Aside0.mk (Q_HA_HO153 (hon 0 (by kernel_rfl)))
              have HO157 := Aside0.mk (Q_HO157 (hon 7 (by kernel_rfl)))
              have HA_HO157 := Aside0.mk (Q_HA_HO157 (hon 7 (by kernel_rfl)))
              have HO161 := Aside0.mk (Q_HO161 (hon 15 (by kernel_rfl)))
              have HA_HO161 := Aside0.mk (Q_HA_HO161 (hon 15 (by kernel_rfl)))
              refine value_ (w1 := w') (v := .string (((((rdOf ByteArray.empty t151 (ji5)) ++ (⟨#[32]⟩ : ByteArray)) ++ (rdOf ByteArray.empty t155 (ji10))) ++ (⟨#[32]⟩ : ByteArray)) ++ (rdOf ByteArray.empty t159 (ji16)))) (by rfl) rfl ?_ ?_
              ·go_simp
               (try simp only [i64_w])
               (try assumption)
               try rfl
              refine hK.out _ _ ⟨v152, adz_v152, v156, adz_v156, v160, adz_v160, m4_, m11_, m19_, (by rw [ha.out]; exact putSel_upk 18 hb_ rfl rfl rfl), Q_BK149, Q_HB, Q_HO153, Q_HA_HO153, Q_HO157, Q_HA_HO157, Q_HO161, Q_HA_HO161, Q_X4_, Q_X11_, Q_X19_⟩
             refine steps_cons ?_ ?_
             ·rintro b a w' ⟨v152, adz_v152, v156, adz_v156, v160, adz_v160, m4_, m11_, m19_, ha, Q_BK149, Q_HB, Q_HO153, Q_HA_HO153, Q_HO157, Q_HA_HO157, Q_HO161, Q_HA_HO161, Q_X4_, Q_X11_, Q_X19_⟩ hb_ hon hoff
              refine ⟨_, rfl, fun K hK => ?_⟩
              have e37 : a.tmps[37]? = some (.string (((((rdOf ByteArray.empty t151 (ji5)) ++ (⟨#[32]⟩ : ByteArray)) ++ (rdOf ByteArray.empty t155 (ji10))) ++ (⟨#[32]⟩ : ByteArray)) ++ (rdOf ByteArray.empty t159 (ji16)))) := by rw [ha]; exact putSel_on (e := (21, 37, .string (((((rdOf ByteArray.empty t151 (ji5)) ++ (⟨#[32]⟩ : ByteArray)) ++ (rdOf ByteArray.empty t155 (ji10))) ++ (⟨#[32]⟩ : ByteArray)) ++ (rdOf ByteArray.empty t159 (ji16))))) 18 rfl rfl (hon 21 (by kernel_rfl)) rfl
              replace ha := Aside0.mk ha
              have BK149 := Aside0.mk Q_BK149
              have HB := Aside0.mk Q_HB
              have HO153 := Aside0.mk (Q_HO153 (hon 0 (by kernel_rfl)))
              have HA_HO153 := Aside0.mk (Q_HA_HO153 (hon 0 (by kernel_rfl)))
              have HO157 := Aside0.mk (Q_HO157 (hon 7 (by kernel_rfl)))
              have HA_HO157 := Aside0.mk (Q_HA_HO157 (hon 7 (by kernel_rfl)))
              have HO161 := Aside0.mk (Q_HO161 (hon 15 (by kernel_rfl)))
              have HA_HO161 := Aside0.mk (Q_HA_HO161 (hon 15 (by kernel_rfl)))
              refine value_ (w1 := w') (v := .string (((((rdOf ByteArray.empty t151 (ji5)) ++ (⟨#[32]⟩ : ByteArray)) ++ (rdOf ByteArray.empty t155 (ji10))) ++ (⟨#[32]⟩ : ByteArray)) ++ (rdOf ByteArray.empty t159 (ji16)))) (by rfl) rfl ?_ ?_
              ·go_simp
               (try simp only [i64_w])
               (try assumption)
               try rfl
              refine hK.out _ _ ⟨v152, adz_v152, v156, adz_v156, v160, adz_v160, m4_, m11_, m19_, (by rw [ha.out]; exact putSel_upk 19 hb_ rfl rfl rfl), Q_BK149, Q_HB, Q_HO153, Q_HA_HO153, Q_HO157, Q_HA_HO157, Q_HO161, Q_HA_HO161, Q_X4_, Q_X11_, Q_X19_⟩
             exact steps_nil
            rintro b a w32 hall ⟨v152, adz_v152, v156, adz_v156, v160, adz_v160, m4_, m11_, m19_, ha, Q_BK149, Q_HB, Q_HO153, Q_HA_HO153, Q_HO157, Q_HA_HO157, Q_HO161, Q_HA_HO161, Q_X4_, Q_X11_, Q_X19_⟩
            clear BK149 HB
            have hb0_ := hall 0 (by kernel_rfl)
            have hb2_ := hall 2 (by kernel_rfl)
            have hb3_ := hall 3 (by kernel_rfl)
            have hb4_ := hall 4 (by kernel_rfl)
            have hb5_ := hall 5 (by kernel_rfl)
            have hb6_ := hall 6 (by kernel_rfl)
            have hb7_ := hall 7 (by kernel_rfl)
            have hb9_ := hall 9 (by kernel_rfl)
            have hb10_ := hall 10 (by kernel_rfl)
            have hb11_ := hall 11 (by kernel_rfl)
            have hb12_ := hall 12 (by kernel_rfl)
            have hb13_ := hall 13 (by kernel_rfl)
            have hb14_ := hall 14 (by kernel_rfl)
            have hb15_ := hall 15 (by kernel_rfl)
            have hb17_ := hall 17 (by kernel_rfl)
            have hb18_ := hall 18 (by kernel_rfl)
            have hb19_ := hall 19 (by kernel_rfl)
            have hb20_ := hall 20 (by kernel_rfl)
            have hb21_ := hall 21 (by kernel_rfl)
            have hb22_ := hall 22 (by kernel_rfl)
            subst ha
            obtain rfl := Q_X4_ hb4_
            obtain rfl := Q_X11_ hb11_
            obtain rfl := Q_X19_ hb19_
            simp only [putSel, hb0_, hb2_, hb3_, hb4_, hb5_, hb6_, hb7_, hb9_, hb10_, hb11_, hb12_, hb13_, hb14_, hb15_, hb17_, hb18_, hb19_, hb20_, hb21_, hb22_, if_true, Act.put, List.setIfInBounds_toArray, List.set_cons_zero, List.set_cons_succ]
            have BK149 := Aside0.mk Q_BK149
            clear Q_BK149
            have HB := Aside0.mk Q_HB
            clear Q_HB
            have HO153 := Aside0.mk (Q_HO153 hb0_)
            clear Q_HO153
            have HA_HO153 := Aside0.mk (Q_HA_HO153 hb0_)
            clear Q_HA_HO153
            have HO157 := Aside0.mk (Q_HO157 hb7_)
            clear Q_HO157
            have HA_HO157 := Aside0.mk (Q_HA_HO157 hb7_)
            clear Q_HA_HO157
            have HO161 := Aside0.mk (Q_HO161 hb15_)
            clear Q_HO161
            have HA_HO161 := Aside0.mk (Q_HA_HO161 hb15_)
            clear Q_HA_HO161
            clear hall hb0_ hb2_ hb3_ hb4_ hb5_ hb6_ hb7_ hb9_ hb10_ hb11_ hb12_ hb13_ hb14_ hb15_ hb17_ hb18_ hb19_ hb20_ hb21_ hb22_
            obtain ⟨co33, eo33⟩ := HA_HO153.out
            clear HA_HO153
            subst eo33
            obtain ⟨co34, eo34⟩ := HA_HO157.out
            clear HA_HO157
            subst eo34
            obtain ⟨co35, eo35⟩ := HA_HO161.out
            clear HA_HO161
            subst eo35
            have hcz36_0 := Zc BK149.out 0 (.int .u8 a0_0) rfl
            have hcz36_1 := Zc BK149.out 1 (.int .u8 a0_1) rfl
            have hcz36_2 := Zc BK149.out 2 (.int .u8 a0_2) rfl
            have hcz36_3 := Zc BK149.out 3 (.int .i64 a0_3) rfl
            have hcz36_4 := Zc BK149.out 4 (.int .u8 a0_4) rfl
            have hcz36_5 := Zc BK149.out 5 (.int .u8 a0_5) rfl
            have hcz36_6 := Zc BK149.out 6 (.int .u8 a0_6) rfl
            have hcz36_7 := Zc BK149.out 7 (.string a0_7) rfl
            have hfz36_0 := blk_frozen BK149.out 0
            have hfz36_1 := blk_frozen BK149.out 1
            have hfz36_2 := blk_frozen BK149.out 2
            have hfz36_3 := blk_frozen BK149.out 3
            have hfz36_4 := blk_frozen BK149.out 4
            have hfz36_5 := blk_frozen BK149.out 5
            have hfz36_6 := blk_frozen BK149.out 6
            have hfz36_7 := blk_frozen BK149.out 7
            go_upto_if 49 with (first | ((with_reducible refine gate_callee (f := 89) rfl ?_); refine goesL_ (some 43) rfl rfl Tryz.func89 (by kernel_rfl) rfl #[.int .u8 a0_1, .int .u8 a0_2] rfl Zl ?_; (with_reducible refine (gambitref05_Uses.calls k a0_1 a0_2 t163 t164 t165 t166 t167 _ A20.out).mono ?_); rintro e w' ⟨rfl, ⟨nd, rfl⟩⟩; refine ⟨_, rfl, ?_⟩))
            (try simp only [Act.put, List.setIfInBounds_toArray, List.set_cons_zero, List.set_cons_succ])
            go_cut [5] (fun v5 wc => ∃ (kq : Nat) (x5_20 : ByteArray), v5 = .string x5_20 ∧ Aside0 (gambitref05_Print.j0 kq x5_20 t164 t165 t166 t167 a0_0 a0_1 a0_2 a0_3 a0_4 a0_5 a0_6 a0_7 = some (r1, r2)) ∧ Aside0 (kq ≤ k) ∧ Aside0 (wc.heap[gb149]? = some (.cells #[.int .u8 a0_0, .int .u8 a0_1, .int .u8 a0_2, .int .i64 a0_3, .int .u8 a0_4, .int .u8 a0_5, .int .u8 a0_6, .string a0_7] 48 (0, 0))) ∧ Aside0 (Below w.heap.size w wc))
            case first =>
             have H := HC21.out
             clear HC21
             by_cases c37 : t163 = true
             ·subst c37
              have H1 : (if (((((rdOf ByteArray.empty t151 (ji5)) ++ (⟨#[32]⟩ : ByteArray)) ++ (rdOf ByteArray.empty t155 (ji10))) ++ (⟨#[32]⟩ : ByteArray)) ++ (rdOf ByteArray.empty t159 (ji16))).size + 1 ≤ 9223372036854775807 then ((gambitref05_Digits.f k a0_3).bind fun t168 => (if ((((((rdOf ByteArray.empty t151 (ji5)) ++ (⟨#[32]⟩ : ByteArray)) ++ (rdOf ByteArray.empty t155 (ji10))) ++ (⟨#[32]⟩ : ByteArray)) ++ (rdOf ByteArray.empty t159 (ji16))) ++ (⟨#[32]⟩ : ByteArray)).size + t168.size ≤ 9223372036854775807 then (gambitref05_Print.j0 k (((((((rdOf ByteArray.empty t151 (ji5)) ++ (⟨#[32]⟩ : ByteArray)) ++ (rdOf ByteArray.empty t155 (ji10))) ++ (⟨#[32]⟩ : ByteArray)) ++ (rdOf ByteArray.empty t159 (ji16))) ++ (⟨#[32]⟩ : ByteArray)) ++ t168) t164 t165 t166 t167 a0_0 a0_1 a0_2 a0_3 a0_4 a0_5 a0_6 a0_7) else (none))) else (none)) = some (r1, r2) := by rw [if_pos rfl] at H; exact H
              clear H
              have H := H1
              clear H1
              by_cases c38 : (((((rdOf ByteArray.empty t151 (ji5)) ++ (⟨#[32]⟩ : ByteArray)) ++ (rdOf ByteArray.empty t155 (ji10))) ++ (⟨#[32]⟩ : ByteArray)) ++ (rdOf ByteArray.empty t159 (ji16))).size + 1 ≤ 9223372036854775807
              ·rw [if_pos c38] at H
               have c38b0 := eq_true c38
               have c38b1 : decide ((((((rdOf ByteArray.empty t151 (ji5)) ++ (⟨#[32]⟩ : ByteArray)) ++ (rdOf ByteArray.empty t155 (ji10))) ++ (⟨#[32]⟩ : ByteArray)) ++ (rdOf ByteArray.empty t159 (ji16))).size + 1 ≤ 9223372036854775807) = true := decide_eq_true c38
               try have c38b2 : (9223372036854775807 < (((((rdOf ByteArray.empty t151 (ji5)) ++ (⟨#[32]⟩ : ByteArray)) ++ (rdOf ByteArray.empty t155 (ji10))) ++ (⟨#[32]⟩ : ByteArray)) ++ (rdOf ByteArray.empty t159 (ji16))).size + 1) = False := eq_false (Nat.not_lt.2 c38)
               (try (have c38s : (rdOf ByteArray.empty t151 (ji5)).size + 1 + (rdOf ByteArray.empty t155 (ji10)).size + 1 + (rdOf ByteArray.empty t159 (ji16)).size + 1 ≤ 9223372036854775807 := by have h_ := c38; simp only [ByteArray.size_append] at h_; exact h_))
               (try (have c38t : ((rdOf ByteArray.empty t151 (ji5)).size + 1 + (rdOf ByteArray.empty t155 (ji10)).size + 1 + (rdOf ByteArray.empty t159 (ji16)).size + 1 ≤ 9223372036854775807) = True := eq_true c38s))
               (try (have c38u : (9223372036854775807 < (rdOf ByteArray.empty t151 (ji5)).size + 1 + (rdOf ByteArray.empty t155 (ji10)).size + 1 + (rdOf ByteArray.empty t159 (ji16)).size + 1) = False := eq_false (Nat.not_lt.2 c38s)))
               (try (have c38v : (rdOf ByteArray.empty t151 (ji5)).size + 1 + (rdOf ByteArray.empty t155 (ji10)).size + 1 + (rdOf ByteArray.empty t159 (ji16)).size ≤ 9223372036854775806 := Nat.le_of_succ_le_succ c38s))
               (try (have c38w : ((rdOf ByteArray.empty t151 (ji5)).size + 1 + (rdOf ByteArray.empty t155 (ji10)).size + 1 + (rdOf ByteArray.empty t159 (ji16)).size ≤ 9223372036854775806) = True := eq_true c38v))
               (try (have c38x : (9223372036854775806 < (rdOf ByteArray.empty t151 (ji5)).size + 1 + (rdOf ByteArray.empty t155 (ji10)).size + 1 + (rdOf ByteArray.empty t159 (ji16)).size) = False := eq_false (Nat.not_lt.2 c38v)))
               replace H := Option.bind_eq_some_iff.mp H
               obtain ⟨t168, A390, H⟩ := H
               replace H : (if ((((((rdOf ByteArray.empty t151 (ji5)) ++ (⟨#[32]⟩ : ByteArray)) ++ (rdOf ByteArray.empty t155 (ji10))) ++ (⟨#[32]⟩ : ByteArray)) ++ (rdOf ByteArray.empty t159 (ji16))) ++ (⟨#[32]⟩ : ByteArray)).size + t168.size ≤ 9223372036854775807 then (gambitref05_Print.j0 k (((((((rdOf ByteArray.empty t151 (ji5)) ++ (⟨#[32]⟩ : ByteArray)) ++ (rdOf ByteArray.empty t155 (ji10))) ++ (⟨#[32]⟩ : ByteArray)) ++ (rdOf ByteArray.empty t159 (ji16))) ++ (⟨#[32]⟩ : ByteArray)) ++ t168) t164 t165 t166 t167 a0_0 a0_1 a0_2 a0_3 a0_4 a0_5 a0_6 a0_7) else (none)) = some (r1, r2) := H
               have A39 := Aside0.mk A390
               clear A390
               by_cases c40 : ((((((rdOf ByteArray.empty t151 (ji5)) ++ (⟨#[32]⟩ : ByteArray)) ++ (rdOf ByteArray.empty t155 (ji10))) ++ (⟨#[32]⟩ : ByteArray)) ++ (rdOf ByteArray.empty t159 (ji16))) ++ (⟨#[32]⟩ : ByteArray)).size + t168.size ≤ 9223372036854775807
               ·rw [if_pos c40] at H
                have c40b0 := eq_true c40
                have c40b1 : decide (((((((rdOf ByteArray.empty t151 (ji5)) ++ (⟨#[32]⟩ : ByteArray)) ++ (rdOf ByteArray.empty t155 (ji10))) ++ (⟨#[32]⟩ : ByteArray)) ++ (rdOf ByteArray.empty t159 (ji16))) ++ (⟨#[32]⟩ : ByteArray)).size + t168.size ≤ 9223372036854775807) = true := decide_eq_true c40
                try have c40b2 : (9223372036854775807 < ((((((rdOf ByteArray.empty t151 (ji5)) ++ (⟨#[32]⟩ : ByteArray)) ++ (rdOf ByteArray.empty t155 (ji10))) ++ (⟨#[32]⟩ : ByteArray)) ++ (rdOf ByteArray.empty t159 (ji16))) ++ (⟨#[32]⟩ : ByteArray)).size + t168.size) = False := eq_false (Nat.not_lt.2 c40)
                (try (have c40s : (rdOf ByteArray.empty t151 (ji5)).size + 1 + (rdOf ByteArray.empty t155 (ji10)).size + 1 + (rdOf ByteArray.empty t159 (ji16)).size + 1 + (t168).size ≤ 9223372036854775807 := by have h_ := c40; simp only [ByteArray.size_append] at h_; exact h_))
                (try (have c40t : ((rdOf ByteArray.empty t151 (ji5)).size + 1 + (rdOf ByteArray.empty t155 (ji10)).size + 1 + (rdOf ByteArray.empty t159 (ji16)).size + 1 + (t168).size ≤ 9223372036854775807) = True := eq_true c40s))
                (try (have c40u : (9223372036854775807 < (rdOf ByteArray.empty t151 (ji5)).size + 1 + (rdOf ByteArray.empty t155 (ji10)).size + 1 + (rdOf ByteArray.empty t159 (ji16)).size + 1 + (t168).size) = False := eq_false (Nat.not_lt.2 c40s)))
                have H' := Aside0.mk H
                clear H
                have hcz41_0 := Zc BK149.out 0 (.int .u8 a0_0) rfl
                have hcz41_1 := Zc BK149.out 1 (.int .u8 a0_1) rfl
                have hcz41_2 := Zc BK149.out 2 (.int .u8 a0_2) rfl
                have hcz41_3 := Zc BK149.out 3 (.int .i64 a0_3) rfl
                have hcz41_4 := Zc BK149.out 4 (.int .u8 a0_4) rfl
                have hcz41_5 := Zc BK149.out 5 (.int .u8 a0_5) rfl
                have hcz41_6 := Zc BK149.out 6 (.int .u8 a0_6) rfl
                have hcz41_7 := Zc BK149.out 7 (.string a0_7) rfl
                have hfz41_0 := blk_frozen BK149.out 0
                have hfz41_1 := blk_frozen BK149.out 1
                have hfz41_2 := blk_frozen BK149.out 2
                have hfz41_3 := blk_frozen BK149.out 3
                have hfz41_4 := blk_frozen BK149.out 4
                have hfz41_5 := blk_frozen BK149.out 5
                have hfz41_6 := blk_frozen BK149.out 6
                have hfz41_7 := blk_frozen BK149.out 7
                go_wp2_with (first | ((with_reducible refine gate_callee (f := 90) rfl ?_); refine goesL_ (some 54) rfl rfl Tryz.func90 (by kernel_rfl) rfl #[.int .i64 a0_3] rfl Zl ?_; (with_reducible refine (gambitref05_Digits.calls k a0_3 t168 _ A39.out).mono ?_); rintro e w' ⟨rfl, ⟨nd, rfl⟩⟩; refine ⟨_, rfl, ?_⟩))
                go_meet
                case rel => exact ⟨_, (((((((rdOf ByteArray.empty t151 (ji5)) ++ (⟨#[32]⟩ : ByteArray)) ++ (rdOf ByteArray.empty t155 (ji10))) ++ (⟨#[32]⟩ : ByteArray)) ++ (rdOf ByteArray.empty t159 (ji16))) ++ (⟨#[32]⟩ : ByteArray)) ++ t168), (by first | rfl | (simp; done) | (simp only [← hji5, ← hji10, ← hji16] <;> (first | rfl | simp)) | (simp [*]; done)), H', ⟨by first | omega | exact Nat.le_refl _⟩, ⟨Zk BK149.out⟩, ⟨Zb1 GE149.out⟩⟩
               ·rw [if_neg c40] at H
                exact absurd H (by simp)
              ·rw [if_neg c38] at H
               exact absurd H (by simp)
             ·replace c37 := Bool.eq_false_iff.mpr c37
              subst c37
              have H1 : (gambitref05_Print.j0 k (((((rdOf ByteArray.empty t151 (ji5)) ++ (⟨#[32]⟩ : ByteArray)) ++ (rdOf ByteArray.empty t155 (ji10))) ++ (⟨#[32]⟩ : ByteArray)) ++ (rdOf ByteArray.empty t159 (ji16))) t164 t165 t166 t167 a0_0 a0_1 a0_2 a0_3 a0_4 a0_5 a0_6 a0_7) = some (r1, r2) := by rw [if_neg (show ¬ (false = true) by decide)] at H; exact H
              clear H
              have H := H1
              clear H1
              have H' := Aside0.mk H
              clear H
              go_wp2
              go_meet
              case rel => exact ⟨_, (((((rdOf ByteArray.empty t151 (ji5)) ++ (⟨#[32]⟩ : ByteArray)) ++ (rdOf ByteArray.empty t155 (ji10))) ++ (⟨#[32]⟩ : ByteArray)) ++ (rdOf ByteArray.empty t159 (ji16))), (by first | rfl | (simp; done) | (simp only [← hji5, ← hji10, ← hji16] <;> (first | rfl | simp)) | (simp [*]; done)), H', ⟨by first | omega | exact Nat.le_refl _⟩, ⟨Zk BK149.out⟩, ⟨Zb1 GE149.out⟩⟩
            case rest =>
             clear HC21
             try clear c1
             try clear qi1
             try clear c2
             try clear p2
             try clear c3
             try clear c4
             try clear c5
             try clear c6
             try clear c7
             try clear c8
             try clear c9
             try clear qi15
             try clear qi16
             try clear c37
             try clear c38
             try clear c38b0
             try clear c38b1
             try clear c38b2
             try clear c40
             try clear c40b0
             try clear c40b1
             try clear c40b2
             try clear hcz36_0
             try clear hcz36_1
             try clear hcz36_2
             try clear hcz36_3
             try clear hcz36_4
             try clear hcz36_5
             try clear hcz36_6
             try clear hcz36_7
             try clear hcz41_0
             try clear hcz41_1
             try clear hcz41_2
             try clear hcz41_3
             try clear hcz41_4
             try clear hcz41_5
             try clear hcz41_6
             try clear hcz41_7
             try clear hfz36_0
             try clear hfz36_1
             try clear hfz36_2
             try clear hfz36_3
             try clear hfz36_4
             try clear hfz36_5
             try clear hfz36_6
             try clear hfz36_7
             try clear hfz41_0
             try clear hfz41_1
             try clear hfz41_2
             try clear hfz41_3
             try clear hfz41_4
             try clear hfz41_5
             try clear hfz41_6
             try clear hfz41_7
             obtain ⟨kq, x5_20, rfl, HA, HJ20, BK149, HB⟩ := hcut
             cases kq with
             | zero => exact absurd HA.out (by simp [gambitref05_Print.j0])
             | succ kj20 =>
              have H := HA.out
              clear HA
              simp only [gambitref05_Print.j0] at H
              have HC42 := Aside0.mk H
              clear H
              go_upto_if 56 with (fail)
              go_cut [5] (fun v5 wc => ∃ (kq : Nat) (x5_41 : ByteArray), v5 = .string x5_41 ∧ Aside0 (gambitref05_Print.j1 kq x5_41 t165 t166 t167 a0_0 a0_1 a0_2 a0_3 a0_4 a0_5 a0_6 a0_7 = some (r1, r2)) ∧ Aside0 (kq ≤ kj20) ∧ Aside0 (wc.heap[gb149]? = some (.cells #[.int .u8 a0_0, .int .u8 a0_1, .int .u8 a0_2, .int .i64 a0_3, .int .u8 a0_4, .int .u8 a0_5, .int .u8 a0_6, .string a0_7] 48 (0, 0))) ∧ Aside0 (Below w.heap.size w wc))
              case first =>
               have H := HC42.out
               clear HC42
               by_cases c43 : t164 = true
               ·subst c43
                have H1 : (if x5_20.size + 1 ≤ 9223372036854775807 then ((gambitref03_Name.f a0_4).bind fun t169 => (if (x5_20 ++ (⟨#[32]⟩ : ByteArray)).size + t169.size ≤ 9223372036854775807 then (gambitref05_Print.j1 kj20 ((x5_20 ++ (⟨#[32]⟩ : ByteArray)) ++ t169) t165 t166 t167 a0_0 a0_1 a0_2 a0_3 a0_4 a0_5 a0_6 a0_7) else (none))) else (none)) = some (r1, r2) := by rw [if_pos rfl] at H; exact H
                clear H
                have H := H1
                clear H1
                by_cases c44 : x5_20.size + 1 ≤ 9223372036854775807
                ·rw [if_pos c44] at H
                 have c44b0 := eq_true c44
                 have c44b1 : decide (x5_20.size + 1 ≤ 9223372036854775807) = true := decide_eq_true c44
                 try have c44b2 : (9223372036854775807 < x5_20.size + 1) = False := eq_false (Nat.not_lt.2 c44)
                 replace H := Option.bind_eq_some_iff.mp H
                 obtain ⟨t169, A450, H⟩ := H
                 replace H : (if (x5_20 ++ (⟨#[32]⟩ : ByteArray)).size + t169.size ≤ 9223372036854775807 then (gambitref05_Print.j1 kj20 ((x5_20 ++ (⟨#[32]⟩ : ByteArray)) ++ t169) t165 t166 t167 a0_0 a0_1 a0_2 a0_3 a0_4 a0_5 a0_6 a0_7) else (none)) = some (r1, r2) := H
                 have A45 := Aside0.mk A450
                 clear A450
                 by_cases c46 : (x5_20 ++ (⟨#[32]⟩ : ByteArray)).size + t169.size ≤ 9223372036854775807
                 ·rw [if_pos c46] at H
                  have c46b0 := eq_true c46
                  have c46b1 : decide ((x5_20 ++ (⟨#[32]⟩ : ByteArray)).size + t169.size ≤ 9223372036854775807) = true := decide_eq_true c46
                  try have c46b2 : (9223372036854775807 < (x5_20 ++ (⟨#[32]⟩ : ByteArray)).size + t169.size) = False := eq_false (Nat.not_lt.2 c46)
                  (try (have c46s : (x5_20).size + 1 + (t169).size ≤ 9223372036854775807 := by have h_ := c46; simp only [ByteArray.size_append] at h_; exact h_))
                  (try (have c46t : ((x5_20).size + 1 + (t169).size ≤ 9223372036854775807) = True := eq_true c46s))
                  (try (have c46u : (9223372036854775807 < (x5_20).size + 1 + (t169).size) = False := eq_false (Nat.not_lt.2 c46s)))
                  have H' := Aside0.mk H
                  clear H
                  have hcz47_0 := Zc BK149.out 0 (.int .u8 a0_0) rfl
                  have hcz47_1 := Zc BK149.out 1 (.int .u8 a0_1) rfl
                  have hcz47_2 := Zc BK149.out 2 (.int .u8 a0_2) rfl
                  have hcz47_3 := Zc BK149.out 3 (.int .i64 a0_3) rfl
                  have hcz47_4 := Zc BK149.out 4 (.int .u8 a0_4) rfl
                  have hcz47_5 := Zc BK149.out 5 (.int .u8 a0_5) rfl
                  have hcz47_6 := Zc BK149.out 6 (.int .u8 a0_6) rfl
                  have hcz47_7 := Zc BK149.out 7 (.string a0_7) rfl
                  have hfz47_0 := blk_frozen BK149.out 0
                  have hfz47_1 := blk_frozen BK149.out 1
                  have hfz47_2 := blk_frozen BK149.out 2
                  have hfz47_3 := blk_frozen BK149.out 3
                  have hfz47_4 := blk_frozen BK149.out 4
                  have hfz47_5 := blk_frozen BK149.out 5
                  have hfz47_6 := blk_frozen BK149.out 6
                  have hfz47_7 := blk_frozen BK149.out 7
                  go_wp2_with (first | ((with_reducible refine gate_callee (f := 38) rfl ?_); refine goesL_ (some 61) rfl rfl Tryz.func38 (by kernel_rfl) rfl #[.int .u8 a0_4] rfl Zl ?_; (with_reducible refine (gambitref03_Name.calls a0_4 t169 _ A45.out).mono ?_); rintro e w' ⟨rfl, ⟨nd, rfl⟩⟩; refine ⟨_, rfl, ?_⟩))
                  go_meet
                  case rel => exact ⟨_, ((x5_20 ++ (⟨#[32]⟩ : ByteArray)) ++ t169), Zs, H', ⟨by have := HJ20.out; first | omega | exact Nat.le_refl _⟩, ⟨Zk BK149.out⟩, ⟨Zb1 GE149.out⟩⟩
                 ·rw [if_neg c46] at H
                  exact absurd H (by simp)
                ·rw [if_neg c44] at H
                 exact absurd H (by simp)
               ·replace c43 := Bool.eq_false_iff.mpr c43
                subst c43
                have H1 : (gambitref05_Print.j1 kj20 x5_20 t165 t166 t167 a0_0 a0_1 a0_2 a0_3 a0_4 a0_5 a0_6 a0_7) = some (r1, r2) := by rw [if_neg (show ¬ (false = true) by decide)] at H; exact H
                clear H
                have H := H1
                clear H1
                have H' := Aside0.mk H
                clear H
                go_wp2
                go_meet
                case rel => exact ⟨_, (x5_20), Zs, H', ⟨by have := HJ20.out; first | omega | exact Nat.le_refl _⟩, ⟨Zk BK149.out⟩, ⟨Zb1 GE149.out⟩⟩
              case rest =>
               clear HC42
               try clear c1
               try clear qi1
               try clear c2
               try clear p2
               try clear c3
               try clear c4
               try clear c5
               try clear c6
               try clear c7
               try clear c8
               try clear c9
               try clear qi15
               try clear qi16
               try clear c37
               try clear c38
               try clear c38b0
               try clear c38b1
               try clear c38b2
               try clear c40
               try clear c40b0
               try clear c40b1
               try clear c40b2
               try clear c43
               try clear c44
               try clear c44b0
               try clear c44b1
               try clear c44b2
               try clear c46
               try clear c46b0
               try clear c46b1
               try clear c46b2
               try clear hcz36_0
               try clear hcz36_1
               try clear hcz36_2
               try clear hcz36_3
               try clear hcz36_4
               try clear hcz36_5
               try clear hcz36_6
               try clear hcz36_7
               try clear hcz41_0
               try clear hcz41_1
               try clear hcz41_2
               try clear hcz41_3
               try clear hcz41_4
               try clear hcz41_5
               try clear hcz41_6
               try clear hcz41_7
               try clear hcz47_0
               try clear hcz47_1
               try clear hcz47_2
               try clear hcz47_3
               try clear hcz47_4
               try clear hcz47_5
               try clear hcz47_6
               try clear hcz47_7
               try clear hfz36_0
               try clear hfz36_1
               try clear hfz36_2
               try clear hfz36_3
               try clear hfz36_4
               try clear hfz36_5
               try clear hfz36_6
               try clear hfz36_7
               try clear hfz41_0
               try clear hfz41_1
               try clear hfz41_2
               try clear hfz41_3
               try clear hfz41_4
               try clear hfz41_5
               try clear hfz41_6
               try clear hfz41_7
               try clear hfz47_0
               try clear hfz47_1
               try clear hfz47_2
               try clear hfz47_3
               try clear hfz47_4
               try clear hfz47_5
               try clear hfz47_6
               try clear hfz47_7
               try clear p2
               obtain ⟨kq, x5_41, rfl, HA, HJ41, BK149, HB⟩ := hcut
               cases kq with
               | zero => exact absurd HA.out (by simp [gambitref05_Print.j1])
               | succ kj41 =>
                have H := HA.out
                clear HA
                simp only [gambitref05_Print.j1] at H
                have HC48 := Aside0.mk H
                clear H
                go_upto_if 63 with (fail)
                go_cut [5] (fun v5 wc => ∃ (kq : Nat) (x5_47 : ByteArray), v5 = .string x5_47 ∧ Aside0 (gambitref05_Print.j2 kq x5_47 t166 t167 a0_0 a0_1 a0_2 a0_3 a0_4 a0_5 a0_6 a0_7 = some (r1, r2)) ∧ Aside0 (kq ≤ kj41) ∧ Aside0 (wc.heap[gb149]? = some (.cells #[.int .u8 a0_0, .int .u8 a0_1, .int .u8 a0_2, .int .i64 a0_3, .int .u8 a0_4, .int .u8 a0_5, .int .u8 a0_6, .string a0_7] 48 (0, 0))) ∧ Aside0 (Below w.heap.size w wc))
                case first =>
                 have H := HC48.out
                 clear HC48
                 by_cases c49 : t165 = true
                 ·subst c49
                  have H1 : (if x5_41.size + 1 ≤ 9223372036854775807 then ((gambitref04_Name.f kj41 a0_5).bind fun t170 => (if (x5_41 ++ (⟨#[32]⟩ : ByteArray)).size + t170.size ≤ 9223372036854775807 then (gambitref05_Print.j2 kj41 ((x5_41 ++ (⟨#[32]⟩ : ByteArray)) ++ t170) t166 t167 a0_0 a0_1 a0_2 a0_3 a0_4 a0_5 a0_6 a0_7) else (none))) else (none)) = some (r1, r2) := by rw [if_pos rfl] at H; exact H
                  clear H
                  have H := H1
                  clear H1
                  by_cases c50 : x5_41.size + 1 ≤ 9223372036854775807
                  ·rw [if_pos c50] at H
                   have c50b0 := eq_true c50
                   have c50b1 : decide (x5_41.size + 1 ≤ 9223372036854775807) = true := decide_eq_true c50
                   try have c50b2 : (9223372036854775807 < x5_41.size + 1) = False := eq_false (Nat.not_lt.2 c50)
                   replace H := Option.bind_eq_some_iff.mp H
                   obtain ⟨t170, A510, H⟩ := H
                   replace H : (if (x5_41 ++ (⟨#[32]⟩ : ByteArray)).size + t170.size ≤ 9223372036854775807 then (gambitref05_Print.j2 kj41 ((x5_41 ++ (⟨#[32]⟩ : ByteArray)) ++ t170) t166 t167 a0_0 a0_1 a0_2 a0_3 a0_4 a0_5 a0_6 a0_7) else (none)) = some (r1, r2) := H
                   have A51 := Aside0.mk A510
                   clear A510
                   by_cases c52 : (x5_41 ++ (⟨#[32]⟩ : ByteArray)).size + t170.size ≤ 9223372036854775807
                   ·rw [if_pos c52] at H
                    have c52b0 := eq_true c52
                    have c52b1 : decide ((x5_41 ++ (⟨#[32]⟩ : ByteArray)).size + t170.size ≤ 9223372036854775807) = true := decide_eq_true c52
                    try have c52b2 : (9223372036854775807 < (x5_41 ++ (⟨#[32]⟩ : ByteArray)).size + t170.size) = False := eq_false (Nat.not_lt.2 c52)
                    (try (have c52s : (x5_41).size + 1 + (t170).size ≤ 9223372036854775807 := by have h_ := c52; simp only [ByteArray.size_append] at h_; exact h_))
                    (try (have c52t : ((x5_41).size + 1 + (t170).size ≤ 9223372036854775807) = True := eq_true c52s))
                    (try (have c52u : (9223372036854775807 < (x5_41).size + 1 + (t170).size) = False := eq_false (Nat.not_lt.2 c52s)))
                    have H' := Aside0.mk H
                    clear H
                    have hcz53_0 := Zc BK149.out 0 (.int .u8 a0_0) rfl
                    have hcz53_1 := Zc BK149.out 1 (.int .u8 a0_1) rfl
                    have hcz53_2 := Zc BK149.out 2 (.int .u8 a0_2) rfl
                    have hcz53_3 := Zc BK149.out 3 (.int .i64 a0_3) rfl
                    have hcz53_4 := Zc BK149.out 4 (.int .u8 a0_4) rfl
                    have hcz53_5 := Zc BK149.out 5 (.int .u8 a0_5) rfl
                    have hcz53_6 := Zc BK149.out 6 (.int .u8 a0_6) rfl
                    have hcz53_7 := Zc BK149.out 7 (.string a0_7) rfl
                    have hfz53_0 := blk_frozen BK149.out 0
                    have hfz53_1 := blk_frozen BK149.out 1
                    have hfz53_2 := blk_frozen BK149.out 2
                    have hfz53_3 := blk_frozen BK149.out 3
                    have hfz53_4 := blk_frozen BK149.out 4
                    have hfz53_5 := blk_frozen BK149.out 5
                    have hfz53_6 := blk_frozen BK149.out 6
                    have hfz53_7 := blk_frozen BK149.out 7
                    go_wp2_with (first | ((with_reducible refine gate_callee (f := 41) rfl ?_); refine goesL_ (some 68) rfl rfl Tryz.func41 (by kernel_rfl) rfl #[.int .u8 a0_5] rfl Zl ?_; (with_reducible refine (gambitref04_Name.calls kj41 a0_5 t170 _ A51.out).mono ?_); rintro e w54 ⟨rfl, hb⟩; refine ⟨_, rfl, ?_⟩; replace BK149 := Aside0.mk (blk_below (g := gb149) (o := .cells #[.int .u8 a0_0, .int .u8 a0_1, .int .u8 a0_2, .int .i64 a0_3, .int .u8 a0_4, .int .u8 a0_5, .int .u8 a0_6, .string a0_7] 48 (0, 0)) (Zk BK149.out) hb); replace HB := Aside0.mk (below_step (Zb1 GE149.out) hb); (try clear hb); (try clear hb2); (try clear hk); (try clear hi)))
                    go_meet
                    case rel => exact ⟨_, ((x5_41 ++ (⟨#[32]⟩ : ByteArray)) ++ t170), Zs, H', ⟨by have := HJ20.out; have := HJ41.out; first | omega | exact Nat.le_refl _⟩, ⟨Zk BK149.out⟩, ⟨Zb1 GE149.out⟩⟩
                   ·rw [if_neg c52] at H
                    exact absurd H (by simp)
                  ·rw [if_neg c50] at H
                   exact absurd H (by simp)
                 ·replace c49 := Bool.eq_false_iff.mpr c49
                  subst c49
                  have H1 : (gambitref05_Print.j2 kj41 x5_41 t166 t167 a0_0 a0_1 a0_2 a0_3 a0_4 a0_5 a0_6 a0_7) = some (r1, r2) := by rw [if_neg (show ¬ (false = true) by decide)] at H; exact H
                  clear H
                  have H := H1
                  clear H1
                  have H' := Aside0.mk H
                  clear H
                  go_wp2
                  go_meet
                  case rel => exact ⟨_, (x5_41), Zs, H', ⟨by have := HJ20.out; have := HJ41.out; first | omega | exact Nat.le_refl _⟩, ⟨Zk BK149.out⟩, ⟨Zb1 GE149.out⟩⟩
                case rest =>
                 clear HC48
                 try clear c1
                 try clear qi1
                 try clear c2
                 try clear p2
                 try clear c3
                 try clear c4
                 try clear c5
                 try clear c6
                 try clear c7
                 try clear c8
                 try clear c9
                 try clear qi15
                 try clear qi16
                 try clear c37
                 try clear c38
                 try clear c38b0
                 try clear c38b1
                 try clear c38b2
                 try clear c40
                 try clear c40b0
                 try clear c40b1
                 try clear c40b2
                 try clear c41
                 try clear c43
                 try clear c44
                 try clear c44b0
                 try clear c44b1
                 try clear c44b2
                 try clear c46
                 try clear c46b0
                 try clear c46b1
                 try clear c46b2
                 try clear c49
                 try clear c50
                 try clear c50b0
                 try clear c50b1
                 try clear c50b2
                 try clear c52
                 try clear c52b0
                 try clear c52b1
                 try clear c52b2
                 try clear hcz36_0
                 try clear hcz36_1
                 try clear hcz36_2
                 try clear hcz36_3
                 try clear hcz36_4
                 try clear hcz36_5
                 try clear hcz36_6
                 try clear hcz36_7
                 try clear hcz41_0
                 try clear hcz41_1
                 try clear hcz41_2
                 try clear hcz41_3
                 try clear hcz41_4
                 try clear hcz41_5
                 try clear hcz41_6
                 try clear hcz41_7
                 try clear hcz47_0
                 try clear hcz47_1
                 try clear hcz47_2
                 try clear hcz47_3
                 try clear hcz47_4
                 try clear hcz47_5
                 try clear hcz47_6
                 try clear hcz47_7
                 try clear hcz53_0
                 try clear hcz53_1
                 try clear hcz53_2
                 try clear hcz53_3
                 try clear hcz53_4
                 try clear hcz53_5
                 try clear hcz53_6
                 try clear hcz53_7
                 try clear hfz36_0
                 try clear hfz36_1
                 try clear hfz36_2
                 try clear hfz36_3
                 try clear hfz36_4
                 try clear hfz36_5
                 try clear hfz36_6
                 try clear hfz36_7
                 try clear hfz41_0
                 try clear hfz41_1
                 try clear hfz41_2
                 try clear hfz41_3
                 try clear hfz41_4
                 try clear hfz41_5
                 try clear hfz41_6
                 try clear hfz41_7
                 try clear hfz47_0
                 try clear hfz47_1
                 try clear hfz47_2
                 try clear hfz47_3
                 try clear hfz47_4
                 try clear hfz47_5
                 try clear hfz47_6
                 try clear hfz47_7
                 try clear hfz53_0
                 try clear hfz53_1
                 try clear hfz53_2
                 try clear hfz53_3
                 try clear hfz53_4
                 try clear hfz53_5
                 try clear hfz53_6
                 try clear hfz53_7
                 try clear p2
                 obtain ⟨kq, x5_47, rfl, HA, HJ47, BK149, HB⟩ := hcut
                 cases kq with
                 | zero => exact absurd HA.out (by simp [gambitref05_Print.j2])
                 | succ kj47 =>
                  have H := HA.out
                  clear HA
                  simp only [gambitref05_Print.j2] at H
                  by_cases c55 : t166 = true
                  ·subst c55
                   have H1 : (if x5_47.size + 1 ≤ 9223372036854775807 then ((gambitref05_Digits.f kj47 (wrap64 (a0_6))).bind fun t171 => (if (x5_47 ++ (⟨#[32]⟩ : ByteArray)).size + t171.size ≤ 9223372036854775807 then (if t167 = true then (if ((x5_47 ++ (⟨#[32]⟩ : ByteArray)) ++ t171).size + 1 ≤ 9223372036854775807 then (if (((x5_47 ++ (⟨#[32]⟩ : ByteArray)) ++ t171) ++ (⟨#[32]⟩ : ByteArray)).size + a0_7.size ≤ 9223372036854775807 then (some ((((x5_47 ++ (⟨#[32]⟩ : ByteArray)) ++ t171) ++ (⟨#[32]⟩ : ByteArray)) ++ a0_7, 0)) else (none)) else (none)) else (some ((x5_47 ++ (⟨#[32]⟩ : ByteArray)) ++ t171, 0))) else (none))) else (none)) = some (r1, r2) := by rw [if_pos rfl] at H; exact H
                   clear H
                   have H := H1
                   clear H1
                   by_cases c56 : x5_47.size + 1 ≤ 9223372036854775807
                   ·rw [if_pos c56] at H
                    have c56b0 := eq_true c56
                    have c56b1 : decide (x5_47.size + 1 ≤ 9223372036854775807) = true := decide_eq_true c56
                    try have c56b2 : (9223372036854775807 < x5_47.size + 1) = False := eq_false (Nat.not_lt.2 c56)
                    replace H := Option.bind_eq_some_iff.mp H
                    obtain ⟨t171, A570, H⟩ := H
                    replace H : (if (x5_47 ++ (⟨#[32]⟩ : ByteArray)).size + t171.size ≤ 9223372036854775807 then (if t167 = true then (if ((x5_47 ++ (⟨#[32]⟩ : ByteArray)) ++ t171).size + 1 ≤ 9223372036854775807 then (if (((x5_47 ++ (⟨#[32]⟩ : ByteArray)) ++ t171) ++ (⟨#[32]⟩ : ByteArray)).size + a0_7.size ≤ 9223372036854775807 then (some ((((x5_47 ++ (⟨#[32]⟩ : ByteArray)) ++ t171) ++ (⟨#[32]⟩ : ByteArray)) ++ a0_7, 0)) else (none)) else (none)) else (some ((x5_47 ++ (⟨#[32]⟩ : ByteArray)) ++ t171, 0))) else (none)) = some (r1, r2) := H
                    have A57 := Aside0.mk A570
                    clear A570
                    by_cases c58 : (x5_47 ++ (⟨#[32]⟩ : ByteArray)).size + t171.size ≤ 9223372036854775807
                    ·rw [if_pos c58] at H
                     have c58b0 := eq_true c58
                     have c58b1 : decide ((x5_47 ++ (⟨#[32]⟩ : ByteArray)).size + t171.size ≤ 9223372036854775807) = true := decide_eq_true c58
                     try have c58b2 : (9223372036854775807 < (x5_47 ++ (⟨#[32]⟩ : ByteArray)).size + t171.size) = False := eq_false (Nat.not_lt.2 c58)
                     (try (have c58s : (x5_47).size + 1 + (t171).size ≤ 9223372036854775807 := by have h_ := c58; simp only [ByteArray.size_append] at h_; exact h_))
                     (try (have c58t : ((x5_47).size + 1 + (t171).size ≤ 9223372036854775807) = True := eq_true c58s))
                     (try (have c58u : (9223372036854775807 < (x5_47).size + 1 + (t171).size) = False := eq_false (Nat.not_lt.2 c58s)))
                     by_cases c59 : t167 = true
                     ·subst c59
                      have H1 : (if ((x5_47 ++ (⟨#[32]⟩ : ByteArray)) ++ t171).size + 1 ≤ 9223372036854775807 then (if (((x5_47 ++ (⟨#[32]⟩ : ByteArray)) ++ t171) ++ (⟨#[32]⟩ : ByteArray)).size + a0_7.size ≤ 9223372036854775807 then (some ((((x5_47 ++ (⟨#[32]⟩ : ByteArray)) ++ t171) ++ (⟨#[32]⟩ : ByteArray)) ++ a0_7, 0)) else (none)) else (none)) = some (r1, r2) := by rw [if_pos rfl] at H; exact H
                      clear H
                      have H := H1
                      clear H1
                      by_cases c60 : ((x5_47 ++ (⟨#[32]⟩ : ByteArray)) ++ t171).size + 1 ≤ 9223372036854775807
                      ·rw [if_pos c60] at H
                       have c60b0 := eq_true c60
                       have c60b1 : decide (((x5_47 ++ (⟨#[32]⟩ : ByteArray)) ++ t171).size + 1 ≤ 9223372036854775807) = true := decide_eq_true c60
                       try have c60b2 : (9223372036854775807 < ((x5_47 ++ (⟨#[32]⟩ : ByteArray)) ++ t171).size + 1) = False := eq_false (Nat.not_lt.2 c60)
                       (try (have c60s : (x5_47).size + 1 + (t171).size + 1 ≤ 9223372036854775807 := by have h_ := c60; simp only [ByteArray.size_append] at h_; exact h_))
                       (try (have c60t : ((x5_47).size + 1 + (t171).size + 1 ≤ 9223372036854775807) = True := eq_true c60s))
                       (try (have c60u : (9223372036854775807 < (x5_47).size + 1 + (t171).size + 1) = False := eq_false (Nat.not_lt.2 c60s)))
                       (try (have c60v : (x5_47).size + 1 + (t171).size ≤ 9223372036854775806 := Nat.le_of_succ_le_succ c60s))
                       (try (have c60w : ((x5_47).size + 1 + (t171).size ≤ 9223372036854775806) = True := eq_true c60v))
                       (try (have c60x : (9223372036854775806 < (x5_47).size + 1 + (t171).size) = False := eq_false (Nat.not_lt.2 c60v)))
                       by_cases c61 : (((x5_47 ++ (⟨#[32]⟩ : ByteArray)) ++ t171) ++ (⟨#[32]⟩ : ByteArray)).size + a0_7.size ≤ 9223372036854775807
                       ·rw [if_pos c61] at H
                        have c61b0 := eq_true c61
                        have c61b1 : decide ((((x5_47 ++ (⟨#[32]⟩ : ByteArray)) ++ t171) ++ (⟨#[32]⟩ : ByteArray)).size + a0_7.size ≤ 9223372036854775807) = true := decide_eq_true c61
                        try have c61b2 : (9223372036854775807 < (((x5_47 ++ (⟨#[32]⟩ : ByteArray)) ++ t171) ++ (⟨#[32]⟩ : ByteArray)).size + a0_7.size) = False := eq_false (Nat.not_lt.2 c61)
                        (try (have c61s : (x5_47).size + 1 + (t171).size + 1 + (a0_7).size ≤ 9223372036854775807 := by have h_ := c61; simp only [ByteArray.size_append] at h_; exact h_))
                        (try (have c61t : ((x5_47).size + 1 + (t171).size + 1 + (a0_7).size ≤ 9223372036854775807) = True := eq_true c61s))
                        (try (have c61u : (9223372036854775807 < (x5_47).size + 1 + (t171).size + 1 + (a0_7).size) = False := eq_false (Nat.not_lt.2 c61s)))
                        simp only [Option.some.injEq, Prod.mk.injEq] at H
                        obtain ⟨rfl, rfl⟩ := H
                        have hcz62_0 := Zc BK149.out 0 (.int .u8 a0_0) rfl
                        have hcz62_1 := Zc BK149.out 1 (.int .u8 a0_1) rfl
                        have hcz62_2 := Zc BK149.out 2 (.int .u8 a0_2) rfl
                        have hcz62_3 := Zc BK149.out 3 (.int .i64 a0_3) rfl
                        have hcz62_4 := Zc BK149.out 4 (.int .u8 a0_4) rfl
                        have hcz62_5 := Zc BK149.out 5 (.int .u8 a0_5) rfl
                        have hcz62_6 := Zc BK149.out 6 (.int .u8 a0_6) rfl
                        have hcz62_7 := Zc BK149.out 7 (.string a0_7) rfl
                        have hfz62_0 := blk_frozen BK149.out 0
                        have hfz62_1 := blk_frozen BK149.out 1
                        have hfz62_2 := blk_frozen BK149.out 2
                        have hfz62_3 := blk_frozen BK149.out 3
                        have hfz62_4 := blk_frozen BK149.out 4
                        have hfz62_5 := blk_frozen BK149.out 5
                        have hfz62_6 := blk_frozen BK149.out 6
                        have hfz62_7 := blk_frozen BK149.out 7
                        go_wp2_with (first | ((with_reducible refine gate_callee (f := 90) rfl ?_); refine goesL_ (some 76) rfl rfl Tryz.func90 (by kernel_rfl) rfl #[.int .i64 (wrap64 (a0_6))] rfl Zl ?_; (with_reducible refine (gambitref05_Digits.calls kj47 (wrap64 (a0_6)) t171 _ A57.out).mono ?_); rintro e w' ⟨rfl, ⟨nd, rfl⟩⟩; refine ⟨_, rfl, ?_⟩))
                        go_ret2
                        exact ⟨by first | rfl | (simp [errW_none, errW_some] <;> rfl) | (simp only [← hji5, ← hji10, ← hji16]; first | rfl | (simp [errW_none, errW_some] <;> rfl)) | (simp [*, errW_none, errW_some] <;> rfl), Zb1 GE149.out⟩
                       ·rw [if_neg c61] at H
                        exact absurd H (by simp)
                      ·rw [if_neg c60] at H
                       exact absurd H (by simp)
                     ·replace c59 := Bool.eq_false_iff.mpr c59
                      subst c59
                      have H1 : (some ((x5_47 ++ (⟨#[32]⟩ : ByteArray)) ++ t171, 0)) = some (r1, r2) := by rw [if_neg (show ¬ (false = true) by decide)] at H; exact H
                      clear H
                      have H := H1
                      clear H1
                      simp only [Option.some.injEq, Prod.mk.injEq] at H
                      obtain ⟨rfl, rfl⟩ := H
                      have hcz63_0 := Zc BK149.out 0 (.int .u8 a0_0) rfl
                      have hcz63_1 := Zc BK149.out 1 (.int .u8 a0_1) rfl
                      have hcz63_2 := Zc BK149.out 2 (.int .u8 a0_2) rfl
                      have hcz63_3 := Zc BK149.out 3 (.int .i64 a0_3) rfl
                      have hcz63_4 := Zc BK149.out 4 (.int .u8 a0_4) rfl
                      have hcz63_5 := Zc BK149.out 5 (.int .u8 a0_5) rfl
                      have hcz63_6 := Zc BK149.out 6 (.int .u8 a0_6) rfl
                      have hcz63_7 := Zc BK149.out 7 (.string a0_7) rfl
                      have hfz63_0 := blk_frozen BK149.out 0
                      have hfz63_1 := blk_frozen BK149.out 1
                      have hfz63_2 := blk_frozen BK149.out 2
                      have hfz63_3 := blk_frozen BK149.out 3
                      have hfz63_4 := blk_frozen BK149.out 4
                      have hfz63_5 := blk_frozen BK149.out 5
                      have hfz63_6 := blk_frozen BK149.out 6
                      have hfz63_7 := blk_frozen BK149.out 7
                      go_wp2_with (first | ((with_reducible refine gate_callee (f := 90) rfl ?_); refine goesL_ (some 76) rfl rfl Tryz.func90 (by kernel_rfl) rfl #[.int .i64 (wrap64 (a0_6))] rfl Zl ?_; (with_reducible refine (gambitref05_Digits.calls kj47 (wrap64 (a0_6)) t171 _ A57.out).mono ?_); rintro e w' ⟨rfl, ⟨nd, rfl⟩⟩; refine ⟨_, rfl, ?_⟩))
                      go_ret2
                      exact ⟨by first | rfl | (simp [errW_none, errW_some] <;> rfl) | (simp only [← hji5, ← hji10, ← hji16]; first | rfl | (simp [errW_none, errW_some] <;> rfl)) | (simp [*, errW_none, errW_some] <;> rfl), Zb1 GE149.out⟩
                    ·rw [if_neg c58] at H
                     exact absurd H (by simp)
                   ·rw [if_neg c56] at H
                    exact absurd H (by simp)
                  ·replace c55 := Bool.eq_false_iff.mpr c55
                   subst c55
                   have H1 : (if t167 = true then (if x5_47.size + 1 ≤ 9223372036854775807 then (if (x5_47 ++ (⟨#[32]⟩ : ByteArray)).size + a0_7.size ≤ 9223372036854775807 then (some ((x5_47 ++ (⟨#[32]⟩ : ByteArray)) ++ a0_7, 0)) else (none)) else (none)) else (some (x5_47, 0))) = some (r1, r2) := by rw [if_neg (show ¬ (false = true) by decide)] at H; exact H
                   clear H
                   have H := H1
                   clear H1
                   by_cases c64 : t167 = true
                   ·subst c64
                    have H1 : (if x5_47.size + 1 ≤ 9223372036854775807 then (if (x5_47 ++ (⟨#[32]⟩ : ByteArray)).size + a0_7.size ≤ 9223372036854775807 then (some ((x5_47 ++ (⟨#[32]⟩ : ByteArray)) ++ a0_7, 0)) else (none)) else (none)) = some (r1, r2) := by rw [if_pos rfl] at H; exact H
                    clear H
                    have H := H1
                    clear H1
                    by_cases c65 : x5_47.size + 1 ≤ 9223372036854775807
                    ·rw [if_pos c65] at H
                     have c65b0 := eq_true c65
                     have c65b1 : decide (x5_47.size + 1 ≤ 9223372036854775807) = true := decide_eq_true c65
                     try have c65b2 : (9223372036854775807 < x5_47.size + 1) = False := eq_false (Nat.not_lt.2 c65)
                     by_cases c66 : (x5_47 ++ (⟨#[32]⟩ : ByteArray)).size + a0_7.size ≤ 9223372036854775807
                     ·rw [if_pos c66] at H
                      have c66b0 := eq_true c66
                      have c66b1 : decide ((x5_47 ++ (⟨#[32]⟩ : ByteArray)).size + a0_7.size ≤ 9223372036854775807) = true := decide_eq_true c66
                      try have c66b2 : (9223372036854775807 < (x5_47 ++ (⟨#[32]⟩ : ByteArray)).size + a0_7.size) = False := eq_false (Nat.not_lt.2 c66)
                      (try (have c66s : (x5_47).size + 1 + (a0_7).size ≤ 9223372036854775807 := by have h_ := c66; simp only [ByteArray.size_append] at h_; exact h_))
                      (try (have c66t : ((x5_47).size + 1 + (a0_7).size ≤ 9223372036854775807) = True := eq_true c66s))
                      (try (have c66u : (9223372036854775807 < (x5_47).size + 1 + (a0_7).size) = False := eq_false (Nat.not_lt.2 c66s)))
                      simp only [Option.some.injEq, Prod.mk.injEq] at H
                      obtain ⟨rfl, rfl⟩ := H
                      have hcz67_0 := Zc BK149.out 0 (.int .u8 a0_0) rfl
                      have hcz67_1 := Zc BK149.out 1 (.int .u8 a0_1) rfl
                      have hcz67_2 := Zc BK149.out 2 (.int .u8 a0_2) rfl
                      have hcz67_3 := Zc BK149.out 3 (.int .i64 a0_3) rfl
                      have hcz67_4 := Zc BK149.out 4 (.int .u8 a0_4) rfl
                      have hcz67_5 := Zc BK149.out 5 (.int .u8 a0_5) rfl
                      have hcz67_6 := Zc BK149.out 6 (.int .u8 a0_6) rfl
                      have hcz67_7 := Zc BK149.out 7 (.string a0_7) rfl
                      have hfz67_0 := blk_frozen BK149.out 0
                      have hfz67_1 := blk_frozen BK149.out 1
                      have hfz67_2 := blk_frozen BK149.out 2
                      have hfz67_3 := blk_frozen BK149.out 3
                      have hfz67_4 := blk_frozen BK149.out 4
                      have hfz67_5 := blk_frozen BK149.out 5
                      have hfz67_6 := blk_frozen BK149.out 6
                      have hfz67_7 := blk_frozen BK149.out 7
                      go_wp2
                      go_ret2
                      exact ⟨by first | rfl | (simp [errW_none, errW_some] <;> rfl) | (simp only [← hji5, ← hji10, ← hji16]; first | rfl | (simp [errW_none, errW_some] <;> rfl)) | (simp [*, errW_none, errW_some] <;> rfl), Zb1 GE149.out⟩
                     ·rw [if_neg c66] at H
                      exact absurd H (by simp)
                    ·rw [if_neg c65] at H
                     exact absurd H (by simp)
                   ·replace c64 := Bool.eq_false_iff.mpr c64
                    subst c64
                    have H1 : (some (x5_47, 0)) = some (r1, r2) := by rw [if_neg (show ¬ (false = true) by decide)] at H; exact H
                    clear H
                    have H := H1
                    clear H1
                    simp only [Option.some.injEq, Prod.mk.injEq] at H
                    obtain ⟨rfl, rfl⟩ := H
                    go_wp2
                    go_ret2
                    exact ⟨by first | rfl | (simp [errW_none, errW_some] <;> rfl) | (simp only [← hji5, ← hji10, ← hji16]; first | rfl | (simp [errW_none, errW_some] <;> rfl)) | (simp [*, errW_none, errW_some] <;> rfl), Zb1 GE149.out⟩
           ·rw [if_neg c19] at H
            exact absurd H (by simp)
          ·rw [if_neg c18] at H
           exact absurd H (by simp)
         ·rw [if_neg c17] at H
          exact absurd H (by simp)
        ·rw [if_neg c14] at H
         exact absurd H (by simp)
       ·rw [if_neg c13] at H
        exact absurd H (by simp)
      ·rw [if_neg c12] at H
       exact absurd H (by simp)
     ·rw [if_neg c11] at H
      exact absurd H (by simp)
    ·rw [if_neg c8] at H
     exact absurd H (by simp)
   ·rw [if_neg c7] at H
    exact absurd H (by simp)
  ·rw [if_neg c6] at H
   exact absurd H (by simp)
 ·rw [if_neg c3] at H
  have c3b0 : (t150 == 0) = false := beq_eq_false_iff_ne.mpr c3
  have c3b1 : (t150 != 0) = true := bne_iff_ne.mpr c3
  simp only [Option.some.injEq, Prod.mk.injEq] at H
  obtain ⟨rfl, rfl⟩ := H
  go_enter Tryz.func42, Tryz.ntmps42
  go_wp2_with (first | ((with_reducible refine gate_dst (N := 1) rfl ?_); refine box_event ?hg (N := 1) ?hd (cs := #[.int .u8 a0_0, .int .u8 a0_1, .int .u8 a0_2, .int .i64 a0_3, .int .u8 a0_4, .int .u8 a0_5, .int .u8 a0_6, .string a0_7]) (t := 48) ?hr ?_; (case hd => rfl); (case hg => rfl); (case hr => first | (go_simp; done) | (go_simp; rfl)); intro gb149 hg w68 hbox hb; have BK149 := Aside0.mk (hbox); have GW149 := Aside0.mk ((by rw [hg]; exact (below_size Zb) : w.heap.size ≤ gb149)); have GE149 := Aside0.mk ((by rw [hg]; exact (below_size Zb) : w.heap.size ≤ gb149)); replace HB := Aside0.mk (below_step Zb hb); clear hb hbox hg; have hcz69_0 := Zc BK149.out 0 (.int .u8 a0_0) rfl; have hcz69_1 := Zc BK149.out 1 (.int .u8 a0_1) rfl; have hcz69_2 := Zc BK149.out 2 (.int .u8 a0_2) rfl; have hcz69_3 := Zc BK149.out 3 (.int .i64 a0_3) rfl; have hcz69_4 := Zc BK149.out 4 (.int .u8 a0_4) rfl; have hcz69_5 := Zc BK149.out 5 (.int .u8 a0_5) rfl; have hcz69_6 := Zc BK149.out 6 (.int .u8 a0_6) rfl; have hcz69_7 := Zc BK149.out 7 (.string a0_7) rfl; have hfz69_0 := blk_frozen BK149.out 0; have hfz69_1 := blk_frozen BK149.out 1; have hfz69_2 := blk_frozen BK149.out 2; have hfz69_3 := blk_frozen BK149.out 3; have hfz69_4 := blk_frozen BK149.out 4; have hfz69_5 := blk_frozen BK149.out 5; have hfz69_6 := blk_frozen BK149.out 6; have hfz69_7 := blk_frozen BK149.out 7) | ((with_reducible refine gate_callee (f := 46) rfl ?_); refine goesL_ (some 12) rfl rfl Tryz.func46 (by kernel_rfl) rfl #[.agg #[.int .u8 a0_0, .int .u8 a0_1, .int .u8 a0_2, .int .i64 a0_3, .int .u8 a0_4, .int .u8 a0_5, .int .u8 a0_6, .string a0_7]] rfl Zl ?_; (with_reducible refine (gambitref05_Check.calls k a0_0 a0_1 a0_2 a0_3 a0_4 a0_5 a0_6 a0_7 t150 _ A2.out).mono ?_); rintro e w70 ⟨rfl, hb⟩; refine ⟨_, rfl, ?_⟩; replace BK149 := Aside0.mk (blk_below (g := gb149) (o := .cells #[.int .u8 a0_0, .int .u8 a0_1, .int .u8 a0_2, .int .i64 a0_3, .int .u8 a0_4, .int .u8 a0_5, .int .u8 a0_6, .string a0_7] 48 (0, 0)) (Zk BK149.out) hb); replace HB := Aside0.mk (below_step (Zb1 GE149.out) hb); (try clear hb); (try clear hb2); (try clear hk); (try clear hi)))
  go_ret2
  exact ⟨Ze, Zb1 GE149.out⟩
end Go.Proofs.YtfpcideomanbbaaGreatDoor.PA
end
section
namespace Go.Proofs.YtfpcideomanbbaaGreatDoor.PA
open Go.RowKit Go.Proofs.YtfpcideomanbbaaGreatDoorW.PrintWords Go.Proofs.YtfpcideomanbbaaGreatDoorW.PrintLast Go.Proofs.YtfpcideomanbbaaGreatDoorW.PrintMore
attribute [local go_sem] max2_int min2_int max_two min_two max_three min_three max_four min_four
set_option linter.unusedVariables false
set_option linter.unusedSimpArgs false
def gambitref05_place.l0 : Nat → List ByteArray → ByteArray → Int → Option (Int)
 | 0, _, _, _ => none
 | k + 1, x0, x1, x5 => if x5 < (x0.length : Int) then (if 0 ≤ x5 then (if (rdOf ByteArray.empty x0 x5).toList = x1.toList then (some (wrap64 (x5 + 1))) else (gambitref05_place.l0 k x0 x1 (wrap64 (x5 + 1)))) else (none)) else (some 0)
def gambitref05_place.f (k : Nat) (l0 : List ByteArray) (a1 : ByteArray) : Option (Int) := gambitref05_place.l0 k l0 a1 0
theorem gambitref05_place.mono_l : ∀ k, (∀ y0 y1 y2, LeO (gambitref05_place.l0 k y0 y1 y2) (gambitref05_place.l0 (k + 1) y0 y1 y2))
 | 0 => fun _ _ _ r h => by simp [gambitref05_place.l0] at h
 | k + 1 => by
  have ih0 := gambitref05_place.mono_l k
  ·intro y0 y1 y2
   unfold gambitref05_place.l0
   repeat' first
   | (with_reducible exact ih0 _ _ _)
   | (with_reducible exact LeO.refl _)
   | (with_reducible exact LeO.none _)
   | (with_reducible refine LeO.ite ?_ ?_)
   | (with_reducible refine LeO.bind ?_ (fun _ => ?_))
   | exact ih0 _ _ _
   | exact LeO.none _
   | refine LeO.ite ?_ ?_
   | refine LeO.bind ?_ (fun _ => ?_)
theorem gambitref05_place.mono : ∀ a0 a1 k, LeO (gambitref05_place.f k a0 a1) (gambitref05_place.f (k + 1) a0 a1) := by
 intro a0 a1 k
 have ih0 := gambitref05_place.mono_l k
 unfold gambitref05_place.f
 repeat' first
   | (with_reducible exact ih0 _ _ _)
   | (with_reducible exact LeO.refl _)
   | (with_reducible exact LeO.none _)
   | (with_reducible refine LeO.ite ?_ ?_)
   | (with_reducible refine LeO.bind ?_ (fun _ => ?_))
   | exact ih0 _ _ _
   | exact LeO.none _
   | refine LeO.ite ?_ ?_
   | refine LeO.bind ?_ (fun _ => ?_)
set_option maxHeartbeats 8000000 in
set_option maxRecDepth 100000 in
theorem gambitref05_place.calls (k : Nat) (A0 : Option Addr) (c0 : Nat) (l0 : List ByteArray) (a1 : ByteArray) (r : Int) (w : World) (hr0 : Kd.C Kd.string w A0 l0.length l0) (hc0 : l0.length ≤ c0) (h : gambitref05_place.f k l0 a1 = some r) :
  Calls Tryz.prog 102 #[.slice A0 l0.length c0, .string a1] w fun e w' => e = .returned (.int .i64 r) ∧ Drawn0 w w' := by
 have HR0 := Aside0.mk hr0
 have HC0 := Aside0.mk hc0
 clear hr0 hc0
 have H : (gambitref05_place.l0 k l0 a1 0) = some r := h
 clear h
 have H' := Aside0.mk H
 clear H
 go_enter Tryz.func102, Tryz.ntmps102
 go_wp2
 go_loopg [5] k (fun kq v5 w' => ∃ (x5_1 : Int), v5 = .int .i64 x5_1 ∧ Aside0 (gambitref05_place.l0 kq l0 a1 x5_1 = some r) ∧ Aside0 (kq ≤ k) ∧ Drawn0 w w')
 case atStart => exact ⟨(0), Zs, H', ⟨Nat.le_refl _⟩, Zd⟩
 case round =>
  clear H'
  try clear c1
  try clear p2
  obtain ⟨x5_1, rfl, HA, HK1, ⟨m1, rfl⟩⟩ := hrel
  cases gk with
  | zero => exact absurd HA.out (by simp [gambitref05_place.l0])
  | succ k1 =>
   have H := HA.out
   clear HA
   simp only [gambitref05_place.l0] at H
   by_cases c3 : x5_1 < (l0.length : Int)
   ·rw [if_pos c3] at H
    have c3b0 : decide (x5_1 < (l0.length : Int)) = true := decide_eq_true c3
    clear c3
    by_cases c4 : 0 ≤ x5_1
    ·rw [if_pos c4] at H
     have c4b0 : decide (0 ≤ x5_1) = true := decide_eq_true c4
     clear c4
     by_cases c5 : (rdOf ByteArray.empty l0 x5_1).toList = a1.toList
     ·rw [if_pos c5] at H
      have c5b0 : ((rdOf ByteArray.empty l0 x5_1).toList == a1.toList) = true := beq_iff_eq.mpr c5
      have c5b1 : ((rdOf ByteArray.empty l0 x5_1).toList != a1.toList) = false := bne_eq_false_iff_eq.mpr c5
      clear c5
      obtain rfl := Option.some.inj H
      have p172 : 0 ≤ (x5_1 : Int) := of_decide_eq_true Za
      have q172 : x5_1 < (l0.length : Int) := of_decide_eq_true Za
      obtain ⟨ad172, e172, hx172_0⟩ := Kd.at_string HR0.out x5_1 p172 q172
      cases e172
      replace p172 := eq_true p172
      replace q172 := eq_true q172
      go_wp2
      go_ret
      exact ⟨Zt, Zd⟩
     ·rw [if_neg c5] at H
      have c5b0 : ((rdOf ByteArray.empty l0 x5_1).toList == a1.toList) = false := beq_eq_false_iff_ne.mpr c5
      have c5b1 : ((rdOf ByteArray.empty l0 x5_1).toList != a1.toList) = true := bne_iff_ne.mpr c5
      have H' := Aside0.mk H
      clear H
      have p172 : 0 ≤ (x5_1 : Int) := of_decide_eq_true Za
      have q172 : x5_1 < (l0.length : Int) := of_decide_eq_true Za
      obtain ⟨ad172, e172, hx172_0⟩ := Kd.at_string HR0.out x5_1 p172 q172
      cases e172
      replace p172 := eq_true p172
      replace q172 := eq_true q172
      go_wp2
      go_roundg k1
      case measure => have := HK1.out; omega
      case rel => exact ⟨(wrap64 (x5_1 + 1)), Zs, H', ⟨by have := HK1.out; omega⟩, Zd⟩
    ·rw [if_neg c4] at H
     exact absurd H (by simp)
   ·rw [if_neg c3] at H
    have c3b0 : decide (x5_1 < (l0.length : Int)) = false := decide_eq_false c3
    clear c3
    obtain rfl := Option.some.inj H
    go_wp2
    go_ret
    exact ⟨Zt, Zd⟩
end Go.Proofs.YtfpcideomanbbaaGreatDoor.PA
end
section
namespace Go.Proofs.YtfpcideomanbbaaGreatDoor.PA
open Go.RowKit Go.Proofs.YtfpcideomanbbaaGreatDoorW.PrintWords Go.Proofs.YtfpcideomanbbaaGreatDoorW.PrintLast Go.Proofs.YtfpcideomanbbaaGreatDoorW.PrintMore
attribute [local go_sem] max2_int min2_int max_two min_two max_three min_three max_four min_four
set_option linter.unusedVariables false
set_option linter.unusedSimpArgs false
mutual
def gambitref05_number.j0 : Nat → ByteArray → Int → Bool → Option (Int)
 | 0, _, _, _ => none
 | k + 1, x0, x3, x4 => gambitref05_number.l0 k x0 x3 x4 0
def gambitref05_number.l0 : Nat → ByteArray → Int → Bool → Int → Option (Int)
 | 0, _, _, _, _ => none
 | k + 1, x0, x3, x4, x5 => if x5 < (x0.size : Int) then (gambitref05_number.j2 k x0 x3 x4 x5 (decide (x5 < 3))) else (gambitref05_number.j2 k x0 x3 x4 x5 false)
def gambitref05_number.j2 : Nat → ByteArray → Int → Bool → Int → Bool → Option (Int)
 | 0, _, _, _, _, _ => none
 | k + 1, x0, x3, x4, x5, x21 => if x21 = true then (if 0 ≤ x5 then (if x5 < (x0.size : Int) then (if (bt x0 x5) ≥ 48 then (if (bt x0 x5) ≤ 57 then (gambitref05_number.l0 k x0 (wrap64 ((wrap64 (10 * x3)) + (((bt x0 x5) - 48) % 256))) x4 (wrap64 (x5 + 1))) else (gambitref05_number.l0 k x0 x3 x4 (wrap64 (x5 + 1)))) else (gambitref05_number.l0 k x0 x3 x4 (wrap64 (x5 + 1)))) else (none)) else (none)) else (if x4 = true then (some (wrap64 (-x3))) else (some x3))
end
def gambitref05_number.f (k : Nat) (a0 : ByteArray) : Option (Int) := if (a0.size : Int) > 0 then (if 0 < (a0.size : Int) then (gambitref05_number.j0 k a0 0 ((bt a0 0) == 45)) else (none)) else (gambitref05_number.j0 k a0 0 false)
theorem gambitref05_number.mono_l : ∀ k, (∀ y0 y1 y2, LeO (gambitref05_number.j0 k y0 y1 y2) (gambitref05_number.j0 (k + 1) y0 y1 y2)) ∧ (∀ y0 y1 y2 y3, LeO (gambitref05_number.l0 k y0 y1 y2 y3) (gambitref05_number.l0 (k + 1) y0 y1 y2 y3)) ∧ (∀ y0 y1 y2 y3 y4, LeO (gambitref05_number.j2 k y0 y1 y2 y3 y4) (gambitref05_number.j2 (k + 1) y0 y1 y2 y3 y4))
 | 0 => ⟨fun _ _ _ r h => by simp [gambitref05_number.j0] at h, fun _ _ _ _ r h => by simp [gambitref05_number.l0] at h, fun _ _ _ _ _ r h => by simp [gambitref05_number.j2] at h⟩
 | k + 1 => by
  obtain ⟨ih0, ih1, ih2⟩ := gambitref05_number.mono_l k
  refine ⟨?_, ?_, ?_⟩
  ·intro y0 y1 y2
   unfold gambitref05_number.j0
   repeat' first
   | (with_reducible exact ih0 _ _ _)
   | (with_reducible exact ih1 _ _ _ _)
   | (with_reducible exact ih2 _ _ _ _ _)
   | (with_reducible exact LeO.refl _)
   | (with_reducible exact LeO.none _)
   | (with_reducible refine LeO.ite ?_ ?_)
   | (with_reducible refine LeO.bind ?_ (fun _ => ?_))
   | exact ih0 _ _ _
   | exact ih1 _ _ _ _
   | exact ih2 _ _ _ _ _
   | exact LeO.none _
   | refine LeO.ite ?_ ?_
   | refine LeO.bind ?_ (fun _ => ?_)
  ·intro y0 y1 y2 y3
   unfold gambitref05_number.l0
   repeat' first
   | (with_reducible exact ih0 _ _ _)
   | (with_reducible exact ih1 _ _ _ _)
   | (with_reducible exact ih2 _ _ _ _ _)
   | (with_reducible exact LeO.refl _)
   | (with_reducible exact LeO.none _)
   | (with_reducible refine LeO.ite ?_ ?_)
   | (with_reducible refine LeO.bind ?_ (fun _ => ?_))
   | exact ih0 _ _ _
   | exact ih1 _ _ _ _
   | exact ih2 _ _ _ _ _
   | exact LeO.none _
   | refine LeO.ite ?_ ?_
   | refine LeO.bind ?_ (fun _ => ?_)
  ·intro y0 y1 y2 y3 y4
   unfold gambitref05_number.j2
   repeat' first
   | (with_reducible exact ih0 _ _ _)
   | (with_reducible exact ih1 _ _ _ _)
   | (with_reducible exact ih2 _ _ _ _ _)
   | (with_reducible exact LeO.refl _)
   | (with_reducible exact LeO.none _)
   | (with_reducible refine LeO.ite ?_ ?_)
   | (with_reducible refine LeO.bind ?_ (fun _ => ?_))
   | exact ih0 _ _ _
   | exact ih1 _ _ _ _
   | exact ih2 _ _ _ _ _
   | exact LeO.none _
   | refine LeO.ite ?_ ?_
   | refine LeO.bind ?_ (fun _ => ?_)
theorem gambitref05_number.mono : ∀ a0 k, LeO (gambitref05_number.f k a0) (gambitref05_number.f (k + 1) a0) := by
 intro a0 k
 obtain ⟨ih0, ih1, ih2⟩ := gambitref05_number.mono_l k
 unfold gambitref05_number.f
 repeat' first
   | (with_reducible exact ih0 _ _ _)
   | (with_reducible exact ih1 _ _ _ _)
   | (with_reducible exact ih2 _ _ _ _ _)
   | (with_reducible exact LeO.refl _)
   | (with_reducible exact LeO.none _)
   | (with_reducible refine LeO.ite ?_ ?_)
   | (with_reducible refine LeO.bind ?_ (fun _ => ?_))
   | exact ih0 _ _ _
   | exact ih1 _ _ _ _
   | exact ih2 _ _ _ _ _
   | exact LeO.none _
   | refine LeO.ite ?_ ?_
   | refine LeO.bind ?_ (fun _ => ?_)
set_option maxHeartbeats 8000000 in
set_option maxRecDepth 100000 in
theorem gambitref05_number.calls (k : Nat) (a0 : ByteArray) (r : Int) (w : World) (h : gambitref05_number.f k a0 = some r) :
  Calls Tryz.prog 103 #[.string a0] w fun e w' => e = .returned (.int .i64 r) ∧ Drawn0 w w' := by
 have H : (if (a0.size : Int) > 0 then (if 0 < (a0.size : Int) then (gambitref05_number.j0 k a0 0 ((bt a0 0) == 45)) else (none)) else (gambitref05_number.j0 k a0 0 false)) = some r := h
 clear h
 have HC2 := Aside0.mk H
 clear H
 go_enter Tryz.func103, Tryz.ntmps103
 go_upto_region 2 with (fail)
 go_cut [4] (fun v4 wc => ∃ (kq : Nat) (x4_1 : Bool), v4 = .bool x4_1 ∧ Aside0 (gambitref05_number.j0 kq a0 0 x4_1 = some r) ∧ Aside0 (kq ≤ k) ∧ Drawn0 w wc)
 case first =>
  have H := HC2.out
  clear HC2
  by_cases c3 : (a0.size : Int) > 0
  ·rw [if_pos c3] at H
   have c3b0 : decide (0 < (a0.size : Int)) = true := decide_eq_true c3
   have c3b1 : decide (0 < a0.size) = true := decide_eq_true (by omega)
   clear c3
   (first | rw [c3b0] | (simp only [i64_w, i32_w]; rw [c3b0]) | skip)
   by_cases c4 : 0 < (a0.size : Int)
   ·rw [if_pos c4] at H
    have c4b0 : decide (0 < (a0.size : Int)) = true := decide_eq_true c4
    have c4b1 : decide (0 < a0.size) = true := decide_eq_true (by omega)
    clear c4
    have H' := Aside0.mk H
    clear H
    have p5 : 0 ≤ (0 : Int) := (by omega)
    have q5 : 0 < a0.size := (by have : (0 : Int) < (a0.size : Int) := of_decide_eq_true Za; omega)
    have hx5 : ∀ h : 0 < a0.size, ((a0[0]'h).toNat : Int) = bt a0 0 := bt_at a0 0
    clear p5
    have qi5 : (0 < (a0.size : Int)) = True := eq_true (of_decide_eq_true Za)
    replace q5 := eq_true q5
    go_wp2
    go_meet
    case rel => exact ⟨_, (((bt a0 0) == 45)), Zs, H', ⟨by first | omega | exact Nat.le_refl _⟩, Zd⟩
   ·rw [if_neg c4] at H
    exact absurd H (by simp)
  ·rw [if_neg c3] at H
   have c3b0 : decide (0 < (a0.size : Int)) = false := decide_eq_false c3
   have c3b1 : decide (0 < a0.size) = false := decide_eq_false (by omega)
   clear c3
   (first | rw [c3b0] | (simp only [i64_w, i32_w]; rw [c3b0]) | skip)
   have H' := Aside0.mk H
   clear H
   go_wp2
   go_meet
   case rel => exact ⟨_, (false), Zs, H', ⟨by first | omega | exact Nat.le_refl _⟩, Zd⟩
 case rest =>
  clear HC2
  try clear c1
  try clear p2
  try clear c3
  try clear c3b0
  try clear c3b1
  try clear c4
  try clear c4b0
  try clear c4b1
  try clear p5
  try clear q5
  try clear hx5
  try clear qi5
  try clear p5
  try clear q5
  obtain ⟨kq, x4_1, rfl, HA, HJ1, ⟨mc1, rfl⟩⟩ := hcut
  cases kq with
  | zero => exact absurd HA.out (by simp [gambitref05_number.j0])
  | succ kj1 =>
   have H := HA.out
   clear HA
   simp only [gambitref05_number.j0] at H
   have H' := Aside0.mk H
   clear H
   go_wp2
   go_loopg [3, 5] kj1 (fun kq v3 v5 w' => ∃ (x3_2 : Int) (x5_2 : Int), v3 = .int .i64 x3_2 ∧ v5 = .int .i64 x5_2 ∧ Aside0 (gambitref05_number.l0 kq a0 x3_2 x4_1 x5_2 = some r) ∧ Aside0 (kq ≤ kj1) ∧ Drawn0 w w')
   case atStart => exact ⟨(0), (0), Zs, Zs, H', ⟨Nat.le_refl _⟩, Zd⟩
   case round =>
    clear H'
    try clear c1
    try clear p2
    try clear c3
    try clear c3b0
    try clear c3b1
    try clear c4
    try clear c4b0
    try clear c4b1
    try clear p5
    try clear q5
    try clear hx5
    try clear qi5
    try clear p2
    try clear p5
    try clear q5
    obtain ⟨x3_2, x5_2, rfl, rfl, HA, HK2, ⟨m2, rfl⟩⟩ := hrel
    cases gk with
    | zero => exact absurd HA.out (by simp [gambitref05_number.l0])
    | succ k2 =>
     have H := HA.out
     clear HA
     simp only [gambitref05_number.l0] at H
     have HC6 := Aside0.mk H
     clear H
     go_upto_region 4 with (fail)
     go_cut [21] (fun v21 wc => ∃ (kq : Nat) (x21_5 : Bool), v21 = .bool x21_5 ∧ Aside0 (gambitref05_number.j2 kq a0 x3_2 x4_1 x5_2 x21_5 = some r) ∧ Aside0 (kq ≤ k2) ∧ Drawn0 w wc)
     case first =>
      have H := HC6.out
      clear HC6
      by_cases c7 : x5_2 < (a0.size : Int)
      ·rw [if_pos c7] at H
       have c7b0 : decide (x5_2 < (a0.size : Int)) = true := decide_eq_true c7
       clear c7
       (first | rw [c7b0] | (simp only [i64_w, i32_w]; rw [c7b0]) | skip)
       have H' := Aside0.mk H
       clear H
       go_wp2
       go_meet
       case rel => exact ⟨_, (decide (x5_2 < 3)), Zs, H', ⟨by have := HJ1.out; have := HK2.out; first | omega | exact Nat.le_refl _⟩, Zd⟩
      ·rw [if_neg c7] at H
       have c7b0 : decide (x5_2 < (a0.size : Int)) = false := decide_eq_false c7
       clear c7
       (first | rw [c7b0] | (simp only [i64_w, i32_w]; rw [c7b0]) | skip)
       have H' := Aside0.mk H
       clear H
       go_wp2
       go_meet
       case rel => exact ⟨_, (false), Zs, H', ⟨by have := HJ1.out; have := HK2.out; first | omega | exact Nat.le_refl _⟩, Zd⟩
     case rest =>
      clear HC6
      try clear c1
      try clear p2
      try clear c3
      try clear c3b0
      try clear c3b1
      try clear c4
      try clear c4b0
      try clear c4b1
      try clear p5
      try clear q5
      try clear hx5
      try clear qi5
      try clear c7
      try clear c7b0
      try clear p2
      try clear p5
      try clear q5
      obtain ⟨kq, x21_5, rfl, HA, HJ5, ⟨mc5, rfl⟩⟩ := hcut
      cases kq with
      | zero => exact absurd HA.out (by simp [gambitref05_number.j2])
      | succ kj5 =>
       have H := HA.out
       clear HA
       simp only [gambitref05_number.j2] at H
       by_cases c8 : x21_5 = true
       ·subst c8
        have H1 : (if 0 ≤ x5_2 then (if x5_2 < (a0.size : Int) then (if (bt a0 x5_2) ≥ 48 then (if (bt a0 x5_2) ≤ 57 then (gambitref05_number.l0 kj5 a0 (wrap64 ((wrap64 (10 * x3_2)) + (((bt a0 x5_2) - 48) % 256))) x4_1 (wrap64 (x5_2 + 1))) else (gambitref05_number.l0 kj5 a0 x3_2 x4_1 (wrap64 (x5_2 + 1)))) else (gambitref05_number.l0 kj5 a0 x3_2 x4_1 (wrap64 (x5_2 + 1)))) else (none)) else (none)) = some r := by rw [if_pos rfl] at H; exact H
        clear H
        have H := H1
        clear H1
        by_cases c9 : 0 ≤ x5_2
        ·rw [if_pos c9] at H
         have c9b0 : decide (0 ≤ x5_2) = true := decide_eq_true c9
         clear c9
         by_cases c10 : x5_2 < (a0.size : Int)
         ·rw [if_pos c10] at H
          have c10b0 : decide (x5_2 < (a0.size : Int)) = true := decide_eq_true c10
          clear c10
          by_cases c12 : (bt a0 x5_2) ≥ 48
          ·rw [if_pos c12] at H
           have c12b0 : decide (48 ≤ (bt a0 x5_2)) = true := decide_eq_true c12
           clear c12
           by_cases c14 : (bt a0 x5_2) ≤ 57
           ·rw [if_pos c14] at H
            have c14b0 : decide ((bt a0 x5_2) ≤ 57) = true := decide_eq_true c14
            clear c14
            have H' := Aside0.mk H
            clear H
            have p11 : 0 ≤ (x5_2 : Int) := of_decide_eq_true Za
            have q11 : x5_2 < (a0.size : Int) := of_decide_eq_true Za
            have hx11 := bt_at a0 x5_2
            replace p11 := eq_true p11
            replace q11 := eq_true q11
            have p13 : 0 ≤ (x5_2 : Int) := of_decide_eq_true Za
            have q13 : x5_2 < (a0.size : Int) := of_decide_eq_true Za
            have hx13 := bt_at a0 x5_2
            replace p13 := eq_true p13
            replace q13 := eq_true q13
            have p15 : 0 ≤ (x5_2 : Int) := of_decide_eq_true Za
            have q15 : x5_2 < (a0.size : Int) := of_decide_eq_true Za
            have hx15 := bt_at a0 x5_2
            replace p15 := eq_true p15
            replace q15 := eq_true q15
            go_wp2
            go_roundg kj5
            case measure => have := HJ1.out; have := HK2.out; have := HJ5.out; omega
            case rel => exact ⟨(wrap64 ((wrap64 (10 * x3_2)) + (((bt a0 x5_2) - 48) % 256))), (wrap64 (x5_2 + 1)), Zs, Zs, H', ⟨by have := HJ1.out; have := HK2.out; have := HJ5.out; omega⟩, Zd⟩
           ·rw [if_neg c14] at H
            have c14b0 : decide ((bt a0 x5_2) ≤ 57) = false := decide_eq_false c14
            clear c14
            have H' := Aside0.mk H
            clear H
            have p11 : 0 ≤ (x5_2 : Int) := of_decide_eq_true Za
            have q11 : x5_2 < (a0.size : Int) := of_decide_eq_true Za
            have hx11 := bt_at a0 x5_2
            replace p11 := eq_true p11
            replace q11 := eq_true q11
            have p13 : 0 ≤ (x5_2 : Int) := of_decide_eq_true Za
            have q13 : x5_2 < (a0.size : Int) := of_decide_eq_true Za
            have hx13 := bt_at a0 x5_2
            replace p13 := eq_true p13
            replace q13 := eq_true q13
            go_wp2
            go_roundg kj5
            case measure => have := HJ1.out; have := HK2.out; have := HJ5.out; omega
            case rel => exact ⟨(x3_2), (wrap64 (x5_2 + 1)), Zs, Zs, H', ⟨by have := HJ1.out; have := HK2.out; have := HJ5.out; omega⟩, Zd⟩
          ·rw [if_neg c12] at H
           have c12b0 : decide (48 ≤ (bt a0 x5_2)) = false := decide_eq_false c12
           clear c12
           have H' := Aside0.mk H
           clear H
           have p11 : 0 ≤ (x5_2 : Int) := of_decide_eq_true Za
           have q11 : x5_2 < (a0.size : Int) := of_decide_eq_true Za
           have hx11 := bt_at a0 x5_2
           replace p11 := eq_true p11
           replace q11 := eq_true q11
           go_wp2
           go_roundg kj5
           case measure => have := HJ1.out; have := HK2.out; have := HJ5.out; omega
           case rel => exact ⟨(x3_2), (wrap64 (x5_2 + 1)), Zs, Zs, H', ⟨by have := HJ1.out; have := HK2.out; have := HJ5.out; omega⟩, Zd⟩
         ·rw [if_neg c10] at H
          exact absurd H (by simp)
        ·rw [if_neg c9] at H
         exact absurd H (by simp)
       ·replace c8 := Bool.eq_false_iff.mpr c8
        subst c8
        have H1 : (if x4_1 = true then (some (wrap64 (-x3_2))) else (some x3_2)) = some r := by rw [if_neg (show ¬ (false = true) by decide)] at H; exact H
        clear H
        have H := H1
        clear H1
        by_cases c16 : x4_1 = true
        ·subst c16
         have H1 : (some (wrap64 (-x3_2))) = some r := by rw [if_pos rfl] at H; exact H
         clear H
         have H := H1
         clear H1
         obtain rfl := Option.some.inj H
         go_wp2
         go_ret
         exact ⟨Zt, Zd⟩
        ·replace c16 := Bool.eq_false_iff.mpr c16
         subst c16
         have H1 : (some x3_2) = some r := by rw [if_neg (show ¬ (false = true) by decide)] at H; exact H
         clear H
         have H := H1
         clear H1
         obtain rfl := Option.some.inj H
         go_wp2
         go_ret
         exact ⟨Zt, Zd⟩
end Go.Proofs.YtfpcideomanbbaaGreatDoor.PA
end
section
namespace Go.Proofs.YtfpcideomanbbaaGreatDoor.PA
open Go.RowKit Go.Proofs.YtfpcideomanbbaaGreatDoorW.PrintWords Go.Proofs.YtfpcideomanbbaaGreatDoorW.PrintLast Go.Proofs.YtfpcideomanbbaaGreatDoorW.PrintMore
attribute [local go_sem] max2_int min2_int max_two min_two max_three min_three max_four min_four
set_option linter.unusedVariables false
set_option linter.unusedSimpArgs false
def gambitref03_Of.l0 : Nat → ByteArray → Int → Option (Int × Bool)
 | 0, _, _ => none
 | k + 1, x0, x4 => if x4 ≤ 6 then ((gambitref03_Name.f x4).bind fun t173 => (if t173.toList = x0.toList then (some (x4, true)) else (gambitref03_Of.l0 k x0 ((x4 + 1) % 256)))) else (some (0, false))
def gambitref03_Of.f (k : Nat) (a0 : ByteArray) : Option (Int × Bool) := gambitref03_Of.l0 k a0 1
theorem gambitref03_Of.mono_l : ∀ k, (∀ y0 y1, LeO (gambitref03_Of.l0 k y0 y1) (gambitref03_Of.l0 (k + 1) y0 y1))
 | 0 => fun _ _ r h => by simp [gambitref03_Of.l0] at h
 | k + 1 => by
  have ih0 := gambitref03_Of.mono_l k
  ·intro y0 y1
   unfold gambitref03_Of.l0
   repeat' first
   | (with_reducible exact ih0 _ _)
   | (with_reducible exact LeO.refl _)
   | (with_reducible exact LeO.none _)
   | (with_reducible refine LeO.ite ?_ ?_)
   | (with_reducible refine LeO.bind ?_ (fun _ => ?_))
   | exact ih0 _ _
   | exact LeO.none _
   | refine LeO.ite ?_ ?_
   | refine LeO.bind ?_ (fun _ => ?_)
theorem gambitref03_Of.mono : ∀ a0 k, LeO (gambitref03_Of.f k a0) (gambitref03_Of.f (k + 1) a0) := by
 intro a0 k
 have ih0 := gambitref03_Of.mono_l k
 unfold gambitref03_Of.f
 repeat' first
   | (with_reducible exact ih0 _ _)
   | (with_reducible exact LeO.refl _)
   | (with_reducible exact LeO.none _)
   | (with_reducible refine LeO.ite ?_ ?_)
   | (with_reducible refine LeO.bind ?_ (fun _ => ?_))
   | exact ih0 _ _
   | exact LeO.none _
   | refine LeO.ite ?_ ?_
   | refine LeO.bind ?_ (fun _ => ?_)
set_option maxHeartbeats 8000000 in
set_option maxRecDepth 100000 in
theorem gambitref03_Of.calls (k : Nat) (a0 : ByteArray) (r1 : Int) (r2 : Bool) (w : World) (h : gambitref03_Of.f k a0 = some (r1, r2)) :
  Calls Tryz.prog 104 #[.string a0] w fun e w' => e = .returned (.tuple #[.int .u8 r1, .bool r2]) ∧ Drawn0 w w' := by
 have H : (gambitref03_Of.l0 k a0 1) = some (r1, r2) := h
 clear h
 have H' := Aside0.mk H
 clear H
 go_enter Tryz.func104, Tryz.ntmps104
 go_wp2
 go_loopg [4] k (fun kq v4 w' => ∃ (x4_1 : Int), v4 = .int .u8 x4_1 ∧ Aside0 (gambitref03_Of.l0 kq a0 x4_1 = some (r1, r2)) ∧ Aside0 (kq ≤ k) ∧ Drawn0 w w')
 case atStart => exact ⟨(1), Zs, H', ⟨Nat.le_refl _⟩, Zd⟩
 case round =>
  clear H'
  try clear c1
  obtain ⟨x4_1, rfl, HA, HK1, ⟨m1, rfl⟩⟩ := hrel
  cases gk with
  | zero => exact absurd HA.out (by simp [gambitref03_Of.l0])
  | succ k1 =>
   have H := HA.out
   clear HA
   simp only [gambitref03_Of.l0] at H
   by_cases c2 : x4_1 ≤ 6
   ·rw [if_pos c2] at H
    have c2b0 : decide (x4_1 ≤ 6) = true := decide_eq_true c2
    clear c2
    replace H := Option.bind_eq_some_iff.mp H
    obtain ⟨t173, A30, H⟩ := H
    replace H : (if t173.toList = a0.toList then (some (x4_1, true)) else (gambitref03_Of.l0 k1 a0 ((x4_1 + 1) % 256))) = some (r1, r2) := H
    have A3 := Aside0.mk A30
    clear A30
    by_cases c4 : t173.toList = a0.toList
    ·rw [if_pos c4] at H
     have c4b0 : (t173.toList == a0.toList) = true := beq_iff_eq.mpr c4
     have c4b1 : (t173.toList != a0.toList) = false := bne_eq_false_iff_eq.mpr c4
     clear c4
     simp only [Option.some.injEq, Prod.mk.injEq] at H
     obtain ⟨rfl, rfl⟩ := H
     go_wp2_with (first | ((with_reducible refine gate_callee (f := 38) rfl ?_); refine goesL_ (some 10) rfl rfl Tryz.func38 (by kernel_rfl) rfl #[.int .u8 x4_1] rfl Zl ?_; (with_reducible refine (gambitref03_Name.calls x4_1 t173 _ A3.out).mono ?_); rintro e w' ⟨rfl, ⟨nd, rfl⟩⟩; refine ⟨_, rfl, ?_⟩))
     go_ret2
     exact ⟨Zt, Zd⟩
    ·rw [if_neg c4] at H
     have c4b0 : (t173.toList == a0.toList) = false := beq_eq_false_iff_ne.mpr c4
     have c4b1 : (t173.toList != a0.toList) = true := bne_iff_ne.mpr c4
     have H' := Aside0.mk H
     clear H
     go_wp2_with (first | ((with_reducible refine gate_callee (f := 38) rfl ?_); refine goesL_ (some 10) rfl rfl Tryz.func38 (by kernel_rfl) rfl #[.int .u8 x4_1] rfl Zl ?_; (with_reducible refine (gambitref03_Name.calls x4_1 t173 _ A3.out).mono ?_); rintro e w' ⟨rfl, ⟨nd, rfl⟩⟩; refine ⟨_, rfl, ?_⟩))
     go_roundg k1
     case measure => have := HK1.out; omega
     case rel => exact ⟨((x4_1 + 1) % 256), Zs, H', ⟨by have := HK1.out; omega⟩, Zd⟩
   ·rw [if_neg c2] at H
    have c2b0 : decide (x4_1 ≤ 6) = false := decide_eq_false c2
    clear c2
    simp only [Option.some.injEq, Prod.mk.injEq] at H
    obtain ⟨rfl, rfl⟩ := H
    go_wp2
    go_ret2
    exact ⟨Zt, Zd⟩
end Go.Proofs.YtfpcideomanbbaaGreatDoor.PA
end
section
namespace Go.Proofs.YtfpcideomanbbaaGreatDoor.PA
open Go.RowKit Go.Proofs.YtfpcideomanbbaaGreatDoorW.PrintWords Go.Proofs.YtfpcideomanbbaaGreatDoorW.PrintLast Go.Proofs.YtfpcideomanbbaaGreatDoorW.PrintMore
attribute [local go_sem] max2_int min2_int max_two min_two max_three min_three max_four min_four
set_option linter.unusedVariables false
set_option linter.unusedSimpArgs false
def gambitref04_Of.l0 : Nat → ByteArray → List (S116) → Int → Option (Int × Bool)
 | 0, _, _, _ => none
 | k + 1, x0, x4, x5 => if x5 < (x4.length : Int) then (if 0 ≤ x5 then (if ((rd_T116 x4 x5).f1).toList = x0.toList then (some ((rd_T116 x4 x5).f0, true)) else (gambitref04_Of.l0 k x0 x4 (wrap64 (x5 + 1)))) else (none)) else (some (0, false))
def gambitref04_Of.f (k : Nat) (a0 : ByteArray) : Option (Int × Bool) := (gambitref04_Rows.f).bind fun t174 => (gambitref04_Of.l0 k a0 t174 0)
theorem gambitref04_Of.mono_l : ∀ k, (∀ y0 y1 y2, LeO (gambitref04_Of.l0 k y0 y1 y2) (gambitref04_Of.l0 (k + 1) y0 y1 y2))
 | 0 => fun _ _ _ r h => by simp [gambitref04_Of.l0] at h
 | k + 1 => by
  have ih0 := gambitref04_Of.mono_l k
  ·intro y0 y1 y2
   unfold gambitref04_Of.l0
   repeat' first
   | (with_reducible exact ih0 _ _ _)
   | (with_reducible exact LeO.refl _)
   | (with_reducible exact LeO.none _)
   | (with_reducible refine LeO.ite ?_ ?_)
   | (with_reducible refine LeO.bind ?_ (fun _ => ?_))
   | exact ih0 _ _ _
   | exact LeO.none _
   | refine LeO.ite ?_ ?_
   | refine LeO.bind ?_ (fun _ => ?_)
theorem gambitref04_Of.mono : ∀ a0 k, LeO (gambitref04_Of.f k a0) (gambitref04_Of.f (k + 1) a0) := by
 intro a0 k
 have ih0 := gambitref04_Of.mono_l k
 unfold gambitref04_Of.f
 repeat' first
   | (with_reducible exact ih0 _ _ _)
   | (with_reducible exact LeO.refl _)
   | (with_reducible exact LeO.none _)
   | (with_reducible refine LeO.ite ?_ ?_)
   | (with_reducible refine LeO.bind ?_ (fun _ => ?_))
   | exact ih0 _ _ _
   | exact LeO.none _
   | refine LeO.ite ?_ ?_
   | refine LeO.bind ?_ (fun _ => ?_)
set_option maxHeartbeats 8000000 in
set_option maxRecDepth 100000 in
theorem gambitref04_Of.calls (k : Nat) (a0 : ByteArray) (r1 : Int) (r2 : Bool) (w : World) (h : gambitref04_Of.f k a0 = some (r1, r2)) :
  Calls Tryz.prog 105 #[.string a0] w fun e w' => e = .returned (.tuple #[.int .u8 r1, .bool r2]) ∧ Below w.heap.size w w' := by
 have HB := Aside0.mk (Below.refl w.heap.size w)
 have H : ((gambitref04_Rows.f).bind fun t174 => (gambitref04_Of.l0 k a0 t174 0)) = some (r1, r2) := h
 clear h
 replace H := Option.bind_eq_some_iff.mp H
 obtain ⟨t174, A20, H⟩ := H
 replace H : (gambitref04_Of.l0 k a0 t174 0) = some (r1, r2) := H
 have A2 := Aside0.mk A20
 clear A20
 have H' := Aside0.mk H
 clear H
 go_enter Tryz.func105, Tryz.ntmps105
 go_wp2_with (first | ((with_reducible refine gate_callee (f := 120) rfl ?_); refine goesL_ (some 6) rfl rfl Tryz.func120 (by kernel_rfl) rfl #[] rfl Zl ?_; (with_reducible refine (gambitref04_Rows.calls  t174 _ A2.out).mono ?_); rintro e w3 ⟨v175, rfl, ho0, hb⟩; refine ⟨_, rfl, ?_⟩; have HO176 := Aside0.mk (Kd.R_lower ho0 (below_size Zb)); replace HB := Aside0.mk (below_step Zb hb); (try clear hb); (try clear hb2); (try clear hk); (try clear hi); (try clear ho0)))
 go_loopg [5] k (fun kq v5 w' => ∃ (x5_1 : Int), v5 = .int .i64 x5_1 ∧ Aside0 (gambitref04_Of.l0 kq a0 t174 x5_1 = some (r1, r2)) ∧ Aside0 (kq ≤ k) ∧ Aside0 (Kd.R k116 116 w' w.heap.size (fun _ => True) v175 t174) ∧ Aside0 (Below w.heap.size w w'))
 case atStart => exact ⟨(0), Zs, H', ⟨Nat.le_refl _⟩, ⟨Zr HO176.out⟩, ⟨Zb⟩⟩
 case round =>
  clear H'
  try clear c1
  try clear p2
  obtain ⟨x5_1, rfl, HA, HK1, HO_4, HB⟩ := hrel
  cases gk with
  | zero => exact absurd HA.out (by simp [gambitref04_Of.l0])
  | succ k1 =>
   have H := HA.out
   clear HA
   simp only [gambitref04_Of.l0] at H
   by_cases c4 : x5_1 < (t174.length : Int)
   ·rw [if_pos c4] at H
    have c4b0 : decide (x5_1 < (t174.length : Int)) = true := decide_eq_true c4
    clear c4
    by_cases c5 : 0 ≤ x5_1
    ·rw [if_pos c5] at H
     have c5b0 : decide (0 ≤ x5_1) = true := decide_eq_true c5
     clear c5
     by_cases c6 : ((rd_T116 t174 x5_1).f1).toList = a0.toList
     ·rw [if_pos c6] at H
      have c6b0 : (((rd_T116 t174 x5_1).f1).toList == a0.toList) = true := beq_iff_eq.mpr c6
      have c6b1 : (((rd_T116 t174 x5_1).f1).toList != a0.toList) = false := bne_eq_false_iff_eq.mpr c6
      clear c6
      simp only [Option.some.injEq, Prod.mk.injEq] at H
      obtain ⟨rfl, rfl⟩ := H
      obtain ⟨Ao7, co7, eo7⟩ := Kd.R_slice HO_4.out
      subst eo7
      have p177 : 0 ≤ (x5_1 : Int) := of_decide_eq_true Za
      have q177 : x5_1 < (t174.length : Int) := of_decide_eq_true Za
      obtain ⟨ad177, e177, hx177_0, hx177_1, hx177_2, hx177_3⟩ := at_T116 (Kd.R_reads' HO_4.out).2.2 x5_1 p177 q177
      cases e177
      replace p177 := eq_true p177
      replace q177 := eq_true q177
      have p178 : 0 ≤ (x5_1 : Int) := of_decide_eq_true Za
      have q178 : x5_1 < (t174.length : Int) := of_decide_eq_true Za
      obtain ⟨ad178, e178, hx178_0, hx178_1, hx178_2, hx178_3⟩ := at_T116 (Kd.R_reads' HO_4.out).2.2 x5_1 p178 q178
      obtain rfl : ad177 = ad178 := (by injection e178)
      replace p178 := eq_true p178
      replace q178 := eq_true q178
      go_wp2
      go_ret2
      exact ⟨Ze, Zb⟩
     ·rw [if_neg c6] at H
      have c6b0 : (((rd_T116 t174 x5_1).f1).toList == a0.toList) = false := beq_eq_false_iff_ne.mpr c6
      have c6b1 : (((rd_T116 t174 x5_1).f1).toList != a0.toList) = true := bne_iff_ne.mpr c6
      have H' := Aside0.mk H
      clear H
      obtain ⟨Ao8, co8, eo8⟩ := Kd.R_slice HO_4.out
      subst eo8
      have p177 : 0 ≤ (x5_1 : Int) := of_decide_eq_true Za
      have q177 : x5_1 < (t174.length : Int) := of_decide_eq_true Za
      obtain ⟨ad177, e177, hx177_0, hx177_1, hx177_2, hx177_3⟩ := at_T116 (Kd.R_reads' HO_4.out).2.2 x5_1 p177 q177
      cases e177
      replace p177 := eq_true p177
      replace q177 := eq_true q177
      go_wp2
      go_roundg k1
      case measure => have := HK1.out; omega
      case rel => exact ⟨(wrap64 (x5_1 + 1)), Zs, H', ⟨by have := HK1.out; omega⟩, ⟨Zr HO_4.out⟩, ⟨Zb⟩⟩
    ·rw [if_neg c5] at H
     exact absurd H (by simp)
   ·rw [if_neg c4] at H
    have c4b0 : decide (x5_1 < (t174.length : Int)) = false := decide_eq_false c4
    clear c4
    simp only [Option.some.injEq, Prod.mk.injEq] at H
    obtain ⟨rfl, rfl⟩ := H
    obtain ⟨Ao9, co9, eo9⟩ := Kd.R_slice HO_4.out
    subst eo9
    go_wp2
    go_ret2
    exact ⟨Ze, Zb⟩
end Go.Proofs.YtfpcideomanbbaaGreatDoor.PA
end
