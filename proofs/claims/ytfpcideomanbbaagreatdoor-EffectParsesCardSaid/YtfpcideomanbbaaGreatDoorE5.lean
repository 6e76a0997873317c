/-
  Part 5 of a proof in 8 parts: lemmas, contracts and plain laws that its last part joins; no conditions of its own.
-/
import Derived.Test.YtfpcideomanbbaaGreatDoorProg
import Derived.Test.YtfpcideomanbbaaGreatDoorEZ
import Derived.Test.YtfpcideomanbbaaGreatDoorE1
import Derived.Test.YtfpcideomanbbaaGreatDoorE2
import Derived.Test.YtfpcideomanbbaaGreatDoorE3
import Derived.Test.YtfpcideomanbbaaGreatDoorE4
import Derived.WalkKit
import Derived.WalkSmall
import Derived.Below
import Derived.Lib.LaidTab
import Derived.KernelRfl
import Derived.Lib.ItoaNum
import Derived.Lib.Space
import Derived.Lib.AtoiErrMem
import Derived.Deep.Draws
import Derived.Deep.AppendLies
import Derived.Maps.AppendAt
import Derived.OwnWalk
import Derived.Laws.BytesArg
import Derived.Laws.MakeOwn
import Derived.Laws.OwnMore
import Derived.Deep.OwnRows
import Derived.Tactics
import Derived.Lib.ConvBytes
import Derived.Laws.Slices
import Derived.RowKit3
import Derived.Deep.LoopGhost
import Derived.Deep.QuietTactic
import Derived.BigQuiet
import Derived.WideLaws
import Derived.Deep.DeepCutAuto
import Derived.Deep.CutBlock
import Derived.Deep.RegionHeld3
import Derived.Laws.Rows
import Derived.Lib.AppendStr
import Derived.ArgAppend
import Derived.Laws.IdiomCopy
import Derived.RowKit
import Derived.OrdersHeld
import Derived.Laws.BitsLemmas
import Derived.Laws.StructEq
set_option linter.unusedVariables false
set_option linter.unusedSimpArgs false
section
namespace Go.Proofs.YtfpcideomanbbaaGreatDoor.PA
open Go.RowKit Go.Proofs.YtfpcideomanbbaaGreatDoorW.PrintWords Go.Proofs.YtfpcideomanbbaaGreatDoorW.PrintLast Go.Proofs.YtfpcideomanbbaaGreatDoorW.PrintMore
attribute [local go_sem] max2_int min2_int max_two min_two max_three min_three max_four min_four
set_option linter.unusedVariables false
set_option linter.unusedSimpArgs false
mutual
def gambitref05_read.l0 : Nat → List ByteArray → Int → Int → Int → Int → Int → Int → Int → Int → Int → ByteArray → Bool → Bool → Bool → Bool → Bool → Option (Int × Int × Int × Int × Int × Int × Int × ByteArray)
 | 0, _, _, _, _, _, _, _, _, _, _, _, _, _, _, _, _ => none
 | k + 1, x0, x5, x6, x181000, x181001, x181002, x181003, x181004, x181005, x181006, x181007, x197000, x197001, x197002, x197003, x197004 => if x6 < 5 then (gambitref05_read.j1 k x0 x5 x6 (decide (x5 < (x0.length : Int))) x181000 x181001 x181002 x181003 x181004 x181005 x181006 x181007 x197000 x197001 x197002 x197003 x197004) else (gambitref05_read.j1 k x0 x5 x6 false x181000 x181001 x181002 x181003 x181004 x181005 x181006 x181007 x197000 x197001 x197002 x197003 x197004)
def gambitref05_read.j1 : Nat → List ByteArray → Int → Int → Bool → Int → Int → Int → Int → Int → Int → Int → ByteArray → Bool → Bool → Bool → Bool → Bool → Option (Int × Int × Int × Int × Int × Int × Int × ByteArray)
 | 0, _, _, _, _, _, _, _, _, _, _, _, _, _, _, _, _, _ => none
 | k + 1, x0, x5, x6, x57, x181000, x181001, x181002, x181003, x181004, x181005, x181006, x181007, x197000, x197001, x197002, x197003, x197004 => if x57 = true then (if x6 = 0 then (if x197000 = true then (if 0 ≤ x5 then (if x5 < (x0.length : Int) then ((gambitref05_number.f k (rdOf ByteArray.empty x0 x5)).bind fun t203 => (gambitref05_read.l0 k x0 (wrap64 (x5 + 1)) (wrap64 (x6 + 1)) x181000 x181001 x181002 t203 x181004 x181005 x181006 x181007 x197000 x197001 x197002 x197003 x197004)) else (none)) else (none)) else (gambitref05_read.l0 k x0 x5 (wrap64 (x6 + 1)) x181000 x181001 x181002 x181003 x181004 x181005 x181006 x181007 x197000 x197001 x197002 x197003 x197004)) else (if x6 = 1 then (if x197001 = true then (if 0 ≤ x5 then (if x5 < (x0.length : Int) then ((gambitref03_Of.f k (rdOf ByteArray.empty x0 x5)).bind fun bt205 => (gambitref05_read.l0 k x0 (wrap64 (x5 + 1)) (wrap64 (x6 + 1)) x181000 x181001 x181002 x181003 bt205.1 x181005 x181006 x181007 x197000 x197001 x197002 x197003 x197004)) else (none)) else (none)) else (gambitref05_read.l0 k x0 x5 (wrap64 (x6 + 1)) x181000 x181001 x181002 x181003 x181004 x181005 x181006 x181007 x197000 x197001 x197002 x197003 x197004)) else (if x6 = 2 then (if x197002 = true then (if 0 ≤ x5 then (if x5 < (x0.length : Int) then ((gambitref04_Of.f k (rdOf ByteArray.empty x0 x5)).bind fun bt208 => (gambitref05_read.l0 k x0 (wrap64 (x5 + 1)) (wrap64 (x6 + 1)) x181000 x181001 x181002 x181003 x181004 bt208.1 x181006 x181007 x197000 x197001 x197002 x197003 x197004)) else (none)) else (none)) else (gambitref05_read.l0 k x0 x5 (wrap64 (x6 + 1)) x181000 x181001 x181002 x181003 x181004 x181005 x181006 x181007 x197000 x197001 x197002 x197003 x197004)) else (if x6 = 3 then (if x197003 = true then (if 0 ≤ x5 then (if x5 < (x0.length : Int) then ((gambitref05_number.f k (rdOf ByteArray.empty x0 x5)).bind fun t211 => (gambitref05_read.l0 k x0 (wrap64 (x5 + 1)) (wrap64 (x6 + 1)) x181000 x181001 x181002 x181003 x181004 x181005 ((Int.tmod t211 200) % 256) x181007 x197000 x197001 x197002 x197003 x197004)) else (none)) else (none)) else (gambitref05_read.l0 k x0 x5 (wrap64 (x6 + 1)) x181000 x181001 x181002 x181003 x181004 x181005 x181006 x181007 x197000 x197001 x197002 x197003 x197004)) else (if x6 = 4 then (if x197004 = true then (if 0 ≤ x5 then (if x5 < (x0.length : Int) then (gambitref05_read.l0 k x0 (wrap64 (x5 + 1)) (wrap64 (x6 + 1)) x181000 x181001 x181002 x181003 x181004 x181005 x181006 (rdOf ByteArray.empty x0 x5) x197000 x197001 x197002 x197003 x197004) else (none)) else (none)) else (gambitref05_read.l0 k x0 x5 (wrap64 (x6 + 1)) x181000 x181001 x181002 x181003 x181004 x181005 x181006 x181007 x197000 x197001 x197002 x197003 x197004)) else (none)))))) else (some (x181000, x181001, x181002, x181003, x181004, x181005, x181006, x181007))
end
def gambitref05_read.f (k : Nat) (l0 : List ByteArray) : Option (Int × Int × Int × Int × Int × Int × Int × ByteArray) := if (l0.length : Int) < 3 then (some (0, 0, 0, 0, 0, 0, 0, (⟨#[]⟩ : ByteArray))) else ((gambitref05_whens.f).bind fun t181 => (if 0 < (l0.length : Int) then ((gambitref05_place.f k t181 (rdOf ByteArray.empty l0 0)).bind fun t185 => ((gambitref05_verbs.f).bind fun t186 => (if 1 < (l0.length : Int) then ((gambitref05_place.f k t186 (rdOf ByteArray.empty l0 1)).bind fun t190 => ((gambitref05_whoms.f).bind fun t191 => (if 2 < (l0.length : Int) then ((gambitref05_place.f k t191 (rdOf ByteArray.empty l0 2)).bind fun t195 => ((gambitref05_Uses.f k ((t190) % 256) ((t195) % 256)).bind fun bt197 => (gambitref05_read.l0 k l0 3 0 ((t185) % 256) ((t190) % 256) ((t195) % 256) 0 0 0 0 (⟨#[]⟩ : ByteArray) bt197.1 bt197.2.1 bt197.2.2.1 bt197.2.2.2.1 bt197.2.2.2.2))) else (none)))) else (none)))) else (none)))
theorem gambitref05_read.mono_l : ∀ k, (∀ y0 y1 y2 y3 y4 y5 y6 y7 y8 y9 y10 y11 y12 y13 y14 y15, LeO (gambitref05_read.l0 k y0 y1 y2 y3 y4 y5 y6 y7 y8 y9 y10 y11 y12 y13 y14 y15) (gambitref05_read.l0 (k + 1) y0 y1 y2 y3 y4 y5 y6 y7 y8 y9 y10 y11 y12 y13 y14 y15)) ∧ (∀ y0 y1 y2 y3 y4 y5 y6 y7 y8 y9 y10 y11 y12 y13 y14 y15 y16, LeO (gambitref05_read.j1 k y0 y1 y2 y3 y4 y5 y6 y7 y8 y9 y10 y11 y12 y13 y14 y15 y16) (gambitref05_read.j1 (k + 1) y0 y1 y2 y3 y4 y5 y6 y7 y8 y9 y10 y11 y12 y13 y14 y15 y16))
 | 0 => ⟨fun _ _ _ _ _ _ _ _ _ _ _ _ _ _ _ _ r h => by simp [gambitref05_read.l0] at h, fun _ _ _ _ _ _ _ _ _ _ _ _ _ _ _ _ _ r h => by simp [gambitref05_read.j1] at h⟩
 | k + 1 => by
  obtain ⟨ih0, ih1⟩ := gambitref05_read.mono_l k
  refine ⟨?_, ?_⟩
  ·intro y0 y1 y2 y3 y4 y5 y6 y7 y8 y9 y10 y11 y12 y13 y14 y15
   unfold gambitref05_read.l0
   repeat' first
   | (with_reducible exact ih0 _ _ _ _ _ _ _ _ _ _ _ _ _ _ _ _)
   | (with_reducible exact ih1 _ _ _ _ _ _ _ _ _ _ _ _ _ _ _ _ _)
   | (with_reducible exact gambitref03_Of.mono _ _)
   | (with_reducible exact gambitref04_Of.mono _ _)
   | (with_reducible exact gambitref05_Uses.mono _ _ _)
   | (with_reducible exact gambitref05_number.mono _ _)
   | (with_reducible exact gambitref05_place.mono _ _ _)
   | (with_reducible exact LeO.refl _)
   | (with_reducible exact LeO.none _)
   | (with_reducible refine LeO.ite ?_ ?_)
   | (with_reducible refine LeO.bind ?_ (fun _ => ?_))
   | exact ih0 _ _ _ _ _ _ _ _ _ _ _ _ _ _ _ _
   | exact ih1 _ _ _ _ _ _ _ _ _ _ _ _ _ _ _ _ _
   | exact gambitref03_Of.mono _ _
   | exact gambitref04_Of.mono _ _
   | exact gambitref05_Uses.mono _ _ _
   | exact gambitref05_number.mono _ _
   | exact gambitref05_place.mono _ _ _
   | exact LeO.none _
   | refine LeO.ite ?_ ?_
   | refine LeO.bind ?_ (fun _ => ?_)
  ·intro y0 y1 y2 y3 y4 y5 y6 y7 y8 y9 y10 y11 y12 y13 y14 y15 y16
   unfold gambitref05_read.j1
   repeat' first
   | (with_reducible exact ih0 _ _ _ _ _ _ _ _ _ _ _ _ _ _ _ _)
   | (with_reducible exact ih1 _ _ _ _ _ _ _ _ _ _ _ _ _ _ _ _ _)
   | (with_reducible exact gambitref03_Of.mono _ _)
   | (with_reducible exact gambitref04_Of.mono _ _)
   | (with_reducible exact gambitref05_Uses.mono _ _ _)
   | (with_reducible exact gambitref05_number.mono _ _)
   | (with_reducible exact gambitref05_place.mono _ _ _)
   | (with_reducible exact LeO.refl _)
   | (with_reducible exact LeO.none _)
   | (with_reducible refine LeO.ite ?_ ?_)
   | (with_reducible refine LeO.bind ?_ (fun _ => ?_))
   | exact ih0 _ _ _ _ _ _ _ _ _ _ _ _ _ _ _ _
   | exact ih1 _ _ _ _ _ _ _ _ _ _ _ _ _ _ _ _ _
   | exact gambitref03_Of.mono _ _
   | exact gambitref04_Of.mono _ _
   | exact gambitref05_Uses.mono _ _ _
   | exact gambitref05_number.mono _ _
   | exact gambitref05_place.mono _ _ _
   | exact LeO.none _
   | refine LeO.ite ?_ ?_
   | refine LeO.bind ?_ (fun _ => ?_)
theorem gambitref05_read.mono : ∀ a0 k, LeO (gambitref05_read.f k a0) (gambitref05_read.f (k + 1) a0) := by
 intro a0 k
 obtain ⟨ih0, ih1⟩ := gambitref05_read.mono_l k
 unfold gambitref05_read.f
 repeat' first
   | (with_reducible exact ih0 _ _ _ _ _ _ _ _ _ _ _ _ _ _ _ _)
   | (with_reducible exact ih1 _ _ _ _ _ _ _ _ _ _ _ _ _ _ _ _ _)
   | (with_reducible exact gambitref03_Of.mono _ _)
   | (with_reducible exact gambitref04_Of.mono _ _)
   | (with_reducible exact gambitref05_Uses.mono _ _ _)
   | (with_reducible exact gambitref05_number.mono _ _)
   | (with_reducible exact gambitref05_place.mono _ _ _)
   | (with_reducible exact LeO.refl _)
   | (with_reducible exact LeO.none _)
   | (with_reducible refine LeO.ite ?_ ?_)
   | (with_reducible refine LeO.bind ?_ (fun _ => ?_))
   | exact ih0 _ _ _ _ _ _ _ _ _ _ _ _ _ _ _ _
   | exact ih1 _ _ _ _ _ _ _ _ _ _ _ _ _ _ _ _ _
   | exact gambitref03_Of.mono _ _
   | exact gambitref04_Of.mono _ _
   | exact gambitref05_Uses.mono _ _ _
   | exact gambitref05_number.mono _ _
   | exact gambitref05_place.mono _ _ _
   | exact LeO.none _
   | refine LeO.ite ?_ ?_
   | refine LeO.bind ?_ (fun _ => ?_)
def gambitref05_read.T4 : Bool × List (List Nat × List Nat) := (true, [([], []), ([], []), ([1], [1]), ([2], [2]), ([0, 3, 0], [0, 3]), ([4], [4]), ([0, 1, 2, 3, 4, 5], []), ([6, 5, 4, 0, 1, 2, 3, 4, 5], [5, 6])])
def gambitref05_read.B4 : List Nat := [0, 0, 2, 6, 15, 31, 63, 127]
theorem gambitref05_read.tab4 : rtab .any (opsOf Tryz.f58 4) = gambitref05_read.T4 := by kernel_rfl
theorem gambitref05_read.bits4 : waitsOk gambitref05_read.T4.2 gambitref05_read.B4 = true := by kernel_rfl
def gambitref05_read.T5 : Bool × List (List Nat × List Nat) := (true, [([], []), ([], []), ([1], [1]), ([2], [2]), ([0, 3, 0], [0, 3]), ([4], [4]), ([0, 1, 2, 3, 4, 5], []), ([6, 5, 4, 0, 1, 2, 3, 4, 5], [5, 6])])
def gambitref05_read.B5 : List Nat := [0, 0, 2, 6, 15, 31, 63, 127]
theorem gambitref05_read.tab5 : rtab .any (opsOf Tryz.f58 5) = gambitref05_read.T5 := by kernel_rfl
theorem gambitref05_read.bits5 : waitsOk gambitref05_read.T5.2 gambitref05_read.B5 = true := by kernel_rfl
def gambitref05_read.T6 : Bool × List (List Nat × List Nat) := (true, [([], []), ([], []), ([1], [1]), ([2], [2]), ([0, 3, 0], [0, 3]), ([4], [4]), ([0, 1, 2, 3, 4, 5], []), ([6, 5, 4, 0, 1, 2, 3, 4, 5], [5, 6])])
def gambitref05_read.B6 : List Nat := [0, 0, 2, 6, 15, 31, 63, 127]
theorem gambitref05_read.tab6 : rtab .any (opsOf Tryz.f58 6) = gambitref05_read.T6 := by kernel_rfl
theorem gambitref05_read.bits6 : waitsOk gambitref05_read.T6.2 gambitref05_read.B6 = true := by kernel_rfl
set_option maxHeartbeats 8000000 in
set_option maxRecDepth 100000 in
theorem gambitref05_read.calls (k : Nat) (A0 : Option Addr) (c0 : Nat) (l0 : List ByteArray) (r1 : Int) (r2 : Int) (r3 : Int) (r4 : Int) (r5 : Int) (r6 : Int) (r7 : Int) (r8 : ByteArray) (w : World) (hr0 : Kd.C Kd.string w A0 l0.length l0) (hc0 : l0.length ≤ c0) (h : gambitref05_read.f k l0 = some (r1, r2, r3, r4, r5, r6, r7, r8)) :
  Calls Tryz.prog 58 #[.slice A0 l0.length c0] w fun e w' => e = .returned (.agg #[.int .u8 r1, .int .u8 r2, .int .u8 r3, .int .i64 r4, .int .u8 r5, .int .u8 r6, .int .u8 r7, .string r8]) ∧ Below w.heap.size w w' := by
 have hu48 := Tryz.underlying48
 have hu128 := Tryz.underlying128
 have HR0 := Aside0.mk hr0
 have HC0 := Aside0.mk hc0
 clear hr0 hc0
 have HB := Aside0.mk (Below.refl w.heap.size w)
 have H : (if (l0.length : Int) < 3 then (some (0, 0, 0, 0, 0, 0, 0, (⟨#[]⟩ : ByteArray))) else ((gambitref05_whens.f).bind fun t181 => (if 0 < (l0.length : Int) then ((gambitref05_place.f k t181 (rdOf ByteArray.empty l0 0)).bind fun t185 => ((gambitref05_verbs.f).bind fun t186 => (if 1 < (l0.length : Int) then ((gambitref05_place.f k t186 (rdOf ByteArray.empty l0 1)).bind fun t190 => ((gambitref05_whoms.f).bind fun t191 => (if 2 < (l0.length : Int) then ((gambitref05_place.f k t191 (rdOf ByteArray.empty l0 2)).bind fun t195 => ((gambitref05_Uses.f k ((t190) % 256) ((t195) % 256)).bind fun bt197 => (gambitref05_read.l0 k l0 3 0 ((t185) % 256) ((t190) % 256) ((t195) % 256) 0 0 0 0 (⟨#[]⟩ : ByteArray) bt197.1 bt197.2.1 bt197.2.2.1 bt197.2.2.2.1 bt197.2.2.2.2))) else (none)))) else (none)))) else (none)))) = some (r1, r2, r3, r4, r5, r6, r7, r8) := h
 clear h
 by_cases c2 : (l0.length : Int) < 3
 ·rw [if_pos c2] at H
  have c2b0 : decide ((l0.length : Int) < 3) = true := decide_eq_true c2
  have c2b1 : decide (l0.length < 3) = true := decide_eq_true (by omega)
  clear c2
  simp only [Option.some.injEq, Prod.mk.injEq] at H
  obtain ⟨rfl, rfl, rfl, rfl, rfl, rfl, rfl, rfl⟩ := H
  go_enter Tryz.func58, Tryz.ntmps58
  go_wp2_with (first | ((with_reducible refine gate_dst (N := 2) rfl ?_); (try (refine gate_guard (by rfl) ?_; dsimp only)); refine box_event ?hg (N := 2) ?hd (cs := #[.int .u8 0, .int .u8 0, .int .u8 0, .int .i64 0, .int .u8 0, .int .u8 0, .int .u8 0, .string (⟨#[]⟩ : ByteArray)]) (t := 48) ?hr ?_; (case hd => rfl); (case hg => rfl); (case hr => first | (go_simp; done) | (go_simp; rfl)); intro gb179 hg w3 hbox hb; have BK179 := Aside0.mk (hbox); have GW179 := Aside0.mk ((by rw [hg]; exact (below_size Zb) : w.heap.size ≤ gb179)); have GE179 := Aside0.mk ((by rw [hg]; exact (below_size Zb) : w.heap.size ≤ gb179)); replace HB := Aside0.mk (below_step Zb hb); clear hb hbox hg) | ((with_reducible refine gate_dst (N := 3) rfl ?_); (try (refine gate_guard (by rfl) ?_; dsimp only)); refine box_event ?hg (N := 3) ?hd (cs := #[.int .u8 0, .int .u8 0, .int .u8 0, .int .i64 0, .int .u8 0, .int .u8 0, .int .u8 0, .string (⟨#[]⟩ : ByteArray)]) (t := 48) ?hr ?_; (case hd => rfl); (case hg => rfl); (case hr => first | (go_simp; done) | (go_simp; rfl)); intro gb180 hg w4 hbox hb; have BK180 := Aside0.mk (hbox); have GW180 := Aside0.mk ((by rw [hg]; exact (below_size (Zb1 GE179.out)) : w.heap.size ≤ gb180)); have GE180 := Aside0.mk ((by rw [hg]; exact (below_size (Zb1 GE179.out)) : w.heap.size ≤ gb180)); replace HB := Aside0.mk (below_step (Zb1 GE179.out) hb); have NB179_180 := Aside0.mk ((by rw [hg]; exact Nat.ne_of_lt (blk_lt (g := gb179) (o := .cells #[.int .u8 0, .int .u8 0, .int .u8 0, .int .i64 0, .int .u8 0, .int .u8 0, .int .u8 0, .string (⟨#[]⟩ : ByteArray)] 48 (0, 0)) (Zk BK179.out)) : gb179 ≠ gb180)); have NB180_179 := Aside0.mk ((by rw [hg]; exact Nat.ne_of_gt (blk_lt (g := gb179) (o := .cells #[.int .u8 0, .int .u8 0, .int .u8 0, .int .i64 0, .int .u8 0, .int .u8 0, .int .u8 0, .string (⟨#[]⟩ : ByteArray)] 48 (0, 0)) (Zk BK179.out)) : gb180 ≠ gb179)); replace BK179 := Aside0.mk (blk_below (g := gb179) (o := .cells #[.int .u8 0, .int .u8 0, .int .u8 0, .int .i64 0, .int .u8 0, .int .u8 0, .int .u8 0, .string (⟨#[]⟩ : ByteArray)] 48 (0, 0)) (Zk BK179.out) hb); clear hb hbox hg; have hnb5 := NB180_179.out; have hnc5 := NB179_180.out; have hcz6_0 := Zc BK180.out 0 (.int .u8 0) rfl; have hcz6_1 := Zc BK180.out 1 (.int .u8 0) rfl; have hcz6_2 := Zc BK180.out 2 (.int .u8 0) rfl; have hcz6_3 := Zc BK180.out 3 (.int .i64 0) rfl; have hcz6_4 := Zc BK180.out 4 (.int .u8 0) rfl; have hcz6_5 := Zc BK180.out 5 (.int .u8 0) rfl; have hcz6_6 := Zc BK180.out 6 (.int .u8 0) rfl; have hcz6_7 := Zc BK180.out 7 (.string (⟨#[]⟩ : ByteArray)) rfl; have hfz6_0 := blk_frozen BK180.out 0; have hfz6_1 := blk_frozen BK180.out 1; have hfz6_2 := blk_frozen BK180.out 2; have hfz6_3 := blk_frozen BK180.out 3; have hfz6_4 := blk_frozen BK180.out 4; have hfz6_5 := blk_frozen BK180.out 5; have hfz6_6 := blk_frozen BK180.out 6; have hfz6_7 := blk_frozen BK180.out 7; have hcz7_0 := Zc BK179.out 0 (.int .u8 0) rfl; have hcz7_1 := Zc BK179.out 1 (.int .u8 0) rfl; have hcz7_2 := Zc BK179.out 2 (.int .u8 0) rfl; have hcz7_3 := Zc BK179.out 3 (.int .i64 0) rfl; have hcz7_4 := Zc BK179.out 4 (.int .u8 0) rfl; have hcz7_5 := Zc BK179.out 5 (.int .u8 0) rfl; have hcz7_6 := Zc BK179.out 6 (.int .u8 0) rfl; have hcz7_7 := Zc BK179.out 7 (.string (⟨#[]⟩ : ByteArray)) rfl; have hfz7_0 := blk_frozen BK179.out 0; have hfz7_1 := blk_frozen BK179.out 1; have hfz7_2 := blk_frozen BK179.out 2; have hfz7_3 := blk_frozen BK179.out 3; have hfz7_4 := blk_frozen BK179.out 4; have hfz7_5 := blk_frozen BK179.out 5; have hfz7_6 := blk_frozen BK179.out 6; have hfz7_7 := blk_frozen BK179.out 7))
  refine bodyPost_ret (results_cell_row rfl _ _ gb179 48 #[.int .u8 0, .int .u8 0, .int .u8 0, .int .i64 0, .int .u8 0, .int .u8 0, .int .u8 0, .string (⟨#[]⟩ : ByteArray)] (0, 0) _ rfl (by (with_reducible repeat (first | refine blk_drewN ?_ _ | refine blk_drew ?_ | refine blk_alloc ?_ _)); refine blk_put (cs := #[.int .u8 0, .int .u8 0, .int .u8 0, .int .i64 0, .int .u8 0, .int .u8 0, .int .u8 0, .string (⟨#[]⟩ : ByteArray)]) ?_ 7 _ rfl; (with_reducible repeat (first | refine blk_drewN ?_ _ | refine blk_drew ?_ | refine blk_alloc ?_ _)); refine blk_put (cs := #[.int .u8 0, .int .u8 0, .int .u8 0, .int .i64 0, .int .u8 0, .int .u8 0, .int .u8 0, .string (⟨#[]⟩ : ByteArray)]) ?_ 6 _ rfl; (with_reducible repeat (first | refine blk_drewN ?_ _ | refine blk_drew ?_ | refine blk_alloc ?_ _)); refine blk_put (cs := #[.int .u8 0, .int .u8 0, .int .u8 0, .int .i64 0, .int .u8 0, .int .u8 0, .int .u8 0, .string (⟨#[]⟩ : ByteArray)]) ?_ 5 _ rfl; (with_reducible repeat (first | refine blk_drewN ?_ _ | refine blk_drew ?_ | refine blk_alloc ?_ _)); refine blk_put (cs := #[.int .u8 0, .int .u8 0, .int .u8 0, .int .i64 0, .int .u8 0, .int .u8 0, .int .u8 0, .string (⟨#[]⟩ : ByteArray)]) ?_ 4 _ rfl; (with_reducible repeat (first | refine blk_drewN ?_ _ | refine blk_drew ?_ | refine blk_alloc ?_ _)); refine blk_put (cs := #[.int .u8 0, .int .u8 0, .int .u8 0, .int .i64 0, .int .u8 0, .int .u8 0, .int .u8 0, .string (⟨#[]⟩ : ByteArray)]) ?_ 3 _ rfl; (with_reducible repeat (first | refine blk_drewN ?_ _ | refine blk_drew ?_ | refine blk_alloc ?_ _)); refine blk_put (cs := #[.int .u8 0, .int .u8 0, .int .u8 0, .int .i64 0, .int .u8 0, .int .u8 0, .int .u8 0, .string (⟨#[]⟩ : ByteArray)]) ?_ 2 _ rfl; (with_reducible repeat (first | refine blk_drewN ?_ _ | refine blk_drew ?_ | refine blk_alloc ?_ _)); refine blk_put (cs := #[.int .u8 0, .int .u8 0, .int .u8 0, .int .i64 0, .int .u8 0, .int .u8 0, .int .u8 0, .string (⟨#[]⟩ : ByteArray)]) ?_ 1 _ rfl; (with_reducible repeat (first | refine blk_drewN ?_ _ | refine blk_drew ?_ | refine blk_alloc ?_ _)); refine blk_put (cs := #[.int .u8 0, .int .u8 0, .int .u8 0, .int .i64 0, .int .u8 0, .int .u8 0, .int .u8 0, .string (⟨#[]⟩ : ByteArray)]) ?_ 0 _ rfl; exact Zk BK179.out) Tryz.underlying48 rfl (by kernel_rfl)) rfl ?_
  exact ⟨Ze, Zb2 GE179.out GE180.out⟩
 ·rw [if_neg c2] at H
  have c2b0 : decide ((l0.length : Int) < 3) = false := decide_eq_false c2
  have c2b1 : decide (l0.length < 3) = false := decide_eq_false (by omega)
  clear c2
  replace H := Option.bind_eq_some_iff.mp H
  obtain ⟨t181, A80, H⟩ := H
  replace H : (if 0 < (l0.length : Int) then ((gambitref05_place.f k t181 (rdOf ByteArray.empty l0 0)).bind fun t185 => ((gambitref05_verbs.f).bind fun t186 => (if 1 < (l0.length : Int) then ((gambitref05_place.f k t186 (rdOf ByteArray.empty l0 1)).bind fun t190 => ((gambitref05_whoms.f).bind fun t191 => (if 2 < (l0.length : Int) then ((gambitref05_place.f k t191 (rdOf ByteArray.empty l0 2)).bind fun t195 => ((gambitref05_Uses.f k ((t190) % 256) ((t195) % 256)).bind fun bt197 => (gambitref05_read.l0 k l0 3 0 ((t185) % 256) ((t190) % 256) ((t195) % 256) 0 0 0 0 (⟨#[]⟩ : ByteArray) bt197.1 bt197.2.1 bt197.2.2.1 bt197.2.2.2.1 bt197.2.2.2.2))) else (none)))) else (none)))) else (none)) = some (r1, r2, r3, r4, r5, r6, r7, r8) := H
  have A8 := Aside0.mk A80
  clear A80
  by_cases c9 : 0 < (l0.length : Int)
  ·rw [if_pos c9] at H
   have c9b0 : decide (0 < (l0.length : Int)) = true := decide_eq_true c9
   have c9b1 : decide (0 < l0.length) = true := decide_eq_true (by omega)
   clear c9
   replace H := Option.bind_eq_some_iff.mp H
   obtain ⟨t185, A100, H⟩ := H
   replace H : ((gambitref05_verbs.f).bind fun t186 => (if 1 < (l0.length : Int) then ((gambitref05_place.f k t186 (rdOf ByteArray.empty l0 1)).bind fun t190 => ((gambitref05_whoms.f).bind fun t191 => (if 2 < (l0.length : Int) then ((gambitref05_place.f k t191 (rdOf ByteArray.empty l0 2)).bind fun t195 => ((gambitref05_Uses.f k ((t190) % 256) ((t195) % 256)).bind fun bt197 => (gambitref05_read.l0 k l0 3 0 ((t185) % 256) ((t190) % 256) ((t195) % 256) 0 0 0 0 (⟨#[]⟩ : ByteArray) bt197.1 bt197.2.1 bt197.2.2.1 bt197.2.2.2.1 bt197.2.2.2.2))) else (none)))) else (none))) = some (r1, r2, r3, r4, r5, r6, r7, r8) := H
   have A10 := Aside0.mk A100
   clear A100
   replace H := Option.bind_eq_some_iff.mp H
   obtain ⟨t186, A110, H⟩ := H
   replace H : (if 1 < (l0.length : Int) then ((gambitref05_place.f k t186 (rdOf ByteArray.empty l0 1)).bind fun t190 => ((gambitref05_whoms.f).bind fun t191 => (if 2 < (l0.length : Int) then ((gambitref05_place.f k t191 (rdOf ByteArray.empty l0 2)).bind fun t195 => ((gambitref05_Uses.f k ((t190) % 256) ((t195) % 256)).bind fun bt197 => (gambitref05_read.l0 k l0 3 0 ((t185) % 256) ((t190) % 256) ((t195) % 256) 0 0 0 0 (⟨#[]⟩ : ByteArray) bt197.1 bt197.2.1 bt197.2.2.1 bt197.2.2.2.1 bt197.2.2.2.2))) else (none)))) else (none)) = some (r1, r2, r3, r4, r5, r6, r7, r8) := H
   have A11 := Aside0.mk A110
   clear A110
   by_cases c12 : 1 < (l0.length : Int)
   ·rw [if_pos c12] at H
    have c12b0 : decide (1 < (l0.length : Int)) = true := decide_eq_true c12
    have c12b1 : decide (1 < l0.length) = true := decide_eq_true (by omega)
    clear c12
    replace H := Option.bind_eq_some_iff.mp H
    obtain ⟨t190, A130, H⟩ := H
    replace H : ((gambitref05_whoms.f).bind fun t191 => (if 2 < (l0.length : Int) then ((gambitref05_place.f k t191 (rdOf ByteArray.empty l0 2)).bind fun t195 => ((gambitref05_Uses.f k ((t190) % 256) ((t195) % 256)).bind fun bt197 => (gambitref05_read.l0 k l0 3 0 ((t185) % 256) ((t190) % 256) ((t195) % 256) 0 0 0 0 (⟨#[]⟩ : ByteArray) bt197.1 bt197.2.1 bt197.2.2.1 bt197.2.2.2.1 bt197.2.2.2.2))) else (none))) = some (r1, r2, r3, r4, r5, r6, r7, r8) := H
    have A13 := Aside0.mk A130
    clear A130
    replace H := Option.bind_eq_some_iff.mp H
    obtain ⟨t191, A140, H⟩ := H
    replace H : (if 2 < (l0.length : Int) then ((gambitref05_place.f k t191 (rdOf ByteArray.empty l0 2)).bind fun t195 => ((gambitref05_Uses.f k ((t190) % 256) ((t195) % 256)).bind fun bt197 => (gambitref05_read.l0 k l0 3 0 ((t185) % 256) ((t190) % 256) ((t195) % 256) 0 0 0 0 (⟨#[]⟩ : ByteArray) bt197.1 bt197.2.1 bt197.2.2.1 bt197.2.2.2.1 bt197.2.2.2.2))) else (none)) = some (r1, r2, r3, r4, r5, r6, r7, r8) := H
    have A14 := Aside0.mk A140
    clear A140
    by_cases c15 : 2 < (l0.length : Int)
    ·rw [if_pos c15] at H
     have c15b0 : decide (2 < (l0.length : Int)) = true := decide_eq_true c15
     have c15b1 : decide (2 < l0.length) = true := decide_eq_true (by omega)
     clear c15
     replace H := Option.bind_eq_some_iff.mp H
     obtain ⟨t195, A160, H⟩ := H
     replace H : ((gambitref05_Uses.f k ((t190) % 256) ((t195) % 256)).bind fun bt197 => (gambitref05_read.l0 k l0 3 0 ((t185) % 256) ((t190) % 256) ((t195) % 256) 0 0 0 0 (⟨#[]⟩ : ByteArray) bt197.1 bt197.2.1 bt197.2.2.1 bt197.2.2.2.1 bt197.2.2.2.2)) = some (r1, r2, r3, r4, r5, r6, r7, r8) := H
     have A16 := Aside0.mk A160
     clear A160
     replace H := Option.bind_eq_some_iff.mp H
     obtain ⟨⟨t197, t198, t199, t200, t201⟩, A170, H⟩ := H
     replace H : (gambitref05_read.l0 k l0 3 0 ((t185) % 256) ((t190) % 256) ((t195) % 256) 0 0 0 0 (⟨#[]⟩ : ByteArray) t197 t198 t199 t200 t201) = some (r1, r2, r3, r4, r5, r6, r7, r8) := H
     have A17 := Aside0.mk A170
     clear A170
     have H' := Aside0.mk H
     clear H
     go_enter Tryz.func58, Tryz.ntmps58
     try go_wp2_with (first | ((with_reducible refine gate_dst (N := 2) rfl ?_); (try (refine gate_guard (by rfl) ?_; dsimp only)); refine box_event ?hg (N := 2) ?hd (cs := #[.int .u8 0, .int .u8 0, .int .u8 0, .int .i64 0, .int .u8 0, .int .u8 0, .int .u8 0, .string (⟨#[]⟩ : ByteArray)]) (t := 48) ?hr ?_; (case hd => rfl); (case hg => rfl); (case hr => first | (go_simp; done) | (go_simp; rfl)); intro gb179 hg w18 hbox hb; have BK179 := Aside0.mk (hbox); have GW179 := Aside0.mk ((by rw [hg]; exact (below_size Zb) : w.heap.size ≤ gb179)); have GE179 := Aside0.mk ((by rw [hg]; exact (below_size Zb) : w.heap.size ≤ gb179)); replace HB := Aside0.mk (below_step Zb hb); clear hb hbox hg) | ((with_reducible refine gate_dst (N := 3) rfl ?_); (try (refine gate_guard (by rfl) ?_; dsimp only)); refine box_event ?hg (N := 3) ?hd (cs := #[.int .u8 0, .int .u8 0, .int .u8 0, .int .i64 0, .int .u8 0, .int .u8 0, .int .u8 0, .string (⟨#[]⟩ : ByteArray)]) (t := 48) ?hr ?_; (case hd => rfl); (case hg => rfl); (case hr => first | (go_simp; done) | (go_simp; rfl)); intro gb180 hg w19 hbox hb; have BK180 := Aside0.mk (hbox); have GW180 := Aside0.mk ((by rw [hg]; exact (below_size (Zb1 GE179.out)) : w.heap.size ≤ gb180)); have GE180 := Aside0.mk ((by rw [hg]; exact (below_size (Zb1 GE179.out)) : w.heap.size ≤ gb180)); replace HB := Aside0.mk (below_step (Zb1 GE179.out) hb); have NB179_180 := Aside0.mk ((by rw [hg]; exact Nat.ne_of_lt (blk_lt (g := gb179) (o := .cells #[.int .u8 0, .int .u8 0, .int .u8 0, .int .i64 0, .int .u8 0, .int .u8 0, .int .u8 0, .string (⟨#[]⟩ : ByteArray)] 48 (0, 0)) (Zk BK179.out)) : gb179 ≠ gb180)); have NB180_179 := Aside0.mk ((by rw [hg]; exact Nat.ne_of_gt (blk_lt (g := gb179) (o := .cells #[.int .u8 0, .int .u8 0, .int .u8 0, .int .i64 0, .int .u8 0, .int .u8 0, .int .u8 0, .string (⟨#[]⟩ : ByteArray)] 48 (0, 0)) (Zk BK179.out)) : gb180 ≠ gb179)); replace BK179 := Aside0.mk (blk_below (g := gb179) (o := .cells #[.int .u8 0, .int .u8 0, .int .u8 0, .int .i64 0, .int .u8 0, .int .u8 0, .int .u8 0, .string (⟨#[]⟩ : ByteArray)] 48 (0, 0)) (Zk BK179.out) hb); clear hb hbox hg))
     have n0_ := Aside0.mk (blk_drew BK179.out)
     have n1_ := Aside0.mk (blk_drew BK180.out)
     have n2_ := Aside0.mk (below_drew1 HB.out)
     clear BK179 BK180 HB
     have BK179 := n0_
     have BK180 := n1_
     have HB := n2_
     clear n0_ n1_ n2_
     have p184 : 0 ≤ (0 : Int) := (by omega)
     have q184 : 0 < (l0.length : Int) := of_decide_eq_true Za
     obtain ⟨ad184, e184, hx184_0⟩ := Kd.at_string HR0.out 0 p184 q184
     have hw184_0 := hx184_0
     (try rw [show ((0 : Int)).toNat = 0 from rfl] at hw184_0)
     (try rw [show 0 * 1 = 0 from rfl] at hw184_0)
     (try rw [Addr.add_zero'] at hw184_0)
     cases e184
     have qi184 : (0 < l0.length) = True := eq_true (by omega)
     (try rw [show ((0 : Int)).toNat = 0 from rfl] at hx184_0)
     (try rw [Addr.add_zero'] at hx184_0)
     replace hx184_0 := (HB.out.cell (World.block_lt_of_cell? w _ hx184_0)).trans hx184_0
     replace p184 := eq_true p184
     replace q184 := eq_true q184
     refine start_ (n := 8) (S := fun w' => w'.cell? ad184 = some (.string (rdOf ByteArray.empty l0 0))) (ds := []) #[false, false, false, false, false, false, false, false] (by kernel_rfl) rfl rfl (((HB.out.cell (World.block_lt_of_cell? w _ hw184_0)).trans hw184_0)) (fun hHeld => ?_); refine with_tabW gambitref05_read.tab4 gambitref05_read.bits4 (fun HT_ HW_ => ?_)
     generalize w19.drew = w20 at BK179 BK180 HB hx184_0 hHeld ⊢
     refine pure_ (i := 1) (N := some 13) (v := ?_) (a' := ?_) #[false, true, false, false, false, false, false, false] rfl rfl (any_of HT_.out (by kernel_rfl)) (fun _ _ _ h => h) (Or.inl ⟨by rfl, ?_⟩) ?_ ?_
     rotate_left
     ·intro w'
      go_simp
      with_reducible rfl
     rotate_left
     ·simp only [Act.put, List.setIfInBounds_toArray, List.set_cons_zero, List.set_cons_succ, i64_w, i32_w]
      rfl
     refine pure_ (i := 2) (N := some 14) (v := ?_) (a' := ?_) #[false, true, true, false, false, false, false, false] rfl rfl (any_of HT_.out (by kernel_rfl)) (fun _ _ _ h => h) (Or.inl ⟨by rfl, ?_⟩) ?_ ?_
     rotate_left
     ·intro w'
      go_simp
      with_reducible rfl
     rotate_left
     ·simp only [Act.put, List.setIfInBounds_toArray, List.set_cons_zero, List.set_cons_succ, i64_w, i32_w]
      rfl
     refine take_ (i := 3) (N := some 15) (v := ?_) (a' := ?_) #[false, true, true, true, false, false, false, false] rfl rfl (take_ofW HT_.out HW_.out (by kernel_rfl)) (fun _ _ _ h => h) (Or.inl ⟨by rfl, ?_⟩) hHeld ?_ ?_
     rotate_left
     ·intro w' s0
      go_simp
      with_reducible rfl
     rotate_left
     ·simp only [Act.put, List.setIfInBounds_toArray, List.set_cons_zero, List.set_cons_succ, i64_w, i32_w]
      rfl
     refine one_ (i := 0) (N := some 12) #[true, true, true, true, false, false, false, false] rfl rfl (one_of HT_.out (by kernel_rfl)) (by decide) (fun K hK => ?_)
     refine goes_ Tryz.func86 (by kernel_rfl) rfl #[] (by rfl) rfl rfl Zl ?_
     with_reducible refine (gambitref05_whens.calls  t181 _ A8.out).mono ?_
     rintro e w21 ⟨v182, rfl, ho0, hb⟩
     refine ⟨_, rfl, ?_⟩
     have n0_ := Aside0.mk (Kd.R_lower ho0 (below_size (Zb2 GE179.out GE180.out)))
     have n1_ := Aside0.mk (blk_below (g := gb179) (o := .cells #[.int .u8 0, .int .u8 0, .int .u8 0, .int .i64 0, .int .u8 0, .int .u8 0, .int .u8 0, .string (⟨#[]⟩ : ByteArray)] 48 (0, 0)) (Zk BK179.out) hb)
     have n2_ := Aside0.mk (blk_below (g := gb180) (o := .cells #[.int .u8 0, .int .u8 0, .int .u8 0, .int .i64 0, .int .u8 0, .int .u8 0, .int .u8 0, .string (⟨#[]⟩ : ByteArray)] 48 (0, 0)) (Zk BK180.out) hb)
     have n3_ := Aside0.mk (below_step (Zb2 GE179.out GE180.out) hb)
     clear BK179 BK180 HB
     have HO183 := n0_
     have BK179 := n1_
     have BK180 := n2_
     have HB := n3_
     clear n0_ n1_ n2_ n3_
     (try clear hb)
     (try clear hb2)
     (try clear hk)
     (try clear hi)
     (try clear ho0)
     obtain ⟨Ao22, co22, eo22⟩ := Kd.R_slice HO183.out
     (first | subst eo22 | (injection eo22 with f1_ f2_ f3_; have f4_ := f1_.symm; have f5_ := f3_.symm; clear f1_ f2_ f3_; subst f4_; subst f5_))
     refine hK.out _ _ (((HB.out.cell (World.block_lt_of_cell? w _ hw184_0)).trans hw184_0)) (fun hHeld => ?_)
     clear hK K
     refine norm_ (a' := ?_) ?_ ?_
     rotate_left
     ·show Act.put _ (some 12) _ = _
      simp only [Act.put, List.setIfInBounds_toArray, List.set_cons_zero, List.set_cons_succ, i64_w, i32_w]
      rfl
     refine one_ (i := 4) (N := some 16) #[true, true, true, true, true, false, false, false] rfl rfl (one_of HT_.out (by kernel_rfl)) (by decide) (fun K hK => ?_)
     refine goes_ Tryz.func102 (by kernel_rfl) rfl #[.slice Ao22 t181.length co22, .string (rdOf ByteArray.empty l0 0)] (by rfl) rfl rfl Zl ?_
     with_reducible refine (gambitref05_place.calls k _ _ t181 (rdOf ByteArray.empty l0 0) t185 _ ?side1 ?side2 A10.out).mono ?_
     (case side1 => repeat (first | exact (Kd.R_reads' HO183.out).2.2 | (with_reducible refine Kd.C_alloc ?_ _) | (with_reducible refine Kd.C_drewN ?_ _) | (with_reducible refine Kd.C_drew ?_)))
     (case side2 => exact (Kd.R_reads' HO183.out).2.1)
     rintro e w' ⟨rfl, ⟨nd, rfl⟩⟩
     refine ⟨_, rfl, ?_⟩
     refine hK.out _ _ (((HB.out.cell (World.block_lt_of_cell? w _ hw184_0)).trans hw184_0)) (fun hHeld => ?_)
     clear hK K
     refine norm_ (a' := ?_) ?_ ?_
     rotate_left
     ·show Act.put _ (some 16) _ = _
      simp only [Act.put, List.setIfInBounds_toArray, List.set_cons_zero, List.set_cons_succ, i64_w, i32_w]
      rfl
     refine pure_ (i := 5) (N := some 17) (v := ?_) (a' := ?_) #[true, true, true, true, true, true, false, false] rfl rfl (any_of HT_.out (by kernel_rfl)) (fun _ _ _ h => h) (Or.inl ⟨by rfl, ?_⟩) ?_ ?_
     rotate_left
     ·intro w'
      go_simp
      with_reducible rfl
     rotate_left
     ·simp only [Act.put, List.setIfInBounds_toArray, List.set_cons_zero, List.set_cons_succ, i64_w, i32_w]
      rfl
     refine pure_ (i := 6) (N := some 18) (v := ?_) (a' := ?_) #[true, true, true, true, true, true, true, false] rfl rfl (any_of HT_.out (by kernel_rfl)) (fun _ _ _ h => h) (Or.inl ⟨by rfl, ?_⟩) ?_ ?_
     rotate_left
     ·intro w'
      go_simp
      with_reducible rfl
     rotate_left
     ·simp only [Act.put, List.setIfInBounds_toArray, List.set_cons_zero, List.set_cons_succ, i64_w, i32_w]
      rfl
     refine one_ (i := 7) (N := none) #[true, true, true, true, true, true, true, true] rfl rfl (one_of HT_.out (by kernel_rfl)) (by decide) (fun K hK => ?_)
     have hs23 : w21.cell? ⟨gb180, 0, none⟩ = some (.int .u8 0) := (blk_cell BK180.out 0).trans rfl
     have hfs23 := blk_frozen BK180.out 0
     have hns23_0 := NB179_180.out
     have hms23_0 := NB180_179.out
     refine skip_ (w1 := ?_) (by rfl) rfl ?_ ?_
     rotate_left
     ·go_simp
      rfl
     refine hK.out _ _ (((cell_far (p := ⟨gb180, _, none⟩) (by first | exact Nat.ne_of_lt (Nat.lt_of_lt_of_le (by have := World.block_lt_of_cell? _ _ hw184_0; first | rwa [add_block] at this | exact this) GW180.out) | (rw [add_block]; exact Nat.ne_of_lt (Nat.lt_of_lt_of_le (by have := World.block_lt_of_cell? _ _ hw184_0; first | rwa [add_block] at this | exact this) GW180.out)) | (show (Addr.add _ _).block ≠ _; rw [add_block]; exact Nat.ne_of_lt (Nat.lt_of_lt_of_le (by have := World.block_lt_of_cell? _ _ hw184_0; first | rwa [add_block] at this | exact this) GW180.out)) | (dsimp only; exact Nat.ne_of_lt (Nat.lt_of_lt_of_le (by have := World.block_lt_of_cell? _ _ hw184_0; first | rwa [add_block] at this | exact this) GW180.out))) _).trans (hHeld))) (fun hHeld => ?_)
     clear hK K
     refine done_ (done_of HT_.out (by kernel_rfl)) ?_
     try go_wp2
     have n0_ : Aside0 (Kd.R Kd.string 9 (w21.setCell ⟨gb180, 0, none⟩ (.int .u8 ((t185) % 256))) w.heap.size (fun _ => True) (.slice Ao22 t181.length co22) t181) := ⟨by (with_reducible repeat (first | apply Kd.R_alloc | apply Kd.R_drewN | apply Kd.R_drew)); exact Kd.R_mono (Kd.R_far (p := ⟨gb180, 0, none⟩) (Kd.R_types HO183.out BK180.out (by decide)) (fun _ hk => by exact Zh) (.int .u8 ((t185) % 256))) (fun _ hk => trivial)⟩
     have n1_ : Aside0 ((w21.setCell ⟨gb180, 0, none⟩ (.int .u8 ((t185) % 256))).heap[gb179]? = some (.cells #[.int .u8 0, .int .u8 0, .int .u8 0, .int .i64 0, .int .u8 0, .int .u8 0, .int .u8 0, .string (⟨#[]⟩ : ByteArray)] 48 (0, 0))) := ⟨by (with_reducible repeat (first | refine blk_drewN ?_ _ | refine blk_drew ?_ | refine blk_alloc ?_ _)); refine blk_far ?_ NB179_180.out _; exact Zk BK179.out⟩
     have n2_ : Aside0 ((w21.setCell ⟨gb180, 0, none⟩ (.int .u8 ((t185) % 256))).heap[gb180]? = some (.cells #[.int .u8 ((t185) % 256), .int .u8 0, .int .u8 0, .int .i64 0, .int .u8 0, .int .u8 0, .int .u8 0, .string (⟨#[]⟩ : ByteArray)] 48 (0, 0))) := ⟨by (with_reducible repeat (first | refine blk_drewN ?_ _ | refine blk_drew ?_ | refine blk_alloc ?_ _)); refine blk_put (cs := #[.int .u8 0, .int .u8 0, .int .u8 0, .int .i64 0, .int .u8 0, .int .u8 0, .int .u8 0, .string (⟨#[]⟩ : ByteArray)]) ?_ 0 _ rfl; exact Zk BK180.out⟩
     have n3_ : Aside0 (Below w.heap.size w (w21.setCell ⟨gb180, 0, none⟩ (.int .u8 ((t185) % 256)))) := ⟨Zb2 GE179.out GE180.out⟩
     (try clear HO183)
     (try clear BK179)
     (try clear BK180)
     (try clear HB)
     (try simp only [setCell_drewN_, u8_w_])
     generalize (w21.setCell ⟨gb180, 0, none⟩ (.int .u8 ((t185) % 256))) = w24 at n0_ n1_ n2_ n3_ ⊢
     have HO183 := n0_
     have BK179 := n1_
     have BK180 := n2_
     have HB := n3_
     clear n0_ n1_ n2_ n3_
     (try (rw [drewN_self w24]; generalize hq_ : World.drewN w24 _ = w24; have n0_ : Aside0 (Kd.R Kd.string 9 w24 w.heap.size (fun _ => True) (.slice Ao22 t181.length co22) t181) := ⟨by rw [← hq_]; exact (Zq HO183.out)⟩; have n1_ : Aside0 (w24.heap[gb179]? = some (.cells #[.int .u8 0, .int .u8 0, .int .u8 0, .int .i64 0, .int .u8 0, .int .u8 0, .int .u8 0, .string (⟨#[]⟩ : ByteArray)] 48 (0, 0))) := ⟨by rw [← hq_]; exact (Zk BK179.out)⟩; have n2_ : Aside0 (w24.heap[gb180]? = some (.cells #[.int .u8 ((t185) % 256), .int .u8 0, .int .u8 0, .int .i64 0, .int .u8 0, .int .u8 0, .int .u8 0, .string (⟨#[]⟩ : ByteArray)] 48 (0, 0))) := ⟨by rw [← hq_]; exact (Zk BK180.out)⟩; have n3_ : Aside0 (Below w.heap.size w w24) := ⟨by rw [← hq_]; exact (Zb2 GE179.out GE180.out)⟩; clear HO183 BK179 BK180 HB hq_; have HO183 := n0_; have BK179 := n1_; have BK180 := n2_; have HB := n3_; clear n0_ n1_ n2_ n3_))
     have n0_ := Aside0.mk (Kd.R_drew HO183.out)
     have n1_ := Aside0.mk (blk_drew BK179.out)
     have n2_ := Aside0.mk (blk_drew BK180.out)
     have n3_ := Aside0.mk (below_drew1 HB.out)
     clear HO183 BK179 BK180 HB
     have HO183 := n0_
     have BK179 := n1_
     have BK180 := n2_
     have HB := n3_
     clear n0_ n1_ n2_ n3_
     have p189 : 0 ≤ (1 : Int) := (by omega)
     have q189 : 1 < (l0.length : Int) := of_decide_eq_true Za
     obtain ⟨ad189, e189, hx189_0⟩ := Kd.at_string HR0.out 1 p189 q189
     have hw189_0 := hx189_0
     (try rw [show ((1 : Int)).toNat = 1 from rfl] at hw189_0)
     (try rw [show 1 * 1 = 1 from rfl] at hw189_0)
     (try simp only [Nat.reduceMul, Nat.reduceEqDiff, Go.Addr.add, ↓reduceIte] at hw189_0)
     obtain rfl : ad184 = ad189 := (by injection e189)
     (try simp only [show (1 : Int).toNat = 1 from rfl, Nat.reduceMul, Nat.reduceEqDiff, Go.Addr.add, ↓reduceIte] at hx189_0)
     have qi189 : (1 < l0.length) = True := eq_true (by omega)
     (try rw [show ((1 : Int)).toNat = 1 from rfl] at hx189_0)
     replace hx189_0 := (HB.out.cell (World.block_lt_of_cell? w _ hx189_0)).trans hx189_0
     replace p189 := eq_true p189
     replace q189 := eq_true q189
     refine start_ (n := 8) (S := fun w' => w'.cell? ⟨ad184.block, ad184.off + 1, none⟩ = some (.string (rdOf ByteArray.empty l0 1))) (ds := []) #[false, false, false, false, false, false, false, false] (by kernel_rfl) rfl rfl (((HB.out.cell (World.block_lt_of_cell? w _ hw189_0)).trans hw189_0)) (fun hHeld => ?_); refine with_tabW gambitref05_read.tab5 gambitref05_read.bits5 (fun HT_ HW_ => ?_)
     generalize w24.drew = w25 at HO183 BK179 BK180 HB hx189_0 hHeld ⊢
     refine pure_ (i := 1) (N := some 20) (v := ?_) (a' := ?_) #[false, true, false, false, false, false, false, false] rfl rfl (any_of HT_.out (by kernel_rfl)) (fun _ _ _ h => h) (Or.inl ⟨by rfl, ?_⟩) ?_ ?_
     rotate_left
     ·intro w'
      go_simp
      with_reducible rfl
     rotate_left
     ·simp only [Act.put, List.setIfInBounds_toArray, List.set_cons_zero, List.set_cons_succ, i64_w, i32_w]
      rfl
     refine pure_ (i := 2) (N := some 21) (v := ?_) (a' := ?_) #[false, true, true, false, false, false, false, false] rfl rfl (any_of HT_.out (by kernel_rfl)) (fun _ _ _ h => h) (Or.inl ⟨by rfl, ?_⟩) ?_ ?_
     rotate_left
     ·intro w'
      go_simp
      with_reducible rfl
     rotate_left
     ·simp only [Act.put, List.setIfInBounds_toArray, List.set_cons_zero, List.set_cons_succ, i64_w, i32_w]
      rfl
     refine take_ (i := 3) (N := some 22) (v := ?_) (a' := ?_) #[false, true, true, true, false, false, false, false] rfl rfl (take_ofW HT_.out HW_.out (by kernel_rfl)) (fun _ _ _ h => h) (Or.inl ⟨by rfl, ?_⟩) hHeld ?_ ?_
     rotate_left
     ·intro w' s0
      go_simp
      with_reducible rfl
     rotate_left
     ·simp only [Act.put, List.setIfInBounds_toArray, List.set_cons_zero, List.set_cons_succ, i64_w, i32_w]
      rfl
     refine one_ (i := 0) (N := some 19) #[true, true, true, true, false, false, false, false] rfl rfl (one_of HT_.out (by kernel_rfl)) (by decide) (fun K hK => ?_)
     refine goes_ Tryz.func87 (by kernel_rfl) rfl #[] (by rfl) rfl rfl Zl ?_
     with_reducible refine (gambitref05_verbs.calls  t186 _ A11.out).mono ?_
     rintro e w26 ⟨v187, rfl, ho0, hb⟩
     refine ⟨_, rfl, ?_⟩
     have n0_ := Aside0.mk (Kd.R_elder' (Zq HO183.out) (Kd.R_base ho0) hb)
     have n1_ := Aside0.mk (Kd.R_lower (Kd.R_new' ho0 (Kd.R_lt (Zq HO183.out))) (below_size (Zb2 GE179.out GE180.out)))
     have n2_ := Aside0.mk (blk_below (g := gb179) (o := .cells #[.int .u8 0, .int .u8 0, .int .u8 0, .int .i64 0, .int .u8 0, .int .u8 0, .int .u8 0, .string (⟨#[]⟩ : ByteArray)] 48 (0, 0)) (Zk BK179.out) hb)
     have n3_ := Aside0.mk (blk_below (g := gb180) (o := .cells #[.int .u8 ((t185) % 256), .int .u8 0, .int .u8 0, .int .i64 0, .int .u8 0, .int .u8 0, .int .u8 0, .string (⟨#[]⟩ : ByteArray)] 48 (0, 0)) (Zk BK180.out) hb)
     have n4_ := Aside0.mk (below_step (Zb2 GE179.out GE180.out) hb)
     clear HO183 BK179 BK180 HB
     have HO183 := n0_
     have HO188 := n1_
     have BK179 := n2_
     have BK180 := n3_
     have HB := n4_
     clear n0_ n1_ n2_ n3_ n4_
     (try clear hb)
     (try clear hb2)
     (try clear hk)
     (try clear hi)
     (try clear ho0)
     obtain ⟨Ao27, co27, eo27⟩ := Kd.R_slice HO188.out
     (first | subst eo27 | (injection eo27 with f1_ f2_ f3_; have f4_ := f1_.symm; have f5_ := f3_.symm; clear f1_ f2_ f3_; subst f4_; subst f5_))
     refine hK.out _ _ (((HB.out.cell (World.block_lt_of_cell? w _ hw189_0)).trans hw189_0)) (fun hHeld => ?_)
     clear hK K
     refine norm_ (a' := ?_) ?_ ?_
     rotate_left
     ·show Act.put _ (some 19) _ = _
      simp only [Act.put, List.setIfInBounds_toArray, List.set_cons_zero, List.set_cons_succ, i64_w, i32_w]
      rfl
     refine one_ (i := 4) (N := some 23) #[true, true, true, true, true, false, false, false] rfl rfl (one_of HT_.out (by kernel_rfl)) (by decide) (fun K hK => ?_)
     refine goes_ Tryz.func102 (by kernel_rfl) rfl #[.slice Ao27 t186.length co27, .string (rdOf ByteArray.empty l0 1)] (by rfl) rfl rfl Zl ?_
     with_reducible refine (gambitref05_place.calls k _ _ t186 (rdOf ByteArray.empty l0 1) t190 _ ?side1 ?side2 A13.out).mono ?_
     (case side1 => repeat (first | exact (Kd.R_reads' HO188.out).2.2 | (with_reducible refine Kd.C_alloc ?_ _) | (with_reducible refine Kd.C_drewN ?_ _) | (with_reducible refine Kd.C_drew ?_)))
     (case side2 => exact (Kd.R_reads' HO188.out).2.1)
     rintro e w' ⟨rfl, ⟨nd, rfl⟩⟩
     refine ⟨_, rfl, ?_⟩
     refine hK.out _ _ (((HB.out.cell (World.block_lt_of_cell? w _ hw189_0)).trans hw189_0)) (fun hHeld => ?_)
     clear hK K
     refine norm_ (a' := ?_) ?_ ?_
     rotate_left
     ·show Act.put _ (some 23) _ = _
      simp only [Act.put, List.setIfInBounds_toArray, List.set_cons_zero, List.set_cons_succ, i64_w, i32_w]
      rfl
     refine pure_ (i := 5) (N := some 24) (v := ?_) (a' := ?_) #[true, true, true, true, true, true, false, false] rfl rfl (any_of HT_.out (by kernel_rfl)) (fun _ _ _ h => h) (Or.inl ⟨by rfl, ?_⟩) ?_ ?_
     rotate_left
     ·intro w'
      go_simp
      with_reducible rfl
     rotate_left
     ·simp only [Act.put, List.setIfInBounds_toArray, List.set_cons_zero, List.set_cons_succ, i64_w, i32_w]
      rfl
     refine pure_ (i := 6) (N := some 25) (v := ?_) (a' := ?_) #[true, true, true, true, true, true, true, false] rfl rfl (any_of HT_.out (by kernel_rfl)) (fun _ _ _ h => h) (Or.inl ⟨by rfl, ?_⟩) ?_ ?_
     rotate_left
     ·intro w'
      go_simp
      with_reducible rfl
     rotate_left
     ·simp only [Act.put, List.setIfInBounds_toArray, List.set_cons_zero, List.set_cons_succ, i64_w, i32_w]
      rfl
     refine one_ (i := 7) (N := none) #[true, true, true, true, true, true, true, true] rfl rfl (one_of HT_.out (by kernel_rfl)) (by decide) (fun K hK => ?_)
     have hs28 : w26.cell? ⟨gb180, 1, none⟩ = some (.int .u8 0) := (blk_cell BK180.out 1).trans rfl
     have hfs28 := blk_frozen BK180.out 1
     have hns28_0 := NB179_180.out
     have hms28_0 := NB180_179.out
     refine skip_ (w1 := ?_) (by rfl) rfl ?_ ?_
     rotate_left
     ·go_simp
      rfl
     refine hK.out _ _ (((cell_far (p := ⟨gb180, _, none⟩) (by first | exact Nat.ne_of_lt (Nat.lt_of_lt_of_le (by have := World.block_lt_of_cell? _ _ hw189_0; first | rwa [add_block] at this | exact this) GW180.out) | (rw [add_block]; exact Nat.ne_of_lt (Nat.lt_of_lt_of_le (by have := World.block_lt_of_cell? _ _ hw189_0; first | rwa [add_block] at this | exact this) GW180.out)) | (show (Addr.add _ _).block ≠ _; rw [add_block]; exact Nat.ne_of_lt (Nat.lt_of_lt_of_le (by have := World.block_lt_of_cell? _ _ hw189_0; first | rwa [add_block] at this | exact this) GW180.out)) | (dsimp only; exact Nat.ne_of_lt (Nat.lt_of_lt_of_le (by have := World.block_lt_of_cell? _ _ hw189_0; first | rwa [add_block] at this | exact this) GW180.out))) _).trans (hHeld))) (fun hHeld => ?_)
     clear hK K
     refine done_ (done_of HT_.out (by kernel_rfl)) ?_
     try go_wp2
     have n0_ : Aside0 (Kd.R Kd.string 9 (w26.setCell ⟨gb180, 1, none⟩ (.int .u8 ((t190) % 256))) w.heap.size (fun k_ => some k_ ≠ (.slice Ao27 t186.length co27 : Value).ownBlock) (.slice Ao22 t181.length co22) t181) := ⟨by (with_reducible repeat (first | apply Kd.R_alloc | apply Kd.R_drewN | apply Kd.R_drew)); exact Kd.R_mono (Kd.R_far (p := ⟨gb180, 1, none⟩) (Kd.R_types HO183.out BK180.out (by decide)) (fun _ hk => by exact Zh) (.int .u8 ((t190) % 256))) (fun _ hk => hk.1.2)⟩
     have n1_ : Aside0 (Kd.R Kd.string 9 (w26.setCell ⟨gb180, 1, none⟩ (.int .u8 ((t190) % 256))) w.heap.size (fun k_ => some k_ ≠ (.slice Ao22 t181.length co22 : Value).ownBlock) (.slice Ao27 t186.length co27) t186) := ⟨by (with_reducible repeat (first | apply Kd.R_alloc | apply Kd.R_drewN | apply Kd.R_drew)); exact Kd.R_mono (Kd.R_far (p := ⟨gb180, 1, none⟩) (Kd.R_types HO188.out BK180.out (by decide)) (fun _ hk => by exact Zh) (.int .u8 ((t190) % 256))) (fun _ hk => hk.1.2)⟩
     have n2_ : Aside0 ((w26.setCell ⟨gb180, 1, none⟩ (.int .u8 ((t190) % 256))).heap[gb179]? = some (.cells #[.int .u8 0, .int .u8 0, .int .u8 0, .int .i64 0, .int .u8 0, .int .u8 0, .int .u8 0, .string (⟨#[]⟩ : ByteArray)] 48 (0, 0))) := ⟨by (with_reducible repeat (first | refine blk_drewN ?_ _ | refine blk_drew ?_ | refine blk_alloc ?_ _)); refine blk_far ?_ NB179_180.out _; exact Zk BK179.out⟩
     have n3_ : Aside0 ((w26.setCell ⟨gb180, 1, none⟩ (.int .u8 ((t190) % 256))).heap[gb180]? = some (.cells #[.int .u8 ((t185) % 256), .int .u8 ((t190) % 256), .int .u8 0, .int .i64 0, .int .u8 0, .int .u8 0, .int .u8 0, .string (⟨#[]⟩ : ByteArray)] 48 (0, 0))) := ⟨by (with_reducible repeat (first | refine blk_drewN ?_ _ | refine blk_drew ?_ | refine blk_alloc ?_ _)); refine blk_put (cs := #[.int .u8 ((t185) % 256), .int .u8 0, .int .u8 0, .int .i64 0, .int .u8 0, .int .u8 0, .int .u8 0, .string (⟨#[]⟩ : ByteArray)]) ?_ 1 _ rfl; exact Zk BK180.out⟩
     have n4_ : Aside0 (Below w.heap.size w (w26.setCell ⟨gb180, 1, none⟩ (.int .u8 ((t190) % 256)))) := ⟨Zb2 GE179.out GE180.out⟩
     (try clear HO183)
     (try clear HO188)
     (try clear BK179)
     (try clear BK180)
     (try clear HB)
     (try simp only [setCell_drewN_, u8_w_])
     generalize (w26.setCell ⟨gb180, 1, none⟩ (.int .u8 ((t190) % 256))) = w29 at n0_ n1_ n2_ n3_ n4_ ⊢
     have HO183 := n0_
     have HO188 := n1_
     have BK179 := n2_
     have BK180 := n3_
     have HB := n4_
     clear n0_ n1_ n2_ n3_ n4_
     (try (rw [drewN_self w29]; generalize hq_ : World.drewN w29 _ = w29; have n0_ : Aside0 (Kd.R Kd.string 9 w29 w.heap.size (fun k_ => some k_ ≠ (.slice Ao27 t186.length co27 : Value).ownBlock) (.slice Ao22 t181.length co22) t181) := ⟨by rw [← hq_]; exact (Zq HO183.out)⟩; have n1_ : Aside0 (Kd.R Kd.string 9 w29 w.heap.size (fun k_ => some k_ ≠ (.slice Ao22 t181.length co22 : Value).ownBlock) (.slice Ao27 t186.length co27) t186) := ⟨by rw [← hq_]; exact (Zq HO188.out)⟩; have n2_ : Aside0 (w29.heap[gb179]? = some (.cells #[.int .u8 0, .int .u8 0, .int .u8 0, .int .i64 0, .int .u8 0, .int .u8 0, .int .u8 0, .string (⟨#[]⟩ : ByteArray)] 48 (0, 0))) := ⟨by rw [← hq_]; exact (Zk BK179.out)⟩; have n3_ : Aside0 (w29.heap[gb180]? = some (.cells #[.int .u8 ((t185) % 256), .int .u8 ((t190) % 256), .int .u8 0, .int .i64 0, .int .u8 0, .int .u8 0, .int .u8 0, .string (⟨#[]⟩ : ByteArray)] 48 (0, 0))) := ⟨by rw [← hq_]; exact (Zk BK180.out)⟩; have n4_ : Aside0 (Below w.heap.size w w29) := ⟨by rw [← hq_]; exact (Zb2 GE179.out GE180.out)⟩; clear HO183 HO188 BK179 BK180 HB hq_; have HO183 := n0_; have HO188 := n1_; have BK179 := n2_; have BK180 := n3_; have HB := n4_; clear n0_ n1_ n2_ n3_ n4_))
     have n0_ := Aside0.mk (Kd.R_drew HO183.out)
     have n1_ := Aside0.mk (Kd.R_drew HO188.out)
     have n2_ := Aside0.mk (blk_drew BK179.out)
     have n3_ := Aside0.mk (blk_drew BK180.out)
     have n4_ := Aside0.mk (below_drew1 HB.out)
     clear HO183 HO188 BK179 BK180 HB
     have HO183 := n0_
     have HO188 := n1_
     have BK179 := n2_
     have BK180 := n3_
     have HB := n4_
     clear n0_ n1_ n2_ n3_ n4_
     have p194 : 0 ≤ (2 : Int) := (by omega)
     have q194 : 2 < (l0.length : Int) := of_decide_eq_true Za
     obtain ⟨ad194, e194, hx194_0⟩ := Kd.at_string HR0.out 2 p194 q194
     have hw194_0 := hx194_0
     (try rw [show ((2 : Int)).toNat = 2 from rfl] at hw194_0)
     (try rw [show 2 * 1 = 2 from rfl] at hw194_0)
     (try simp only [Nat.reduceMul, Nat.reduceEqDiff, Go.Addr.add, ↓reduceIte] at hw194_0)
     obtain rfl : ad184 = ad194 := (by injection e194)
     (try simp only [show (2 : Int).toNat = 2 from rfl, Nat.reduceMul, Nat.reduceEqDiff, Go.Addr.add, ↓reduceIte] at hx194_0)
     have qi194 : (2 < l0.length) = True := eq_true (by omega)
     (try rw [show ((2 : Int)).toNat = 2 from rfl] at hx194_0)
     replace hx194_0 := (HB.out.cell (World.block_lt_of_cell? w _ hx194_0)).trans hx194_0
     replace p194 := eq_true p194
     replace q194 := eq_true q194
     refine start_ (n := 8) (S := fun w' => w'.cell? ⟨ad184.block, ad184.off + 2, none⟩ = some (.string (rdOf ByteArray.empty l0 2))) (ds := []) #[false, false, false, false, false, false, false, false] (by kernel_rfl) rfl rfl (((HB.out.cell (World.block_lt_of_cell? w _ hw194_0)).trans hw194_0)) (fun hHeld => ?_); refine with_tabW gambitref05_read.tab6 gambitref05_read.bits6 (fun HT_ HW_ => ?_)
     generalize w29.drew = w30 at HO183 HO188 BK179 BK180 HB hx194_0 hHeld ⊢
     refine pure_ (i := 1) (N := some 27) (v := ?_) (a' := ?_) #[false, true, false, false, false, false, false, false] rfl rfl (any_of HT_.out (by kernel_rfl)) (fun _ _ _ h => h) (Or.inl ⟨by rfl, ?_⟩) ?_ ?_
     rotate_left
     ·intro w'
      go_simp
      with_reducible rfl
     rotate_left
     ·simp only [Act.put, List.setIfInBounds_toArray, List.set_cons_zero, List.set_cons_succ, i64_w, i32_w]
      rfl
     refine pure_ (i := 2) (N := some 28) (v := ?_) (a' := ?_) #[false, true, true, false, false, false, false, false] rfl rfl (any_of HT_.out (by kernel_rfl)) (fun _ _ _ h => h) (Or.inl ⟨by rfl, ?_⟩) ?_ ?_
     rotate_left
     ·intro w'
      go_simp
      with_reducible rfl
     rotate_left
     ·simp only [Act.put, List.setIfInBounds_toArray, List.set_cons_zero, List.set_cons_succ, i64_w, i32_w]
      rfl
     refine take_ (i := 3) (N := some 29) (v := ?_) (a' := ?_) #[false, true, true, true, false, false, false, false] rfl rfl (take_ofW HT_.out HW_.out (by kernel_rfl)) (fun _ _ _ h => h) (Or.inl ⟨by rfl, ?_⟩) hHeld ?_ ?_
     rotate_left
     ·intro w' s0
      go_simp
      with_reducible rfl
     rotate_left
     ·simp only [Act.put, List.setIfInBounds_toArray, List.set_cons_zero, List.set_cons_succ, i64_w, i32_w]
      rfl
     refine one_ (i := 0) (N := some 26) #[true, true, true, true, false, false, false, false] rfl rfl (one_of HT_.out (by kernel_rfl)) (by decide) (fun K hK => ?_)
     refine goes_ Tryz.func88 (by kernel_rfl) rfl #[] (by rfl) rfl rfl Zl ?_
     with_reducible refine (gambitref05_whoms.calls  t191 _ A14.out).mono ?_
     rintro e w31 ⟨v192, rfl, ho0, hb⟩
     refine ⟨_, rfl, ?_⟩
     have n0_ := Aside0.mk (Kd.R_elder' (Zq HO183.out) (Kd.R_base ho0) hb)
     have n1_ := Aside0.mk (Kd.R_elder' (Zq HO188.out) (Kd.R_base ho0) hb)
     have n2_ := Aside0.mk (Kd.R_lower (Kd.R_new' (Kd.R_new' ho0 (Kd.R_lt (Zq HO183.out))) (Kd.R_lt (Zq HO188.out))) (below_size (Zb2 GE179.out GE180.out)))
     have n3_ := Aside0.mk (blk_below (g := gb179) (o := .cells #[.int .u8 0, .int .u8 0, .int .u8 0, .int .i64 0, .int .u8 0, .int .u8 0, .int .u8 0, .string (⟨#[]⟩ : ByteArray)] 48 (0, 0)) (Zk BK179.out) hb)
     have n4_ := Aside0.mk (blk_below (g := gb180) (o := .cells #[.int .u8 ((t185) % 256), .int .u8 ((t190) % 256), .int .u8 0, .int .i64 0, .int .u8 0, .int .u8 0, .int .u8 0, .string (⟨#[]⟩ : ByteArray)] 48 (0, 0)) (Zk BK180.out) hb)
     have n5_ := Aside0.mk (below_step (Zb2 GE179.out GE180.out) hb)
     clear HO183 HO188 BK179 BK180 HB
     have HO183 := n0_
     have HO188 := n1_
     have HO193 := n2_
     have BK179 := n3_
     have BK180 := n4_
     have HB := n5_
     clear n0_ n1_ n2_ n3_ n4_ n5_
     (try clear hb)
     (try clear hb2)
     (try clear hk)
     (try clear hi)
     (try clear ho0)
     obtain ⟨Ao32, co32, eo32⟩ := Kd.R_slice HO193.out
     (first | subst eo32 | (injection eo32 with f1_ f2_ f3_; have f4_ := f1_.symm; have f5_ := f3_.symm; clear f1_ f2_ f3_; subst f4_; subst f5_))
     refine hK.out _ _ (((HB.out.cell (World.block_lt_of_cell? w _ hw194_0)).trans hw194_0)) (fun hHeld => ?_)
     clear hK K
     refine norm_ (a' := ?_) ?_ ?_
     rotate_left
     ·show Act.put _ (some 26) _ = _
      simp only [Act.put, List.setIfInBounds_toArray, List.set_cons_zero, List.set_cons_succ, i64_w, i32_w]
      rfl
     refine one_ (i := 4) (N := some 30) #[true, true, true, true, true, false, false, false] rfl rfl (one_of HT_.out (by kernel_rfl)) (by decide) (fun K hK => ?_)
     refine goes_ Tryz.func102 (by kernel_rfl) rfl #[.slice Ao32 t191.length co32, .string (rdOf ByteArray.empty l0 2)] (by rfl) rfl rfl Zl ?_
     with_reducible refine (gambitref05_place.calls k _ _ t191 (rdOf ByteArray.empty l0 2) t195 _ ?side1 ?side2 A16.out).mono ?_
     (case side1 => repeat (first | exact (Kd.R_reads' HO193.out).2.2 | (with_reducible refine Kd.C_alloc ?_ _) | (with_reducible refine Kd.C_drewN ?_ _) | (with_reducible refine Kd.C_drew ?_)))
     (case side2 => exact (Kd.R_reads' HO193.out).2.1)
     rintro e w' ⟨rfl, ⟨nd, rfl⟩⟩
     refine ⟨_, rfl, ?_⟩
     refine hK.out _ _ (((HB.out.cell (World.block_lt_of_cell? w _ hw194_0)).trans hw194_0)) (fun hHeld => ?_)
     clear hK K
     refine norm_ (a' := ?_) ?_ ?_
     rotate_left
     ·show Act.put _ (some 30) _ = _
      simp only [Act.put, List.setIfInBounds_toArray, List.set_cons_zero, List.set_cons_succ, i64_w, i32_w]
      rfl
     refine pure_ (i := 5) (N := some 31) (v := ?_) (a' := ?_) #[true, true, true, true, true, true, false, false] rfl rfl (any_of HT_.out (by kernel_rfl)) (fun _ _ _ h => h) (Or.inl ⟨by rfl, ?_⟩) ?_ ?_
     rotate_left
     ·intro w'
      go_simp
      with_reducible rfl
     rotate_left
     ·simp only [Act.put, List.setIfInBounds_toArray, List.set_cons_zero, List.set_cons_succ, i64_w, i32_w]
      rfl
     refine pure_ (i := 6) (N := some 32) (v := ?_) (a' := ?_) #[true, true, true, true, true, true, true, false] rfl rfl (any_of HT_.out (by kernel_rfl)) (fun _ _ _ h => h) (Or.inl ⟨by rfl, ?_⟩) ?_ ?_
     rotate_left
     ·intro w'
      go_simp
      with_reducible rfl
     rotate_left
     ·simp only [Act.put, List.setIfInBounds_toArray, List.set_cons_zero, List.set_cons_succ, i64_w, i32_w]
      rfl
     refine one_ (i := 7) (N := none) #[true, true, true, true, true, true, true, true] rfl rfl (one_of HT_.out (by kernel_rfl)) (by decide) (fun K hK => ?_)
     have hs33 : w31.cell? ⟨gb180, 2, none⟩ = some (.int .u8 0) := (blk_cell BK180.out 2).trans rfl
     have hfs33 := blk_frozen BK180.out 2
     have hns33_0 := NB179_180.out
     have hms33_0 := NB180_179.out
     refine skip_ (w1 := ?_) (by rfl) rfl ?_ ?_
     rotate_left
     ·go_simp
      rfl
     refine hK.out _ _ (((cell_far (p := ⟨gb180, _, none⟩) (by first | exact Nat.ne_of_lt (Nat.lt_of_lt_of_le (by have := World.block_lt_of_cell? _ _ hw194_0; first | rwa [add_block] at this | exact this) GW180.out) | (rw [add_block]; exact Nat.ne_of_lt (Nat.lt_of_lt_of_le (by have := World.block_lt_of_cell? _ _ hw194_0; first | rwa [add_block] at this | exact this) GW180.out)) | (show (Addr.add _ _).block ≠ _; rw [add_block]; exact Nat.ne_of_lt (Nat.lt_of_lt_of_le (by have := World.block_lt_of_cell? _ _ hw194_0; first | rwa [add_block] at this | exact this) GW180.out)) | (dsimp only; exact Nat.ne_of_lt (Nat.lt_of_lt_of_le (by have := World.block_lt_of_cell? _ _ hw194_0; first | rwa [add_block] at this | exact this) GW180.out))) _).trans (hHeld))) (fun hHeld => ?_)
     clear hK K
     refine done_ (done_of HT_.out (by kernel_rfl)) ?_
     try go_wp2_with (first | ((with_reducible refine gate_dst (N := 4) rfl ?_); (try (refine gate_guard (by rfl) ?_; dsimp only)); refine box_event ?hg (N := 4) ?hd (cs := #[.bool false, .bool false, .bool false, .bool false, .bool false]) (t := 128) ?hr ?_; (case hd => rfl); (case hg => rfl); (case hr => first | (go_simp; done) | (go_simp; rfl)); intro gb196 hg w34 hbox hb; replace HO183 := Aside0.mk (Kd.R_below (by (with_reducible repeat (first | apply Kd.R_alloc | apply Kd.R_drewN | apply Kd.R_drew)); exact (Kd.R_mono (Kd.R_far (p := ⟨gb180, 2, none⟩) (Kd.R_types HO183.out BK180.out (by decide)) (fun _ hk => by exact Zh) (.int .u8 ((t195) % 256))) (fun _ h_ => h_.1))) hb); replace HO188 := Aside0.mk (Kd.R_below (by (with_reducible repeat (first | apply Kd.R_alloc | apply Kd.R_drewN | apply Kd.R_drew)); exact (Kd.R_mono (Kd.R_far (p := ⟨gb180, 2, none⟩) (Kd.R_types HO188.out BK180.out (by decide)) (fun _ hk => by exact Zh) (.int .u8 ((t195) % 256))) (fun _ h_ => h_.1))) hb); replace HO193 := Aside0.mk (Kd.R_below (by (with_reducible repeat (first | apply Kd.R_alloc | apply Kd.R_drewN | apply Kd.R_drew)); exact (Kd.R_mono (Kd.R_far (p := ⟨gb180, 2, none⟩) (Kd.R_types HO193.out BK180.out (by decide)) (fun _ hk => by exact Zh) (.int .u8 ((t195) % 256))) (fun _ h_ => h_.1))) hb); have BK196 := Aside0.mk (hbox); have GW196 := Aside0.mk ((by rw [hg]; exact (below_size (Zb2 GE179.out GE180.out)) : w.heap.size ≤ gb196)); have GE196 := Aside0.mk ((by rw [hg]; exact (below_size (Zb2 GE179.out GE180.out)) : w.heap.size ≤ gb196)); replace HB := Aside0.mk (below_step (Zb2 GE179.out GE180.out) hb); have NB179_196 := Aside0.mk ((by rw [hg]; exact Nat.ne_of_lt (blk_lt (g := gb179) (o := .cells #[.int .u8 0, .int .u8 0, .int .u8 0, .int .i64 0, .int .u8 0, .int .u8 0, .int .u8 0, .string (⟨#[]⟩ : ByteArray)] 48 (0, 0)) (by (with_reducible repeat (first | refine blk_drewN ?_ _ | refine blk_drew ?_ | refine blk_alloc ?_ _)); refine blk_far ?_ NB179_180.out _; exact Zk BK179.out)) : gb179 ≠ gb196)); have NB196_179 := Aside0.mk ((by rw [hg]; exact Nat.ne_of_gt (blk_lt (g := gb179) (o := .cells #[.int .u8 0, .int .u8 0, .int .u8 0, .int .i64 0, .int .u8 0, .int .u8 0, .int .u8 0, .string (⟨#[]⟩ : ByteArray)] 48 (0, 0)) (by (with_reducible repeat (first | refine blk_drewN ?_ _ | refine blk_drew ?_ | refine blk_alloc ?_ _)); refine blk_far ?_ NB179_180.out _; exact Zk BK179.out)) : gb196 ≠ gb179)); replace BK179 := Aside0.mk (blk_below (g := gb179) (o := .cells #[.int .u8 0, .int .u8 0, .int .u8 0, .int .i64 0, .int .u8 0, .int .u8 0, .int .u8 0, .string (⟨#[]⟩ : ByteArray)] 48 (0, 0)) (by (with_reducible repeat (first | refine blk_drewN ?_ _ | refine blk_drew ?_ | refine blk_alloc ?_ _)); refine blk_far ?_ NB179_180.out _; exact Zk BK179.out) hb); have NB180_196 := Aside0.mk ((by rw [hg]; exact Nat.ne_of_lt (blk_lt (g := gb180) (o := .cells #[.int .u8 ((t185) % 256), .int .u8 ((t190) % 256), .int .u8 ((t195) % 256), .int .i64 0, .int .u8 0, .int .u8 0, .int .u8 0, .string (⟨#[]⟩ : ByteArray)] 48 (0, 0)) (by (with_reducible repeat (first | refine blk_drewN ?_ _ | refine blk_drew ?_ | refine blk_alloc ?_ _)); refine blk_put (cs := #[.int .u8 ((t185) % 256), .int .u8 ((t190) % 256), .int .u8 0, .int .i64 0, .int .u8 0, .int .u8 0, .int .u8 0, .string (⟨#[]⟩ : ByteArray)]) ?_ 2 _ rfl; exact Zk BK180.out)) : gb180 ≠ gb196)); have NB196_180 := Aside0.mk ((by rw [hg]; exact Nat.ne_of_gt (blk_lt (g := gb180) (o := .cells #[.int .u8 ((t185) % 256), .int .u8 ((t190) % 256), .int .u8 ((t195) % 256), .int .i64 0, .int .u8 0, .int .u8 0, .int .u8 0, .string (⟨#[]⟩ : ByteArray)] 48 (0, 0)) (by (with_reducible repeat (first | refine blk_drewN ?_ _ | refine blk_drew ?_ | refine blk_alloc ?_ _)); refine blk_put (cs := #[.int .u8 ((t185) % 256), .int .u8 ((t190) % 256), .int .u8 0, .int .i64 0, .int .u8 0, .int .u8 0, .int .u8 0, .string (⟨#[]⟩ : ByteArray)]) ?_ 2 _ rfl; exact Zk BK180.out)) : gb196 ≠ gb180)); replace BK180 := Aside0.mk (blk_below (g := gb180) (o := .cells #[.int .u8 ((t185) % 256), .int .u8 ((t190) % 256), .int .u8 ((t195) % 256), .int .i64 0, .int .u8 0, .int .u8 0, .int .u8 0, .string (⟨#[]⟩ : ByteArray)] 48 (0, 0)) (by (with_reducible repeat (first | refine blk_drewN ?_ _ | refine blk_drew ?_ | refine blk_alloc ?_ _)); refine blk_put (cs := #[.int .u8 ((t185) % 256), .int .u8 ((t190) % 256), .int .u8 0, .int .i64 0, .int .u8 0, .int .u8 0, .int .u8 0, .string (⟨#[]⟩ : ByteArray)]) ?_ 2 _ rfl; exact Zk BK180.out) hb); clear hb hbox hg; have hnb35 := NB196_179.out; have hnc35 := NB179_196.out; have hnb36 := NB196_180.out; have hnc36 := NB180_196.out; have hcz37_0 := Zc BK196.out 0 (.bool false) rfl; have hcz37_1 := Zc BK196.out 1 (.bool false) rfl; have hcz37_2 := Zc BK196.out 2 (.bool false) rfl; have hcz37_3 := Zc BK196.out 3 (.bool false) rfl; have hcz37_4 := Zc BK196.out 4 (.bool false) rfl; have hfz37_0 := blk_frozen BK196.out 0; have hfz37_1 := blk_frozen BK196.out 1; have hfz37_2 := blk_frozen BK196.out 2; have hfz37_3 := blk_frozen BK196.out 3; have hfz37_4 := blk_frozen BK196.out 4; have hnb38 := NB180_179.out; have hnc38 := NB179_180.out; have hcz39_0 := Zc BK180.out 0 (.int .u8 ((t185) % 256)) rfl; have hcz39_1 := Zc BK180.out 1 (.int .u8 ((t190) % 256)) rfl; have hcz39_2 := Zc BK180.out 2 (.int .u8 ((t195) % 256)) rfl; have hcz39_3 := Zc BK180.out 3 (.int .i64 0) rfl; have hcz39_4 := Zc BK180.out 4 (.int .u8 0) rfl; have hcz39_5 := Zc BK180.out 5 (.int .u8 0) rfl; have hcz39_6 := Zc BK180.out 6 (.int .u8 0) rfl; have hcz39_7 := Zc BK180.out 7 (.string (⟨#[]⟩ : ByteArray)) rfl; have hfz39_0 := blk_frozen BK180.out 0; have hfz39_1 := blk_frozen BK180.out 1; have hfz39_2 := blk_frozen BK180.out 2; have hfz39_3 := blk_frozen BK180.out 3; have hfz39_4 := blk_frozen BK180.out 4; have hfz39_5 := blk_frozen BK180.out 5; have hfz39_6 := blk_frozen BK180.out 6; have hfz39_7 := blk_frozen BK180.out 7) | ((with_reducible refine gate_callee (f := 89) rfl ?_); refine goesL_ (some 39) rfl rfl Tryz.func89 (by kernel_rfl) rfl #[.int .u8 ((t190) % 256), .int .u8 ((t195) % 256)] rfl Zl ?_; (with_reducible refine (gambitref05_Uses.calls k ((t190) % 256) ((t195) % 256) t197 t198 t199 t200 t201 _ A17.out).mono ?_); rintro e w' ⟨rfl, ⟨nd, rfl⟩⟩; refine ⟨_, rfl, ?_⟩))
     go_loopg [5, 6] k (fun kq v5 v6 w' => ∃ (x5_1 : Int) (x6_1 : Int) (x181003_1 : Int) (x181004_1 : Int) (x181005_1 : Int) (x181006_1 : Int) (x181007_1 : ByteArray), v5 = .int .i64 x5_1 ∧ v6 = .int .i64 x6_1 ∧ Aside0 (gambitref05_read.l0 kq l0 x5_1 x6_1 ((t185) % 256) ((t190) % 256) ((t195) % 256) x181003_1 x181004_1 x181005_1 x181006_1 x181007_1 t197 t198 t199 t200 t201 = some (r1, r2, r3, r4, r5, r6, r7, r8)) ∧ Aside0 (kq ≤ k) ∧ Aside0 (w'.heap[gb179]? = some (.cells #[.int .u8 0, .int .u8 0, .int .u8 0, .int .i64 0, .int .u8 0, .int .u8 0, .int .u8 0, .string (⟨#[]⟩ : ByteArray)] 48 (0, 0))) ∧ Aside0 (w'.heap[gb180]? = some (.cells #[.int .u8 ((t185) % 256), .int .u8 ((t190) % 256), .int .u8 ((t195) % 256), .int .i64 x181003_1, .int .u8 x181004_1, .int .u8 x181005_1, .int .u8 x181006_1, .string x181007_1] 48 (0, 0))) ∧ Aside0 (w'.heap[gb196]? = some (.cells #[.bool t197, .bool t198, .bool t199, .bool t200, .bool t201] 128 (0, 0))) ∧ Aside0 (Below w.heap.size w w'))
     case atStart => exact ⟨(3), (0), (0), (0), (0), (0), ((⟨#[]⟩ : ByteArray)), Zs, Zs, H', ⟨Nat.le_refl _⟩, ⟨by (with_reducible repeat (first | refine blk_drewN ?_ _ | refine blk_drew ?_ | refine blk_alloc ?_ _)); refine blk_far ?_ NB179_196.out _; (with_reducible repeat (first | refine blk_drewN ?_ _ | refine blk_drew ?_ | refine blk_alloc ?_ _)); refine blk_far ?_ NB179_196.out _; (with_reducible repeat (first | refine blk_drewN ?_ _ | refine blk_drew ?_ | refine blk_alloc ?_ _)); refine blk_far ?_ NB179_196.out _; (with_reducible repeat (first | refine blk_drewN ?_ _ | refine blk_drew ?_ | refine blk_alloc ?_ _)); refine blk_far ?_ NB179_196.out _; (with_reducible repeat (first | refine blk_drewN ?_ _ | refine blk_drew ?_ | refine blk_alloc ?_ _)); refine blk_far ?_ NB179_196.out _; (with_reducible repeat (first | refine blk_drewN ?_ _ | refine blk_drew ?_ | refine blk_alloc ?_ _)); refine blk_far ?_ NB179_196.out _; (with_reducible repeat (first | refine blk_drewN ?_ _ | refine blk_drew ?_ | refine blk_alloc ?_ _)); refine blk_far ?_ NB179_196.out _; (with_reducible repeat (first | refine blk_drewN ?_ _ | refine blk_drew ?_ | refine blk_alloc ?_ _)); refine blk_far ?_ NB179_196.out _; (with_reducible repeat (first | refine blk_drewN ?_ _ | refine blk_drew ?_ | refine blk_alloc ?_ _)); refine blk_far ?_ NB179_196.out _; (with_reducible repeat (first | refine blk_drewN ?_ _ | refine blk_drew ?_ | refine blk_alloc ?_ _)); refine blk_far ?_ NB179_196.out _; exact Zk BK179.out⟩, ⟨by (with_reducible repeat (first | refine blk_drewN ?_ _ | refine blk_drew ?_ | refine blk_alloc ?_ _)); refine blk_far ?_ NB180_196.out _; (with_reducible repeat (first | refine blk_drewN ?_ _ | refine blk_drew ?_ | refine blk_alloc ?_ _)); refine blk_far ?_ NB180_196.out _; (with_reducible repeat (first | refine blk_drewN ?_ _ | refine blk_drew ?_ | refine blk_alloc ?_ _)); refine blk_far ?_ NB180_196.out _; (with_reducible repeat (first | refine blk_drewN ?_ _ | refine blk_drew ?_ | refine blk_alloc ?_ _)); refine blk_far ?_ NB180_196.out _; (with_reducible repeat (first | refine blk_drewN ?_ _ | refine blk_drew ?_ | refine blk_alloc ?_ _)); refine blk_far ?_ NB180_196.out _; (with_reducible repeat (first | refine blk_drewN ?_ _ | refine blk_drew ?_ | refine blk_alloc ?_ _)); refine blk_far ?_ NB180_196.out _; (with_reducible repeat (first | refine blk_drewN ?_ _ | refine blk_drew ?_ | refine blk_alloc ?_ _)); refine blk_far ?_ NB180_196.out _; (with_reducible repeat (first | refine blk_drewN ?_ _ | refine blk_drew ?_ | refine blk_alloc ?_ _)); refine blk_far ?_ NB180_196.out _; (with_reducible repeat (first | refine blk_drewN ?_ _ | refine blk_drew ?_ | refine blk_alloc ?_ _)); refine blk_far ?_ NB180_196.out _; (with_reducible repeat (first | refine blk_drewN ?_ _ | refine blk_drew ?_ | refine blk_alloc ?_ _)); refine blk_far ?_ NB180_196.out _; exact Zk BK180.out⟩, ⟨by (with_reducible repeat (first | refine blk_drewN ?_ _ | refine blk_drew ?_ | refine blk_alloc ?_ _)); refine blk_put (cs := #[.bool t197, .bool t198, .bool t199, .bool t200, .bool false]) ?_ 4 _ rfl; (with_reducible repeat (first | refine blk_drewN ?_ _ | refine blk_drew ?_ | refine blk_alloc ?_ _)); refine blk_put (cs := #[.bool t197, .bool t198, .bool t199, .bool false, .bool false]) ?_ 3 _ rfl; (with_reducible repeat (first | refine blk_drewN ?_ _ | refine blk_drew ?_ | refine blk_alloc ?_ _)); refine blk_put (cs := #[.bool t197, .bool t198, .bool false, .bool false, .bool false]) ?_ 2 _ rfl; (with_reducible repeat (first | refine blk_drewN ?_ _ | refine blk_drew ?_ | refine blk_alloc ?_ _)); refine blk_put (cs := #[.bool t197, .bool false, .bool false, .bool false, .bool false]) ?_ 1 _ rfl; (with_reducible repeat (first | refine blk_drewN ?_ _ | refine blk_drew ?_ | refine blk_alloc ?_ _)); refine blk_put (cs := #[.bool false, .bool false, .bool false, .bool false, .bool false]) ?_ 0 _ rfl; (with_reducible repeat (first | refine blk_drewN ?_ _ | refine blk_drew ?_ | refine blk_alloc ?_ _)); refine blk_put (cs := #[.bool false, .bool false, .bool false, .bool false, .bool false]) ?_ 4 _ rfl; (with_reducible repeat (first | refine blk_drewN ?_ _ | refine blk_drew ?_ | refine blk_alloc ?_ _)); refine blk_put (cs := #[.bool false, .bool false, .bool false, .bool false, .bool false]) ?_ 3 _ rfl; (with_reducible repeat (first | refine blk_drewN ?_ _ | refine blk_drew ?_ | refine blk_alloc ?_ _)); refine blk_put (cs := #[.bool false, .bool false, .bool false, .bool false, .bool false]) ?_ 2 _ rfl; (with_reducible repeat (first | refine blk_drewN ?_ _ | refine blk_drew ?_ | refine blk_alloc ?_ _)); refine blk_put (cs := #[.bool false, .bool false, .bool false, .bool false, .bool false]) ?_ 1 _ rfl; (with_reducible repeat (first | refine blk_drewN ?_ _ | refine blk_drew ?_ | refine blk_alloc ?_ _)); refine blk_put (cs := #[.bool false, .bool false, .bool false, .bool false, .bool false]) ?_ 0 _ rfl; exact Zk BK196.out⟩, ⟨Zb3 GE179.out GE180.out GE196.out⟩⟩
     case round =>
      clear H'
      try clear c1
      try clear p1
      try clear q1
      try clear hx1
      try clear qi1
      try clear c2
      try clear c2b0
      try clear c2b1
      try clear p2
      try clear c3
      try clear c5
      try clear c8
      try clear c9
      try clear c9b0
      try clear c9b1
      try clear c10
      try clear c12
      try clear c12b0
      try clear c12b1
      try clear c15
      try clear c15b0
      try clear c15b1
      try clear p18
      try clear q18
      try clear hx18
      try clear qi18
      try clear p19
      try clear q19
      try clear hx19
      try clear qi19
      try clear c35
      try clear c36
      try clear c38
      try clear hcz37_0
      try clear hcz37_1
      try clear hcz37_2
      try clear hcz37_3
      try clear hcz37_4
      try clear hcz39_0
      try clear hcz39_1
      try clear hcz39_2
      try clear hcz39_3
      try clear hcz39_4
      try clear hcz39_5
      try clear hcz39_6
      try clear hcz39_7
      try clear hcz6_0
      try clear hcz6_1
      try clear hcz6_2
      try clear hcz6_3
      try clear hcz6_4
      try clear hcz6_5
      try clear hcz6_6
      try clear hcz6_7
      try clear hcz7_0
      try clear hcz7_1
      try clear hcz7_2
      try clear hcz7_3
      try clear hcz7_4
      try clear hcz7_5
      try clear hcz7_6
      try clear hcz7_7
      try clear hfz37_0
      try clear hfz37_1
      try clear hfz37_2
      try clear hfz37_3
      try clear hfz37_4
      try clear hfz39_0
      try clear hfz39_1
      try clear hfz39_2
      try clear hfz39_3
      try clear hfz39_4
      try clear hfz39_5
      try clear hfz39_6
      try clear hfz39_7
      try clear hfz6_0
      try clear hfz6_1
      try clear hfz6_2
      try clear hfz6_3
      try clear hfz6_4
      try clear hfz6_5
      try clear hfz6_6
      try clear hfz6_7
      try clear hfz7_0
      try clear hfz7_1
      try clear hfz7_2
      try clear hfz7_3
      try clear hfz7_4
      try clear hfz7_5
      try clear hfz7_6
      try clear hfz7_7
      try clear hx184_0
      try clear hx189_0
      try clear hx194_0
      try clear p184
      try clear p189
      try clear p194
      try clear q184
      try clear q189
      try clear q194
      obtain ⟨x5_1, x6_1, x181003_1, x181004_1, x181005_1, x181006_1, x181007_1, rfl, rfl, HA, HK1, BK179, BK180, BK196, HB⟩ := hrel
      cases gk with
      | zero => exact absurd HA.out (by simp [gambitref05_read.l0])
      | succ k1 =>
       have H := HA.out
       clear HA
       simp only [gambitref05_read.l0] at H
       have HC40 := Aside0.mk H
       clear H
       go_upto_region 11 with (fail)
       go_cut [57] (fun v57 wc => ∃ (kq : Nat) (x57_39 : Bool), v57 = .bool x57_39 ∧ Aside0 (gambitref05_read.j1 kq l0 x5_1 x6_1 x57_39 ((t185) % 256) ((t190) % 256) ((t195) % 256) x181003_1 x181004_1 x181005_1 x181006_1 x181007_1 t197 t198 t199 t200 t201 = some (r1, r2, r3, r4, r5, r6, r7, r8)) ∧ Aside0 (kq ≤ k1) ∧ Aside0 (wc.heap[gb179]? = some (.cells #[.int .u8 0, .int .u8 0, .int .u8 0, .int .i64 0, .int .u8 0, .int .u8 0, .int .u8 0, .string (⟨#[]⟩ : ByteArray)] 48 (0, 0))) ∧ Aside0 (wc.heap[gb180]? = some (.cells #[.int .u8 ((t185) % 256), .int .u8 ((t190) % 256), .int .u8 ((t195) % 256), .int .i64 x181003_1, .int .u8 x181004_1, .int .u8 x181005_1, .int .u8 x181006_1, .string x181007_1] 48 (0, 0))) ∧ Aside0 (wc.heap[gb196]? = some (.cells #[.bool t197, .bool t198, .bool t199, .bool t200, .bool t201] 128 (0, 0))) ∧ Aside0 (Below w.heap.size w wc))
       case first =>
        have H := HC40.out
        clear HC40
        by_cases c41 : x6_1 < 5
        ·rw [if_pos c41] at H
         have c41b0 : decide (x6_1 < 5) = true := decide_eq_true c41
         clear c41
         (first | rw [c41b0] | (simp only [i64_w, i32_w]; rw [c41b0]) | skip)
         have H' := Aside0.mk H
         clear H
         go_wp2
         go_meet
         case rel => exact ⟨_, (decide (x5_1 < (l0.length : Int))), Zs, H', ⟨by have := HK1.out; first | omega | exact Nat.le_refl _⟩, ⟨Zk BK179.out⟩, ⟨Zk BK180.out⟩, ⟨Zk BK196.out⟩, ⟨Zb3 GE179.out GE180.out GE196.out⟩⟩
        ·rw [if_neg c41] at H
         have c41b0 : decide (x6_1 < 5) = false := decide_eq_false c41
         clear c41
         (first | rw [c41b0] | (simp only [i64_w, i32_w]; rw [c41b0]) | skip)
         have H' := Aside0.mk H
         clear H
         go_wp2
         go_meet
         case rel => exact ⟨_, (false), Zs, H', ⟨by have := HK1.out; first | omega | exact Nat.le_refl _⟩, ⟨Zk BK179.out⟩, ⟨Zk BK180.out⟩, ⟨Zk BK196.out⟩, ⟨Zb3 GE179.out GE180.out GE196.out⟩⟩
       case rest =>
        clear HC40
        try clear c1
        try clear p1
        try clear q1
        try clear hx1
        try clear qi1
        try clear c2
        try clear c2b0
        try clear c2b1
        try clear p2
        try clear c3
        try clear c4
        try clear c5
        try clear c8
        try clear c9
        try clear c9b0
        try clear c9b1
        try clear c10
        try clear c12
        try clear c12b0
        try clear c12b1
        try clear c15
        try clear c15b0
        try clear c15b1
        try clear p18
        try clear q18
        try clear hx18
        try clear qi18
        try clear p19
        try clear q19
        try clear hx19
        try clear qi19
        try clear c35
        try clear c36
        try clear c38
        try clear c41
        try clear c41b0
        try clear hcz37_0
        try clear hcz37_1
        try clear hcz37_2
        try clear hcz37_3
        try clear hcz37_4
        try clear hcz39_0
        try clear hcz39_1
        try clear hcz39_2
        try clear hcz39_3
        try clear hcz39_4
        try clear hcz39_5
        try clear hcz39_6
        try clear hcz39_7
        try clear hcz6_0
        try clear hcz6_1
        try clear hcz6_2
        try clear hcz6_3
        try clear hcz6_4
        try clear hcz6_5
        try clear hcz6_6
        try clear hcz6_7
        try clear hcz7_0
        try clear hcz7_1
        try clear hcz7_2
        try clear hcz7_3
        try clear hcz7_4
        try clear hcz7_5
        try clear hcz7_6
        try clear hcz7_7
        try clear hfz37_0
        try clear hfz37_1
        try clear hfz37_2
        try clear hfz37_3
        try clear hfz37_4
        try clear hfz39_0
        try clear hfz39_1
        try clear hfz39_2
        try clear hfz39_3
        try clear hfz39_4
        try clear hfz39_5
        try clear hfz39_6
        try clear hfz39_7
        try clear hfz6_0
        try clear hfz6_1
        try clear hfz6_2
        try clear hfz6_3
        try clear hfz6_4
        try clear hfz6_5
        try clear hfz6_6
        try clear hfz6_7
        try clear hfz7_0
        try clear hfz7_1
        try clear hfz7_2
        try clear hfz7_3
        try clear hfz7_4
        try clear hfz7_5
        try clear hfz7_6
        try clear hfz7_7
        try clear hx184_0
        try clear hx189_0
        try clear hx194_0
        try clear p1
        try clear p18
        try clear p184
        try clear p189
        try clear p19
        try clear p194
        try clear p2
        try clear q1
        try clear q18
        try clear q184
        try clear q189
        try clear q19
        try clear q194
        obtain ⟨kq, x57_39, rfl, HA, HJ39, BK179, BK180, BK196, HB⟩ := hcut
        cases kq with
        | zero => exact absurd HA.out (by simp [gambitref05_read.j1])
        | succ kj39 =>
         have H := HA.out
         clear HA
         simp only [gambitref05_read.j1] at H
         by_cases c42 : x57_39 = true
         ·subst c42
          have H1 : (if x6_1 = 0 then (if t197 = true then (if 0 ≤ x5_1 then (if x5_1 < (l0.length : Int) then ((gambitref05_number.f kj39 (rdOf ByteArray.empty l0 x5_1)).bind fun t203 => (gambitref05_read.l0 kj39 l0 (wrap64 (x5_1 + 1)) (wrap64 (x6_1 + 1)) ((t185) % 256) ((t190) % 256) ((t195) % 256) t203 x181004_1 x181005_1 x181006_1 x181007_1 t197 t198 t199 t200 t201)) else (none)) else (none)) else (gambitref05_read.l0 kj39 l0 x5_1 (wrap64 (x6_1 + 1)) ((t185) % 256) ((t190) % 256) ((t195) % 256) x181003_1 x181004_1 x181005_1 x181006_1 x181007_1 t197 t198 t199 t200 t201)) else (if x6_1 = 1 then (if t198 = true then (if 0 ≤ x5_1 then (if x5_1 < (l0.length : Int) then ((gambitref03_Of.f kj39 (rdOf ByteArray.empty l0 x5_1)).bind fun bt205 => (gambitref05_read.l0 kj39 l0 (wrap64 (x5_1 + 1)) (wrap64 (x6_1 + 1)) ((t185) % 256) ((t190) % 256) ((t195) % 256) x181003_1 bt205.1 x181005_1 x181006_1 x181007_1 t197 t198 t199 t200 t201)) else (none)) else (none)) else (gambitref05_read.l0 kj39 l0 x5_1 (wrap64 (x6_1 + 1)) ((t185) % 256) ((t190) % 256) ((t195) % 256) x181003_1 x181004_1 x181005_1 x181006_1 x181007_1 t197 t198 t199 t200 t201)) else (if x6_1 = 2 then (if t199 = true then (if 0 ≤ x5_1 then (if x5_1 < (l0.length : Int) then ((gambitref04_Of.f kj39 (rdOf ByteArray.empty l0 x5_1)).bind fun bt208 => (gambitref05_read.l0 kj39 l0 (wrap64 (x5_1 + 1)) (wrap64 (x6_1 + 1)) ((t185) % 256) ((t190) % 256) ((t195) % 256) x181003_1 x181004_1 bt208.1 x181006_1 x181007_1 t197 t198 t199 t200 t201)) else (none)) else (none)) else (gambitref05_read.l0 kj39 l0 x5_1 (wrap64 (x6_1 + 1)) ((t185) % 256) ((t190) % 256) ((t195) % 256) x181003_1 x181004_1 x181005_1 x181006_1 x181007_1 t197 t198 t199 t200 t201)) else (if x6_1 = 3 then (if t200 = true then (if 0 ≤ x5_1 then (if x5_1 < (l0.length : Int) then ((gambitref05_number.f kj39 (rdOf ByteArray.empty l0 x5_1)).bind fun t211 => (gambitref05_read.l0 kj39 l0 (wrap64 (x5_1 + 1)) (wrap64 (x6_1 + 1)) ((t185) % 256) ((t190) % 256) ((t195) % 256) x181003_1 x181004_1 x181005_1 ((Int.tmod t211 200) % 256) x181007_1 t197 t198 t199 t200 t201)) else (none)) else (none)) else (gambitref05_read.l0 kj39 l0 x5_1 (wrap64 (x6_1 + 1)) ((t185) % 256) ((t190) % 256) ((t195) % 256) x181003_1 x181004_1 x181005_1 x181006_1 x181007_1 t197 t198 t199 t200 t201)) else (if x6_1 = 4 then (if t201 = true then (if 0 ≤ x5_1 then (if x5_1 < (l0.length : Int) then (gambitref05_read.l0 kj39 l0 (wrap64 (x5_1 + 1)) (wrap64 (x6_1 + 1)) ((t185) % 256) ((t190) % 256) ((t195) % 256) x181003_1 x181004_1 x181005_1 x181006_1 (rdOf ByteArray.empty l0 x5_1) t197 t198 t199 t200 t201) else (none)) else (none)) else (gambitref05_read.l0 kj39 l0 x5_1 (wrap64 (x6_1 + 1)) ((t185) % 256) ((t190) % 256) ((t195) % 256) x181003_1 x181004_1 x181005_1 x181006_1 x181007_1 t197 t198 t199 t200 t201)) else (none)))))) = some (r1, r2, r3, r4, r5, r6, r7, r8) := by rw [if_pos rfl] at H; exact H
          clear H
          have H := H1
          clear H1
          by_cases c43 : x6_1 = 0
          ·subst c43
           have H1 : (if t197 = true then (if 0 ≤ x5_1 then (if x5_1 < (l0.length : Int) then ((gambitref05_number.f kj39 (rdOf ByteArray.empty l0 x5_1)).bind fun t203 => (gambitref05_read.l0 kj39 l0 (wrap64 (x5_1 + 1)) (wrap64 (0 + 1)) ((t185) % 256) ((t190) % 256) ((t195) % 256) t203 x181004_1 x181005_1 x181006_1 x181007_1 t197 t198 t199 t200 t201)) else (none)) else (none)) else (gambitref05_read.l0 kj39 l0 x5_1 (wrap64 (0 + 1)) ((t185) % 256) ((t190) % 256) ((t195) % 256) x181003_1 x181004_1 x181005_1 x181006_1 x181007_1 t197 t198 t199 t200 t201)) = some (r1, r2, r3, r4, r5, r6, r7, r8) := by rw [if_pos rfl] at H; exact H
           clear H
           have H := H1
           clear H1
           by_cases c44 : t197 = true
           ·subst c44
            have H1 : (if 0 ≤ x5_1 then (if x5_1 < (l0.length : Int) then ((gambitref05_number.f kj39 (rdOf ByteArray.empty l0 x5_1)).bind fun t203 => (gambitref05_read.l0 kj39 l0 (wrap64 (x5_1 + 1)) (wrap64 (0 + 1)) ((t185) % 256) ((t190) % 256) ((t195) % 256) t203 x181004_1 x181005_1 x181006_1 x181007_1 true t198 t199 t200 t201)) else (none)) else (none)) = some (r1, r2, r3, r4, r5, r6, r7, r8) := by rw [if_pos rfl] at H; exact H
            clear H
            have H := H1
            clear H1
            by_cases c45 : 0 ≤ x5_1
            ·rw [if_pos c45] at H
             have c45b0 : decide (0 ≤ x5_1) = true := decide_eq_true c45
             clear c45
             by_cases c46 : x5_1 < (l0.length : Int)
             ·rw [if_pos c46] at H
              have c46b0 : decide (x5_1 < (l0.length : Int)) = true := decide_eq_true c46
              clear c46
              replace H := Option.bind_eq_some_iff.mp H
              obtain ⟨t203, A470, H⟩ := H
              replace H : (gambitref05_read.l0 kj39 l0 (wrap64 (x5_1 + 1)) (wrap64 (0 + 1)) ((t185) % 256) ((t190) % 256) ((t195) % 256) t203 x181004_1 x181005_1 x181006_1 x181007_1 true t198 t199 t200 t201) = some (r1, r2, r3, r4, r5, r6, r7, r8) := H
              have A47 := Aside0.mk A470
              clear A470
              have H' := Aside0.mk H
              clear H
              have hnb48 := NB196_179.out
              have hnc48 := NB179_196.out
              have hnb49 := NB196_180.out
              have hnc49 := NB180_196.out
              have hcz50_0 := Zc BK196.out 0 (.bool true) rfl
              have hcz50_1 := Zc BK196.out 1 (.bool t198) rfl
              have hcz50_2 := Zc BK196.out 2 (.bool t199) rfl
              have hcz50_3 := Zc BK196.out 3 (.bool t200) rfl
              have hcz50_4 := Zc BK196.out 4 (.bool t201) rfl
              have hfz50_0 := blk_frozen BK196.out 0
              have hfz50_1 := blk_frozen BK196.out 1
              have hfz50_2 := blk_frozen BK196.out 2
              have hfz50_3 := blk_frozen BK196.out 3
              have hfz50_4 := blk_frozen BK196.out 4
              have p202 : 0 ≤ (x5_1 : Int) := of_decide_eq_true Za
              have q202 : x5_1 < (l0.length : Int) := of_decide_eq_true Za
              obtain ⟨ad202, e202, hx202_0⟩ := Kd.at_string HR0.out x5_1 p202 q202
              obtain rfl : ad184 = ad202 := (by injection e202)
              replace hx202_0 := (HB.out.cell (World.block_lt_of_cell? w _ hx202_0)).trans hx202_0
              replace p202 := eq_true p202
              replace q202 := eq_true q202
              go_wp2_with (first | ((with_reducible refine gate_callee (f := 103) rfl ?_); refine goesL_ (some 74) rfl rfl Tryz.func103 (by kernel_rfl) rfl #[.string (rdOf ByteArray.empty l0 x5_1)] rfl Zl ?_; (with_reducible refine (gambitref05_number.calls kj39 (rdOf ByteArray.empty l0 x5_1) t203 _ A47.out).mono ?_); rintro e w' ⟨rfl, ⟨nd, rfl⟩⟩; refine ⟨_, rfl, ?_⟩; (try (rw [drewN_self wc]; generalize hq_ : World.drewN wc _ = wc; have n0_ : Aside0 (wc.heap[gb179]? = some (.cells #[.int .u8 0, .int .u8 0, .int .u8 0, .int .i64 0, .int .u8 0, .int .u8 0, .int .u8 0, .string (⟨#[]⟩ : ByteArray)] 48 (0, 0))) := ⟨by rw [← hq_]; exact (Zk BK179.out)⟩; have n1_ : Aside0 (wc.heap[gb180]? = some (.cells #[.int .u8 ((t185) % 256), .int .u8 ((t190) % 256), .int .u8 ((t195) % 256), .int .i64 x181003_1, .int .u8 x181004_1, .int .u8 x181005_1, .int .u8 x181006_1, .string x181007_1] 48 (0, 0))) := ⟨by rw [← hq_]; exact (Zk BK180.out)⟩; have n2_ : Aside0 (wc.heap[gb196]? = some (.cells #[.bool true, .bool t198, .bool t199, .bool t200, .bool t201] 128 (0, 0))) := ⟨by rw [← hq_]; exact (Zk BK196.out)⟩; have n3_ : Aside0 (Below w.heap.size w wc) := ⟨by rw [← hq_]; exact (Zb3 GE179.out GE180.out GE196.out)⟩; clear BK179 BK180 BK196 HB hq_; have BK179 := n0_; have BK180 := n1_; have BK196 := n2_; have HB := n3_; clear n0_ n1_ n2_ n3_)); have hnb51 := NB180_179.out; have hnc51 := NB179_180.out; have hcz52_0 := Zc BK180.out 0 (.int .u8 ((t185) % 256)) rfl; have hcz52_1 := Zc BK180.out 1 (.int .u8 ((t190) % 256)) rfl; have hcz52_2 := Zc BK180.out 2 (.int .u8 ((t195) % 256)) rfl; have hcz52_3 := Zc BK180.out 3 (.int .i64 x181003_1) rfl; have hcz52_4 := Zc BK180.out 4 (.int .u8 x181004_1) rfl; have hcz52_5 := Zc BK180.out 5 (.int .u8 x181005_1) rfl; have hcz52_6 := Zc BK180.out 6 (.int .u8 x181006_1) rfl; have hcz52_7 := Zc BK180.out 7 (.string x181007_1) rfl; have hfz52_0 := blk_frozen BK180.out 0; have hfz52_1 := blk_frozen BK180.out 1; have hfz52_2 := blk_frozen BK180.out 2; have hfz52_3 := blk_frozen BK180.out 3; have hfz52_4 := blk_frozen BK180.out 4; have hfz52_5 := blk_frozen BK180.out 5; have hfz52_6 := blk_frozen BK180.out 6; have hfz52_7 := blk_frozen BK180.out 7))
              go_roundg kj39
              case measure => have := HK1.out; have := HJ39.out; omega
              case rel => exact ⟨(wrap64 (x5_1 + 1)), (wrap64 (0 + 1)), (t203), (x181004_1), (x181005_1), (x181006_1), (x181007_1), Zs, Zs, H', ⟨by have := HK1.out; have := HJ39.out; omega⟩, ⟨by (with_reducible repeat (first | refine blk_drewN ?_ _ | refine blk_drew ?_ | refine blk_alloc ?_ _)); refine blk_far ?_ NB179_180.out _; exact Zk BK179.out⟩, ⟨by (with_reducible repeat (first | refine blk_drewN ?_ _ | refine blk_drew ?_ | refine blk_alloc ?_ _)); refine blk_put (cs := #[.int .u8 ((t185) % 256), .int .u8 ((t190) % 256), .int .u8 ((t195) % 256), .int .i64 x181003_1, .int .u8 x181004_1, .int .u8 x181005_1, .int .u8 x181006_1, .string x181007_1]) ?_ 3 _ rfl; exact Zk BK180.out⟩, ⟨by (with_reducible repeat (first | refine blk_drewN ?_ _ | refine blk_drew ?_ | refine blk_alloc ?_ _)); refine blk_far ?_ NB196_180.out _; exact Zk BK196.out⟩, ⟨Zb3 GE179.out GE180.out GE196.out⟩⟩
             ·rw [if_neg c46] at H
              exact absurd H (by simp)
            ·rw [if_neg c45] at H
             exact absurd H (by simp)
           ·replace c44 := Bool.eq_false_iff.mpr c44
            subst c44
            have H1 : (gambitref05_read.l0 kj39 l0 x5_1 (wrap64 (0 + 1)) ((t185) % 256) ((t190) % 256) ((t195) % 256) x181003_1 x181004_1 x181005_1 x181006_1 x181007_1 false t198 t199 t200 t201) = some (r1, r2, r3, r4, r5, r6, r7, r8) := by rw [if_neg (show ¬ (false = true) by decide)] at H; exact H
            clear H
            have H := H1
            clear H1
            have H' := Aside0.mk H
            clear H
            have hnb53 := NB196_179.out
            have hnc53 := NB179_196.out
            have hnb54 := NB196_180.out
            have hnc54 := NB180_196.out
            have hcz55_0 := Zc BK196.out 0 (.bool false) rfl
            have hcz55_1 := Zc BK196.out 1 (.bool t198) rfl
            have hcz55_2 := Zc BK196.out 2 (.bool t199) rfl
            have hcz55_3 := Zc BK196.out 3 (.bool t200) rfl
            have hcz55_4 := Zc BK196.out 4 (.bool t201) rfl
            have hfz55_0 := blk_frozen BK196.out 0
            have hfz55_1 := blk_frozen BK196.out 1
            have hfz55_2 := blk_frozen BK196.out 2
            have hfz55_3 := blk_frozen BK196.out 3
            have hfz55_4 := blk_frozen BK196.out 4
            go_wp2
            go_roundg kj39
            case measure => have := HK1.out; have := HJ39.out; omega
            case rel => exact ⟨(x5_1), (wrap64 (0 + 1)), (x181003_1), (x181004_1), (x181005_1), (x181006_1), (x181007_1), Zs, Zs, H', ⟨by have := HK1.out; have := HJ39.out; omega⟩, ⟨Zk BK179.out⟩, ⟨Zk BK180.out⟩, ⟨Zk BK196.out⟩, ⟨Zb3 GE179.out GE180.out GE196.out⟩⟩
          ·rw [if_neg c43] at H
           have c43b0 : (x6_1 == 0) = false := beq_eq_false_iff_ne.mpr c43
           by_cases c56 : x6_1 = 1
           ·subst c56
            have H1 : (if t198 = true then (if 0 ≤ x5_1 then (if x5_1 < (l0.length : Int) then ((gambitref03_Of.f kj39 (rdOf ByteArray.empty l0 x5_1)).bind fun bt205 => (gambitref05_read.l0 kj39 l0 (wrap64 (x5_1 + 1)) (wrap64 (1 + 1)) ((t185) % 256) ((t190) % 256) ((t195) % 256) x181003_1 bt205.1 x181005_1 x181006_1 x181007_1 t197 t198 t199 t200 t201)) else (none)) else (none)) else (gambitref05_read.l0 kj39 l0 x5_1 (wrap64 (1 + 1)) ((t185) % 256) ((t190) % 256) ((t195) % 256) x181003_1 x181004_1 x181005_1 x181006_1 x181007_1 t197 t198 t199 t200 t201)) = some (r1, r2, r3, r4, r5, r6, r7, r8) := by rw [if_pos rfl] at H; exact H
            clear H
            have H := H1
            clear H1
            by_cases c57 : t198 = true
            ·subst c57
             have H1 : (if 0 ≤ x5_1 then (if x5_1 < (l0.length : Int) then ((gambitref03_Of.f kj39 (rdOf ByteArray.empty l0 x5_1)).bind fun bt205 => (gambitref05_read.l0 kj39 l0 (wrap64 (x5_1 + 1)) (wrap64 (1 + 1)) ((t185) % 256) ((t190) % 256) ((t195) % 256) x181003_1 bt205.1 x181005_1 x181006_1 x181007_1 t197 true t199 t200 t201)) else (none)) else (none)) = some (r1, r2, r3, r4, r5, r6, r7, r8) := by rw [if_pos rfl] at H; exact H
             clear H
             have H := H1
             clear H1
             by_cases c58 : 0 ≤ x5_1
             ·rw [if_pos c58] at H
              have c58b0 : decide (0 ≤ x5_1) = true := decide_eq_true c58
              clear c58
              by_cases c59 : x5_1 < (l0.length : Int)
              ·rw [if_pos c59] at H
               have c59b0 : decide (x5_1 < (l0.length : Int)) = true := decide_eq_true c59
               clear c59
               replace H := Option.bind_eq_some_iff.mp H
               obtain ⟨⟨t205, t206⟩, A600, H⟩ := H
               replace H : (gambitref05_read.l0 kj39 l0 (wrap64 (x5_1 + 1)) (wrap64 (1 + 1)) ((t185) % 256) ((t190) % 256) ((t195) % 256) x181003_1 t205 x181005_1 x181006_1 x181007_1 t197 true t199 t200 t201) = some (r1, r2, r3, r4, r5, r6, r7, r8) := H
               have A60 := Aside0.mk A600
               clear A600
               have H' := Aside0.mk H
               clear H
               have hnb61 := NB196_179.out
               have hnc61 := NB179_196.out
               have hnb62 := NB196_180.out
               have hnc62 := NB180_196.out
               have hcz63_0 := Zc BK196.out 0 (.bool t197) rfl
               have hcz63_1 := Zc BK196.out 1 (.bool true) rfl
               have hcz63_2 := Zc BK196.out 2 (.bool t199) rfl
               have hcz63_3 := Zc BK196.out 3 (.bool t200) rfl
               have hcz63_4 := Zc BK196.out 4 (.bool t201) rfl
               have hfz63_0 := blk_frozen BK196.out 0
               have hfz63_1 := blk_frozen BK196.out 1
               have hfz63_2 := blk_frozen BK196.out 2
               have hfz63_3 := blk_frozen BK196.out 3
               have hfz63_4 := blk_frozen BK196.out 4
               have p204 : 0 ≤ (x5_1 : Int) := of_decide_eq_true Za
               have q204 : x5_1 < (l0.length : Int) := of_decide_eq_true Za
               obtain ⟨ad204, e204, hx204_0⟩ := Kd.at_string HR0.out x5_1 p204 q204
               obtain rfl : ad184 = ad204 := (by injection e204)
               replace hx204_0 := (HB.out.cell (World.block_lt_of_cell? w _ hx204_0)).trans hx204_0
               replace p204 := eq_true p204
               replace q204 := eq_true q204
               go_wp2_with (first | ((with_reducible refine gate_callee (f := 104) rfl ?_); refine goesL_ (some 80) rfl rfl Tryz.func104 (by kernel_rfl) rfl #[.string (rdOf ByteArray.empty l0 x5_1)] rfl Zl ?_; (with_reducible refine (gambitref03_Of.calls kj39 (rdOf ByteArray.empty l0 x5_1) t205 t206 _ A60.out).mono ?_); rintro e w' ⟨rfl, ⟨nd, rfl⟩⟩; refine ⟨_, rfl, ?_⟩; (try (rw [drewN_self wc]; generalize hq_ : World.drewN wc _ = wc; have n0_ : Aside0 (wc.heap[gb179]? = some (.cells #[.int .u8 0, .int .u8 0, .int .u8 0, .int .i64 0, .int .u8 0, .int .u8 0, .int .u8 0, .string (⟨#[]⟩ : ByteArray)] 48 (0, 0))) := ⟨by rw [← hq_]; exact (Zk BK179.out)⟩; have n1_ : Aside0 (wc.heap[gb180]? = some (.cells #[.int .u8 ((t185) % 256), .int .u8 ((t190) % 256), .int .u8 ((t195) % 256), .int .i64 x181003_1, .int .u8 x181004_1, .int .u8 x181005_1, .int .u8 x181006_1, .string x181007_1] 48 (0, 0))) := ⟨by rw [← hq_]; exact (Zk BK180.out)⟩; have n2_ : Aside0 (wc.heap[gb196]? = some (.cells #[.bool t197, .bool true, .bool t199, .bool t200, .bool t201] 128 (0, 0))) := ⟨by rw [← hq_]; exact (Zk BK196.out)⟩; have n3_ : Aside0 (Below w.heap.size w wc) := ⟨by rw [← hq_]; exact (Zb3 GE179.out GE180.out GE196.out)⟩; clear BK179 BK180 BK196 HB hq_; have BK179 := n0_; have BK180 := n1_; have BK196 := n2_; have HB := n3_; clear n0_ n1_ n2_ n3_)); have hnb64 := NB180_179.out; have hnc64 := NB179_180.out; have hcz65_0 := Zc BK180.out 0 (.int .u8 ((t185) % 256)) rfl; have hcz65_1 := Zc BK180.out 1 (.int .u8 ((t190) % 256)) rfl; have hcz65_2 := Zc BK180.out 2 (.int .u8 ((t195) % 256)) rfl; have hcz65_3 := Zc BK180.out 3 (.int .i64 x181003_1) rfl; have hcz65_4 := Zc BK180.out 4 (.int .u8 x181004_1) rfl; have hcz65_5 := Zc BK180.out 5 (.int .u8 x181005_1) rfl; have hcz65_6 := Zc BK180.out 6 (.int .u8 x181006_1) rfl; have hcz65_7 := Zc BK180.out 7 (.string x181007_1) rfl; have hfz65_0 := blk_frozen BK180.out 0; have hfz65_1 := blk_frozen BK180.out 1; have hfz65_2 := blk_frozen BK180.out 2; have hfz65_3 := blk_frozen BK180.out 3; have hfz65_4 := blk_frozen BK180.out 4; have hfz65_5 := blk_frozen BK180.out 5; have hfz65_6 := blk_frozen BK180.out 6; have hfz65_7 := blk_frozen BK180.out 7))
               go_roundg kj39
               case measure => have := HK1.out; have := HJ39.out; omega
               case rel => exact ⟨(wrap64 (x5_1 + 1)), (wrap64 (1 + 1)), (x181003_1), (t205), (x181005_1), (x181006_1), (x181007_1), Zs, Zs, H', ⟨by have := HK1.out; have := HJ39.out; omega⟩, ⟨by (with_reducible repeat (first | refine blk_drewN ?_ _ | refine blk_drew ?_ | refine blk_alloc ?_ _)); refine blk_far ?_ NB179_180.out _; exact Zk BK179.out⟩, ⟨by (with_reducible repeat (first | refine blk_drewN ?_ _ | refine blk_drew ?_ | refine blk_alloc ?_ _)); refine blk_put (cs := #[.int .u8 ((t185) % 256), .int .u8 ((t190) % 256), .int .u8 ((t195) % 256), .int .i64 x181003_1, .int .u8 x181004_1, .int .u8 x181005_1, .int .u8 x181006_1, .string x181007_1]) ?_ 4 _ rfl; exact Zk BK180.out⟩, ⟨by (with_reducible repeat (first | refine blk_drewN ?_ _ | refine blk_drew ?_ | refine blk_alloc ?_ _)); refine blk_far ?_ NB196_180.out _; exact Zk BK196.out⟩, ⟨Zb3 GE179.out GE180.out GE196.out⟩⟩
              ·rw [if_neg c59] at H
               exact absurd H (by simp)
             ·rw [if_neg c58] at H
              exact absurd H (by simp)
            ·replace c57 := Bool.eq_false_iff.mpr c57
             subst c57
             have H1 : (gambitref05_read.l0 kj39 l0 x5_1 (wrap64 (1 + 1)) ((t185) % 256) ((t190) % 256) ((t195) % 256) x181003_1 x181004_1 x181005_1 x181006_1 x181007_1 t197 false t199 t200 t201) = some (r1, r2, r3, r4, r5, r6, r7, r8) := by rw [if_neg (show ¬ (false = true) by decide)] at H; exact H
             clear H
             have H := H1
             clear H1
             have H' := Aside0.mk H
             clear H
             have hnb66 := NB196_179.out
             have hnc66 := NB179_196.out
             have hnb67 := NB196_180.out
             have hnc67 := NB180_196.out
             have hcz68_0 := Zc BK196.out 0 (.bool t197) rfl
             have hcz68_1 := Zc BK196.out 1 (.bool false) rfl
             have hcz68_2 := Zc BK196.out 2 (.bool t199) rfl
             have hcz68_3 := Zc BK196.out 3 (.bool t200) rfl
             have hcz68_4 := Zc BK196.out 4 (.bool t201) rfl
             have hfz68_0 := blk_frozen BK196.out 0
             have hfz68_1 := blk_frozen BK196.out 1
             have hfz68_2 := blk_frozen BK196.out 2
             have hfz68_3 := blk_frozen BK196.out 3
             have hfz68_4 := blk_frozen BK196.out 4
             go_wp2
             go_roundg kj39
             case measure => have := HK1.out; have := HJ39.out; omega
             case rel => exact ⟨(x5_1), (wrap64 (1 + 1)), (x181003_1), (x181004_1), (x181005_1), (x181006_1), (x181007_1), Zs, Zs, H', ⟨by have := HK1.out; have := HJ39.out; omega⟩, ⟨Zk BK179.out⟩, ⟨Zk BK180.out⟩, ⟨Zk BK196.out⟩, ⟨Zb3 GE179.out GE180.out GE196.out⟩⟩
           ·rw [if_neg c56] at H
            have c56b0 : (x6_1 == 1) = false := beq_eq_false_iff_ne.mpr c56
            by_cases c69 : x6_1 = 2
            ·subst c69
             have H1 : (if t199 = true then (if 0 ≤ x5_1 then (if x5_1 < (l0.length : Int) then ((gambitref04_Of.f kj39 (rdOf ByteArray.empty l0 x5_1)).bind fun bt208 => (gambitref05_read.l0 kj39 l0 (wrap64 (x5_1 + 1)) (wrap64 (2 + 1)) ((t185) % 256) ((t190) % 256) ((t195) % 256) x181003_1 x181004_1 bt208.1 x181006_1 x181007_1 t197 t198 t199 t200 t201)) else (none)) else (none)) else (gambitref05_read.l0 kj39 l0 x5_1 (wrap64 (2 + 1)) ((t185) % 256) ((t190) % 256) ((t195) % 256) x181003_1 x181004_1 x181005_1 x181006_1 x181007_1 t197 t198 t199 t200 t201)) = some (r1, r2, r3, r4, r5, r6, r7, r8) := by rw [if_pos rfl] at H; exact H
             clear H
             have H := H1
             clear H1
             by_cases c70 : t199 = true
             ·subst c70
              have H1 : (if 0 ≤ x5_1 then (if x5_1 < (l0.length : Int) then ((gambitref04_Of.f kj39 (rdOf ByteArray.empty l0 x5_1)).bind fun bt208 => (gambitref05_read.l0 kj39 l0 (wrap64 (x5_1 + 1)) (wrap64 (2 + 1)) ((t185) % 256) ((t190) % 256) ((t195) % 256) x181003_1 x181004_1 bt208.1 x181006_1 x181007_1 t197 t198 true t200 t201)) else (none)) else (none)) = some (r1, r2, r3, r4, r5, r6, r7, r8) := by rw [if_pos rfl] at H; exact H
              clear H
              have H := H1
              clear H1
              by_cases c71 : 0 ≤ x5_1
              ·rw [if_pos c71] at H
               have c71b0 : decide (0 ≤ x5_1) = true := decide_eq_true c71
               clear c71
               by_cases c72 : x5_1 < (l0.length : Int)
               ·rw [if_pos c72] at H
                have c72b0 : decide (x5_1 < (l0.length : Int)) = true := decide_eq_true c72
                clear c72
                replace H := Option.bind_eq_some_iff.mp H
                obtain ⟨⟨t208, t209⟩, A730, H⟩ := H
                replace H : (gambitref05_read.l0 kj39 l0 (wrap64 (x5_1 + 1)) (wrap64 (2 + 1)) ((t185) % 256) ((t190) % 256) ((t195) % 256) x181003_1 x181004_1 t208 x181006_1 x181007_1 t197 t198 true t200 t201) = some (r1, r2, r3, r4, r5, r6, r7, r8) := H
                have A73 := Aside0.mk A730
                clear A730
                have H' := Aside0.mk H
                clear H
                have hnb74 := NB196_179.out
                have hnc74 := NB179_196.out
                have hnb75 := NB196_180.out
                have hnc75 := NB180_196.out
                have hcz76_0 := Zc BK196.out 0 (.bool t197) rfl
                have hcz76_1 := Zc BK196.out 1 (.bool t198) rfl
                have hcz76_2 := Zc BK196.out 2 (.bool true) rfl
                have hcz76_3 := Zc BK196.out 3 (.bool t200) rfl
                have hcz76_4 := Zc BK196.out 4 (.bool t201) rfl
                have hfz76_0 := blk_frozen BK196.out 0
                have hfz76_1 := blk_frozen BK196.out 1
                have hfz76_2 := blk_frozen BK196.out 2
                have hfz76_3 := blk_frozen BK196.out 3
                have hfz76_4 := blk_frozen BK196.out 4
                have p207 : 0 ≤ (x5_1 : Int) := of_decide_eq_true Za
                have q207 : x5_1 < (l0.length : Int) := of_decide_eq_true Za
                obtain ⟨ad207, e207, hx207_0⟩ := Kd.at_string HR0.out x5_1 p207 q207
                obtain rfl : ad184 = ad207 := (by injection e207)
                replace hx207_0 := (HB.out.cell (World.block_lt_of_cell? w _ hx207_0)).trans hx207_0
                replace p207 := eq_true p207
                replace q207 := eq_true q207
                go_wp2_with (first | ((with_reducible refine gate_callee (f := 105) rfl ?_); refine goesL_ (some 88) rfl rfl Tryz.func105 (by kernel_rfl) rfl #[.string (rdOf ByteArray.empty l0 x5_1)] rfl Zl ?_; (with_reducible refine (gambitref04_Of.calls kj39 (rdOf ByteArray.empty l0 x5_1) t208 t209 _ A73.out).mono ?_); rintro e w77 ⟨rfl, hb⟩; refine ⟨_, rfl, ?_⟩; replace BK179 := Aside0.mk (blk_below (g := gb179) (o := .cells #[.int .u8 0, .int .u8 0, .int .u8 0, .int .i64 0, .int .u8 0, .int .u8 0, .int .u8 0, .string (⟨#[]⟩ : ByteArray)] 48 (0, 0)) (Zk BK179.out) hb); replace BK180 := Aside0.mk (blk_below (g := gb180) (o := .cells #[.int .u8 ((t185) % 256), .int .u8 ((t190) % 256), .int .u8 ((t195) % 256), .int .i64 x181003_1, .int .u8 x181004_1, .int .u8 x181005_1, .int .u8 x181006_1, .string x181007_1] 48 (0, 0)) (Zk BK180.out) hb); replace BK196 := Aside0.mk (blk_below (g := gb196) (o := .cells #[.bool t197, .bool t198, .bool true, .bool t200, .bool t201] 128 (0, 0)) (Zk BK196.out) hb); replace HB := Aside0.mk (below_step (Zb3 GE179.out GE180.out GE196.out) hb); (try clear hb); (try clear hb2); (try clear hk); (try clear hi); have hnb78 := NB180_179.out; have hnc78 := NB179_180.out; have hcz79_0 := Zc BK180.out 0 (.int .u8 ((t185) % 256)) rfl; have hcz79_1 := Zc BK180.out 1 (.int .u8 ((t190) % 256)) rfl; have hcz79_2 := Zc BK180.out 2 (.int .u8 ((t195) % 256)) rfl; have hcz79_3 := Zc BK180.out 3 (.int .i64 x181003_1) rfl; have hcz79_4 := Zc BK180.out 4 (.int .u8 x181004_1) rfl; have hcz79_5 := Zc BK180.out 5 (.int .u8 x181005_1) rfl; have hcz79_6 := Zc BK180.out 6 (.int .u8 x181006_1) rfl; have hcz79_7 := Zc BK180.out 7 (.string x181007_1) rfl; have hfz79_0 := blk_frozen BK180.out 0; have hfz79_1 := blk_frozen BK180.out 1; have hfz79_2 := blk_frozen BK180.out 2; have hfz79_3 := blk_frozen BK180.out 3; have hfz79_4 := blk_frozen BK180.out 4; have hfz79_5 := blk_frozen BK180.out 5; have hfz79_6 := blk_frozen BK180.out 6; have hfz79_7 := blk_frozen BK180.out 7))
                go_roundg kj39
                case measure => have := HK1.out; have := HJ39.out; omega
                case rel => exact ⟨(wrap64 (x5_1 + 1)), (wrap64 (2 + 1)), (x181003_1), (x181004_1), (t208), (x181006_1), (x181007_1), Zs, Zs, H', ⟨by have := HK1.out; have := HJ39.out; omega⟩, ⟨by (with_reducible repeat (first | refine blk_drewN ?_ _ | refine blk_drew ?_ | refine blk_alloc ?_ _)); refine blk_far ?_ NB179_180.out _; exact Zk BK179.out⟩, ⟨by (with_reducible repeat (first | refine blk_drewN ?_ _ | refine blk_drew ?_ | refine blk_alloc ?_ _)); refine blk_put (cs := #[.int .u8 ((t185) % 256), .int .u8 ((t190) % 256), .int .u8 ((t195) % 256), .int .i64 x181003_1, .int .u8 x181004_1, .int .u8 x181005_1, .int .u8 x181006_1, .string x181007_1]) ?_ 5 _ rfl; exact Zk BK180.out⟩, ⟨by (with_reducible repeat (first | refine blk_drewN ?_ _ | refine blk_drew ?_ | refine blk_alloc ?_ _)); refine blk_far ?_ NB196_180.out _; exact Zk BK196.out⟩, ⟨Zb3 GE179.out GE180.out GE196.out⟩⟩
               ·rw [if_neg c72] at H
                exact absurd H (by simp)
              ·rw [if_neg c71] at H
               exact absurd H (by simp)
             ·replace c70 := Bool.eq_false_iff.mpr c70
              subst c70
              have H1 : (gambitref05_read.l0 kj39 l0 x5_1 (wrap64 (2 + 1)) ((t185) % 256) ((t190) % 256) ((t195) % 256) x181003_1 x181004_1 x181005_1 x181006_1 x181007_1 t197 t198 false t200 t201) = some (r1, r2, r3, r4, r5, r6, r7, r8) := by rw [if_neg (show ¬ (false = true) by decide)] at H; exact H
              clear H
              have H := H1
              clear H1
              have H' := Aside0.mk H
              clear H
              have hnb80 := NB196_179.out
              have hnc80 := NB179_196.out
              have hnb81 := NB196_180.out
              have hnc81 := NB180_196.out
              have hcz82_0 := Zc BK196.out 0 (.bool t197) rfl
              have hcz82_1 := Zc BK196.out 1 (.bool t198) rfl
              have hcz82_2 := Zc BK196.out 2 (.bool false) rfl
              have hcz82_3 := Zc BK196.out 3 (.bool t200) rfl
              have hcz82_4 := Zc BK196.out 4 (.bool t201) rfl
              have hfz82_0 := blk_frozen BK196.out 0
              have hfz82_1 := blk_frozen BK196.out 1
              have hfz82_2 := blk_frozen BK196.out 2
              have hfz82_3 := blk_frozen BK196.out 3
              have hfz82_4 := blk_frozen BK196.out 4
              go_wp2
              go_roundg kj39
              case measure => have := HK1.out; have := HJ39.out; omega
              case rel => exact ⟨(x5_1), (wrap64 (2 + 1)), (x181003_1), (x181004_1), (x181005_1), (x181006_1), (x181007_1), Zs, Zs, H', ⟨by have := HK1.out; have := HJ39.out; omega⟩, ⟨Zk BK179.out⟩, ⟨Zk BK180.out⟩, ⟨Zk BK196.out⟩, ⟨Zb3 GE179.out GE180.out GE196.out⟩⟩
            ·rw [if_neg c69] at H
             have c69b0 : (x6_1 == 2) = false := beq_eq_false_iff_ne.mpr c69
             by_cases c83 : x6_1 = 3
             ·subst c83
              have H1 : (if t200 = true then (if 0 ≤ x5_1 then (if x5_1 < (l0.length : Int) then ((gambitref05_number.f kj39 (rdOf ByteArray.empty l0 x5_1)).bind fun t211 => (gambitref05_read.l0 kj39 l0 (wrap64 (x5_1 + 1)) (wrap64 (3 + 1)) ((t185) % 256) ((t190) % 256) ((t195) % 256) x181003_1 x181004_1 x181005_1 ((Int.tmod t211 200) % 256) x181007_1 t197 t198 t199 t200 t201)) else (none)) else (none)) else (gambitref05_read.l0 kj39 l0 x5_1 (wrap64 (3 + 1)) ((t185) % 256) ((t190) % 256) ((t195) % 256) x181003_1 x181004_1 x181005_1 x181006_1 x181007_1 t197 t198 t199 t200 t201)) = some (r1, r2, r3, r4, r5, r6, r7, r8) := by rw [if_pos rfl] at H; exact H
              clear H
              have H := H1
              clear H1
              by_cases c84 : t200 = true
              ·subst c84
               have H1 : (if 0 ≤ x5_1 then (if x5_1 < (l0.length : Int) then ((gambitref05_number.f kj39 (rdOf ByteArray.empty l0 x5_1)).bind fun t211 => (gambitref05_read.l0 kj39 l0 (wrap64 (x5_1 + 1)) (wrap64 (3 + 1)) ((t185) % 256) ((t190) % 256) ((t195) % 256) x181003_1 x181004_1 x181005_1 ((Int.tmod t211 200) % 256) x181007_1 t197 t198 t199 true t201)) else (none)) else (none)) = some (r1, r2, r3, r4, r5, r6, r7, r8) := by rw [if_pos rfl] at H; exact H
               clear H
               have H := H1
               clear H1
               by_cases c85 : 0 ≤ x5_1
               ·rw [if_pos c85] at H
                have c85b0 : decide (0 ≤ x5_1) = true := decide_eq_true c85
                clear c85
                by_cases c86 : x5_1 < (l0.length : Int)
                ·rw [if_pos c86] at H
                 have c86b0 : decide (x5_1 < (l0.length : Int)) = true := decide_eq_true c86
                 clear c86
                 replace H := Option.bind_eq_some_iff.mp H
                 obtain ⟨t211, A870, H⟩ := H
                 replace H : (gambitref05_read.l0 kj39 l0 (wrap64 (x5_1 + 1)) (wrap64 (3 + 1)) ((t185) % 256) ((t190) % 256) ((t195) % 256) x181003_1 x181004_1 x181005_1 ((Int.tmod t211 200) % 256) x181007_1 t197 t198 t199 true t201) = some (r1, r2, r3, r4, r5, r6, r7, r8) := H
                 have A87 := Aside0.mk A870
                 clear A870
                 have H' := Aside0.mk H
                 clear H
                 have hnb88 := NB196_179.out
                 have hnc88 := NB179_196.out
                 have hnb89 := NB196_180.out
                 have hnc89 := NB180_196.out
                 have hcz90_0 := Zc BK196.out 0 (.bool t197) rfl
                 have hcz90_1 := Zc BK196.out 1 (.bool t198) rfl
                 have hcz90_2 := Zc BK196.out 2 (.bool t199) rfl
                 have hcz90_3 := Zc BK196.out 3 (.bool true) rfl
                 have hcz90_4 := Zc BK196.out 4 (.bool t201) rfl
                 have hfz90_0 := blk_frozen BK196.out 0
                 have hfz90_1 := blk_frozen BK196.out 1
                 have hfz90_2 := blk_frozen BK196.out 2
                 have hfz90_3 := blk_frozen BK196.out 3
                 have hfz90_4 := blk_frozen BK196.out 4
                 have p210 : 0 ≤ (x5_1 : Int) := of_decide_eq_true Za
                 have q210 : x5_1 < (l0.length : Int) := of_decide_eq_true Za
                 obtain ⟨ad210, e210, hx210_0⟩ := Kd.at_string HR0.out x5_1 p210 q210
                 obtain rfl : ad184 = ad210 := (by injection e210)
                 replace hx210_0 := (HB.out.cell (World.block_lt_of_cell? w _ hx210_0)).trans hx210_0
                 replace p210 := eq_true p210
                 replace q210 := eq_true q210
                 go_wp2_with (first | ((with_reducible refine gate_callee (f := 103) rfl ?_); refine goesL_ (some 95) rfl rfl Tryz.func103 (by kernel_rfl) rfl #[.string (rdOf ByteArray.empty l0 x5_1)] rfl Zl ?_; (with_reducible refine (gambitref05_number.calls kj39 (rdOf ByteArray.empty l0 x5_1) t211 _ A87.out).mono ?_); rintro e w' ⟨rfl, ⟨nd, rfl⟩⟩; refine ⟨_, rfl, ?_⟩; (try (rw [drewN_self wc]; generalize hq_ : World.drewN wc _ = wc; have n0_ : Aside0 (wc.heap[gb179]? = some (.cells #[.int .u8 0, .int .u8 0, .int .u8 0, .int .i64 0, .int .u8 0, .int .u8 0, .int .u8 0, .string (⟨#[]⟩ : ByteArray)] 48 (0, 0))) := ⟨by rw [← hq_]; exact (Zk BK179.out)⟩; have n1_ : Aside0 (wc.heap[gb180]? = some (.cells #[.int .u8 ((t185) % 256), .int .u8 ((t190) % 256), .int .u8 ((t195) % 256), .int .i64 x181003_1, .int .u8 x181004_1, .int .u8 x181005_1, .int .u8 x181006_1, .string x181007_1] 48 (0, 0))) := ⟨by rw [← hq_]; exact (Zk BK180.out)⟩; have n2_ : Aside0 (wc.heap[gb196]? = some (.cells #[.bool t197, .bool t198, .bool t199, .bool true, .bool t201] 128 (0, 0))) := ⟨by rw [← hq_]; exact (Zk BK196.out)⟩; have n3_ : Aside0 (Below w.heap.size w wc) := ⟨by rw [← hq_]; exact (Zb3 GE179.out GE180.out GE196.out)⟩; clear BK179 BK180 BK196 HB hq_; have BK179 := n0_; have BK180 := n1_; have BK196 := n2_; have HB := n3_; clear n0_ n1_ n2_ n3_)); have hnb91 := NB180_179.out; have hnc91 := NB179_180.out; have hcz92_0 := Zc BK180.out 0 (.int .u8 ((t185) % 256)) rfl; have hcz92_1 := Zc BK180.out 1 (.int .u8 ((t190) % 256)) rfl; have hcz92_2 := Zc BK180.out 2 (.int .u8 ((t195) % 256)) rfl; have hcz92_3 := Zc BK180.out 3 (.int .i64 x181003_1) rfl; have hcz92_4 := Zc BK180.out 4 (.int .u8 x181004_1) rfl; have hcz92_5 := Zc BK180.out 5 (.int .u8 x181005_1) rfl; have hcz92_6 := Zc BK180.out 6 (.int .u8 x181006_1) rfl; have hcz92_7 := Zc BK180.out 7 (.string x181007_1) rfl; have hfz92_0 := blk_frozen BK180.out 0; have hfz92_1 := blk_frozen BK180.out 1; have hfz92_2 := blk_frozen BK180.out 2; have hfz92_3 := blk_frozen BK180.out 3; have hfz92_4 := blk_frozen BK180.out 4; have hfz92_5 := blk_frozen BK180.out 5; have hfz92_6 := blk_frozen BK180.out 6; have hfz92_7 := blk_frozen BK180.out 7))
                 go_roundg kj39
                 case measure => have := HK1.out; have := HJ39.out; omega
                 case rel => exact ⟨(wrap64 (x5_1 + 1)), (wrap64 (3 + 1)), (x181003_1), (x181004_1), (x181005_1), ((Int.tmod t211 200) % 256), (x181007_1), Zs, Zs, H', ⟨by have := HK1.out; have := HJ39.out; omega⟩, ⟨by (with_reducible repeat (first | refine blk_drewN ?_ _ | refine blk_drew ?_ | refine blk_alloc ?_ _)); refine blk_far ?_ NB179_180.out _; exact Zk BK179.out⟩, ⟨by (with_reducible repeat (first | refine blk_drewN ?_ _ | refine blk_drew ?_ | refine blk_alloc ?_ _)); refine blk_put (cs := #[.int .u8 ((t185) % 256), .int .u8 ((t190) % 256), .int .u8 ((t195) % 256), .int .i64 x181003_1, .int .u8 x181004_1, .int .u8 x181005_1, .int .u8 x181006_1, .string x181007_1]) ?_ 6 _ rfl; exact Zk BK180.out⟩, ⟨by (with_reducible repeat (first | refine blk_drewN ?_ _ | refine blk_drew ?_ | refine blk_alloc ?_ _)); refine blk_far ?_ NB196_180.out _; exact Zk BK196.out⟩, ⟨Zb3 GE179.out GE180.out GE196.out⟩⟩
                ·rw [if_neg c86] at H
                 exact absurd H (by simp)
               ·rw [if_neg c85] at H
                exact absurd H (by simp)
              ·replace c84 := Bool.eq_false_iff.mpr c84
               subst c84
               have H1 : (gambitref05_read.l0 kj39 l0 x5_1 (wrap64 (3 + 1)) ((t185) % 256) ((t190) % 256) ((t195) % 256) x181003_1 x181004_1 x181005_1 x181006_1 x181007_1 t197 t198 t199 false t201) = some (r1, r2, r3, r4, r5, r6, r7, r8) := by rw [if_neg (show ¬ (false = true) by decide)] at H; exact H
               clear H
               have H := H1
               clear H1
               have H' := Aside0.mk H
               clear H
               have hnb93 := NB196_179.out
               have hnc93 := NB179_196.out
               have hnb94 := NB196_180.out
               have hnc94 := NB180_196.out
               have hcz95_0 := Zc BK196.out 0 (.bool t197) rfl
               have hcz95_1 := Zc BK196.out 1 (.bool t198) rfl
               have hcz95_2 := Zc BK196.out 2 (.bool t199) rfl
               have hcz95_3 := Zc BK196.out 3 (.bool false) rfl
               have hcz95_4 := Zc BK196.out 4 (.bool t201) rfl
               have hfz95_0 := blk_frozen BK196.out 0
               have hfz95_1 := blk_frozen BK196.out 1
               have hfz95_2 := blk_frozen BK196.out 2
               have hfz95_3 := blk_frozen BK196.out 3
               have hfz95_4 := blk_frozen BK196.out 4
               go_wp2
               go_roundg kj39
               case measure => have := HK1.out; have := HJ39.out; omega
               case rel => exact ⟨(x5_1), (wrap64 (3 + 1)), (x181003_1), (x181004_1), (x181005_1), (x181006_1), (x181007_1), Zs, Zs, H', ⟨by have := HK1.out; have := HJ39.out; omega⟩, ⟨Zk BK179.out⟩, ⟨Zk BK180.out⟩, ⟨Zk BK196.out⟩, ⟨Zb3 GE179.out GE180.out GE196.out⟩⟩
             ·rw [if_neg c83] at H
              have c83b0 : (x6_1 == 3) = false := beq_eq_false_iff_ne.mpr c83
              by_cases c96 : x6_1 = 4
              ·subst c96
               have H1 : (if t201 = true then (if 0 ≤ x5_1 then (if x5_1 < (l0.length : Int) then (gambitref05_read.l0 kj39 l0 (wrap64 (x5_1 + 1)) (wrap64 (4 + 1)) ((t185) % 256) ((t190) % 256) ((t195) % 256) x181003_1 x181004_1 x181005_1 x181006_1 (rdOf ByteArray.empty l0 x5_1) t197 t198 t199 t200 t201) else (none)) else (none)) else (gambitref05_read.l0 kj39 l0 x5_1 (wrap64 (4 + 1)) ((t185) % 256) ((t190) % 256) ((t195) % 256) x181003_1 x181004_1 x181005_1 x181006_1 x181007_1 t197 t198 t199 t200 t201)) = some (r1, r2, r3, r4, r5, r6, r7, r8) := by rw [if_pos rfl] at H; exact H
               clear H
               have H := H1
               clear H1
               by_cases c97 : t201 = true
               ·subst c97
                have H1 : (if 0 ≤ x5_1 then (if x5_1 < (l0.length : Int) then (gambitref05_read.l0 kj39 l0 (wrap64 (x5_1 + 1)) (wrap64 (4 + 1)) ((t185) % 256) ((t190) % 256) ((t195) % 256) x181003_1 x181004_1 x181005_1 x181006_1 (rdOf ByteArray.empty l0 x5_1) t197 t198 t199 t200 true) else (none)) else (none)) = some (r1, r2, r3, r4, r5, r6, r7, r8) := by rw [if_pos rfl] at H; exact H
                clear H
                have H := H1
                clear H1
                by_cases c98 : 0 ≤ x5_1
                ·rw [if_pos c98] at H
                 have c98b0 : decide (0 ≤ x5_1) = true := decide_eq_true c98
                 clear c98
                 by_cases c99 : x5_1 < (l0.length : Int)
                 ·rw [if_pos c99] at H
                  have c99b0 : decide (x5_1 < (l0.length : Int)) = true := decide_eq_true c99
                  clear c99
                  have H' := Aside0.mk H
                  clear H
                  have hnb100 := NB196_179.out
                  have hnc100 := NB179_196.out
                  have hnb101 := NB196_180.out
                  have hnc101 := NB180_196.out
                  have hcz102_0 := Zc BK196.out 0 (.bool t197) rfl
                  have hcz102_1 := Zc BK196.out 1 (.bool t198) rfl
                  have hcz102_2 := Zc BK196.out 2 (.bool t199) rfl
                  have hcz102_3 := Zc BK196.out 3 (.bool t200) rfl
                  have hcz102_4 := Zc BK196.out 4 (.bool true) rfl
                  have hfz102_0 := blk_frozen BK196.out 0
                  have hfz102_1 := blk_frozen BK196.out 1
                  have hfz102_2 := blk_frozen BK196.out 2
                  have hfz102_3 := blk_frozen BK196.out 3
                  have hfz102_4 := blk_frozen BK196.out 4
                  have p212 : 0 ≤ (x5_1 : Int) := of_decide_eq_true Za
                  have q212 : x5_1 < (l0.length : Int) := of_decide_eq_true Za
                  obtain ⟨ad212, e212, hx212_0⟩ := Kd.at_string HR0.out x5_1 p212 q212
                  obtain rfl : ad184 = ad212 := (by injection e212)
                  replace hx212_0 := (HB.out.cell (World.block_lt_of_cell? w _ hx212_0)).trans hx212_0
                  replace p212 := eq_true p212
                  replace q212 := eq_true q212
                  have hnb103 := NB180_179.out
                  have hnc103 := NB179_180.out
                  have hcz104_0 := Zc BK180.out 0 (.int .u8 ((t185) % 256)) rfl
                  have hcz104_1 := Zc BK180.out 1 (.int .u8 ((t190) % 256)) rfl
                  have hcz104_2 := Zc BK180.out 2 (.int .u8 ((t195) % 256)) rfl
                  have hcz104_3 := Zc BK180.out 3 (.int .i64 x181003_1) rfl
                  have hcz104_4 := Zc BK180.out 4 (.int .u8 x181004_1) rfl
                  have hcz104_5 := Zc BK180.out 5 (.int .u8 x181005_1) rfl
                  have hcz104_6 := Zc BK180.out 6 (.int .u8 x181006_1) rfl
                  have hcz104_7 := Zc BK180.out 7 (.string x181007_1) rfl
                  have hfz104_0 := blk_frozen BK180.out 0
                  have hfz104_1 := blk_frozen BK180.out 1
                  have hfz104_2 := blk_frozen BK180.out 2
                  have hfz104_3 := blk_frozen BK180.out 3
                  have hfz104_4 := blk_frozen BK180.out 4
                  have hfz104_5 := blk_frozen BK180.out 5
                  have hfz104_6 := blk_frozen BK180.out 6
                  have hfz104_7 := blk_frozen BK180.out 7
                  go_wp2
                  go_roundg kj39
                  case measure => have := HK1.out; have := HJ39.out; omega
                  case rel => exact ⟨(wrap64 (x5_1 + 1)), (wrap64 (4 + 1)), (x181003_1), (x181004_1), (x181005_1), (x181006_1), (rdOf ByteArray.empty l0 x5_1), Zs, Zs, H', ⟨by have := HK1.out; have := HJ39.out; omega⟩, ⟨by (with_reducible repeat (first | refine blk_drewN ?_ _ | refine blk_drew ?_ | refine blk_alloc ?_ _)); refine blk_far ?_ NB179_180.out _; exact Zk BK179.out⟩, ⟨by (with_reducible repeat (first | refine blk_drewN ?_ _ | refine blk_drew ?_ | refine blk_alloc ?_ _)); refine blk_put (cs := #[.int .u8 ((t185) % 256), .int .u8 ((t190) % 256), .int .u8 ((t195) % 256), .int .i64 x181003_1, .int .u8 x181004_1, .int .u8 x181005_1, .int .u8 x181006_1, .string x181007_1]) ?_ 7 _ rfl; exact Zk BK180.out⟩, ⟨by (with_reducible repeat (first | refine blk_drewN ?_ _ | refine blk_drew ?_ | refine blk_alloc ?_ _)); refine blk_far ?_ NB196_180.out _; exact Zk BK196.out⟩, ⟨Zb3 GE179.out GE180.out GE196.out⟩⟩
                 ·rw [if_neg c99] at H
                  exact absurd H (by simp)
                ·rw [if_neg c98] at H
                 exact absurd H (by simp)
               ·replace c97 := Bool.eq_false_iff.mpr c97
                subst c97
                have H1 : (gambitref05_read.l0 kj39 l0 x5_1 (wrap64 (4 + 1)) ((t185) % 256) ((t190) % 256) ((t195) % 256) x181003_1 x181004_1 x181005_1 x181006_1 x181007_1 t197 t198 t199 t200 false) = some (r1, r2, r3, r4, r5, r6, r7, r8) := by rw [if_neg (show ¬ (false = true) by decide)] at H; exact H
                clear H
                have H := H1
                clear H1
                have H' := Aside0.mk H
                clear H
                have hnb105 := NB196_179.out
                have hnc105 := NB179_196.out
                have hnb106 := NB196_180.out
                have hnc106 := NB180_196.out
                have hcz107_0 := Zc BK196.out 0 (.bool t197) rfl
                have hcz107_1 := Zc BK196.out 1 (.bool t198) rfl
                have hcz107_2 := Zc BK196.out 2 (.bool t199) rfl
                have hcz107_3 := Zc BK196.out 3 (.bool t200) rfl
                have hcz107_4 := Zc BK196.out 4 (.bool false) rfl
                have hfz107_0 := blk_frozen BK196.out 0
                have hfz107_1 := blk_frozen BK196.out 1
                have hfz107_2 := blk_frozen BK196.out 2
                have hfz107_3 := blk_frozen BK196.out 3
                have hfz107_4 := blk_frozen BK196.out 4
                go_wp2
                go_roundg kj39
                case measure => have := HK1.out; have := HJ39.out; omega
                case rel => exact ⟨(x5_1), (wrap64 (4 + 1)), (x181003_1), (x181004_1), (x181005_1), (x181006_1), (x181007_1), Zs, Zs, H', ⟨by have := HK1.out; have := HJ39.out; omega⟩, ⟨Zk BK179.out⟩, ⟨Zk BK180.out⟩, ⟨Zk BK196.out⟩, ⟨Zb3 GE179.out GE180.out GE196.out⟩⟩
              ·rw [if_neg c96] at H
               have c96b0 : (x6_1 == 4) = false := beq_eq_false_iff_ne.mpr c96
               exact absurd H (by simp)
         ·replace c42 := Bool.eq_false_iff.mpr c42
          subst c42
          have H1 : (some (((t185) % 256), ((t190) % 256), ((t195) % 256), x181003_1, x181004_1, x181005_1, x181006_1, x181007_1)) = some (r1, r2, r3, r4, r5, r6, r7, r8) := by rw [if_neg (show ¬ (false = true) by decide)] at H; exact H
          clear H
          have H := H1
          clear H1
          simp only [Option.some.injEq, Prod.mk.injEq] at H
          obtain ⟨rfl, rfl, rfl, rfl, rfl, rfl, rfl, rfl⟩ := H
          have hnb108 := NB180_179.out
          have hnc108 := NB179_180.out
          have hnb109 := NB180_196.out
          have hnc109 := NB196_180.out
          have hcz110_0 := Zc BK180.out 0 (.int .u8 ((t185) % 256)) rfl
          have hcz110_1 := Zc BK180.out 1 (.int .u8 ((t190) % 256)) rfl
          have hcz110_2 := Zc BK180.out 2 (.int .u8 ((t195) % 256)) rfl
          have hcz110_3 := Zc BK180.out 3 (.int .i64 x181003_1) rfl
          have hcz110_4 := Zc BK180.out 4 (.int .u8 x181004_1) rfl
          have hcz110_5 := Zc BK180.out 5 (.int .u8 x181005_1) rfl
          have hcz110_6 := Zc BK180.out 6 (.int .u8 x181006_1) rfl
          have hcz110_7 := Zc BK180.out 7 (.string x181007_1) rfl
          have hfz110_0 := blk_frozen BK180.out 0
          have hfz110_1 := blk_frozen BK180.out 1
          have hfz110_2 := blk_frozen BK180.out 2
          have hfz110_3 := blk_frozen BK180.out 3
          have hfz110_4 := blk_frozen BK180.out 4
          have hfz110_5 := blk_frozen BK180.out 5
          have hfz110_6 := blk_frozen BK180.out 6
          have hfz110_7 := blk_frozen BK180.out 7
          have hnb111 := NB179_196.out
          have hnc111 := NB196_179.out
          have hcz112_0 := Zc BK179.out 0 (.int .u8 0) rfl
          have hcz112_1 := Zc BK179.out 1 (.int .u8 0) rfl
          have hcz112_2 := Zc BK179.out 2 (.int .u8 0) rfl
          have hcz112_3 := Zc BK179.out 3 (.int .i64 0) rfl
          have hcz112_4 := Zc BK179.out 4 (.int .u8 0) rfl
          have hcz112_5 := Zc BK179.out 5 (.int .u8 0) rfl
          have hcz112_6 := Zc BK179.out 6 (.int .u8 0) rfl
          have hcz112_7 := Zc BK179.out 7 (.string (⟨#[]⟩ : ByteArray)) rfl
          have hfz112_0 := blk_frozen BK179.out 0
          have hfz112_1 := blk_frozen BK179.out 1
          have hfz112_2 := blk_frozen BK179.out 2
          have hfz112_3 := blk_frozen BK179.out 3
          have hfz112_4 := blk_frozen BK179.out 4
          have hfz112_5 := blk_frozen BK179.out 5
          have hfz112_6 := blk_frozen BK179.out 6
          have hfz112_7 := blk_frozen BK179.out 7
          go_wp2
          refine bodyPost_ret (results_cell_row rfl _ _ gb179 48 #[.int .u8 ((t185) % 256), .int .u8 ((t190) % 256), .int .u8 ((t195) % 256), .int .i64 x181003_1, .int .u8 x181004_1, .int .u8 x181005_1, .int .u8 x181006_1, .string x181007_1] (0, 0) _ rfl (by (with_reducible repeat (first | refine blk_drewN ?_ _ | refine blk_drew ?_ | refine blk_alloc ?_ _)); refine blk_put (cs := #[.int .u8 ((t185) % 256), .int .u8 ((t190) % 256), .int .u8 ((t195) % 256), .int .i64 x181003_1, .int .u8 x181004_1, .int .u8 x181005_1, .int .u8 x181006_1, .string (⟨#[]⟩ : ByteArray)]) ?_ 7 _ rfl; (with_reducible repeat (first | refine blk_drewN ?_ _ | refine blk_drew ?_ | refine blk_alloc ?_ _)); refine blk_put (cs := #[.int .u8 ((t185) % 256), .int .u8 ((t190) % 256), .int .u8 ((t195) % 256), .int .i64 x181003_1, .int .u8 x181004_1, .int .u8 x181005_1, .int .u8 0, .string (⟨#[]⟩ : ByteArray)]) ?_ 6 _ rfl; (with_reducible repeat (first | refine blk_drewN ?_ _ | refine blk_drew ?_ | refine blk_alloc ?_ _)); refine blk_put (cs := #[.int .u8 ((t185) % 256), .int .u8 ((t190) % 256), .int .u8 ((t195) % 256), .int .i64 x181003_1, .int .u8 x181004_1, .int .u8 0, .int .u8 0, .string (⟨#[]⟩ : ByteArray)]) ?_ 5 _ rfl; (with_reducible repeat (first | refine blk_drewN ?_ _ | refine blk_drew ?_ | refine blk_alloc ?_ _)); refine blk_put (cs := #[.int .u8 ((t185) % 256), .int .u8 ((t190) % 256), .int .u8 ((t195) % 256), .int .i64 x181003_1, .int .u8 0, .int .u8 0, .int .u8 0, .string (⟨#[]⟩ : ByteArray)]) ?_ 4 _ rfl; (with_reducible repeat (first | refine blk_drewN ?_ _ | refine blk_drew ?_ | refine blk_alloc ?_ _)); refine blk_put (cs := #[.int .u8 ((t185) % 256), .int .u8 ((t190) % 256), .int .u8 ((t195) % 256), .int .i64 0, .int .u8 0, .int .u8 0, .int .u8 0, .string (⟨#[]⟩ : ByteArray)]) ?_ 3 _ rfl; (with_reducible repeat (first | refine blk_drewN ?_ _ | refine blk_drew ?_ | refine blk_alloc ?_ _)); refine blk_put (cs := #[.int .u8 ((t185) % 256), .int .u8 ((t190) % 256), .int .u8 0, .int .i64 0, .int .u8 0, .int .u8 0, .int .u8 0, .string (⟨#[]⟩ : ByteArray)]) ?_ 2 _ rfl; (with_reducible repeat (first | refine blk_drewN ?_ _ | refine blk_drew ?_ | refine blk_alloc ?_ _)); refine blk_put (cs := #[.int .u8 ((t185) % 256), .int .u8 0, .int .u8 0, .int .i64 0, .int .u8 0, .int .u8 0, .int .u8 0, .string (⟨#[]⟩ : ByteArray)]) ?_ 1 _ rfl; (with_reducible repeat (first | refine blk_drewN ?_ _ | refine blk_drew ?_ | refine blk_alloc ?_ _)); refine blk_put (cs := #[.int .u8 0, .int .u8 0, .int .u8 0, .int .i64 0, .int .u8 0, .int .u8 0, .int .u8 0, .string (⟨#[]⟩ : ByteArray)]) ?_ 0 _ rfl; exact Zk BK179.out) Tryz.underlying48 rfl (by kernel_rfl)) rfl ?_
          exact ⟨Ze, Zb3 GE179.out GE180.out GE196.out⟩
    ·rw [if_neg c15] at H
     exact absurd H (by simp)
   ·rw [if_neg c12] at H
    exact absurd H (by simp)
  ·rw [if_neg c9] at H
   exact absurd H (by simp)
end Go.Proofs.YtfpcideomanbbaaGreatDoor.PA
end
section
namespace Go.Proofs.YtfpcideomanbbaaGreatDoor.PA
open Go.RowKit Go.Proofs.YtfpcideomanbbaaGreatDoorW.PrintWords Go.Proofs.YtfpcideomanbbaaGreatDoorW.PrintLast Go.Proofs.YtfpcideomanbbaaGreatDoorW.PrintMore
attribute [local go_sem] max2_int min2_int max_two min_two max_three min_three max_four min_four
set_option linter.unusedVariables false
set_option linter.unusedSimpArgs false
def gambitref05_Parse.f (k : Nat) (a0 : ByteArray) : Option (Int × Int × Int × Int × Int × Int × Int × ByteArray × Int) := if (a0.size : Int) > 80 then (some (0, 0, 0, 0, 0, 0, 0, (⟨#[]⟩ : ByteArray), 3)) else ((gambitref05_Cut.f k a0).bind fun t220 => ((gambitref05_read.f k t220).bind fun bt223 => ((gambitref05_Print.f k bt223.1 bt223.2.1 bt223.2.2.1 bt223.2.2.2.1 bt223.2.2.2.2.1 bt223.2.2.2.2.2.1 bt223.2.2.2.2.2.2.1 bt223.2.2.2.2.2.2.2).bind fun bt232 => (if bt232.2 = 0 then (if bt232.1.toList = a0.toList then (some (bt223.1, bt223.2.1, bt223.2.2.1, bt223.2.2.2.1, bt223.2.2.2.2.1, bt223.2.2.2.2.2.1, bt223.2.2.2.2.2.2.1, bt223.2.2.2.2.2.2.2, 0)) else (some (0, 0, 0, 0, 0, 0, 0, (⟨#[]⟩ : ByteArray), 150))) else (some (0, 0, 0, 0, 0, 0, 0, (⟨#[]⟩ : ByteArray), 150))))))
theorem gambitref05_Parse.mono : ∀ a0 k, LeO (gambitref05_Parse.f k a0) (gambitref05_Parse.f (k + 1) a0) := by
 intro a0 k
 unfold gambitref05_Parse.f
 repeat' first
   | (with_reducible exact gambitref05_Cut.mono _ _)
   | (with_reducible exact gambitref05_Print.mono _ _ _ _ _ _ _ _ _)
   | (with_reducible exact gambitref05_read.mono _ _)
   | (with_reducible exact LeO.refl _)
   | (with_reducible exact LeO.none _)
   | (with_reducible refine LeO.ite ?_ ?_)
   | (with_reducible refine LeO.bind ?_ (fun _ => ?_))
   | exact gambitref05_Cut.mono _ _
   | exact gambitref05_Print.mono _ _ _ _ _ _ _ _ _
   | exact gambitref05_read.mono _ _
   | exact LeO.none _
   | refine LeO.ite ?_ ?_
   | refine LeO.bind ?_ (fun _ => ?_)
set_option maxHeartbeats 8000000 in
set_option maxRecDepth 100000 in
theorem gambitref05_Parse.calls (k : Nat) (a0 : ByteArray) (r1 : Int) (r2 : Int) (r3 : Int) (r4 : Int) (r5 : Int) (r6 : Int) (r7 : Int) (r8 : ByteArray) (r9 : Int) (w : World) (h : gambitref05_Parse.f k a0 = some (r1, r2, r3, r4, r5, r6, r7, r8, r9)) :
  Calls Tryz.prog 21 #[.string a0] w fun e w' => e = .returned (.tuple #[.agg #[.int .u8 r1, .int .u8 r2, .int .u8 r3, .int .i64 r4, .int .u8 r5, .int .u8 r6, .int .u8 r7, .string r8], .int .i64 r9]) ∧ Below w.heap.size w w' := by
 have hu48 := Tryz.underlying48
 have HB := Aside0.mk (Below.refl w.heap.size w)
 have H : (if (a0.size : Int) > 80 then (some (0, 0, 0, 0, 0, 0, 0, (⟨#[]⟩ : ByteArray), 3)) else ((gambitref05_Cut.f k a0).bind fun t220 => ((gambitref05_read.f k t220).bind fun bt223 => ((gambitref05_Print.f k bt223.1 bt223.2.1 bt223.2.2.1 bt223.2.2.2.1 bt223.2.2.2.2.1 bt223.2.2.2.2.2.1 bt223.2.2.2.2.2.2.1 bt223.2.2.2.2.2.2.2).bind fun bt232 => (if bt232.2 = 0 then (if bt232.1.toList = a0.toList then (some (bt223.1, bt223.2.1, bt223.2.2.1, bt223.2.2.2.1, bt223.2.2.2.2.1, bt223.2.2.2.2.2.1, bt223.2.2.2.2.2.2.1, bt223.2.2.2.2.2.2.2, 0)) else (some (0, 0, 0, 0, 0, 0, 0, (⟨#[]⟩ : ByteArray), 150))) else (some (0, 0, 0, 0, 0, 0, 0, (⟨#[]⟩ : ByteArray), 150))))))) = some (r1, r2, r3, r4, r5, r6, r7, r8, r9) := h
 clear h
 by_cases c2 : (a0.size : Int) > 80
 ·rw [if_pos c2] at H
  have c2b0 : decide (80 < (a0.size : Int)) = true := decide_eq_true c2
  have c2b1 : decide (80 < a0.size) = true := decide_eq_true (by omega)
  clear c2
  simp only [Option.some.injEq, Prod.mk.injEq] at H
  obtain ⟨rfl, rfl, rfl, rfl, rfl, rfl, rfl, rfl, rfl⟩ := H
  go_enter Tryz.func21, Tryz.ntmps21
  go_wp2_with (first | ((with_reducible refine gate_dst (N := 2) rfl ?_); refine box_event ?hg (N := 2) ?hd (cs := #[.int .u8 0, .int .u8 0, .int .u8 0, .int .i64 0, .int .u8 0, .int .u8 0, .int .u8 0, .string (⟨#[]⟩ : ByteArray)]) (t := 48) ?hr ?_; (case hd => rfl); (case hg => rfl); (case hr => first | (go_simp; done) | (go_simp; rfl)); intro gb219 hg w3 hbox hb; have BK219 := Aside0.mk (hbox); have GW219 := Aside0.mk ((by rw [hg]; exact (below_size Zb) : w.heap.size ≤ gb219)); have GE219 := Aside0.mk ((by rw [hg]; exact (below_size Zb) : w.heap.size ≤ gb219)); replace HB := Aside0.mk (below_step Zb hb); clear hb hbox hg; have hcz4_0 := Zc BK219.out 0 (.int .u8 0) rfl; have hcz4_1 := Zc BK219.out 1 (.int .u8 0) rfl; have hcz4_2 := Zc BK219.out 2 (.int .u8 0) rfl; have hcz4_3 := Zc BK219.out 3 (.int .i64 0) rfl; have hcz4_4 := Zc BK219.out 4 (.int .u8 0) rfl; have hcz4_5 := Zc BK219.out 5 (.int .u8 0) rfl; have hcz4_6 := Zc BK219.out 6 (.int .u8 0) rfl; have hcz4_7 := Zc BK219.out 7 (.string (⟨#[]⟩ : ByteArray)) rfl; have hfz4_0 := blk_frozen BK219.out 0; have hfz4_1 := blk_frozen BK219.out 1; have hfz4_2 := blk_frozen BK219.out 2; have hfz4_3 := blk_frozen BK219.out 3; have hfz4_4 := blk_frozen BK219.out 4; have hfz4_5 := blk_frozen BK219.out 5; have hfz4_6 := blk_frozen BK219.out 6; have hfz4_7 := blk_frozen BK219.out 7))
  refine bodyPost_ret (results_ct rfl _ _ gb219 48 #[.int .u8 0, .int .u8 0, .int .u8 0, .int .i64 0, .int .u8 0, .int .u8 0, .int .u8 0, .string (⟨#[]⟩ : ByteArray)] (0, 0) _ rfl (by (with_reducible repeat (first | refine blk_drewN ?_ _ | refine blk_drew ?_ | refine blk_alloc ?_ _)); refine blk_put (cs := #[.int .u8 0, .int .u8 0, .int .u8 0, .int .i64 0, .int .u8 0, .int .u8 0, .int .u8 0, .string (⟨#[]⟩ : ByteArray)]) ?_ 7 _ rfl; (with_reducible repeat (first | refine blk_drewN ?_ _ | refine blk_drew ?_ | refine blk_alloc ?_ _)); refine blk_put (cs := #[.int .u8 0, .int .u8 0, .int .u8 0, .int .i64 0, .int .u8 0, .int .u8 0, .int .u8 0, .string (⟨#[]⟩ : ByteArray)]) ?_ 6 _ rfl; (with_reducible repeat (first | refine blk_drewN ?_ _ | refine blk_drew ?_ | refine blk_alloc ?_ _)); refine blk_put (cs := #[.int .u8 0, .int .u8 0, .int .u8 0, .int .i64 0, .int .u8 0, .int .u8 0, .int .u8 0, .string (⟨#[]⟩ : ByteArray)]) ?_ 5 _ rfl; (with_reducible repeat (first | refine blk_drewN ?_ _ | refine blk_drew ?_ | refine blk_alloc ?_ _)); refine blk_put (cs := #[.int .u8 0, .int .u8 0, .int .u8 0, .int .i64 0, .int .u8 0, .int .u8 0, .int .u8 0, .string (⟨#[]⟩ : ByteArray)]) ?_ 4 _ rfl; (with_reducible repeat (first | refine blk_drewN ?_ _ | refine blk_drew ?_ | refine blk_alloc ?_ _)); refine blk_put (cs := #[.int .u8 0, .int .u8 0, .int .u8 0, .int .i64 0, .int .u8 0, .int .u8 0, .int .u8 0, .string (⟨#[]⟩ : ByteArray)]) ?_ 3 _ rfl; (with_reducible repeat (first | refine blk_drewN ?_ _ | refine blk_drew ?_ | refine blk_alloc ?_ _)); refine blk_put (cs := #[.int .u8 0, .int .u8 0, .int .u8 0, .int .i64 0, .int .u8 0, .int .u8 0, .int .u8 0, .string (⟨#[]⟩ : ByteArray)]) ?_ 2 _ rfl; (with_reducible repeat (first | refine blk_drewN ?_ _ | refine blk_drew ?_ | refine blk_alloc ?_ _)); refine blk_put (cs := #[.int .u8 0, .int .u8 0, .int .u8 0, .int .i64 0, .int .u8 0, .int .u8 0, .int .u8 0, .string (⟨#[]⟩ : ByteArray)]) ?_ 1 _ rfl; (with_reducible repeat (first | refine blk_drewN ?_ _ | refine blk_drew ?_ | refine blk_alloc ?_ _)); refine blk_put (cs := #[.int .u8 0, .int .u8 0, .int .u8 0, .int .i64 0, .int .u8 0, .int .u8 0, .int .u8 0, .string (⟨#[]⟩ : ByteArray)]) ?_ 0 _ rfl; exact Zk BK219.out) Tryz.underlying48 rfl (by kernel_rfl)) rfl ?_
  exact ⟨Ze, Zb1 GE219.out⟩
 ·rw [if_neg c2] at H
  have c2b0 : decide (80 < (a0.size : Int)) = false := decide_eq_false c2
  have c2b1 : decide (80 < a0.size) = false := decide_eq_false (by omega)
  clear c2
  replace H := Option.bind_eq_some_iff.mp H
  obtain ⟨t220, A50, H⟩ := H
  replace H : ((gambitref05_read.f k t220).bind fun bt223 => ((gambitref05_Print.f k bt223.1 bt223.2.1 bt223.2.2.1 bt223.2.2.2.1 bt223.2.2.2.2.1 bt223.2.2.2.2.2.1 bt223.2.2.2.2.2.2.1 bt223.2.2.2.2.2.2.2).bind fun bt232 => (if bt232.2 = 0 then (if bt232.1.toList = a0.toList then (some (bt223.1, bt223.2.1, bt223.2.2.1, bt223.2.2.2.1, bt223.2.2.2.2.1, bt223.2.2.2.2.2.1, bt223.2.2.2.2.2.2.1, bt223.2.2.2.2.2.2.2, 0)) else (some (0, 0, 0, 0, 0, 0, 0, (⟨#[]⟩ : ByteArray), 150))) else (some (0, 0, 0, 0, 0, 0, 0, (⟨#[]⟩ : ByteArray), 150))))) = some (r1, r2, r3, r4, r5, r6, r7, r8, r9) := H
  have A5 := Aside0.mk A50
  clear A50
  replace H := Option.bind_eq_some_iff.mp H
  obtain ⟨⟨t223, t224, t225, t226, t227, t228, t229, t230⟩, A60, H⟩ := H
  replace H : ((gambitref05_Print.f k t223 t224 t225 t226 t227 t228 t229 t230).bind fun bt232 => (if bt232.2 = 0 then (if bt232.1.toList = a0.toList then (some (t223, t224, t225, t226, t227, t228, t229, t230, 0)) else (some (0, 0, 0, 0, 0, 0, 0, (⟨#[]⟩ : ByteArray), 150))) else (some (0, 0, 0, 0, 0, 0, 0, (⟨#[]⟩ : ByteArray), 150)))) = some (r1, r2, r3, r4, r5, r6, r7, r8, r9) := H
  have A6 := Aside0.mk A60
  clear A60
  replace H := Option.bind_eq_some_iff.mp H
  obtain ⟨⟨t232, t233⟩, A70, H⟩ := H
  replace H : (if t233 = 0 then (if t232.toList = a0.toList then (some (t223, t224, t225, t226, t227, t228, t229, t230, 0)) else (some (0, 0, 0, 0, 0, 0, 0, (⟨#[]⟩ : ByteArray), 150))) else (some (0, 0, 0, 0, 0, 0, 0, (⟨#[]⟩ : ByteArray), 150))) = some (r1, r2, r3, r4, r5, r6, r7, r8, r9) := H
  have A7 := Aside0.mk A70
  clear A70
  by_cases c8 : t233 = 0
  ·rw [if_pos c8] at H
   have c8b0 : (t233 == 0) = true := beq_iff_eq.mpr c8
   have c8b1 : (t233 != 0) = false := bne_eq_false_iff_eq.mpr c8
   clear c8
   by_cases c9 : t232.toList = a0.toList
   ·rw [if_pos c9] at H
    have c9b0 : (t232.toList == a0.toList) = true := beq_iff_eq.mpr c9
    have c9b1 : (t232.toList != a0.toList) = false := bne_eq_false_iff_eq.mpr c9
    clear c9
    simp only [Option.some.injEq, Prod.mk.injEq] at H
    obtain ⟨rfl, rfl, rfl, rfl, rfl, rfl, rfl, rfl, rfl⟩ := H
    go_enter Tryz.func21, Tryz.ntmps21
    go_wp2_with (first | ((with_reducible refine gate_dst (N := 2) rfl ?_); refine box_event ?hg (N := 2) ?hd (cs := #[.int .u8 0, .int .u8 0, .int .u8 0, .int .i64 0, .int .u8 0, .int .u8 0, .int .u8 0, .string (⟨#[]⟩ : ByteArray)]) (t := 48) ?hr ?_; (case hd => rfl); (case hg => rfl); (case hr => first | (go_simp; done) | (go_simp; rfl)); intro gb219 hg w10 hbox hb; have BK219 := Aside0.mk (hbox); have GW219 := Aside0.mk ((by rw [hg]; exact (below_size Zb) : w.heap.size ≤ gb219)); have GE219 := Aside0.mk ((by rw [hg]; exact (below_size Zb) : w.heap.size ≤ gb219)); replace HB := Aside0.mk (below_step Zb hb); clear hb hbox hg) | ((with_reducible refine gate_callee (f := 59) rfl ?_); refine goesL_ (some 12) rfl rfl Tryz.func59 (by kernel_rfl) rfl #[.string a0] rfl Zl ?_; (with_reducible refine (gambitref05_Cut.calls k a0 t220 _ A5.out).mono ?_); rintro e w11 ⟨v221, rfl, ho0, hb⟩; refine ⟨_, rfl, ?_⟩; have HO222 := Aside0.mk (Kd.R_lower ho0 (below_size (Zb1 GE219.out))); replace BK219 := Aside0.mk (blk_below (g := gb219) (o := .cells #[.int .u8 0, .int .u8 0, .int .u8 0, .int .i64 0, .int .u8 0, .int .u8 0, .int .u8 0, .string (⟨#[]⟩ : ByteArray)] 48 (0, 0)) (Zk BK219.out) hb); replace HB := Aside0.mk (below_step (Zb1 GE219.out) hb); (try clear hb); (try clear hb2); (try clear hk); (try clear hi); (try clear ho0); obtain ⟨Ao12, co12, eo12⟩ := Kd.R_slice HO222.out; subst eo12) | ((with_reducible refine gate_callee (f := 58) rfl ?_); refine goesL_ (some 13) rfl rfl Tryz.func58 (by kernel_rfl) rfl #[.slice Ao12 t220.length co12] rfl Zl ?_; (with_reducible refine (gambitref05_read.calls k _ _ t220 t223 t224 t225 t226 t227 t228 t229 t230 _ ?side1 ?side2 A6.out).mono ?_); (case side1 => repeat (first | exact (Kd.R_reads' HO222.out).2.2 | (with_reducible refine Kd.C_alloc ?_ _) | (with_reducible refine Kd.C_drewN ?_ _) | (with_reducible refine Kd.C_drew ?_))); (case side2 => exact (Kd.R_reads' HO222.out).2.1); rintro e w13 ⟨rfl, hb⟩; refine ⟨_, rfl, ?_⟩; replace HO222 := Aside0.mk (Kd.R_below (Zq HO222.out) hb); replace BK219 := Aside0.mk (blk_below (g := gb219) (o := .cells #[.int .u8 0, .int .u8 0, .int .u8 0, .int .i64 0, .int .u8 0, .int .u8 0, .int .u8 0, .string (⟨#[]⟩ : ByteArray)] 48 (0, 0)) (Zk BK219.out) hb); replace HB := Aside0.mk (below_step (Zb1 GE219.out) hb); (try clear hb); (try clear hb2); (try clear hk); (try clear hi)) | ((with_reducible refine gate_dst (N := 4) rfl ?_); refine box_event ?hg (N := 4) ?hd (cs := #[.int .u8 0, .int .u8 0, .int .u8 0, .int .i64 0, .int .u8 0, .int .u8 0, .int .u8 0, .string (⟨#[]⟩ : ByteArray)]) (t := 48) ?hr ?_; (case hd => rfl); (case hg => rfl); (case hr => first | (go_simp; done) | (go_simp; rfl)); intro gb231 hg w14 hbox hb; replace HO222 := Aside0.mk (Kd.R_below (Zq HO222.out) hb); have BK231 := Aside0.mk (hbox); have GW231 := Aside0.mk ((by rw [hg]; exact (below_size (Zb1 GE219.out)) : w.heap.size ≤ gb231)); have GE231 := Aside0.mk ((by rw [hg]; exact (below_size (Zb1 GE219.out)) : w.heap.size ≤ gb231)); replace HB := Aside0.mk (below_step (Zb1 GE219.out) hb); have NB219_231 := Aside0.mk ((by rw [hg]; exact Nat.ne_of_lt (blk_lt (g := gb219) (o := .cells #[.int .u8 0, .int .u8 0, .int .u8 0, .int .i64 0, .int .u8 0, .int .u8 0, .int .u8 0, .string (⟨#[]⟩ : ByteArray)] 48 (0, 0)) (Zk BK219.out)) : gb219 ≠ gb231)); have NB231_219 := Aside0.mk ((by rw [hg]; exact Nat.ne_of_gt (blk_lt (g := gb219) (o := .cells #[.int .u8 0, .int .u8 0, .int .u8 0, .int .i64 0, .int .u8 0, .int .u8 0, .int .u8 0, .string (⟨#[]⟩ : ByteArray)] 48 (0, 0)) (Zk BK219.out)) : gb231 ≠ gb219)); replace BK219 := Aside0.mk (blk_below (g := gb219) (o := .cells #[.int .u8 0, .int .u8 0, .int .u8 0, .int .i64 0, .int .u8 0, .int .u8 0, .int .u8 0, .string (⟨#[]⟩ : ByteArray)] 48 (0, 0)) (Zk BK219.out) hb); clear hb hbox hg; have hnb15 := NB231_219.out; have hnc15 := NB219_231.out; have hcz16_0 := Zc BK231.out 0 (.int .u8 0) rfl; have hcz16_1 := Zc BK231.out 1 (.int .u8 0) rfl; have hcz16_2 := Zc BK231.out 2 (.int .u8 0) rfl; have hcz16_3 := Zc BK231.out 3 (.int .i64 0) rfl; have hcz16_4 := Zc BK231.out 4 (.int .u8 0) rfl; have hcz16_5 := Zc BK231.out 5 (.int .u8 0) rfl; have hcz16_6 := Zc BK231.out 6 (.int .u8 0) rfl; have hcz16_7 := Zc BK231.out 7 (.string (⟨#[]⟩ : ByteArray)) rfl; have hfz16_0 := blk_frozen BK231.out 0; have hfz16_1 := blk_frozen BK231.out 1; have hfz16_2 := blk_frozen BK231.out 2; have hfz16_3 := blk_frozen BK231.out 3; have hfz16_4 := blk_frozen BK231.out 4; have hfz16_5 := blk_frozen BK231.out 5; have hfz16_6 := blk_frozen BK231.out 6; have hfz16_7 := blk_frozen BK231.out 7) | ((with_reducible refine gate_callee (f := 42) rfl ?_); refine goesL_ (some 16) rfl rfl Tryz.func42 (by kernel_rfl) rfl #[.agg #[.int .u8 t223, .int .u8 t224, .int .u8 t225, .int .i64 t226, .int .u8 t227, .int .u8 t228, .int .u8 t229, .string t230]] rfl Zl ?_; (with_reducible refine (gambitref05_Print.calls k t223 t224 t225 t226 t227 t228 t229 t230 t232 t233 _ A7.out).mono ?_); rintro e w17 ⟨rfl, hb⟩; refine ⟨_, rfl, ?_⟩; replace HO222 := Aside0.mk (Kd.R_below (by (with_reducible repeat (first | apply Kd.R_alloc | apply Kd.R_drewN | apply Kd.R_drew)); exact (Kd.R_mono (Kd.R_far (p := ⟨gb231, 7, none⟩) (Kd.R_far (p := ⟨gb231, 6, none⟩) (Kd.R_far (p := ⟨gb231, 5, none⟩) (Kd.R_far (p := ⟨gb231, 4, none⟩) (Kd.R_far (p := ⟨gb231, 3, none⟩) (Kd.R_far (p := ⟨gb231, 2, none⟩) (Kd.R_far (p := ⟨gb231, 1, none⟩) (Kd.R_far (p := ⟨gb231, 0, none⟩) (Kd.R_types HO222.out BK231.out (by decide)) (fun _ hk => by exact Zh) (.int .u8 t223)) (fun _ hk => by exact Zh) (.int .u8 t224)) (fun _ hk => by exact Zh) (.int .u8 t225)) (fun _ hk => by exact Zh) (.int .i64 t226)) (fun _ hk => by exact Zh) (.int .u8 t227)) (fun _ hk => by exact Zh) (.int .u8 t228)) (fun _ hk => by exact Zh) (.int .u8 t229)) (fun _ hk => by exact Zh) (.string t230)) (fun _ h_ => h_.1))) hb); replace BK219 := Aside0.mk (blk_below (g := gb219) (o := .cells #[.int .u8 0, .int .u8 0, .int .u8 0, .int .i64 0, .int .u8 0, .int .u8 0, .int .u8 0, .string (⟨#[]⟩ : ByteArray)] 48 (0, 0)) (by (with_reducible repeat (first | refine blk_drewN ?_ _ | refine blk_drew ?_ | refine blk_alloc ?_ _)); refine blk_far ?_ NB219_231.out _; (with_reducible repeat (first | refine blk_drewN ?_ _ | refine blk_drew ?_ | refine blk_alloc ?_ _)); refine blk_far ?_ NB219_231.out _; (with_reducible repeat (first | refine blk_drewN ?_ _ | refine blk_drew ?_ | refine blk_alloc ?_ _)); refine blk_far ?_ NB219_231.out _; (with_reducible repeat (first | refine blk_drewN ?_ _ | refine blk_drew ?_ | refine blk_alloc ?_ _)); refine blk_far ?_ NB219_231.out _; (with_reducible repeat (first | refine blk_drewN ?_ _ | refine blk_drew ?_ | refine blk_alloc ?_ _)); refine blk_far ?_ NB219_231.out _; (with_reducible repeat (first | refine blk_drewN ?_ _ | refine blk_drew ?_ | refine blk_alloc ?_ _)); refine blk_far ?_ NB219_231.out _; (with_reducible repeat (first | refine blk_drewN ?_ _ | refine blk_drew ?_ | refine blk_alloc ?_ _)); refine blk_far ?_ NB219_231.out _; (with_reducible repeat (first | refine blk_drewN ?_ _ | refine blk_drew ?_ | refine blk_alloc ?_ _)); refine blk_far ?_ NB219_231.out _; exact Zk BK219.out) hb); replace BK231 := Aside0.mk (blk_below (g := gb231) (o := .cells #[.int .u8 t223, .int .u8 t224, .int .u8 t225, .int .i64 t226, .int .u8 t227, .int .u8 t228, .int .u8 t229, .string t230] 48 (0, 0)) (by (with_reducible repeat (first | refine blk_drewN ?_ _ | refine blk_drew ?_ | refine blk_alloc ?_ _)); refine blk_put (cs := #[.int .u8 t223, .int .u8 t224, .int .u8 t225, .int .i64 t226, .int .u8 t227, .int .u8 t228, .int .u8 t229, .string (⟨#[]⟩ : ByteArray)]) ?_ 7 _ rfl; (with_reducible repeat (first | refine blk_drewN ?_ _ | refine blk_drew ?_ | refine blk_alloc ?_ _)); refine blk_put (cs := #[.int .u8 t223, .int .u8 t224, .int .u8 t225, .int .i64 t226, .int .u8 t227, .int .u8 t228, .int .u8 0, .string (⟨#[]⟩ : ByteArray)]) ?_ 6 _ rfl; (with_reducible repeat (first | refine blk_drewN ?_ _ | refine blk_drew ?_ | refine blk_alloc ?_ _)); refine blk_put (cs := #[.int .u8 t223, .int .u8 t224, .int .u8 t225, .int .i64 t226, .int .u8 t227, .int .u8 0, .int .u8 0, .string (⟨#[]⟩ : ByteArray)]) ?_ 5 _ rfl; (with_reducible repeat (first | refine blk_drewN ?_ _ | refine blk_drew ?_ | refine blk_alloc ?_ _)); refine blk_put (cs := #[.int .u8 t223, .int .u8 t224, .int .u8 t225, .int .i64 t226, .int .u8 0, .int .u8 0, .int .u8 0, .string (⟨#[]⟩ : ByteArray)]) ?_ 4 _ rfl; (with_reducible repeat (first | refine blk_drewN ?_ _ | refine blk_drew ?_ | refine blk_alloc ?_ _)); refine blk_put (cs := #[.int .u8 t223, .int .u8 t224, .int .u8 t225, .int .i64 0, .int .u8 0, .int .u8 0, .int .u8 0, .string (⟨#[]⟩ : ByteArray)]) ?_ 3 _ rfl; (with_reducible repeat (first | refine blk_drewN ?_ _ | refine blk_drew ?_ | refine blk_alloc ?_ _)); refine blk_put (cs := #[.int .u8 t223, .int .u8 t224, .int .u8 0, .int .i64 0, .int .u8 0, .int .u8 0, .int .u8 0, .string (⟨#[]⟩ : ByteArray)]) ?_ 2 _ rfl; (with_reducible repeat (first | refine blk_drewN ?_ _ | refine blk_drew ?_ | refine blk_alloc ?_ _)); refine blk_put (cs := #[.int .u8 t223, .int .u8 0, .int .u8 0, .int .i64 0, .int .u8 0, .int .u8 0, .int .u8 0, .string (⟨#[]⟩ : ByteArray)]) ?_ 1 _ rfl; (with_reducible repeat (first | refine blk_drewN ?_ _ | refine blk_drew ?_ | refine blk_alloc ?_ _)); refine blk_put (cs := #[.int .u8 0, .int .u8 0, .int .u8 0, .int .i64 0, .int .u8 0, .int .u8 0, .int .u8 0, .string (⟨#[]⟩ : ByteArray)]) ?_ 0 _ rfl; exact Zk BK231.out) hb); replace HB := Aside0.mk (below_step (Zb2 GE219.out GE231.out) hb); (try clear hb); (try clear hb2); (try clear hk); (try clear hi); have hcz18_0 := Zc BK231.out 0 (.int .u8 t223) rfl; have hcz18_1 := Zc BK231.out 1 (.int .u8 t224) rfl; have hcz18_2 := Zc BK231.out 2 (.int .u8 t225) rfl; have hcz18_3 := Zc BK231.out 3 (.int .i64 t226) rfl; have hcz18_4 := Zc BK231.out 4 (.int .u8 t227) rfl; have hcz18_5 := Zc BK231.out 5 (.int .u8 t228) rfl; have hcz18_6 := Zc BK231.out 6 (.int .u8 t229) rfl; have hcz18_7 := Zc BK231.out 7 (.string t230) rfl; have hfz18_0 := blk_frozen BK231.out 0; have hfz18_1 := blk_frozen BK231.out 1; have hfz18_2 := blk_frozen BK231.out 2; have hfz18_3 := blk_frozen BK231.out 3; have hfz18_4 := blk_frozen BK231.out 4; have hfz18_5 := blk_frozen BK231.out 5; have hfz18_6 := blk_frozen BK231.out 6; have hfz18_7 := blk_frozen BK231.out 7; have hcz19_0 := Zc BK219.out 0 (.int .u8 0) rfl; have hcz19_1 := Zc BK219.out 1 (.int .u8 0) rfl; have hcz19_2 := Zc BK219.out 2 (.int .u8 0) rfl; have hcz19_3 := Zc BK219.out 3 (.int .i64 0) rfl; have hcz19_4 := Zc BK219.out 4 (.int .u8 0) rfl; have hcz19_5 := Zc BK219.out 5 (.int .u8 0) rfl; have hcz19_6 := Zc BK219.out 6 (.int .u8 0) rfl; have hcz19_7 := Zc BK219.out 7 (.string (⟨#[]⟩ : ByteArray)) rfl; have hfz19_0 := blk_frozen BK219.out 0; have hfz19_1 := blk_frozen BK219.out 1; have hfz19_2 := blk_frozen BK219.out 2; have hfz19_3 := blk_frozen BK219.out 3; have hfz19_4 := blk_frozen BK219.out 4; have hfz19_5 := blk_frozen BK219.out 5; have hfz19_6 := blk_frozen BK219.out 6; have hfz19_7 := blk_frozen BK219.out 7))
    refine bodyPost_ret (results_ct rfl _ _ gb219 48 #[.int .u8 t223, .int .u8 t224, .int .u8 t225, .int .i64 t226, .int .u8 t227, .int .u8 t228, .int .u8 t229, .string t230] (0, 0) _ rfl (by (with_reducible repeat (first | refine blk_drewN ?_ _ | refine blk_drew ?_ | refine blk_alloc ?_ _)); refine blk_put (cs := #[.int .u8 t223, .int .u8 t224, .int .u8 t225, .int .i64 t226, .int .u8 t227, .int .u8 t228, .int .u8 t229, .string (⟨#[]⟩ : ByteArray)]) ?_ 7 _ rfl; (with_reducible repeat (first | refine blk_drewN ?_ _ | refine blk_drew ?_ | refine blk_alloc ?_ _)); refine blk_put (cs := #[.int .u8 t223, .int .u8 t224, .int .u8 t225, .int .i64 t226, .int .u8 t227, .int .u8 t228, .int .u8 0, .string (⟨#[]⟩ : ByteArray)]) ?_ 6 _ rfl; (with_reducible repeat (first | refine blk_drewN ?_ _ | refine blk_drew ?_ | refine blk_alloc ?_ _)); refine blk_put (cs := #[.int .u8 t223, .int .u8 t224, .int .u8 t225, .int .i64 t226, .int .u8 t227, .int .u8 0, .int .u8 0, .string (⟨#[]⟩ : ByteArray)]) ?_ 5 _ rfl; (with_reducible repeat (first | refine blk_drewN ?_ _ | refine blk_drew ?_ | refine blk_alloc ?_ _)); refine blk_put (cs := #[.int .u8 t223, .int .u8 t224, .int .u8 t225, .int .i64 t226, .int .u8 0, .int .u8 0, .int .u8 0, .string (⟨#[]⟩ : ByteArray)]) ?_ 4 _ rfl; (with_reducible repeat (first | refine blk_drewN ?_ _ | refine blk_drew ?_ | refine blk_alloc ?_ _)); refine blk_put (cs := #[.int .u8 t223, .int .u8 t224, .int .u8 t225, .int .i64 0, .int .u8 0, .int .u8 0, .int .u8 0, .string (⟨#[]⟩ : ByteArray)]) ?_ 3 _ rfl; (with_reducible repeat (first | refine blk_drewN ?_ _ | refine blk_drew ?_ | refine blk_alloc ?_ _)); refine blk_put (cs := #[.int .u8 t223, .int .u8 t224, .int .u8 0, .int .i64 0, .int .u8 0, .int .u8 0, .int .u8 0, .string (⟨#[]⟩ : ByteArray)]) ?_ 2 _ rfl; (with_reducible repeat (first | refine blk_drewN ?_ _ | refine blk_drew ?_ | refine blk_alloc ?_ _)); refine blk_put (cs := #[.int .u8 t223, .int .u8 0, .int .u8 0, .int .i64 0, .int .u8 0, .int .u8 0, .int .u8 0, .string (⟨#[]⟩ : ByteArray)]) ?_ 1 _ rfl; (with_reducible repeat (first | refine blk_drewN ?_ _ | refine blk_drew ?_ | refine blk_alloc ?_ _)); refine blk_put (cs := #[.int .u8 0, .int .u8 0, .int .u8 0, .int .i64 0, .int .u8 0, .int .u8 0, .int .u8 0, .string (⟨#[]⟩ : ByteArray)]) ?_ 0 _ rfl; exact Zk BK219.out) Tryz.underlying48 rfl (by kernel_rfl)) rfl ?_
    exact ⟨Ze, Zb2 GE219.out GE231.out⟩
   ·rw [if_neg c9] at H
    have c9b0 : (t232.toList == a0.toList) = false := beq_eq_false_iff_ne.mpr c9
    have c9b1 : (t232.toList != a0.toList) = true := bne_iff_ne.mpr c9
    simp only [Option.some.injEq, Prod.mk.injEq] at H
    obtain ⟨rfl, rfl, rfl, rfl, rfl, rfl, rfl, rfl, rfl⟩ := H
    go_enter Tryz.func21, Tryz.ntmps21
    go_wp2_with (first | ((with_reducible refine gate_dst (N := 2) rfl ?_); refine box_event ?hg (N := 2) ?hd (cs := #[.int .u8 0, .int .u8 0, .int .u8 0, .int .i64 0, .int .u8 0, .int .u8 0, .int .u8 0, .string (⟨#[]⟩ : ByteArray)]) (t := 48) ?hr ?_; (case hd => rfl); (case hg => rfl); (case hr => first | (go_simp; done) | (go_simp; rfl)); intro gb219 hg w20 hbox hb; have BK219 := Aside0.mk (hbox); have GW219 := Aside0.mk ((by rw [hg]; exact (below_size Zb) : w.heap.size ≤ gb219)); have GE219 := Aside0.mk ((by rw [hg]; exact (below_size Zb) : w.heap.size ≤ gb219)); replace HB := Aside0.mk (below_step Zb hb); clear hb hbox hg) | ((with_reducible refine gate_callee (f := 59) rfl ?_); refine goesL_ (some 12) rfl rfl Tryz.func59 (by kernel_rfl) rfl #[.string a0] rfl Zl ?_; (with_reducible refine (gambitref05_Cut.calls k a0 t220 _ A5.out).mono ?_); rintro e w21 ⟨v221, rfl, ho0, hb⟩; refine ⟨_, rfl, ?_⟩; have HO222 := Aside0.mk (Kd.R_lower ho0 (below_size (Zb1 GE219.out))); replace BK219 := Aside0.mk (blk_below (g := gb219) (o := .cells #[.int .u8 0, .int .u8 0, .int .u8 0, .int .i64 0, .int .u8 0, .int .u8 0, .int .u8 0, .string (⟨#[]⟩ : ByteArray)] 48 (0, 0)) (Zk BK219.out) hb); replace HB := Aside0.mk (below_step (Zb1 GE219.out) hb); (try clear hb); (try clear hb2); (try clear hk); (try clear hi); (try clear ho0); obtain ⟨Ao22, co22, eo22⟩ := Kd.R_slice HO222.out; subst eo22) | ((with_reducible refine gate_callee (f := 58) rfl ?_); refine goesL_ (some 13) rfl rfl Tryz.func58 (by kernel_rfl) rfl #[.slice Ao22 t220.length co22] rfl Zl ?_; (with_reducible refine (gambitref05_read.calls k _ _ t220 t223 t224 t225 t226 t227 t228 t229 t230 _ ?side1 ?side2 A6.out).mono ?_); (case side1 => repeat (first | exact (Kd.R_reads' HO222.out).2.2 | (with_reducible refine Kd.C_alloc ?_ _) | (with_reducible refine Kd.C_drewN ?_ _) | (with_reducible refine Kd.C_drew ?_))); (case side2 => exact (Kd.R_reads' HO222.out).2.1); rintro e w23 ⟨rfl, hb⟩; refine ⟨_, rfl, ?_⟩; replace HO222 := Aside0.mk (Kd.R_below (Zq HO222.out) hb); replace BK219 := Aside0.mk (blk_below (g := gb219) (o := .cells #[.int .u8 0, .int .u8 0, .int .u8 0, .int .i64 0, .int .u8 0, .int .u8 0, .int .u8 0, .string (⟨#[]⟩ : ByteArray)] 48 (0, 0)) (Zk BK219.out) hb); replace HB := Aside0.mk (below_step (Zb1 GE219.out) hb); (try clear hb); (try clear hb2); (try clear hk); (try clear hi)) | ((with_reducible refine gate_dst (N := 4) rfl ?_); refine box_event ?hg (N := 4) ?hd (cs := #[.int .u8 0, .int .u8 0, .int .u8 0, .int .i64 0, .int .u8 0, .int .u8 0, .int .u8 0, .string (⟨#[]⟩ : ByteArray)]) (t := 48) ?hr ?_; (case hd => rfl); (case hg => rfl); (case hr => first | (go_simp; done) | (go_simp; rfl)); intro gb231 hg w24 hbox hb; replace HO222 := Aside0.mk (Kd.R_below (Zq HO222.out) hb); have BK231 := Aside0.mk (hbox); have GW231 := Aside0.mk ((by rw [hg]; exact (below_size (Zb1 GE219.out)) : w.heap.size ≤ gb231)); have GE231 := Aside0.mk ((by rw [hg]; exact (below_size (Zb1 GE219.out)) : w.heap.size ≤ gb231)); replace HB := Aside0.mk (below_step (Zb1 GE219.out) hb); have NB219_231 := Aside0.mk ((by rw [hg]; exact Nat.ne_of_lt (blk_lt (g := gb219) (o := .cells #[.int .u8 0, .int .u8 0, .int .u8 0, .int .i64 0, .int .u8 0, .int .u8 0, .int .u8 0, .string (⟨#[]⟩ : ByteArray)] 48 (0, 0)) (Zk BK219.out)) : gb219 ≠ gb231)); have NB231_219 := Aside0.mk ((by rw [hg]; exact Nat.ne_of_gt (blk_lt (g := gb219) (o := .cells #[.int .u8 0, .int .u8 0, .int .u8 0, .int .i64 0, .int .u8 0, .int .u8 0, .int .u8 0, .string (⟨#[]⟩ : ByteArray)] 48 (0, 0)) (Zk BK219.out)) : gb231 ≠ gb219)); replace BK219 := Aside0.mk (blk_below (g := gb219) (o := .cells #[.int .u8 0, .int .u8 0, .int .u8 0, .int .i64 0, .int .u8 0, .int .u8 0, .int .u8 0, .string (⟨#[]⟩ : ByteArray)] 48 (0, 0)) (Zk BK219.out) hb); clear hb hbox hg; have hnb25 := NB231_219.out; have hnc25 := NB219_231.out; have hcz26_0 := Zc BK231.out 0 (.int .u8 0) rfl; have hcz26_1 := Zc BK231.out 1 (.int .u8 0) rfl; have hcz26_2 := Zc BK231.out 2 (.int .u8 0) rfl; have hcz26_3 := Zc BK231.out 3 (.int .i64 0) rfl; have hcz26_4 := Zc BK231.out 4 (.int .u8 0) rfl; have hcz26_5 := Zc BK231.out 5 (.int .u8 0) rfl; have hcz26_6 := Zc BK231.out 6 (.int .u8 0) rfl; have hcz26_7 := Zc BK231.out 7 (.string (⟨#[]⟩ : ByteArray)) rfl; have hfz26_0 := blk_frozen BK231.out 0; have hfz26_1 := blk_frozen BK231.out 1; have hfz26_2 := blk_frozen BK231.out 2; have hfz26_3 := blk_frozen BK231.out 3; have hfz26_4 := blk_frozen BK231.out 4; have hfz26_5 := blk_frozen BK231.out 5; have hfz26_6 := blk_frozen BK231.out 6; have hfz26_7 := blk_frozen BK231.out 7) | ((with_reducible refine gate_callee (f := 42) rfl ?_); refine goesL_ (some 16) rfl rfl Tryz.func42 (by kernel_rfl) rfl #[.agg #[.int .u8 t223, .int .u8 t224, .int .u8 t225, .int .i64 t226, .int .u8 t227, .int .u8 t228, .int .u8 t229, .string t230]] rfl Zl ?_; (with_reducible refine (gambitref05_Print.calls k t223 t224 t225 t226 t227 t228 t229 t230 t232 t233 _ A7.out).mono ?_); rintro e w27 ⟨rfl, hb⟩; refine ⟨_, rfl, ?_⟩; replace HO222 := Aside0.mk (Kd.R_below (by (with_reducible repeat (first | apply Kd.R_alloc | apply Kd.R_drewN | apply Kd.R_drew)); exact (Kd.R_mono (Kd.R_far (p := ⟨gb231, 7, none⟩) (Kd.R_far (p := ⟨gb231, 6, none⟩) (Kd.R_far (p := ⟨gb231, 5, none⟩) (Kd.R_far (p := ⟨gb231, 4, none⟩) (Kd.R_far (p := ⟨gb231, 3, none⟩) (Kd.R_far (p := ⟨gb231, 2, none⟩) (Kd.R_far (p := ⟨gb231, 1, none⟩) (Kd.R_far (p := ⟨gb231, 0, none⟩) (Kd.R_types HO222.out BK231.out (by decide)) (fun _ hk => by exact Zh) (.int .u8 t223)) (fun _ hk => by exact Zh) (.int .u8 t224)) (fun _ hk => by exact Zh) (.int .u8 t225)) (fun _ hk => by exact Zh) (.int .i64 t226)) (fun _ hk => by exact Zh) (.int .u8 t227)) (fun _ hk => by exact Zh) (.int .u8 t228)) (fun _ hk => by exact Zh) (.int .u8 t229)) (fun _ hk => by exact Zh) (.string t230)) (fun _ h_ => h_.1))) hb); replace BK219 := Aside0.mk (blk_below (g := gb219) (o := .cells #[.int .u8 0, .int .u8 0, .int .u8 0, .int .i64 0, .int .u8 0, .int .u8 0, .int .u8 0, .string (⟨#[]⟩ : ByteArray)] 48 (0, 0)) (by (with_reducible repeat (first | refine blk_drewN ?_ _ | refine blk_drew ?_ | refine blk_alloc ?_ _)); refine blk_far ?_ NB219_231.out _; (with_reducible repeat (first | refine blk_drewN ?_ _ | refine blk_drew ?_ | refine blk_alloc ?_ _)); refine blk_far ?_ NB219_231.out _; (with_reducible repeat (first | refine blk_drewN ?_ _ | refine blk_drew ?_ | refine blk_alloc ?_ _)); refine blk_far ?_ NB219_231.out _; (with_reducible repeat (first | refine blk_drewN ?_ _ | refine blk_drew ?_ | refine blk_alloc ?_ _)); refine blk_far ?_ NB219_231.out _; (with_reducible repeat (first | refine blk_drewN ?_ _ | refine blk_drew ?_ | refine blk_alloc ?_ _)); refine blk_far ?_ NB219_231.out _; (with_reducible repeat (first | refine blk_drewN ?_ _ | refine blk_drew ?_ | refine blk_alloc ?_ _)); refine blk_far ?_ NB219_231.out _; (with_reducible repeat (first | refine blk_drewN ?_ _ | refine blk_drew ?_ | refine blk_alloc ?_ _)); refine blk_far ?_ NB219_231.out _; (with_reducible repeat (first | refine blk_drewN ?_ _ | refine blk_drew ?_ | refine blk_alloc ?_ _)); refine blk_far ?_ NB219_231.out _; exact Zk BK219.out) hb); replace BK231 := Aside0.mk (blk_below (g := gb231) (o := .cells #[.int .u8 t223, .int .u8 t224, .int .u8 t225, .int .i64 t226, .int .u8 t227, .int .u8 t228, .int .u8 t229, .string t230] 48 (0, 0)) (by (with_reducible repeat (first | refine blk_drewN ?_ _ | refine blk_drew ?_ | refine blk_alloc ?_ _)); refine blk_put (cs := #[.int .u8 t223, .int .u8 t224, .int .u8 t225, .int .i64 t226, .int .u8 t227, .int .u8 t228, .int .u8 t229, .string (⟨#[]⟩ : ByteArray)]) ?_ 7 _ rfl; (with_reducible repeat (first | refine blk_drewN ?_ _ | refine blk_drew ?_ | refine blk_alloc ?_ _)); refine blk_put (cs := #[.int .u8 t223, .int .u8 t224, .int .u8 t225, .int .i64 t226, .int .u8 t227, .int .u8 t228, .int .u8 0, .string (⟨#[]⟩ : ByteArray)]) ?_ 6 _ rfl; (with_reducible repeat (first | refine blk_drewN ?_ _ | refine blk_drew ?_ | refine blk_alloc ?_ _)); refine blk_put (cs := #[.int .u8 t223, .int .u8 t224, .int .u8 t225, .int .i64 t226, .int .u8 t227, .int .u8 0, .int .u8 0, .string (⟨#[]⟩ : ByteArray)]) ?_ 5 _ rfl; (with_reducible repeat (first | refine blk_drewN ?_ _ | refine blk_drew ?_ | refine blk_alloc ?_ _)); refine blk_put (cs := #[.int .u8 t223, .int .u8 t224, .int .u8 t225, .int .i64 t226, .int .u8 0, .int .u8 0, .int .u8 0, .string (⟨#[]⟩ : ByteArray)]) ?_ 4 _ rfl; (with_reducible repeat (first | refine blk_drewN ?_ _ | refine blk_drew ?_ | refine blk_alloc ?_ _)); refine blk_put (cs := #[.int .u8 t223, .int .u8 t224, .int .u8 t225, .int .i64 0, .int .u8 0, .int .u8 0, .int .u8 0, .string (⟨#[]⟩ : ByteArray)]) ?_ 3 _ rfl; (with_reducible repeat (first | refine blk_drewN ?_ _ | refine blk_drew ?_ | refine blk_alloc ?_ _)); refine blk_put (cs := #[.int .u8 t223, .int .u8 t224, .int .u8 0, .int .i64 0, .int .u8 0, .int .u8 0, .int .u8 0, .string (⟨#[]⟩ : ByteArray)]) ?_ 2 _ rfl; (with_reducible repeat (first | refine blk_drewN ?_ _ | refine blk_drew ?_ | refine blk_alloc ?_ _)); refine blk_put (cs := #[.int .u8 t223, .int .u8 0, .int .u8 0, .int .i64 0, .int .u8 0, .int .u8 0, .int .u8 0, .string (⟨#[]⟩ : ByteArray)]) ?_ 1 _ rfl; (with_reducible repeat (first | refine blk_drewN ?_ _ | refine blk_drew ?_ | refine blk_alloc ?_ _)); refine blk_put (cs := #[.int .u8 0, .int .u8 0, .int .u8 0, .int .i64 0, .int .u8 0, .int .u8 0, .int .u8 0, .string (⟨#[]⟩ : ByteArray)]) ?_ 0 _ rfl; exact Zk BK231.out) hb); replace HB := Aside0.mk (below_step (Zb2 GE219.out GE231.out) hb); (try clear hb); (try clear hb2); (try clear hk); (try clear hi); have hcz28_0 := Zc BK219.out 0 (.int .u8 0) rfl; have hcz28_1 := Zc BK219.out 1 (.int .u8 0) rfl; have hcz28_2 := Zc BK219.out 2 (.int .u8 0) rfl; have hcz28_3 := Zc BK219.out 3 (.int .i64 0) rfl; have hcz28_4 := Zc BK219.out 4 (.int .u8 0) rfl; have hcz28_5 := Zc BK219.out 5 (.int .u8 0) rfl; have hcz28_6 := Zc BK219.out 6 (.int .u8 0) rfl; have hcz28_7 := Zc BK219.out 7 (.string (⟨#[]⟩ : ByteArray)) rfl; have hfz28_0 := blk_frozen BK219.out 0; have hfz28_1 := blk_frozen BK219.out 1; have hfz28_2 := blk_frozen BK219.out 2; have hfz28_3 := blk_frozen BK219.out 3; have hfz28_4 := blk_frozen BK219.out 4; have hfz28_5 := blk_frozen BK219.out 5; have hfz28_6 := blk_frozen BK219.out 6; have hfz28_7 := blk_frozen BK219.out 7))
    refine bodyPost_ret (results_ct rfl _ _ gb219 48 #[.int .u8 0, .int .u8 0, .int .u8 0, .int .i64 0, .int .u8 0, .int .u8 0, .int .u8 0, .string (⟨#[]⟩ : ByteArray)] (0, 0) _ rfl (by (with_reducible repeat (first | refine blk_drewN ?_ _ | refine blk_drew ?_ | refine blk_alloc ?_ _)); refine blk_put (cs := #[.int .u8 0, .int .u8 0, .int .u8 0, .int .i64 0, .int .u8 0, .int .u8 0, .int .u8 0, .string (⟨#[]⟩ : ByteArray)]) ?_ 7 _ rfl; (with_reducible repeat (first | refine blk_drewN ?_ _ | refine blk_drew ?_ | refine blk_alloc ?_ _)); refine blk_put (cs := #[.int .u8 0, .int .u8 0, .int .u8 0, .int .i64 0, .int .u8 0, .int .u8 0, .int .u8 0, .string (⟨#[]⟩ : ByteArray)]) ?_ 6 _ rfl; (with_reducible repeat (first | refine blk_drewN ?_ _ | refine blk_drew ?_ | refine blk_alloc ?_ _)); refine blk_put (cs := #[.int .u8 0, .int .u8 0, .int .u8 0, .int .i64 0, .int .u8 0, .int .u8 0, .int .u8 0, .string (⟨#[]⟩ : ByteArray)]) ?_ 5 _ rfl; (with_reducible repeat (first | refine blk_drewN ?_ _ | refine blk_drew ?_ | refine blk_alloc ?_ _)); refine blk_put (cs := #[.int .u8 0, .int .u8 0, .int .u8 0, .int .i64 0, .int .u8 0, .int .u8 0, .int .u8 0, .string (⟨#[]⟩ : ByteArray)]) ?_ 4 _ rfl; (with_reducible repeat (first | refine blk_drewN ?_ _ | refine blk_drew ?_ | refine blk_alloc ?_ _)); refine blk_put (cs := #[.int .u8 0, .int .u8 0, .int .u8 0, .int .i64 0, .int .u8 0, .int .u8 0, .int .u8 0, .string (⟨#[]⟩ : ByteArray)]) ?_ 3 _ rfl; (with_reducible repeat (first | refine blk_drewN ?_ _ | refine blk_drew ?_ | refine blk_alloc ?_ _)); refine blk_put (cs := #[.int .u8 0, .int .u8 0, .int .u8 0, .int .i64 0, .int .u8 0, .int .u8 0, .int .u8 0, .string (⟨#[]⟩ : ByteArray)]) ?_ 2 _ rfl; (with_reducible repeat (first | refine blk_drewN ?_ _ | refine blk_drew ?_ | refine blk_alloc ?_ _)); refine blk_put (cs := #[.int .u8 0, .int .u8 0, .int .u8 0, .int .i64 0, .int .u8 0, .int .u8 0, .int .u8 0, .string (⟨#[]⟩ : ByteArray)]) ?_ 1 _ rfl; (with_reducible repeat (first | refine blk_drewN ?_ _ | refine blk_drew ?_ | refine blk_alloc ?_ _)); refine blk_put (cs := #[.int .u8 0, .int .u8 0, .int .u8 0, .int .i64 0, .int .u8 0, .int .u8 0, .int .u8 0, .string (⟨#[]⟩ : ByteArray)]) ?_ 0 _ rfl; exact Zk BK219.out) Tryz.underlying48 rfl (by kernel_rfl)) rfl ?_
    exact ⟨Ze, Zb2 GE219.out GE231.out⟩
  ·rw [if_neg c8] at H
   have c8b0 : (t233 == 0) = false := beq_eq_false_iff_ne.mpr c8
   have c8b1 : (t233 != 0) = true := bne_iff_ne.mpr c8
   simp only [Option.some.injEq, Prod.mk.injEq] at H
   obtain ⟨rfl, rfl, rfl, rfl, rfl, rfl, rfl, rfl, rfl⟩ := H
   go_enter Tryz.func21, Tryz.ntmps21
   go_wp2_with (first | ((with_reducible refine gate_dst (N := 2) rfl ?_); refine box_event ?hg (N := 2) ?hd (cs := #[.int .u8 0, .int .u8 0, .int .u8 0, .int .i64 0, .int .u8 0, .int .u8 0, .int .u8 0, .string (⟨#[]⟩ : ByteArray)]) (t := 48) ?hr ?_; (case hd => rfl); (case hg => rfl); (case hr => first | (go_simp; done) | (go_simp; rfl)); intro gb219 hg w29 hbox hb; have BK219 := Aside0.mk (hbox); have GW219 := Aside0.mk ((by rw [hg]; exact (below_size Zb) : w.heap.size ≤ gb219)); have GE219 := Aside0.mk ((by rw [hg]; exact (below_size Zb) : w.heap.size ≤ gb219)); replace HB := Aside0.mk (below_step Zb hb); clear hb hbox hg) | ((with_reducible refine gate_callee (f := 59) rfl ?_); refine goesL_ (some 12) rfl rfl Tryz.func59 (by kernel_rfl) rfl #[.string a0] rfl Zl ?_; (with_reducible refine (gambitref05_Cut.calls k a0 t220 _ A5.out).mono ?_); rintro e w30 ⟨v221, rfl, ho0, hb⟩; refine ⟨_, rfl, ?_⟩; have HO222 := Aside0.mk (Kd.R_lower ho0 (below_size (Zb1 GE219.out))); replace BK219 := Aside0.mk (blk_below (g := gb219) (o := .cells #[.int .u8 0, .int .u8 0, .int .u8 0, .int .i64 0, .int .u8 0, .int .u8 0, .int .u8 0, .string (⟨#[]⟩ : ByteArray)] 48 (0, 0)) (Zk BK219.out) hb); replace HB := Aside0.mk (below_step (Zb1 GE219.out) hb); (try clear hb); (try clear hb2); (try clear hk); (try clear hi); (try clear ho0); obtain ⟨Ao31, co31, eo31⟩ := Kd.R_slice HO222.out; subst eo31) | ((with_reducible refine gate_callee (f := 58) rfl ?_); refine goesL_ (some 13) rfl rfl Tryz.func58 (by kernel_rfl) rfl #[.slice Ao31 t220.length co31] rfl Zl ?_; (with_reducible refine (gambitref05_read.calls k _ _ t220 t223 t224 t225 t226 t227 t228 t229 t230 _ ?side1 ?side2 A6.out).mono ?_); (case side1 => repeat (first | exact (Kd.R_reads' HO222.out).2.2 | (with_reducible refine Kd.C_alloc ?_ _) | (with_reducible refine Kd.C_drewN ?_ _) | (with_reducible refine Kd.C_drew ?_))); (case side2 => exact (Kd.R_reads' HO222.out).2.1); rintro e w32 ⟨rfl, hb⟩; refine ⟨_, rfl, ?_⟩; replace HO222 := Aside0.mk (Kd.R_below (Zq HO222.out) hb); replace BK219 := Aside0.mk (blk_below (g := gb219) (o := .cells #[.int .u8 0, .int .u8 0, .int .u8 0, .int .i64 0, .int .u8 0, .int .u8 0, .int .u8 0, .string (⟨#[]⟩ : ByteArray)] 48 (0, 0)) (Zk BK219.out) hb); replace HB := Aside0.mk (below_step (Zb1 GE219.out) hb); (try clear hb); (try clear hb2); (try clear hk); (try clear hi)) | ((with_reducible refine gate_dst (N := 4) rfl ?_); refine box_event ?hg (N := 4) ?hd (cs := #[.int .u8 0, .int .u8 0, .int .u8 0, .int .i64 0, .int .u8 0, .int .u8 0, .int .u8 0, .string (⟨#[]⟩ : ByteArray)]) (t := 48) ?hr ?_; (case hd => rfl); (case hg => rfl); (case hr => first | (go_simp; done) | (go_simp; rfl)); intro gb231 hg w33 hbox hb; replace HO222 := Aside0.mk (Kd.R_below (Zq HO222.out) hb); have BK231 := Aside0.mk (hbox); have GW231 := Aside0.mk ((by rw [hg]; exact (below_size (Zb1 GE219.out)) : w.heap.size ≤ gb231)); have GE231 := Aside0.mk ((by rw [hg]; exact (below_size (Zb1 GE219.out)) : w.heap.size ≤ gb231)); replace HB := Aside0.mk (below_step (Zb1 GE219.out) hb); have NB219_231 := Aside0.mk ((by rw [hg]; exact Nat.ne_of_lt (blk_lt (g := gb219) (o := .cells #[.int .u8 0, .int .u8 0, .int .u8 0, .int .i64 0, .int .u8 0, .int .u8 0, .int .u8 0, .string (⟨#[]⟩ : ByteArray)] 48 (0, 0)) (Zk BK219.out)) : gb219 ≠ gb231)); have NB231_219 := Aside0.mk ((by rw [hg]; exact Nat.ne_of_gt (blk_lt (g := gb219) (o := .cells #[.int .u8 0, .int .u8 0, .int .u8 0, .int .i64 0, .int .u8 0, .int .u8 0, .int .u8 0, .string (⟨#[]⟩ : ByteArray)] 48 (0, 0)) (Zk BK219.out)) : gb231 ≠ gb219)); replace BK219 := Aside0.mk (blk_below (g := gb219) (o := .cells #[.int .u8 0, .int .u8 0, .int .u8 0, .int .i64 0, .int .u8 0, .int .u8 0, .int .u8 0, .string (⟨#[]⟩ : ByteArray)] 48 (0, 0)) (Zk BK219.out) hb); clear hb hbox hg; have hnb34 := NB231_219.out; have hnc34 := NB219_231.out; have hcz35_0 := Zc BK231.out 0 (.int .u8 0) rfl; have hcz35_1 := Zc BK231.out 1 (.int .u8 0) rfl; have hcz35_2 := Zc BK231.out 2 (.int .u8 0) rfl; have hcz35_3 := Zc BK231.out 3 (.int .i64 0) rfl; have hcz35_4 := Zc BK231.out 4 (.int .u8 0) rfl; have hcz35_5 := Zc BK231.out 5 (.int .u8 0) rfl; have hcz35_6 := Zc BK231.out 6 (.int .u8 0) rfl; have hcz35_7 := Zc BK231.out 7 (.string (⟨#[]⟩ : ByteArray)) rfl; have hfz35_0 := blk_frozen BK231.out 0; have hfz35_1 := blk_frozen BK231.out 1; have hfz35_2 := blk_frozen BK231.out 2; have hfz35_3 := blk_frozen BK231.out 3; have hfz35_4 := blk_frozen BK231.out 4; have hfz35_5 := blk_frozen BK231.out 5; have hfz35_6 := blk_frozen BK231.out 6; have hfz35_7 := blk_frozen BK231.out 7) | ((with_reducible refine gate_callee (f := 42) rfl ?_); refine goesL_ (some 16) rfl rfl Tryz.func42 (by kernel_rfl) rfl #[.agg #[.int .u8 t223, .int .u8 t224, .int .u8 t225, .int .i64 t226, .int .u8 t227, .int .u8 t228, .int .u8 t229, .string t230]] rfl Zl ?_; (with_reducible refine (gambitref05_Print.calls k t223 t224 t225 t226 t227 t228 t229 t230 t232 t233 _ A7.out).mono ?_); rintro e w36 ⟨rfl, hb⟩; refine ⟨_, rfl, ?_⟩; replace HO222 := Aside0.mk (Kd.R_below (by (with_reducible repeat (first | apply Kd.R_alloc | apply Kd.R_drewN | apply Kd.R_drew)); exact (Kd.R_mono (Kd.R_far (p := ⟨gb231, 7, none⟩) (Kd.R_far (p := ⟨gb231, 6, none⟩) (Kd.R_far (p := ⟨gb231, 5, none⟩) (Kd.R_far (p := ⟨gb231, 4, none⟩) (Kd.R_far (p := ⟨gb231, 3, none⟩) (Kd.R_far (p := ⟨gb231, 2, none⟩) (Kd.R_far (p := ⟨gb231, 1, none⟩) (Kd.R_far (p := ⟨gb231, 0, none⟩) (Kd.R_types HO222.out BK231.out (by decide)) (fun _ hk => by exact Zh) (.int .u8 t223)) (fun _ hk => by exact Zh) (.int .u8 t224)) (fun _ hk => by exact Zh) (.int .u8 t225)) (fun _ hk => by exact Zh) (.int .i64 t226)) (fun _ hk => by exact Zh) (.int .u8 t227)) (fun _ hk => by exact Zh) (.int .u8 t228)) (fun _ hk => by exact Zh) (.int .u8 t229)) (fun _ hk => by exact Zh) (.string t230)) (fun _ h_ => h_.1))) hb); replace BK219 := Aside0.mk (blk_below (g := gb219) (o := .cells #[.int .u8 0, .int .u8 0, .int .u8 0, .int .i64 0, .int .u8 0, .int .u8 0, .int .u8 0, .string (⟨#[]⟩ : ByteArray)] 48 (0, 0)) (by (with_reducible repeat (first | refine blk_drewN ?_ _ | refine blk_drew ?_ | refine blk_alloc ?_ _)); refine blk_far ?_ NB219_231.out _; (with_reducible repeat (first | refine blk_drewN ?_ _ | refine blk_drew ?_ | refine blk_alloc ?_ _)); refine blk_far ?_ NB219_231.out _; (with_reducible repeat (first | refine blk_drewN ?_ _ | refine blk_drew ?_ | refine blk_alloc ?_ _)); refine blk_far ?_ NB219_231.out _; (with_reducible repeat (first | refine blk_drewN ?_ _ | refine blk_drew ?_ | refine blk_alloc ?_ _)); refine blk_far ?_ NB219_231.out _; (with_reducible repeat (first | refine blk_drewN ?_ _ | refine blk_drew ?_ | refine blk_alloc ?_ _)); refine blk_far ?_ NB219_231.out _; (with_reducible repeat (first | refine blk_drewN ?_ _ | refine blk_drew ?_ | refine blk_alloc ?_ _)); refine blk_far ?_ NB219_231.out _; (with_reducible repeat (first | refine blk_drewN ?_ _ | refine blk_drew ?_ | refine blk_alloc ?_ _)); refine blk_far ?_ NB219_231.out _; (with_reducible repeat (first | refine blk_drewN ?_ _ | refine blk_drew ?_ | refine blk_alloc ?_ _)); refine blk_far ?_ NB219_231.out _; exact Zk BK219.out) hb); replace BK231 := Aside0.mk (blk_below (g := gb231) (o := .cells #[.int .u8 t223, .int .u8 t224, .int .u8 t225, .int .i64 t226, .int .u8 t227, .int .u8 t228, .int .u8 t229, .string t230] 48 (0, 0)) (by (with_reducible repeat (first | refine blk_drewN ?_ _ | refine blk_drew ?_ | refine blk_alloc ?_ _)); refine blk_put (cs := #[.int .u8 t223, .int .u8 t224, .int .u8 t225, .int .i64 t226, .int .u8 t227, .int .u8 t228, .int .u8 t229, .string (⟨#[]⟩ : ByteArray)]) ?_ 7 _ rfl; (with_reducible repeat (first | refine blk_drewN ?_ _ | refine blk_drew ?_ | refine blk_alloc ?_ _)); refine blk_put (cs := #[.int .u8 t223, .int .u8 t224, .int .u8 t225, .int .i64 t226, .int .u8 t227, .int .u8 t228, .int .u8 0, .string (⟨#[]⟩ : ByteArray)]) ?_ 6 _ rfl; (with_reducible repeat (first | refine blk_drewN ?_ _ | refine blk_drew ?_ | refine blk_alloc ?_ _)); refine blk_put (cs := #[.int .u8 t223, .int .u8 t224, .int .u8 t225, .int .i64 t226, .int .u8 t227, .int .u8 0, .int .u8 0, .string (⟨#[]⟩ : ByteArray)]) ?_ 5 _ rfl; (with_reducible repeat (first | refine blk_drewN ?_ _ | refine blk_drew ?_ | refine blk_alloc ?_ _)); refine blk_put (cs := #[.int .u8 t223, .int .u8 t224, .int .u8 t225, .int .i64 t226, .int .u8 0, .int .u8 0, .int .u8 0, .string (⟨#[]⟩ : ByteArray)]) ?_ 4 _ rfl; (with_reducible repeat (first | refine blk_drewN ?_ _ | refine blk_drew ?_ | refine blk_alloc ?_ _)); refine blk_put (cs := #[.int .u8 t223, .int .u8 t224, .int .u8 t225, .int .i64 0, .int .u8 0, .int .u8 0, .int .u8 0, .string (⟨#[]⟩ : ByteArray)]) ?_ 3 _ rfl; (with_reducible repeat (first | refine blk_drewN ?_ _ | refine blk_drew ?_ | refine blk_alloc ?_ _)); refine blk_put (cs := #[.int .u8 t223, .int .u8 t224, .int .u8 0, .int .i64 0, .int .u8 0, .int .u8 0, .int .u8 0, .string (⟨#[]⟩ : ByteArray)]) ?_ 2 _ rfl; (with_reducible repeat (first | refine blk_drewN ?_ _ | refine blk_drew ?_ | refine blk_alloc ?_ _)); refine blk_put (cs := #[.int .u8 t223, .int .u8 0, .int .u8 0, .int .i64 0, .int .u8 0, .int .u8 0, .int .u8 0, .string (⟨#[]⟩ : ByteArray)]) ?_ 1 _ rfl; (with_reducible repeat (first | refine blk_drewN ?_ _ | refine blk_drew ?_ | refine blk_alloc ?_ _)); refine blk_put (cs := #[.int .u8 0, .int .u8 0, .int .u8 0, .int .i64 0, .int .u8 0, .int .u8 0, .int .u8 0, .string (⟨#[]⟩ : ByteArray)]) ?_ 0 _ rfl; exact Zk BK231.out) hb); replace HB := Aside0.mk (below_step (Zb2 GE219.out GE231.out) hb); (try clear hb); (try clear hb2); (try clear hk); (try clear hi); have hcz37_0 := Zc BK219.out 0 (.int .u8 0) rfl; have hcz37_1 := Zc BK219.out 1 (.int .u8 0) rfl; have hcz37_2 := Zc BK219.out 2 (.int .u8 0) rfl; have hcz37_3 := Zc BK219.out 3 (.int .i64 0) rfl; have hcz37_4 := Zc BK219.out 4 (.int .u8 0) rfl; have hcz37_5 := Zc BK219.out 5 (.int .u8 0) rfl; have hcz37_6 := Zc BK219.out 6 (.int .u8 0) rfl; have hcz37_7 := Zc BK219.out 7 (.string (⟨#[]⟩ : ByteArray)) rfl; have hfz37_0 := blk_frozen BK219.out 0; have hfz37_1 := blk_frozen BK219.out 1; have hfz37_2 := blk_frozen BK219.out 2; have hfz37_3 := blk_frozen BK219.out 3; have hfz37_4 := blk_frozen BK219.out 4; have hfz37_5 := blk_frozen BK219.out 5; have hfz37_6 := blk_frozen BK219.out 6; have hfz37_7 := blk_frozen BK219.out 7))
   refine bodyPost_ret (results_ct rfl _ _ gb219 48 #[.int .u8 0, .int .u8 0, .int .u8 0, .int .i64 0, .int .u8 0, .int .u8 0, .int .u8 0, .string (⟨#[]⟩ : ByteArray)] (0, 0) _ rfl (by (with_reducible repeat (first | refine blk_drewN ?_ _ | refine blk_drew ?_ | refine blk_alloc ?_ _)); refine blk_put (cs := #[.int .u8 0, .int .u8 0, .int .u8 0, .int .i64 0, .int .u8 0, .int .u8 0, .int .u8 0, .string (⟨#[]⟩ : ByteArray)]) ?_ 7 _ rfl; (with_reducible repeat (first | refine blk_drewN ?_ _ | refine blk_drew ?_ | refine blk_alloc ?_ _)); refine blk_put (cs := #[.int .u8 0, .int .u8 0, .int .u8 0, .int .i64 0, .int .u8 0, .int .u8 0, .int .u8 0, .string (⟨#[]⟩ : ByteArray)]) ?_ 6 _ rfl; (with_reducible repeat (first | refine blk_drewN ?_ _ | refine blk_drew ?_ | refine blk_alloc ?_ _)); refine blk_put (cs := #[.int .u8 0, .int .u8 0, .int .u8 0, .int .i64 0, .int .u8 0, .int .u8 0, .int .u8 0, .string (⟨#[]⟩ : ByteArray)]) ?_ 5 _ rfl; (with_reducible repeat (first | refine blk_drewN ?_ _ | refine blk_drew ?_ | refine blk_alloc ?_ _)); refine blk_put (cs := #[.int .u8 0, .int .u8 0, .int .u8 0, .int .i64 0, .int .u8 0, .int .u8 0, .int .u8 0, .string (⟨#[]⟩ : ByteArray)]) ?_ 4 _ rfl; (with_reducible repeat (first | refine blk_drewN ?_ _ | refine blk_drew ?_ | refine blk_alloc ?_ _)); refine blk_put (cs := #[.int .u8 0, .int .u8 0, .int .u8 0, .int .i64 0, .int .u8 0, .int .u8 0, .int .u8 0, .string (⟨#[]⟩ : ByteArray)]) ?_ 3 _ rfl; (with_reducible repeat (first | refine blk_drewN ?_ _ | refine blk_drew ?_ | refine blk_alloc ?_ _)); refine blk_put (cs := #[.int .u8 0, .int .u8 0, .int .u8 0, .int .i64 0, .int .u8 0, .int .u8 0, .int .u8 0, .string (⟨#[]⟩ : ByteArray)]) ?_ 2 _ rfl; (with_reducible repeat (first | refine blk_drewN ?_ _ | refine blk_drew ?_ | refine blk_alloc ?_ _)); refine blk_put (cs := #[.int .u8 0, .int .u8 0, .int .u8 0, .int .i64 0, .int .u8 0, .int .u8 0, .int .u8 0, .string (⟨#[]⟩ : ByteArray)]) ?_ 1 _ rfl; (with_reducible repeat (first | refine blk_drewN ?_ _ | refine blk_drew ?_ | refine blk_alloc ?_ _)); refine blk_put (cs := #[.int .u8 0, .int .u8 0, .int .u8 0, .int .i64 0, .int .u8 0, .int .u8 0, .int .u8 0, .string (⟨#[]⟩ : ByteArray)]) ?_ 0 _ rfl; exact Zk BK219.out) Tryz.underlying48 rfl (by kernel_rfl)) rfl ?_
   exact ⟨Ze, Zb2 GE219.out GE231.out⟩
end Go.Proofs.YtfpcideomanbbaaGreatDoor.PA
end
section
namespace Go.Proofs.YtfpcideomanbbaaGreatDoor.PA
open Go.RowKit Go.Proofs.YtfpcideomanbbaaGreatDoorW.PrintWords Go.Proofs.YtfpcideomanbbaaGreatDoorW.PrintLast Go.Proofs.YtfpcideomanbbaaGreatDoorW.PrintMore
attribute [local go_sem] max2_int min2_int max_two min_two max_three min_three max_four min_four
set_option linter.unusedVariables false
set_option linter.unusedSimpArgs false
theorem eqA48 (d : Nat) (w : World) (x0 y0 : Int) (x1 y1 : Int) (x2 y2 : Int) (x3 y3 : Int) (x4 y4 : Int) (x5 y5 : Int) (x6 y6 : Int) (x7 y7 : ByteArray) :
  (Op.equalIn (d + 2) 48 (.agg #[.int .u8 x0, .int .u8 x1, .int .u8 x2, .int .i64 x3, .int .u8 x4, .int .u8 x5, .int .u8 x6, .string x7]) (.agg #[.int .u8 y0, .int .u8 y1, .int .u8 y2, .int .i64 y3, .int .u8 y4, .int .u8 y5, .int .u8 y6, .string y7])).run Tryz.prog w = .ok (x0 == y0 && (x1 == y1 && (x2 == y2 && (x3 == y3 && (x4 == y4 && (x5 == y5 && (x6 == y6 && (x7.toList == y7.toList)))))))) w := by
 refine eqA_of Tryz.underlying48 (by kernel_rfl) ?_
 refine eqf_cons (by rfl) (by go_simp; rfl) (by go_simp; rfl) (by go_simp) ?_
 refine eqf_cons (by rfl) (by go_simp; rfl) (by go_simp; rfl) (by go_simp) ?_
 refine eqf_cons (by rfl) (by go_simp; rfl) (by go_simp; rfl) (by go_simp) ?_
 refine eqf_cons (by rfl) (by go_simp; rfl) (by go_simp; rfl) (by go_simp) ?_
 refine eqf_cons (by rfl) (by go_simp; rfl) (by go_simp; rfl) (by go_simp) ?_
 refine eqf_cons (by rfl) (by go_simp; rfl) (by go_simp; rfl) (by go_simp) ?_
 refine eqf_cons (by rfl) (by go_simp; rfl) (by go_simp; rfl) (by go_simp) ?_
 exact eqf_last (by rfl) (by go_simp; rfl) (by go_simp; rfl) (by go_simp)
end Go.Proofs.YtfpcideomanbbaaGreatDoor.PA
end
