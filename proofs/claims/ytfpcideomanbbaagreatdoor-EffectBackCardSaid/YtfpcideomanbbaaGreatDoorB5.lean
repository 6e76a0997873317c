/-
  EffectBack: for every two parts and every text: there and back; no conditions beyond the row's own.
-/
import Derived.Test.YtfpcideomanbbaaGreatDoorProg
import Derived.Test.YtfpcideomanbbaaGreatDoorRows
import Derived.Test.YtfpcideomanbbaaGreatDoorCards
import Derived.Test.YtfpcideomanbbaaGreatDoorTie
import Derived.Test.YtfpcideomanbbaaGreatDoorBZ
import Derived.Test.YtfpcideomanbbaaGreatDoorB1
import Derived.Test.YtfpcideomanbbaaGreatDoorB2
import Derived.Test.YtfpcideomanbbaaGreatDoorB3
import Derived.Test.YtfpcideomanbbaaGreatDoorB4
import Derived.WalkKit
import Derived.WalkSmall
import Derived.Below
import Derived.Lib.LaidTab
import Derived.KernelRfl
import Derived.Lib.ItoaNum
import Derived.Lib.Space
import Derived.Lib.AtoiErrMem
import Derived.Deep.Draws
import Derived.Deep.AppendLies
import Derived.Maps.AppendAt
import Derived.OwnWalk
import Derived.Laws.BytesArg
import Derived.Laws.MakeOwn
import Derived.Laws.OwnMore
import Derived.Deep.OwnRows
import Derived.Tactics
import Derived.Lib.ConvBytes
import Derived.Laws.Slices
import Derived.RowKit3
import Derived.Deep.LoopGhost
import Derived.Deep.QuietTactic
import Derived.BigQuiet
import Derived.WideLaws
import Derived.Deep.DeepCutAuto
import Derived.Deep.CutBlock
import Derived.Deep.RegionHeld3
import Derived.Laws.Rows
import Derived.Lib.AppendStr
import Derived.ArgAppend
import Derived.Laws.IdiomCopy
import Derived.RowKit
import Derived.OrdersHeld
import Derived.Laws.BitsLemmas
import Derived.Laws.StructEq
import Derived.Shelf.Strings.Builder1
import Derived.Shelf.Strings.Builder2
import Derived.Shelf.Strings.OnBuilder
import Derived.Shelf.Strings.Trim
import Derived.Shelf.Small.Utf8
import Derived.Shelf.Small.Strs
import Derived.Shelf.Strconv.Atoi
import Derived.Shelf.Strconv.Itoa0
import Derived.Shelf.Strconv.Itoa1
import Derived.Shelf.LaysM
import Derived.Shelf.Strconv.Itoa2
import Derived.Shelf.Strconv.Itoa3
import Derived.Shelf.Strconv.AtoiErrFast
import Derived.Shelf.Strconv.ParseIntEmpty
import Derived.Shelf.Strconv.AtoiFail
import Derived.Shelf.Strconv.Clone
import Derived.Shelf.Strconv.SyntaxError
import Derived.Shelf.LaysC
import Derived.Shelf.Strconv.ToError
import Derived.Shelf.Strconv.Lower
import Derived.Shelf.Strconv.ParseUint10
import Derived.Shelf.Strconv.ParseUint10Empty
import Derived.Shelf.Strconv.ParseUint10Any
import Derived.Shelf.Strconv.ParseInt10
import Derived.Shelf.Strconv.AtoiLong
import Derived.Shelf.Strconv.AtoiInnerAll
import Derived.Shelf.Strconv.RangeError
import Derived.Shelf.Strconv.ToErrorRange
import Derived.Shelf.Strconv.AtoiAll
import Derived.Shelf.Strconv.ErrVarAll
import Derived.Shelf.Strings.Search1
import Derived.Shelf.Strings.Search2
import Derived.Shelf.Strings.Search3
import Derived.Shelf.Strings.Cut
import Derived.Shelf.Strings.Count
import Derived.Shelf.Strings.Shaped
import Derived.Shelf.Strings.Prefix
import Derived.Shelf.Strings.Split
import Derived.Shelf.Strings.Fields
import Derived.Shelf.Strings.SplitShaped
import Derived.Shelf.Unicode.Latin
import Derived.Shelf.Strings.Runes
import Derived.Shelf.Strings.AsciiSet
import Derived.Shelf.Unicode.DecodeSlow
import Derived.Shelf.Unicode.Is16White
import Derived.Shelf.Unicode.IsSpaceAny
import Derived.Shelf.Unicode.Is16Any
import Derived.Shelf.Unicode.Is32Any
import Derived.Shelf.Unicode.ExclAny
import Derived.Shelf.Slices.Turned
import Derived.Lib.AppendIntMem
import Derived.Shelf.Strings.SlTrimAscii
import Derived.WalkLawsBesides
import Derived.Lib.Hide
import Derived.RangeFuncNested
import Derived.RangeFuncBound
import Derived.RangeFuncCalls
import Derived.RangeFuncLeaves
import Derived.RangeFuncFrom
import Derived.Shelf.Abstract
import Derived.Shelf.RegionOpen
import Derived.OwnWalkIn
import Derived.TacticsInMore
import Derived.LoopNIn
import Derived.LoopIn
import Derived.Lib.SlicesS
import Derived.StillTailTactics
import Derived.Lib.SplitLaws
import Derived.Lib.IndexMore
import Derived.LaidSub
import Derived.Lib.LaidU8
import Derived.Shelf.Vars
import Derived.Deep.DeepHandedRow
import Derived.Lib.LaidIn
import Derived.Deep.DeepWitnessRowRef
import Derived.OpenShut
import Derived.Lib.SmallJoins
import Derived.ProofKit
import Derived.ChangeMaps5
import Derived.Carry
set_option linter.unusedVariables false
set_option linter.unusedSimpArgs false
section
namespace Go.Proofs.YtfpcideomanbbaaGreatDoor.PA
open Go.RowKit Go.Proofs.YtfpcideomanbbaaGreatDoorW.PrintWords Go.Proofs.YtfpcideomanbbaaGreatDoorW.PrintLast Go.Proofs.YtfpcideomanbbaaGreatDoorW.PrintMore
attribute [local go_sem] max2_int min2_int max_two min_two max_three min_three max_four min_four
set_option linter.unusedVariables false
set_option linter.unusedSimpArgs false
attribute [local go_sem high] eqA48
mutual
def gambitlaw05_EffectBack.j1 : Nat → ByteArray → Option (Bool)
 | 0, _ => none
 | k + 1, x2 => (effect_Parse.f x2).bind fun bt358 => (if bt358.2.2.2.2.2.2.2.2 = 0 then ((effect_Print.f k bt358.1 bt358.2.1 bt358.2.2.1 bt358.2.2.2.1 bt358.2.2.2.2.1 bt358.2.2.2.2.2.1 bt358.2.2.2.2.2.2.1 bt358.2.2.2.2.2.2.2.1).bind fun bt368 => (if bt368.2 = 0 then (if bt368.1.toList = x2.toList then ((gambitlaw05_lives.f k).bind fun t370 => (some t370)) else (some false)) else (some false))) else (if (bt358.1 == 0 && (bt358.2.1 == 0 && (bt358.2.2.1 == 0 && (bt358.2.2.2.1 == 0 && (bt358.2.2.2.2.1 == 0 && (bt358.2.2.2.2.2.1 == 0 && (bt358.2.2.2.2.2.2.1 == 0 && (bt358.2.2.2.2.2.2.2.1.toList == ([] : List UInt8))))))))) = true then ((gambitlaw05_lives.f k).bind fun t371 => (some t371)) else (some false)))
def gambitlaw05_EffectBack.j0 : Nat → ByteArray → ByteArray → Bool → Int → Int → Int → Int → Int → Int → Int → ByteArray → Int → Int → Int → Int → Int → Int → Int → ByteArray → Option (Bool)
 | 0, _, _, _, _, _, _, _, _, _, _, _, _, _, _, _, _, _, _, _ => none
 | k + 1, x2, x7, x45, x342000, x342001, x342002, x342003, x342004, x342005, x342006, x342007, x343000, x343001, x343002, x343003, x343004, x343005, x343006, x343007 => if x45 = true then (some false) else ((effect_Print.f k x343000 x343001 x343002 x343003 x343004 x343005 x343006 x343007).bind fun bt356 => (if bt356.2 = 0 then (if (x342000 == x343000 && (x342001 == x343001 && (x342002 == x343002 && (x342003 == x343003 && (x342004 == x343004 && (x342005 == x343005 && (x342006 == x343006 && (x342007.toList == x343007.toList)))))))) = true then (if bt356.1.toList = x7.toList then (gambitlaw05_EffectBack.j1 k x2) else (some false)) else (if bt356.1.toList = x7.toList then (some false) else (gambitlaw05_EffectBack.j1 k x2))) else (gambitlaw05_EffectBack.j1 k x2)))
end
def gambitlaw05_EffectBack.f (k : Nat) (a0_0 : Int) (a0_1 : Int) (a0_2 : Int) (a0_3 : Int) (a0_4 : Int) (a0_5 : Int) (a0_6 : Int) (a0_7 : ByteArray) (a1_0 : Int) (a1_1 : Int) (a1_2 : Int) (a1_3 : Int) (a1_4 : Int) (a1_5 : Int) (a1_6 : Int) (a1_7 : ByteArray) (a2 : ByteArray) : Option (Bool) := (effect_Print.f k a0_0 a0_1 a0_2 a0_3 a0_4 a0_5 a0_6 a0_7).bind fun bt343 => (if bt343.2 = 0 then ((effect_Parse.f bt343.1).bind fun bt345 => (if bt345.2.2.2.2.2.2.2.2 = 0 then (if (!(bt345.1 == a0_0) || (!(bt345.2.1 == a0_1) || (!(bt345.2.2.1 == a0_2) || (!(bt345.2.2.2.1 == a0_3) || (!(bt345.2.2.2.2.1 == a0_4) || (!(bt345.2.2.2.2.2.1 == a0_5) || (!(bt345.2.2.2.2.2.2.1 == a0_6) || (!(bt345.2.2.2.2.2.2.2.1.toList == a0_7.toList))))))))) = true then (gambitlaw05_EffectBack.j0 k a2 bt343.1 true a0_0 a0_1 a0_2 a0_3 a0_4 a0_5 a0_6 a0_7 a1_0 a1_1 a1_2 a1_3 a1_4 a1_5 a1_6 a1_7) else (if (bt343.1.size : Int) > 80 then (gambitlaw05_EffectBack.j0 k a2 bt343.1 true a0_0 a0_1 a0_2 a0_3 a0_4 a0_5 a0_6 a0_7 a1_0 a1_1 a1_2 a1_3 a1_4 a1_5 a1_6 a1_7) else ((effect_Check.f k a0_0 a0_1 a0_2 a0_3 a0_4 a0_5 a0_6 a0_7).bind fun t355 => (gambitlaw05_EffectBack.j0 k a2 bt343.1 (t355 != 0) a0_0 a0_1 a0_2 a0_3 a0_4 a0_5 a0_6 a0_7 a1_0 a1_1 a1_2 a1_3 a1_4 a1_5 a1_6 a1_7)))) else (gambitlaw05_EffectBack.j0 k a2 bt343.1 true a0_0 a0_1 a0_2 a0_3 a0_4 a0_5 a0_6 a0_7 a1_0 a1_1 a1_2 a1_3 a1_4 a1_5 a1_6 a1_7))) else (gambitlaw05_EffectBack.j1 k a2))
theorem gambitlaw05_EffectBack.mono_l : ∀ k, (∀ y0, LeO (gambitlaw05_EffectBack.j1 k y0) (gambitlaw05_EffectBack.j1 (k + 1) y0)) ∧ (∀ y0 y1 y2 y3 y4 y5 y6 y7 y8 y9 y10 y11 y12 y13 y14 y15 y16 y17 y18, LeO (gambitlaw05_EffectBack.j0 k y0 y1 y2 y3 y4 y5 y6 y7 y8 y9 y10 y11 y12 y13 y14 y15 y16 y17 y18) (gambitlaw05_EffectBack.j0 (k + 1) y0 y1 y2 y3 y4 y5 y6 y7 y8 y9 y10 y11 y12 y13 y14 y15 y16 y17 y18))
 | 0 => ⟨fun _ r h => by simp [gambitlaw05_EffectBack.j1] at h, fun _ _ _ _ _ _ _ _ _ _ _ _ _ _ _ _ _ _ _ r h => by simp [gambitlaw05_EffectBack.j0] at h⟩
 | k + 1 => by
  obtain ⟨ih0, ih1⟩ := gambitlaw05_EffectBack.mono_l k
  refine ⟨?_, ?_⟩
  ·intro y0
   unfold gambitlaw05_EffectBack.j1
   repeat' first
   | (with_reducible exact ih0 _)
   | (with_reducible exact ih1 _ _ _ _ _ _ _ _ _ _ _ _ _ _ _ _ _ _ _)
   | (with_reducible exact effect_Check.mono _ _ _ _ _ _ _ _ _)
   | (with_reducible exact effect_Print.mono _ _ _ _ _ _ _ _ _)
   | (with_reducible exact gambitlaw05_lives.mono _)
   | (with_reducible exact LeO.refl _)
   | (with_reducible exact LeO.none _)
   | (with_reducible refine LeO.ite ?_ ?_)
   | (with_reducible refine LeO.bind ?_ (fun _ => ?_))
   | exact ih0 _
   | exact ih1 _ _ _ _ _ _ _ _ _ _ _ _ _ _ _ _ _ _ _
   | exact effect_Check.mono _ _ _ _ _ _ _ _ _
   | exact effect_Print.mono _ _ _ _ _ _ _ _ _
   | exact gambitlaw05_lives.mono _
   | exact LeO.none _
   | refine LeO.ite ?_ ?_
   | refine LeO.bind ?_ (fun _ => ?_)
  ·intro y0 y1 y2 y3 y4 y5 y6 y7 y8 y9 y10 y11 y12 y13 y14 y15 y16 y17 y18
   unfold gambitlaw05_EffectBack.j0
   repeat' first
   | (with_reducible exact ih0 _)
   | (with_reducible exact ih1 _ _ _ _ _ _ _ _ _ _ _ _ _ _ _ _ _ _ _)
   | (with_reducible exact effect_Check.mono _ _ _ _ _ _ _ _ _)
   | (with_reducible exact effect_Print.mono _ _ _ _ _ _ _ _ _)
   | (with_reducible exact gambitlaw05_lives.mono _)
   | (with_reducible exact LeO.refl _)
   | (with_reducible exact LeO.none _)
   | (with_reducible refine LeO.ite ?_ ?_)
   | (with_reducible refine LeO.bind ?_ (fun _ => ?_))
   | exact ih0 _
   | exact ih1 _ _ _ _ _ _ _ _ _ _ _ _ _ _ _ _ _ _ _
   | exact effect_Check.mono _ _ _ _ _ _ _ _ _
   | exact effect_Print.mono _ _ _ _ _ _ _ _ _
   | exact gambitlaw05_lives.mono _
   | exact LeO.none _
   | refine LeO.ite ?_ ?_
   | refine LeO.bind ?_ (fun _ => ?_)
theorem gambitlaw05_EffectBack.mono : ∀ a0 a1 a2 a3 a4 a5 a6 a7 a8 a9 a10 a11 a12 a13 a14 a15 a16 k, LeO (gambitlaw05_EffectBack.f k a0 a1 a2 a3 a4 a5 a6 a7 a8 a9 a10 a11 a12 a13 a14 a15 a16) (gambitlaw05_EffectBack.f (k + 1) a0 a1 a2 a3 a4 a5 a6 a7 a8 a9 a10 a11 a12 a13 a14 a15 a16) := by
 intro a0 a1 a2 a3 a4 a5 a6 a7 a8 a9 a10 a11 a12 a13 a14 a15 a16 k
 obtain ⟨ih0, ih1⟩ := gambitlaw05_EffectBack.mono_l k
 unfold gambitlaw05_EffectBack.f
 repeat' first
   | (with_reducible exact ih0 _)
   | (with_reducible exact ih1 _ _ _ _ _ _ _ _ _ _ _ _ _ _ _ _ _ _ _)
   | (with_reducible exact effect_Check.mono _ _ _ _ _ _ _ _ _)
   | (with_reducible exact effect_Print.mono _ _ _ _ _ _ _ _ _)
   | (with_reducible exact gambitlaw05_lives.mono _)
   | (with_reducible exact LeO.refl _)
   | (with_reducible exact LeO.none _)
   | (with_reducible refine LeO.ite ?_ ?_)
   | (with_reducible refine LeO.bind ?_ (fun _ => ?_))
   | exact ih0 _
   | exact ih1 _ _ _ _ _ _ _ _ _ _ _ _ _ _ _ _ _ _ _
   | exact effect_Check.mono _ _ _ _ _ _ _ _ _
   | exact effect_Print.mono _ _ _ _ _ _ _ _ _
   | exact gambitlaw05_lives.mono _
   | exact LeO.none _
   | refine LeO.ite ?_ ?_
   | refine LeO.bind ?_ (fun _ => ?_)
set_option maxHeartbeats 8000000 in
set_option maxRecDepth 100000 in
theorem gambitlaw05_EffectBack.calls (k : Nat) (a0_0 : Int) (a0_1 : Int) (a0_2 : Int) (a0_3 : Int) (a0_4 : Int) (a0_5 : Int) (a0_6 : Int) (a0_7 : ByteArray) (a1_0 : Int) (a1_1 : Int) (a1_2 : Int) (a1_3 : Int) (a1_4 : Int) (a1_5 : Int) (a1_6 : Int) (a1_7 : ByteArray) (a2 : ByteArray) (r : Bool) (w : World) (hG_ : GP w) (h : gambitlaw05_EffectBack.f k a0_0 a0_1 a0_2 a0_3 a0_4 a0_5 a0_6 a0_7 a1_0 a1_1 a1_2 a1_3 a1_4 a1_5 a1_6 a1_7 a2 = some r) :
  Calls Tryz.prog 5 #[.agg #[.int .u8 a0_0, .int .u8 a0_1, .int .u8 a0_2, .int .i64 a0_3, .int .u8 a0_4, .int .u8 a0_5, .int .u8 a0_6, .string a0_7], .agg #[.int .u8 a1_0, .int .u8 a1_1, .int .u8 a1_2, .int .i64 a1_3, .int .u8 a1_4, .int .u8 a1_5, .int .u8 a1_6, .string a1_7], .string a2] w fun e w' => e = .returned (.bool r) ∧ Below w.heap.size w w' := by
 have hu48 := Tryz.underlying48
 have HGP := Aside0.mk hG_
 clear hG_
 have HB := Aside0.mk (Below.refl w.heap.size w)
 have H : ((effect_Print.f k a0_0 a0_1 a0_2 a0_3 a0_4 a0_5 a0_6 a0_7).bind fun bt343 => (if bt343.2 = 0 then ((effect_Parse.f bt343.1).bind fun bt345 => (if bt345.2.2.2.2.2.2.2.2 = 0 then (if (!(bt345.1 == a0_0) || (!(bt345.2.1 == a0_1) || (!(bt345.2.2.1 == a0_2) || (!(bt345.2.2.2.1 == a0_3) || (!(bt345.2.2.2.2.1 == a0_4) || (!(bt345.2.2.2.2.2.1 == a0_5) || (!(bt345.2.2.2.2.2.2.1 == a0_6) || (!(bt345.2.2.2.2.2.2.2.1.toList == a0_7.toList))))))))) = true then (gambitlaw05_EffectBack.j0 k a2 bt343.1 true a0_0 a0_1 a0_2 a0_3 a0_4 a0_5 a0_6 a0_7 a1_0 a1_1 a1_2 a1_3 a1_4 a1_5 a1_6 a1_7) else (if (bt343.1.size : Int) > 80 then (gambitlaw05_EffectBack.j0 k a2 bt343.1 true a0_0 a0_1 a0_2 a0_3 a0_4 a0_5 a0_6 a0_7 a1_0 a1_1 a1_2 a1_3 a1_4 a1_5 a1_6 a1_7) else ((effect_Check.f k a0_0 a0_1 a0_2 a0_3 a0_4 a0_5 a0_6 a0_7).bind fun t355 => (gambitlaw05_EffectBack.j0 k a2 bt343.1 (t355 != 0) a0_0 a0_1 a0_2 a0_3 a0_4 a0_5 a0_6 a0_7 a1_0 a1_1 a1_2 a1_3 a1_4 a1_5 a1_6 a1_7)))) else (gambitlaw05_EffectBack.j0 k a2 bt343.1 true a0_0 a0_1 a0_2 a0_3 a0_4 a0_5 a0_6 a0_7 a1_0 a1_1 a1_2 a1_3 a1_4 a1_5 a1_6 a1_7))) else (gambitlaw05_EffectBack.j1 k a2))) = some r := h
 clear h
 replace H := Option.bind_eq_some_iff.mp H
 obtain ⟨⟨t343, t344⟩, A40, H⟩ := H
 replace H : (if t344 = 0 then ((effect_Parse.f t343).bind fun bt345 => (if bt345.2.2.2.2.2.2.2.2 = 0 then (if (!(bt345.1 == a0_0) || (!(bt345.2.1 == a0_1) || (!(bt345.2.2.1 == a0_2) || (!(bt345.2.2.2.1 == a0_3) || (!(bt345.2.2.2.2.1 == a0_4) || (!(bt345.2.2.2.2.2.1 == a0_5) || (!(bt345.2.2.2.2.2.2.1 == a0_6) || (!(bt345.2.2.2.2.2.2.2.1.toList == a0_7.toList))))))))) = true then (gambitlaw05_EffectBack.j0 k a2 t343 true a0_0 a0_1 a0_2 a0_3 a0_4 a0_5 a0_6 a0_7 a1_0 a1_1 a1_2 a1_3 a1_4 a1_5 a1_6 a1_7) else (if (t343.size : Int) > 80 then (gambitlaw05_EffectBack.j0 k a2 t343 true a0_0 a0_1 a0_2 a0_3 a0_4 a0_5 a0_6 a0_7 a1_0 a1_1 a1_2 a1_3 a1_4 a1_5 a1_6 a1_7) else ((effect_Check.f k a0_0 a0_1 a0_2 a0_3 a0_4 a0_5 a0_6 a0_7).bind fun t355 => (gambitlaw05_EffectBack.j0 k a2 t343 (t355 != 0) a0_0 a0_1 a0_2 a0_3 a0_4 a0_5 a0_6 a0_7 a1_0 a1_1 a1_2 a1_3 a1_4 a1_5 a1_6 a1_7)))) else (gambitlaw05_EffectBack.j0 k a2 t343 true a0_0 a0_1 a0_2 a0_3 a0_4 a0_5 a0_6 a0_7 a1_0 a1_1 a1_2 a1_3 a1_4 a1_5 a1_6 a1_7))) else (gambitlaw05_EffectBack.j1 k a2)) = some r := H
 have A4 := Aside0.mk A40
 clear A40
 have HC5 := Aside0.mk H
 clear H
 go_enter Tryz.func5, Tryz.ntmps5
 go_upto_if 23 with (first | ((with_reducible refine gate_dst (N := 3) rfl ?_); (try (refine gate_guard (by rfl) ?_; dsimp only)); refine box_event ?hg (N := 3) ?hd (cs := #[.int .u8 a0_0, .int .u8 a0_1, .int .u8 a0_2, .int .i64 a0_3, .int .u8 a0_4, .int .u8 a0_5, .int .u8 a0_6, .string a0_7]) (t := 48) ?hr ?_; (case hd => rfl); (case hg => rfl); (case hr => first | (go_simp; done) | (go_simp; rfl)); intro gb341 hg w6 hbox hb; have BK341 := Aside0.mk (hbox); have GW341 := Aside0.mk ((by rw [hg]; exact (below_size Zb) : w.heap.size ≤ gb341)); have GE341 := Aside0.mk ((by rw [hg]; exact (below_size Zb) : w.heap.size ≤ gb341)); replace HB := Aside0.mk (below_step Zb hb); clear hb hbox hg) | ((with_reducible refine gate_dst (N := 4) rfl ?_); (try (refine gate_guard (by rfl) ?_; dsimp only)); refine box_event ?hg (N := 4) ?hd (cs := #[.int .u8 a1_0, .int .u8 a1_1, .int .u8 a1_2, .int .i64 a1_3, .int .u8 a1_4, .int .u8 a1_5, .int .u8 a1_6, .string a1_7]) (t := 48) ?hr ?_; (case hd => rfl); (case hg => rfl); (case hr => first | (go_simp; done) | (go_simp; rfl)); intro gb342 hg w7 hbox hb; have BK342 := Aside0.mk (hbox); have GW342 := Aside0.mk ((by rw [hg]; exact (below_size (Zb1 GE341.out)) : w.heap.size ≤ gb342)); have GE342 := Aside0.mk ((by rw [hg]; exact (below_size (Zb1 GE341.out)) : w.heap.size ≤ gb342)); replace HB := Aside0.mk (below_step (Zb1 GE341.out) hb); have NB341_342 := Aside0.mk ((by rw [hg]; exact Nat.ne_of_lt (blk_lt (g := gb341) (o := .cells #[.int .u8 a0_0, .int .u8 a0_1, .int .u8 a0_2, .int .i64 a0_3, .int .u8 a0_4, .int .u8 a0_5, .int .u8 a0_6, .string a0_7] 48 (0, 0)) (Zk BK341.out)) : gb341 ≠ gb342)); have NB342_341 := Aside0.mk ((by rw [hg]; exact Nat.ne_of_gt (blk_lt (g := gb341) (o := .cells #[.int .u8 a0_0, .int .u8 a0_1, .int .u8 a0_2, .int .i64 a0_3, .int .u8 a0_4, .int .u8 a0_5, .int .u8 a0_6, .string a0_7] 48 (0, 0)) (Zk BK341.out)) : gb342 ≠ gb341)); replace BK341 := Aside0.mk (blk_below (g := gb341) (o := .cells #[.int .u8 a0_0, .int .u8 a0_1, .int .u8 a0_2, .int .i64 a0_3, .int .u8 a0_4, .int .u8 a0_5, .int .u8 a0_6, .string a0_7] 48 (0, 0)) (Zk BK341.out) hb); clear hb hbox hg; have hnb8 := NB341_342.out; have hnc8 := NB342_341.out; have hcz9_0 := Zc BK341.out 0 (.int .u8 a0_0) rfl; have hcz9_1 := Zc BK341.out 1 (.int .u8 a0_1) rfl; have hcz9_2 := Zc BK341.out 2 (.int .u8 a0_2) rfl; have hcz9_3 := Zc BK341.out 3 (.int .i64 a0_3) rfl; have hcz9_4 := Zc BK341.out 4 (.int .u8 a0_4) rfl; have hcz9_5 := Zc BK341.out 5 (.int .u8 a0_5) rfl; have hcz9_6 := Zc BK341.out 6 (.int .u8 a0_6) rfl; have hcz9_7 := Zc BK341.out 7 (.string a0_7) rfl; have hfz9_0 := blk_frozen BK341.out 0; have hfz9_1 := blk_frozen BK341.out 1; have hfz9_2 := blk_frozen BK341.out 2; have hfz9_3 := blk_frozen BK341.out 3; have hfz9_4 := blk_frozen BK341.out 4; have hfz9_5 := blk_frozen BK341.out 5; have hfz9_6 := blk_frozen BK341.out 6; have hfz9_7 := blk_frozen BK341.out 7) | ((with_reducible refine gate_callee (f := 23) rfl ?_); refine goesL_ (some 19) rfl rfl Tryz.func23 (by kernel_rfl) rfl #[.agg #[.int .u8 a0_0, .int .u8 a0_1, .int .u8 a0_2, .int .i64 a0_3, .int .u8 a0_4, .int .u8 a0_5, .int .u8 a0_6, .string a0_7]] rfl Zl ?_; (with_reducible refine (effect_Print.calls k a0_0 a0_1 a0_2 a0_3 a0_4 a0_5 a0_6 a0_7 t343 t344 _ ?side1 A4.out).mono ?_); (case side1 => first | (with_reducible exact HGP.out) | exact GP_below HGP.out (Zb2 GE341.out GE342.out)); rintro e w10 ⟨rfl, hb⟩; refine ⟨_, rfl, ?_⟩; replace BK341 := Aside0.mk (blk_below (g := gb341) (o := .cells #[.int .u8 a0_0, .int .u8 a0_1, .int .u8 a0_2, .int .i64 a0_3, .int .u8 a0_4, .int .u8 a0_5, .int .u8 a0_6, .string a0_7] 48 (0, 0)) (Zk BK341.out) hb); replace BK342 := Aside0.mk (blk_below (g := gb342) (o := .cells #[.int .u8 a1_0, .int .u8 a1_1, .int .u8 a1_2, .int .i64 a1_3, .int .u8 a1_4, .int .u8 a1_5, .int .u8 a1_6, .string a1_7] 48 (0, 0)) (Zk BK342.out) hb); replace HB := Aside0.mk (below_step (Zb2 GE341.out GE342.out) hb); (try clear hb); (try clear hb2); (try clear hk); (try clear hi)))
 (try simp only [Act.put, List.setIfInBounds_toArray, List.set_cons_zero, List.set_cons_succ])
 go_cut [] (fun wc => ∃ (kq : Nat), Aside0 (gambitlaw05_EffectBack.j1 kq a2 = some r) ∧ Aside0 (kq ≤ k) ∧ Aside0 (wc.heap[gb341]? = some (.cells #[.int .u8 a0_0, .int .u8 a0_1, .int .u8 a0_2, .int .i64 a0_3, .int .u8 a0_4, .int .u8 a0_5, .int .u8 a0_6, .string a0_7] 48 (0, 0))) ∧ Aside0 (wc.heap[gb342]? = some (.cells #[.int .u8 a1_0, .int .u8 a1_1, .int .u8 a1_2, .int .i64 a1_3, .int .u8 a1_4, .int .u8 a1_5, .int .u8 a1_6, .string a1_7] 48 (0, 0))) ∧ Aside0 (Below w.heap.size w wc))
 case first =>
  have H := HC5.out
  clear HC5
  by_cases c11 : t344 = 0
  ·rw [if_pos c11] at H
   have c11b0 : (t344 == 0) = true := beq_iff_eq.mpr c11
   have c11b1 : (t344 != 0) = false := bne_eq_false_iff_eq.mpr c11
   clear c11
   (first | rw [c11b0] | (simp only [i64_w, i32_w]; rw [c11b0]) | skip)
   replace H := Option.bind_eq_some_iff.mp H
   obtain ⟨⟨t345, t346, t347, t348, t349, t350, t351, t352, t353⟩, A120, H⟩ := H
   replace H : (if t353 = 0 then (if (!(t345 == a0_0) || (!(t346 == a0_1) || (!(t347 == a0_2) || (!(t348 == a0_3) || (!(t349 == a0_4) || (!(t350 == a0_5) || (!(t351 == a0_6) || (!(t352.toList == a0_7.toList))))))))) = true then (gambitlaw05_EffectBack.j0 k a2 t343 true a0_0 a0_1 a0_2 a0_3 a0_4 a0_5 a0_6 a0_7 a1_0 a1_1 a1_2 a1_3 a1_4 a1_5 a1_6 a1_7) else (if (t343.size : Int) > 80 then (gambitlaw05_EffectBack.j0 k a2 t343 true a0_0 a0_1 a0_2 a0_3 a0_4 a0_5 a0_6 a0_7 a1_0 a1_1 a1_2 a1_3 a1_4 a1_5 a1_6 a1_7) else ((effect_Check.f k a0_0 a0_1 a0_2 a0_3 a0_4 a0_5 a0_6 a0_7).bind fun t355 => (gambitlaw05_EffectBack.j0 k a2 t343 (t355 != 0) a0_0 a0_1 a0_2 a0_3 a0_4 a0_5 a0_6 a0_7 a1_0 a1_1 a1_2 a1_3 a1_4 a1_5 a1_6 a1_7)))) else (gambitlaw05_EffectBack.j0 k a2 t343 true a0_0 a0_1 a0_2 a0_3 a0_4 a0_5 a0_6 a0_7 a1_0 a1_1 a1_2 a1_3 a1_4 a1_5 a1_6 a1_7)) = some r := H
   have A12 := Aside0.mk A120
   clear A120
   have HC13 := Aside0.mk H
   clear H
   go_upto_region 4 with (first | ((with_reducible refine gate_callee (f := 20) rfl ?_); refine goesL_ (some 26) rfl rfl Tryz.func20 (by kernel_rfl) rfl #[.string t343] rfl Zl ?_; (with_reducible refine (effect_Parse.calls t343 t345 t346 t347 t348 t349 t350 t351 t352 t353 _ ?side1 A12.out).mono ?_); (case side1 => first | (with_reducible exact HGP.out) | exact GP_below HGP.out (Zb2 GE341.out GE342.out)); rintro e w14 ⟨rfl, hb⟩; refine ⟨_, rfl, ?_⟩; replace BK341 := Aside0.mk (blk_below (g := gb341) (o := .cells #[.int .u8 a0_0, .int .u8 a0_1, .int .u8 a0_2, .int .i64 a0_3, .int .u8 a0_4, .int .u8 a0_5, .int .u8 a0_6, .string a0_7] 48 (0, 0)) (Zk BK341.out) hb); replace BK342 := Aside0.mk (blk_below (g := gb342) (o := .cells #[.int .u8 a1_0, .int .u8 a1_1, .int .u8 a1_2, .int .i64 a1_3, .int .u8 a1_4, .int .u8 a1_5, .int .u8 a1_6, .string a1_7] 48 (0, 0)) (Zk BK342.out) hb); replace HB := Aside0.mk (below_step (Zb2 GE341.out GE342.out) hb); (try clear hb); (try clear hb2); (try clear hk); (try clear hi)) | ((with_reducible refine gate_dst (N := 9) rfl ?_); (try (refine gate_guard (by rfl) ?_; dsimp only)); refine box_event ?hg (N := 9) ?hd (cs := #[.int .u8 0, .int .u8 0, .int .u8 0, .int .i64 0, .int .u8 0, .int .u8 0, .int .u8 0, .string (⟨#[]⟩ : ByteArray)]) (t := 48) ?hr ?_; (case hd => rfl); (case hg => rfl); (case hr => first | (go_simp; done) | (go_simp; rfl)); intro gb354 hg w15 hbox hb; have BK354 := Aside0.mk (hbox); have GW354 := Aside0.mk ((by rw [hg]; exact (below_size (Zb2 GE341.out GE342.out)) : w.heap.size ≤ gb354)); have GE354 := Aside0.mk ((by rw [hg]; exact (below_size (Zb2 GE341.out GE342.out)) : w.heap.size ≤ gb354)); replace HB := Aside0.mk (below_step (Zb2 GE341.out GE342.out) hb); have NB341_354 := Aside0.mk ((by rw [hg]; exact Nat.ne_of_lt (blk_lt (g := gb341) (o := .cells #[.int .u8 a0_0, .int .u8 a0_1, .int .u8 a0_2, .int .i64 a0_3, .int .u8 a0_4, .int .u8 a0_5, .int .u8 a0_6, .string a0_7] 48 (0, 0)) (Zk BK341.out)) : gb341 ≠ gb354)); have NB354_341 := Aside0.mk ((by rw [hg]; exact Nat.ne_of_gt (blk_lt (g := gb341) (o := .cells #[.int .u8 a0_0, .int .u8 a0_1, .int .u8 a0_2, .int .i64 a0_3, .int .u8 a0_4, .int .u8 a0_5, .int .u8 a0_6, .string a0_7] 48 (0, 0)) (Zk BK341.out)) : gb354 ≠ gb341)); replace BK341 := Aside0.mk (blk_below (g := gb341) (o := .cells #[.int .u8 a0_0, .int .u8 a0_1, .int .u8 a0_2, .int .i64 a0_3, .int .u8 a0_4, .int .u8 a0_5, .int .u8 a0_6, .string a0_7] 48 (0, 0)) (Zk BK341.out) hb); have NB342_354 := Aside0.mk ((by rw [hg]; exact Nat.ne_of_lt (blk_lt (g := gb342) (o := .cells #[.int .u8 a1_0, .int .u8 a1_1, .int .u8 a1_2, .int .i64 a1_3, .int .u8 a1_4, .int .u8 a1_5, .int .u8 a1_6, .string a1_7] 48 (0, 0)) (Zk BK342.out)) : gb342 ≠ gb354)); have NB354_342 := Aside0.mk ((by rw [hg]; exact Nat.ne_of_gt (blk_lt (g := gb342) (o := .cells #[.int .u8 a1_0, .int .u8 a1_1, .int .u8 a1_2, .int .i64 a1_3, .int .u8 a1_4, .int .u8 a1_5, .int .u8 a1_6, .string a1_7] 48 (0, 0)) (Zk BK342.out)) : gb354 ≠ gb342)); replace BK342 := Aside0.mk (blk_below (g := gb342) (o := .cells #[.int .u8 a1_0, .int .u8 a1_1, .int .u8 a1_2, .int .i64 a1_3, .int .u8 a1_4, .int .u8 a1_5, .int .u8 a1_6, .string a1_7] 48 (0, 0)) (Zk BK342.out) hb); clear hb hbox hg; have hnb16 := NB354_341.out; have hnc16 := NB341_354.out; have hnb17 := NB354_342.out; have hnc17 := NB342_354.out; have hcz18_0 := Zc BK354.out 0 (.int .u8 0) rfl; have hcz18_1 := Zc BK354.out 1 (.int .u8 0) rfl; have hcz18_2 := Zc BK354.out 2 (.int .u8 0) rfl; have hcz18_3 := Zc BK354.out 3 (.int .i64 0) rfl; have hcz18_4 := Zc BK354.out 4 (.int .u8 0) rfl; have hcz18_5 := Zc BK354.out 5 (.int .u8 0) rfl; have hcz18_6 := Zc BK354.out 6 (.int .u8 0) rfl; have hcz18_7 := Zc BK354.out 7 (.string (⟨#[]⟩ : ByteArray)) rfl; have hfz18_0 := blk_frozen BK354.out 0; have hfz18_1 := blk_frozen BK354.out 1; have hfz18_2 := blk_frozen BK354.out 2; have hfz18_3 := blk_frozen BK354.out 3; have hfz18_4 := blk_frozen BK354.out 4; have hfz18_5 := blk_frozen BK354.out 5; have hfz18_6 := blk_frozen BK354.out 6; have hfz18_7 := blk_frozen BK354.out 7))
   (try simp only [Act.put, List.setIfInBounds_toArray, List.set_cons_zero, List.set_cons_succ])
   go_cut [45] (fun v45 wc => ∃ (kq : Nat) (x45_12 : Bool), v45 = .bool x45_12 ∧ Aside0 (gambitlaw05_EffectBack.j0 kq a2 t343 x45_12 a0_0 a0_1 a0_2 a0_3 a0_4 a0_5 a0_6 a0_7 a1_0 a1_1 a1_2 a1_3 a1_4 a1_5 a1_6 a1_7 = some r) ∧ Aside0 (kq ≤ k) ∧ Aside0 (wc.heap[gb341]? = some (.cells #[.int .u8 a0_0, .int .u8 a0_1, .int .u8 a0_2, .int .i64 a0_3, .int .u8 a0_4, .int .u8 a0_5, .int .u8 a0_6, .string a0_7] 48 (0, 0))) ∧ Aside0 (wc.heap[gb342]? = some (.cells #[.int .u8 a1_0, .int .u8 a1_1, .int .u8 a1_2, .int .i64 a1_3, .int .u8 a1_4, .int .u8 a1_5, .int .u8 a1_6, .string a1_7] 48 (0, 0))) ∧ Aside0 (wc.heap[gb354]? = some (.cells #[.int .u8 t345, .int .u8 t346, .int .u8 t347, .int .i64 t348, .int .u8 t349, .int .u8 t350, .int .u8 t351, .string t352] 48 (0, 0))) ∧ Aside0 (Below w.heap.size w wc))
   case first =>
    have H := HC13.out
    clear HC13
    by_cases c19 : t353 = 0
    ·rw [if_pos c19] at H
     have c19b0 : (t353 == 0) = true := beq_iff_eq.mpr c19
     have c19b1 : (t353 != 0) = false := bne_eq_false_iff_eq.mpr c19
     clear c19
     (first | rw [c19b0] | (simp only [i64_w, i32_w]; rw [c19b0]) | skip)
     by_cases c20 : (!(t345 == a0_0) || (!(t346 == a0_1) || (!(t347 == a0_2) || (!(t348 == a0_3) || (!(t349 == a0_4) || (!(t350 == a0_5) || (!(t351 == a0_6) || (!(t352.toList == a0_7.toList))))))))) = true
     ·rw [if_pos c20] at H
      have c20b0 : (!(t345 == a0_0) || (!(t346 == a0_1) || (!(t347 == a0_2) || (!(t348 == a0_3) || (!(t349 == a0_4) || (!(t350 == a0_5) || (!(t351 == a0_6) || (!(t352.toList == a0_7.toList))))))))) = true := c20
      clear c20
      have H' := Aside0.mk H
      clear H
      have hnb21 := NB354_341.out
      have hnc21 := NB341_354.out
      have hnb22 := NB354_342.out
      have hnc22 := NB342_354.out
      have hcz23_0 := Zc BK354.out 0 (.int .u8 0) rfl
      have hcz23_1 := Zc BK354.out 1 (.int .u8 0) rfl
      have hcz23_2 := Zc BK354.out 2 (.int .u8 0) rfl
      have hcz23_3 := Zc BK354.out 3 (.int .i64 0) rfl
      have hcz23_4 := Zc BK354.out 4 (.int .u8 0) rfl
      have hcz23_5 := Zc BK354.out 5 (.int .u8 0) rfl
      have hcz23_6 := Zc BK354.out 6 (.int .u8 0) rfl
      have hcz23_7 := Zc BK354.out 7 (.string (⟨#[]⟩ : ByteArray)) rfl
      have hfz23_0 := blk_frozen BK354.out 0
      have hfz23_1 := blk_frozen BK354.out 1
      have hfz23_2 := blk_frozen BK354.out 2
      have hfz23_3 := blk_frozen BK354.out 3
      have hfz23_4 := blk_frozen BK354.out 4
      have hfz23_5 := blk_frozen BK354.out 5
      have hfz23_6 := blk_frozen BK354.out 6
      have hfz23_7 := blk_frozen BK354.out 7
      have hnb24 := NB341_342.out
      have hnc24 := NB342_341.out
      have hcz25_0 := Zc BK341.out 0 (.int .u8 a0_0) rfl
      have hcz25_1 := Zc BK341.out 1 (.int .u8 a0_1) rfl
      have hcz25_2 := Zc BK341.out 2 (.int .u8 a0_2) rfl
      have hcz25_3 := Zc BK341.out 3 (.int .i64 a0_3) rfl
      have hcz25_4 := Zc BK341.out 4 (.int .u8 a0_4) rfl
      have hcz25_5 := Zc BK341.out 5 (.int .u8 a0_5) rfl
      have hcz25_6 := Zc BK341.out 6 (.int .u8 a0_6) rfl
      have hcz25_7 := Zc BK341.out 7 (.string a0_7) rfl
      have hfz25_0 := blk_frozen BK341.out 0
      have hfz25_1 := blk_frozen BK341.out 1
      have hfz25_2 := blk_frozen BK341.out 2
      have hfz25_3 := blk_frozen BK341.out 3
      have hfz25_4 := blk_frozen BK341.out 4
      have hfz25_5 := blk_frozen BK341.out 5
      have hfz25_6 := blk_frozen BK341.out 6
      have hfz25_7 := blk_frozen BK341.out 7
      go_wp2
      go_meet
      case rel => exact ⟨_, (true), Zs, H', ⟨by first | omega | exact Nat.le_refl _⟩, ⟨by (with_reducible repeat (first | refine blk_drewN ?_ _ | refine blk_drew ?_ | refine blk_alloc ?_ _)); refine blk_far ?_ NB341_354.out _; (with_reducible repeat (first | refine blk_drewN ?_ _ | refine blk_drew ?_ | refine blk_alloc ?_ _)); refine blk_far ?_ NB341_354.out _; (with_reducible repeat (first | refine blk_drewN ?_ _ | refine blk_drew ?_ | refine blk_alloc ?_ _)); refine blk_far ?_ NB341_354.out _; (with_reducible repeat (first | refine blk_drewN ?_ _ | refine blk_drew ?_ | refine blk_alloc ?_ _)); refine blk_far ?_ NB341_354.out _; (with_reducible repeat (first | refine blk_drewN ?_ _ | refine blk_drew ?_ | refine blk_alloc ?_ _)); refine blk_far ?_ NB341_354.out _; (with_reducible repeat (first | refine blk_drewN ?_ _ | refine blk_drew ?_ | refine blk_alloc ?_ _)); refine blk_far ?_ NB341_354.out _; (with_reducible repeat (first | refine blk_drewN ?_ _ | refine blk_drew ?_ | refine blk_alloc ?_ _)); refine blk_far ?_ NB341_354.out _; (with_reducible repeat (first | refine blk_drewN ?_ _ | refine blk_drew ?_ | refine blk_alloc ?_ _)); refine blk_far ?_ NB341_354.out _; exact Zk BK341.out⟩, ⟨by (with_reducible repeat (first | refine blk_drewN ?_ _ | refine blk_drew ?_ | refine blk_alloc ?_ _)); refine blk_far ?_ NB342_354.out _; (with_reducible repeat (first | refine blk_drewN ?_ _ | refine blk_drew ?_ | refine blk_alloc ?_ _)); refine blk_far ?_ NB342_354.out _; (with_reducible repeat (first | refine blk_drewN ?_ _ | refine blk_drew ?_ | refine blk_alloc ?_ _)); refine blk_far ?_ NB342_354.out _; (with_reducible repeat (first | refine blk_drewN ?_ _ | refine blk_drew ?_ | refine blk_alloc ?_ _)); refine blk_far ?_ NB342_354.out _; (with_reducible repeat (first | refine blk_drewN ?_ _ | refine blk_drew ?_ | refine blk_alloc ?_ _)); refine blk_far ?_ NB342_354.out _; (with_reducible repeat (first | refine blk_drewN ?_ _ | refine blk_drew ?_ | refine blk_alloc ?_ _)); refine blk_far ?_ NB342_354.out _; (with_reducible repeat (first | refine blk_drewN ?_ _ | refine blk_drew ?_ | refine blk_alloc ?_ _)); refine blk_far ?_ NB342_354.out _; (with_reducible repeat (first | refine blk_drewN ?_ _ | refine blk_drew ?_ | refine blk_alloc ?_ _)); refine blk_far ?_ NB342_354.out _; exact Zk BK342.out⟩, ⟨by (with_reducible repeat (first | refine blk_drewN ?_ _ | refine blk_drew ?_ | refine blk_alloc ?_ _)); refine blk_put (cs := #[.int .u8 t345, .int .u8 t346, .int .u8 t347, .int .i64 t348, .int .u8 t349, .int .u8 t350, .int .u8 t351, .string (⟨#[]⟩ : ByteArray)]) ?_ 7 _ rfl; (with_reducible repeat (first | refine blk_drewN ?_ _ | refine blk_drew ?_ | refine blk_alloc ?_ _)); refine blk_put (cs := #[.int .u8 t345, .int .u8 t346, .int .u8 t347, .int .i64 t348, .int .u8 t349, .int .u8 t350, .int .u8 0, .string (⟨#[]⟩ : ByteArray)]) ?_ 6 _ rfl; (with_reducible repeat (first | refine blk_drewN ?_ _ | refine blk_drew ?_ | refine blk_alloc ?_ _)); refine blk_put (cs := #[.int .u8 t345, .int .u8 t346, .int .u8 t347, .int .i64 t348, .int .u8 t349, .int .u8 0, .int .u8 0, .string (⟨#[]⟩ : ByteArray)]) ?_ 5 _ rfl; (with_reducible repeat (first | refine blk_drewN ?_ _ | refine blk_drew ?_ | refine blk_alloc ?_ _)); refine blk_put (cs := #[.int .u8 t345, .int .u8 t346, .int .u8 t347, .int .i64 t348, .int .u8 0, .int .u8 0, .int .u8 0, .string (⟨#[]⟩ : ByteArray)]) ?_ 4 _ rfl; (with_reducible repeat (first | refine blk_drewN ?_ _ | refine blk_drew ?_ | refine blk_alloc ?_ _)); refine blk_put (cs := #[.int .u8 t345, .int .u8 t346, .int .u8 t347, .int .i64 0, .int .u8 0, .int .u8 0, .int .u8 0, .string (⟨#[]⟩ : ByteArray)]) ?_ 3 _ rfl; (with_reducible repeat (first | refine blk_drewN ?_ _ | refine blk_drew ?_ | refine blk_alloc ?_ _)); refine blk_put (cs := #[.int .u8 t345, .int .u8 t346, .int .u8 0, .int .i64 0, .int .u8 0, .int .u8 0, .int .u8 0, .string (⟨#[]⟩ : ByteArray)]) ?_ 2 _ rfl; (with_reducible repeat (first | refine blk_drewN ?_ _ | refine blk_drew ?_ | refine blk_alloc ?_ _)); refine blk_put (cs := #[.int .u8 t345, .int .u8 0, .int .u8 0, .int .i64 0, .int .u8 0, .int .u8 0, .int .u8 0, .string (⟨#[]⟩ : ByteArray)]) ?_ 1 _ rfl; (with_reducible repeat (first | refine blk_drewN ?_ _ | refine blk_drew ?_ | refine blk_alloc ?_ _)); refine blk_put (cs := #[.int .u8 0, .int .u8 0, .int .u8 0, .int .i64 0, .int .u8 0, .int .u8 0, .int .u8 0, .string (⟨#[]⟩ : ByteArray)]) ?_ 0 _ rfl; exact Zk BK354.out⟩, ⟨Zb3 GE341.out GE342.out GE354.out⟩⟩
     ·rw [if_neg c20] at H
      have c20b0 : (!(t345 == a0_0) || (!(t346 == a0_1) || (!(t347 == a0_2) || (!(t348 == a0_3) || (!(t349 == a0_4) || (!(t350 == a0_5) || (!(t351 == a0_6) || (!(t352.toList == a0_7.toList))))))))) = false := by simpa using c20
      clear c20
      by_cases c26 : (t343.size : Int) > 80
      ·rw [if_pos c26] at H
       have c26b0 : decide (80 < (t343.size : Int)) = true := decide_eq_true c26
       have c26b1 : decide (80 < t343.size) = true := decide_eq_true (by omega)
       clear c26
       have H' := Aside0.mk H
       clear H
       have hnb27 := NB354_341.out
       have hnc27 := NB341_354.out
       have hnb28 := NB354_342.out
       have hnc28 := NB342_354.out
       have hcz29_0 := Zc BK354.out 0 (.int .u8 0) rfl
       have hcz29_1 := Zc BK354.out 1 (.int .u8 0) rfl
       have hcz29_2 := Zc BK354.out 2 (.int .u8 0) rfl
       have hcz29_3 := Zc BK354.out 3 (.int .i64 0) rfl
       have hcz29_4 := Zc BK354.out 4 (.int .u8 0) rfl
       have hcz29_5 := Zc BK354.out 5 (.int .u8 0) rfl
       have hcz29_6 := Zc BK354.out 6 (.int .u8 0) rfl
       have hcz29_7 := Zc BK354.out 7 (.string (⟨#[]⟩ : ByteArray)) rfl
       have hfz29_0 := blk_frozen BK354.out 0
       have hfz29_1 := blk_frozen BK354.out 1
       have hfz29_2 := blk_frozen BK354.out 2
       have hfz29_3 := blk_frozen BK354.out 3
       have hfz29_4 := blk_frozen BK354.out 4
       have hfz29_5 := blk_frozen BK354.out 5
       have hfz29_6 := blk_frozen BK354.out 6
       have hfz29_7 := blk_frozen BK354.out 7
       have hnb30 := NB341_342.out
       have hnc30 := NB342_341.out
       have hcz31_0 := Zc BK341.out 0 (.int .u8 a0_0) rfl
       have hcz31_1 := Zc BK341.out 1 (.int .u8 a0_1) rfl
       have hcz31_2 := Zc BK341.out 2 (.int .u8 a0_2) rfl
       have hcz31_3 := Zc BK341.out 3 (.int .i64 a0_3) rfl
       have hcz31_4 := Zc BK341.out 4 (.int .u8 a0_4) rfl
       have hcz31_5 := Zc BK341.out 5 (.int .u8 a0_5) rfl
       have hcz31_6 := Zc BK341.out 6 (.int .u8 a0_6) rfl
       have hcz31_7 := Zc BK341.out 7 (.string a0_7) rfl
       have hfz31_0 := blk_frozen BK341.out 0
       have hfz31_1 := blk_frozen BK341.out 1
       have hfz31_2 := blk_frozen BK341.out 2
       have hfz31_3 := blk_frozen BK341.out 3
       have hfz31_4 := blk_frozen BK341.out 4
       have hfz31_5 := blk_frozen BK341.out 5
       have hfz31_6 := blk_frozen BK341.out 6
       have hfz31_7 := blk_frozen BK341.out 7
       go_wp2
       go_meet
       case rel => exact ⟨_, (true), Zs, H', ⟨by first | omega | exact Nat.le_refl _⟩, ⟨by (with_reducible repeat (first | refine blk_drewN ?_ _ | refine blk_drew ?_ | refine blk_alloc ?_ _)); refine blk_far ?_ NB341_354.out _; (with_reducible repeat (first | refine blk_drewN ?_ _ | refine blk_drew ?_ | refine blk_alloc ?_ _)); refine blk_far ?_ NB341_354.out _; (with_reducible repeat (first | refine blk_drewN ?_ _ | refine blk_drew ?_ | refine blk_alloc ?_ _)); refine blk_far ?_ NB341_354.out _; (with_reducible repeat (first | refine blk_drewN ?_ _ | refine blk_drew ?_ | refine blk_alloc ?_ _)); refine blk_far ?_ NB341_354.out _; (with_reducible repeat (first | refine blk_drewN ?_ _ | refine blk_drew ?_ | refine blk_alloc ?_ _)); refine blk_far ?_ NB341_354.out _; (with_reducible repeat (first | refine blk_drewN ?_ _ | refine blk_drew ?_ | refine blk_alloc ?_ _)); refine blk_far ?_ NB341_354.out _; (with_reducible repeat (first | refine blk_drewN ?_ _ | refine blk_drew ?_ | refine blk_alloc ?_ _)); refine blk_far ?_ NB341_354.out _; (with_reducible repeat (first | refine blk_drewN ?_ _ | refine blk_drew ?_ | refine blk_alloc ?_ _)); refine blk_far ?_ NB341_354.out _; exact Zk BK341.out⟩, ⟨by (with_reducible repeat (first | refine blk_drewN ?_ _ | refine blk_drew ?_ | refine blk_alloc ?_ _)); refine blk_far ?_ NB342_354.out _; (with_reducible repeat (first | refine blk_drewN ?_ _ | refine blk_drew ?_ | refine blk_alloc ?_ _)); refine blk_far ?_ NB342_354.out _; (with_reducible repeat (first | refine blk_drewN ?_ _ | refine blk_drew ?_ | refine blk_alloc ?_ _)); refine blk_far ?_ NB342_354.out _; (with_reducible repeat (first | refine blk_drewN ?_ _ | refine blk_drew ?_ | refine blk_alloc ?_ _)); refine blk_far ?_ NB342_354.out _; (with_reducible repeat (first | refine blk_drewN ?_ _ | refine blk_drew ?_ | refine blk_alloc ?_ _)); refine blk_far ?_ NB342_354.out _; (with_reducible repeat (first | refine blk_drewN ?_ _ | refine blk_drew ?_ | refine blk_alloc ?_ _)); refine blk_far ?_ NB342_354.out _; (with_reducible repeat (first | refine blk_drewN ?_ _ | refine blk_drew ?_ | refine blk_alloc ?_ _)); refine blk_far ?_ NB342_354.out _; (with_reducible repeat (first | refine blk_drewN ?_ _ | refine blk_drew ?_ | refine blk_alloc ?_ _)); refine blk_far ?_ NB342_354.out _; exact Zk BK342.out⟩, ⟨by (with_reducible repeat (first | refine blk_drewN ?_ _ | refine blk_drew ?_ | refine blk_alloc ?_ _)); refine blk_put (cs := #[.int .u8 t345, .int .u8 t346, .int .u8 t347, .int .i64 t348, .int .u8 t349, .int .u8 t350, .int .u8 t351, .string (⟨#[]⟩ : ByteArray)]) ?_ 7 _ rfl; (with_reducible repeat (first | refine blk_drewN ?_ _ | refine blk_drew ?_ | refine blk_alloc ?_ _)); refine blk_put (cs := #[.int .u8 t345, .int .u8 t346, .int .u8 t347, .int .i64 t348, .int .u8 t349, .int .u8 t350, .int .u8 0, .string (⟨#[]⟩ : ByteArray)]) ?_ 6 _ rfl; (with_reducible repeat (first | refine blk_drewN ?_ _ | refine blk_drew ?_ | refine blk_alloc ?_ _)); refine blk_put (cs := #[.int .u8 t345, .int .u8 t346, .int .u8 t347, .int .i64 t348, .int .u8 t349, .int .u8 0, .int .u8 0, .string (⟨#[]⟩ : ByteArray)]) ?_ 5 _ rfl; (with_reducible repeat (first | refine blk_drewN ?_ _ | refine blk_drew ?_ | refine blk_alloc ?_ _)); refine blk_put (cs := #[.int .u8 t345, .int .u8 t346, .int .u8 t347, .int .i64 t348, .int .u8 0, .int .u8 0, .int .u8 0, .string (⟨#[]⟩ : ByteArray)]) ?_ 4 _ rfl; (with_reducible repeat (first | refine blk_drewN ?_ _ | refine blk_drew ?_ | refine blk_alloc ?_ _)); refine blk_put (cs := #[.int .u8 t345, .int .u8 t346, .int .u8 t347, .int .i64 0, .int .u8 0, .int .u8 0, .int .u8 0, .string (⟨#[]⟩ : ByteArray)]) ?_ 3 _ rfl; (with_reducible repeat (first | refine blk_drewN ?_ _ | refine blk_drew ?_ | refine blk_alloc ?_ _)); refine blk_put (cs := #[.int .u8 t345, .int .u8 t346, .int .u8 0, .int .i64 0, .int .u8 0, .int .u8 0, .int .u8 0, .string (⟨#[]⟩ : ByteArray)]) ?_ 2 _ rfl; (with_reducible repeat (first | refine blk_drewN ?_ _ | refine blk_drew ?_ | refine blk_alloc ?_ _)); refine blk_put (cs := #[.int .u8 t345, .int .u8 0, .int .u8 0, .int .i64 0, .int .u8 0, .int .u8 0, .int .u8 0, .string (⟨#[]⟩ : ByteArray)]) ?_ 1 _ rfl; (with_reducible repeat (first | refine blk_drewN ?_ _ | refine blk_drew ?_ | refine blk_alloc ?_ _)); refine blk_put (cs := #[.int .u8 0, .int .u8 0, .int .u8 0, .int .i64 0, .int .u8 0, .int .u8 0, .int .u8 0, .string (⟨#[]⟩ : ByteArray)]) ?_ 0 _ rfl; exact Zk BK354.out⟩, ⟨Zb3 GE341.out GE342.out GE354.out⟩⟩
      ·rw [if_neg c26] at H
       have c26b0 : decide (80 < (t343.size : Int)) = false := decide_eq_false c26
       have c26b1 : decide (80 < t343.size) = false := decide_eq_false (by omega)
       clear c26
       replace H := Option.bind_eq_some_iff.mp H
       obtain ⟨t355, A320, H⟩ := H
       replace H : (gambitlaw05_EffectBack.j0 k a2 t343 (t355 != 0) a0_0 a0_1 a0_2 a0_3 a0_4 a0_5 a0_6 a0_7 a1_0 a1_1 a1_2 a1_3 a1_4 a1_5 a1_6 a1_7) = some r := H
       have A32 := Aside0.mk A320
       clear A320
       have H' := Aside0.mk H
       clear H
       have hnb33 := NB354_341.out
       have hnc33 := NB341_354.out
       have hnb34 := NB354_342.out
       have hnc34 := NB342_354.out
       have hcz35_0 := Zc BK354.out 0 (.int .u8 0) rfl
       have hcz35_1 := Zc BK354.out 1 (.int .u8 0) rfl
       have hcz35_2 := Zc BK354.out 2 (.int .u8 0) rfl
       have hcz35_3 := Zc BK354.out 3 (.int .i64 0) rfl
       have hcz35_4 := Zc BK354.out 4 (.int .u8 0) rfl
       have hcz35_5 := Zc BK354.out 5 (.int .u8 0) rfl
       have hcz35_6 := Zc BK354.out 6 (.int .u8 0) rfl
       have hcz35_7 := Zc BK354.out 7 (.string (⟨#[]⟩ : ByteArray)) rfl
       have hfz35_0 := blk_frozen BK354.out 0
       have hfz35_1 := blk_frozen BK354.out 1
       have hfz35_2 := blk_frozen BK354.out 2
       have hfz35_3 := blk_frozen BK354.out 3
       have hfz35_4 := blk_frozen BK354.out 4
       have hfz35_5 := blk_frozen BK354.out 5
       have hfz35_6 := blk_frozen BK354.out 6
       have hfz35_7 := blk_frozen BK354.out 7
       have hnb36 := NB341_342.out
       have hnc36 := NB342_341.out
       have hcz37_0 := Zc BK341.out 0 (.int .u8 a0_0) rfl
       have hcz37_1 := Zc BK341.out 1 (.int .u8 a0_1) rfl
       have hcz37_2 := Zc BK341.out 2 (.int .u8 a0_2) rfl
       have hcz37_3 := Zc BK341.out 3 (.int .i64 a0_3) rfl
       have hcz37_4 := Zc BK341.out 4 (.int .u8 a0_4) rfl
       have hcz37_5 := Zc BK341.out 5 (.int .u8 a0_5) rfl
       have hcz37_6 := Zc BK341.out 6 (.int .u8 a0_6) rfl
       have hcz37_7 := Zc BK341.out 7 (.string a0_7) rfl
       have hfz37_0 := blk_frozen BK341.out 0
       have hfz37_1 := blk_frozen BK341.out 1
       have hfz37_2 := blk_frozen BK341.out 2
       have hfz37_3 := blk_frozen BK341.out 3
       have hfz37_4 := blk_frozen BK341.out 4
       have hfz37_5 := blk_frozen BK341.out 5
       have hfz37_6 := blk_frozen BK341.out 6
       have hfz37_7 := blk_frozen BK341.out 7
       go_wp2_with (first | (go_at_call 24; (with_reducible refine (effect_Check.calls k a0_0 a0_1 a0_2 a0_3 a0_4 a0_5 a0_6 a0_7 t355 _ A32.out).mono ?_); rintro e w38 ⟨rfl, hb⟩; replace BK341 := Aside0.mk (blk_below (g := gb341) (o := .cells #[.int .u8 a0_0, .int .u8 a0_1, .int .u8 a0_2, .int .i64 a0_3, .int .u8 a0_4, .int .u8 a0_5, .int .u8 a0_6, .string a0_7] 48 (0, 0)) (by (with_reducible repeat (first | refine blk_drewN ?_ _ | refine blk_drew ?_ | refine blk_alloc ?_ _)); refine blk_far ?_ NB341_354.out _; (with_reducible repeat (first | refine blk_drewN ?_ _ | refine blk_drew ?_ | refine blk_alloc ?_ _)); refine blk_far ?_ NB341_354.out _; (with_reducible repeat (first | refine blk_drewN ?_ _ | refine blk_drew ?_ | refine blk_alloc ?_ _)); refine blk_far ?_ NB341_354.out _; (with_reducible repeat (first | refine blk_drewN ?_ _ | refine blk_drew ?_ | refine blk_alloc ?_ _)); refine blk_far ?_ NB341_354.out _; (with_reducible repeat (first | refine blk_drewN ?_ _ | refine blk_drew ?_ | refine blk_alloc ?_ _)); refine blk_far ?_ NB341_354.out _; (with_reducible repeat (first | refine blk_drewN ?_ _ | refine blk_drew ?_ | refine blk_alloc ?_ _)); refine blk_far ?_ NB341_354.out _; (with_reducible repeat (first | refine blk_drewN ?_ _ | refine blk_drew ?_ | refine blk_alloc ?_ _)); refine blk_far ?_ NB341_354.out _; (with_reducible repeat (first | refine blk_drewN ?_ _ | refine blk_drew ?_ | refine blk_alloc ?_ _)); refine blk_far ?_ NB341_354.out _; exact Zk BK341.out) hb); replace BK342 := Aside0.mk (blk_below (g := gb342) (o := .cells #[.int .u8 a1_0, .int .u8 a1_1, .int .u8 a1_2, .int .i64 a1_3, .int .u8 a1_4, .int .u8 a1_5, .int .u8 a1_6, .string a1_7] 48 (0, 0)) (by (with_reducible repeat (first | refine blk_drewN ?_ _ | refine blk_drew ?_ | refine blk_alloc ?_ _)); refine blk_far ?_ NB342_354.out _; (with_reducible repeat (first | refine blk_drewN ?_ _ | refine blk_drew ?_ | refine blk_alloc ?_ _)); refine blk_far ?_ NB342_354.out _; (with_reducible repeat (first | refine blk_drewN ?_ _ | refine blk_drew ?_ | refine blk_alloc ?_ _)); refine blk_far ?_ NB342_354.out _; (with_reducible repeat (first | refine blk_drewN ?_ _ | refine blk_drew ?_ | refine blk_alloc ?_ _)); refine blk_far ?_ NB342_354.out _; (with_reducible repeat (first | refine blk_drewN ?_ _ | refine blk_drew ?_ | refine blk_alloc ?_ _)); refine blk_far ?_ NB342_354.out _; (with_reducible repeat (first | refine blk_drewN ?_ _ | refine blk_drew ?_ | refine blk_alloc ?_ _)); refine blk_far ?_ NB342_354.out _; (with_reducible repeat (first | refine blk_drewN ?_ _ | refine blk_drew ?_ | refine blk_alloc ?_ _)); refine blk_far ?_ NB342_354.out _; (with_reducible repeat (first | refine blk_drewN ?_ _ | refine blk_drew ?_ | refine blk_alloc ?_ _)); refine blk_far ?_ NB342_354.out _; exact Zk BK342.out) hb); replace BK354 := Aside0.mk (blk_below (g := gb354) (o := .cells #[.int .u8 t345, .int .u8 t346, .int .u8 t347, .int .i64 t348, .int .u8 t349, .int .u8 t350, .int .u8 t351, .string t352] 48 (0, 0)) (by (with_reducible repeat (first | refine blk_drewN ?_ _ | refine blk_drew ?_ | refine blk_alloc ?_ _)); refine blk_put (cs := #[.int .u8 t345, .int .u8 t346, .int .u8 t347, .int .i64 t348, .int .u8 t349, .int .u8 t350, .int .u8 t351, .string (⟨#[]⟩ : ByteArray)]) ?_ 7 _ rfl; (with_reducible repeat (first | refine blk_drewN ?_ _ | refine blk_drew ?_ | refine blk_alloc ?_ _)); refine blk_put (cs := #[.int .u8 t345, .int .u8 t346, .int .u8 t347, .int .i64 t348, .int .u8 t349, .int .u8 t350, .int .u8 0, .string (⟨#[]⟩ : ByteArray)]) ?_ 6 _ rfl; (with_reducible repeat (first | refine blk_drewN ?_ _ | refine blk_drew ?_ | refine blk_alloc ?_ _)); refine blk_put (cs := #[.int .u8 t345, .int .u8 t346, .int .u8 t347, .int .i64 t348, .int .u8 t349, .int .u8 0, .int .u8 0, .string (⟨#[]⟩ : ByteArray)]) ?_ 5 _ rfl; (with_reducible repeat (first | refine blk_drewN ?_ _ | refine blk_drew ?_ | refine blk_alloc ?_ _)); refine blk_put (cs := #[.int .u8 t345, .int .u8 t346, .int .u8 t347, .int .i64 t348, .int .u8 0, .int .u8 0, .int .u8 0, .string (⟨#[]⟩ : ByteArray)]) ?_ 4 _ rfl; (with_reducible repeat (first | refine blk_drewN ?_ _ | refine blk_drew ?_ | refine blk_alloc ?_ _)); refine blk_put (cs := #[.int .u8 t345, .int .u8 t346, .int .u8 t347, .int .i64 0, .int .u8 0, .int .u8 0, .int .u8 0, .string (⟨#[]⟩ : ByteArray)]) ?_ 3 _ rfl; (with_reducible repeat (first | refine blk_drewN ?_ _ | refine blk_drew ?_ | refine blk_alloc ?_ _)); refine blk_put (cs := #[.int .u8 t345, .int .u8 t346, .int .u8 0, .int .i64 0, .int .u8 0, .int .u8 0, .int .u8 0, .string (⟨#[]⟩ : ByteArray)]) ?_ 2 _ rfl; (with_reducible repeat (first | refine blk_drewN ?_ _ | refine blk_drew ?_ | refine blk_alloc ?_ _)); refine blk_put (cs := #[.int .u8 t345, .int .u8 0, .int .u8 0, .int .i64 0, .int .u8 0, .int .u8 0, .int .u8 0, .string (⟨#[]⟩ : ByteArray)]) ?_ 1 _ rfl; (with_reducible repeat (first | refine blk_drewN ?_ _ | refine blk_drew ?_ | refine blk_alloc ?_ _)); refine blk_put (cs := #[.int .u8 0, .int .u8 0, .int .u8 0, .int .i64 0, .int .u8 0, .int .u8 0, .int .u8 0, .string (⟨#[]⟩ : ByteArray)]) ?_ 0 _ rfl; exact Zk BK354.out) hb); replace HB := Aside0.mk (below_step (Zb3 GE341.out GE342.out GE354.out) hb); (try clear hb); (try clear hb2); (try clear hk); (try clear hi)))
       go_meet
       case rel => exact ⟨_, ((t355 != 0)), Zs, H', ⟨by first | omega | exact Nat.le_refl _⟩, ⟨Zk BK341.out⟩, ⟨Zk BK342.out⟩, ⟨Zk BK354.out⟩, ⟨Zb3 GE341.out GE342.out GE354.out⟩⟩
    ·rw [if_neg c19] at H
     have c19b0 : (t353 == 0) = false := beq_eq_false_iff_ne.mpr c19
     have c19b1 : (t353 != 0) = true := bne_iff_ne.mpr c19
     (first | rw [c19b0] | (simp only [i64_w, i32_w]; rw [c19b0]) | skip)
     have H' := Aside0.mk H
     clear H
     go_wp2
     go_meet
     case rel => exact ⟨_, (true), Zs, H', ⟨by first | omega | exact Nat.le_refl _⟩, ⟨by (with_reducible repeat (first | refine blk_drewN ?_ _ | refine blk_drew ?_ | refine blk_alloc ?_ _)); refine blk_far ?_ NB341_354.out _; (with_reducible repeat (first | refine blk_drewN ?_ _ | refine blk_drew ?_ | refine blk_alloc ?_ _)); refine blk_far ?_ NB341_354.out _; (with_reducible repeat (first | refine blk_drewN ?_ _ | refine blk_drew ?_ | refine blk_alloc ?_ _)); refine blk_far ?_ NB341_354.out _; (with_reducible repeat (first | refine blk_drewN ?_ _ | refine blk_drew ?_ | refine blk_alloc ?_ _)); refine blk_far ?_ NB341_354.out _; (with_reducible repeat (first | refine blk_drewN ?_ _ | refine blk_drew ?_ | refine blk_alloc ?_ _)); refine blk_far ?_ NB341_354.out _; (with_reducible repeat (first | refine blk_drewN ?_ _ | refine blk_drew ?_ | refine blk_alloc ?_ _)); refine blk_far ?_ NB341_354.out _; (with_reducible repeat (first | refine blk_drewN ?_ _ | refine blk_drew ?_ | refine blk_alloc ?_ _)); refine blk_far ?_ NB341_354.out _; (with_reducible repeat (first | refine blk_drewN ?_ _ | refine blk_drew ?_ | refine blk_alloc ?_ _)); refine blk_far ?_ NB341_354.out _; exact Zk BK341.out⟩, ⟨by (with_reducible repeat (first | refine blk_drewN ?_ _ | refine blk_drew ?_ | refine blk_alloc ?_ _)); refine blk_far ?_ NB342_354.out _; (with_reducible repeat (first | refine blk_drewN ?_ _ | refine blk_drew ?_ | refine blk_alloc ?_ _)); refine blk_far ?_ NB342_354.out _; (with_reducible repeat (first | refine blk_drewN ?_ _ | refine blk_drew ?_ | refine blk_alloc ?_ _)); refine blk_far ?_ NB342_354.out _; (with_reducible repeat (first | refine blk_drewN ?_ _ | refine blk_drew ?_ | refine blk_alloc ?_ _)); refine blk_far ?_ NB342_354.out _; (with_reducible repeat (first | refine blk_drewN ?_ _ | refine blk_drew ?_ | refine blk_alloc ?_ _)); refine blk_far ?_ NB342_354.out _; (with_reducible repeat (first | refine blk_drewN ?_ _ | refine blk_drew ?_ | refine blk_alloc ?_ _)); refine blk_far ?_ NB342_354.out _; (with_reducible repeat (first | refine blk_drewN ?_ _ | refine blk_drew ?_ | refine blk_alloc ?_ _)); refine blk_far ?_ NB342_354.out _; (with_reducible repeat (first | refine blk_drewN ?_ _ | refine blk_drew ?_ | refine blk_alloc ?_ _)); refine blk_far ?_ NB342_354.out _; exact Zk BK342.out⟩, ⟨by (with_reducible repeat (first | refine blk_drewN ?_ _ | refine blk_drew ?_ | refine blk_alloc ?_ _)); refine blk_put (cs := #[.int .u8 t345, .int .u8 t346, .int .u8 t347, .int .i64 t348, .int .u8 t349, .int .u8 t350, .int .u8 t351, .string (⟨#[]⟩ : ByteArray)]) ?_ 7 _ rfl; (with_reducible repeat (first | refine blk_drewN ?_ _ | refine blk_drew ?_ | refine blk_alloc ?_ _)); refine blk_put (cs := #[.int .u8 t345, .int .u8 t346, .int .u8 t347, .int .i64 t348, .int .u8 t349, .int .u8 t350, .int .u8 0, .string (⟨#[]⟩ : ByteArray)]) ?_ 6 _ rfl; (with_reducible repeat (first | refine blk_drewN ?_ _ | refine blk_drew ?_ | refine blk_alloc ?_ _)); refine blk_put (cs := #[.int .u8 t345, .int .u8 t346, .int .u8 t347, .int .i64 t348, .int .u8 t349, .int .u8 0, .int .u8 0, .string (⟨#[]⟩ : ByteArray)]) ?_ 5 _ rfl; (with_reducible repeat (first | refine blk_drewN ?_ _ | refine blk_drew ?_ | refine blk_alloc ?_ _)); refine blk_put (cs := #[.int .u8 t345, .int .u8 t346, .int .u8 t347, .int .i64 t348, .int .u8 0, .int .u8 0, .int .u8 0, .string (⟨#[]⟩ : ByteArray)]) ?_ 4 _ rfl; (with_reducible repeat (first | refine blk_drewN ?_ _ | refine blk_drew ?_ | refine blk_alloc ?_ _)); refine blk_put (cs := #[.int .u8 t345, .int .u8 t346, .int .u8 t347, .int .i64 0, .int .u8 0, .int .u8 0, .int .u8 0, .string (⟨#[]⟩ : ByteArray)]) ?_ 3 _ rfl; (with_reducible repeat (first | refine blk_drewN ?_ _ | refine blk_drew ?_ | refine blk_alloc ?_ _)); refine blk_put (cs := #[.int .u8 t345, .int .u8 t346, .int .u8 0, .int .i64 0, .int .u8 0, .int .u8 0, .int .u8 0, .string (⟨#[]⟩ : ByteArray)]) ?_ 2 _ rfl; (with_reducible repeat (first | refine blk_drewN ?_ _ | refine blk_drew ?_ | refine blk_alloc ?_ _)); refine blk_put (cs := #[.int .u8 t345, .int .u8 0, .int .u8 0, .int .i64 0, .int .u8 0, .int .u8 0, .int .u8 0, .string (⟨#[]⟩ : ByteArray)]) ?_ 1 _ rfl; (with_reducible repeat (first | refine blk_drewN ?_ _ | refine blk_drew ?_ | refine blk_alloc ?_ _)); refine blk_put (cs := #[.int .u8 0, .int .u8 0, .int .u8 0, .int .i64 0, .int .u8 0, .int .u8 0, .int .u8 0, .string (⟨#[]⟩ : ByteArray)]) ?_ 0 _ rfl; exact Zk BK354.out⟩, ⟨Zb3 GE341.out GE342.out GE354.out⟩⟩
   case rest =>
    clear HC13
    try clear c1
    try clear c2
    try clear p2
    try clear c3
    try clear c5
    try clear c8
    try clear c11
    try clear c11b0
    try clear c11b1
    try clear c16
    try clear c17
    try clear c19
    try clear c19b0
    try clear c19b1
    try clear c20
    try clear c20b0
    try clear c21
    try clear c22
    try clear c23
    try clear c24
    try clear c26
    try clear c26b0
    try clear c26b1
    try clear c27
    try clear c28
    try clear c30
    try clear c33
    try clear c34
    try clear c36
    try clear hcz18_0
    try clear hcz18_1
    try clear hcz18_2
    try clear hcz18_3
    try clear hcz18_4
    try clear hcz18_5
    try clear hcz18_6
    try clear hcz18_7
    try clear hcz23_0
    try clear hcz23_1
    try clear hcz23_2
    try clear hcz23_3
    try clear hcz23_4
    try clear hcz23_5
    try clear hcz23_6
    try clear hcz23_7
    try clear hcz25_0
    try clear hcz25_1
    try clear hcz25_2
    try clear hcz25_3
    try clear hcz25_4
    try clear hcz25_5
    try clear hcz25_6
    try clear hcz25_7
    try clear hcz29_0
    try clear hcz29_1
    try clear hcz29_2
    try clear hcz29_3
    try clear hcz29_4
    try clear hcz29_5
    try clear hcz29_6
    try clear hcz29_7
    try clear hcz31_0
    try clear hcz31_1
    try clear hcz31_2
    try clear hcz31_3
    try clear hcz31_4
    try clear hcz31_5
    try clear hcz31_6
    try clear hcz31_7
    try clear hcz35_0
    try clear hcz35_1
    try clear hcz35_2
    try clear hcz35_3
    try clear hcz35_4
    try clear hcz35_5
    try clear hcz35_6
    try clear hcz35_7
    try clear hcz37_0
    try clear hcz37_1
    try clear hcz37_2
    try clear hcz37_3
    try clear hcz37_4
    try clear hcz37_5
    try clear hcz37_6
    try clear hcz37_7
    try clear hcz9_0
    try clear hcz9_1
    try clear hcz9_2
    try clear hcz9_3
    try clear hcz9_4
    try clear hcz9_5
    try clear hcz9_6
    try clear hcz9_7
    try clear hfz18_0
    try clear hfz18_1
    try clear hfz18_2
    try clear hfz18_3
    try clear hfz18_4
    try clear hfz18_5
    try clear hfz18_6
    try clear hfz18_7
    try clear hfz23_0
    try clear hfz23_1
    try clear hfz23_2
    try clear hfz23_3
    try clear hfz23_4
    try clear hfz23_5
    try clear hfz23_6
    try clear hfz23_7
    try clear hfz25_0
    try clear hfz25_1
    try clear hfz25_2
    try clear hfz25_3
    try clear hfz25_4
    try clear hfz25_5
    try clear hfz25_6
    try clear hfz25_7
    try clear hfz29_0
    try clear hfz29_1
    try clear hfz29_2
    try clear hfz29_3
    try clear hfz29_4
    try clear hfz29_5
    try clear hfz29_6
    try clear hfz29_7
    try clear hfz31_0
    try clear hfz31_1
    try clear hfz31_2
    try clear hfz31_3
    try clear hfz31_4
    try clear hfz31_5
    try clear hfz31_6
    try clear hfz31_7
    try clear hfz35_0
    try clear hfz35_1
    try clear hfz35_2
    try clear hfz35_3
    try clear hfz35_4
    try clear hfz35_5
    try clear hfz35_6
    try clear hfz35_7
    try clear hfz37_0
    try clear hfz37_1
    try clear hfz37_2
    try clear hfz37_3
    try clear hfz37_4
    try clear hfz37_5
    try clear hfz37_6
    try clear hfz37_7
    try clear hfz9_0
    try clear hfz9_1
    try clear hfz9_2
    try clear hfz9_3
    try clear hfz9_4
    try clear hfz9_5
    try clear hfz9_6
    try clear hfz9_7
    obtain ⟨kq, x45_12, rfl, HA, HJ12, BK341, BK342, BK354, HB⟩ := hcut
    cases kq with
    | zero => exact absurd HA.out (by simp [gambitlaw05_EffectBack.j0])
    | succ kj12 =>
     have H := HA.out
     clear HA
     simp only [gambitlaw05_EffectBack.j0] at H
     by_cases c39 : x45_12 = true
     ·subst c39
      have H1 : (some false) = some r := by rw [if_pos rfl] at H; exact H
      clear H
      have H := H1
      clear H1
      obtain rfl := Option.some.inj H
      go_wp2
      go_ret
      exact ⟨Ze, Zb3 GE341.out GE342.out GE354.out⟩
     ·replace c39 := Bool.eq_false_iff.mpr c39
      subst c39
      have H1 : ((effect_Print.f kj12 a1_0 a1_1 a1_2 a1_3 a1_4 a1_5 a1_6 a1_7).bind fun bt356 => (if bt356.2 = 0 then (if (a0_0 == a1_0 && (a0_1 == a1_1 && (a0_2 == a1_2 && (a0_3 == a1_3 && (a0_4 == a1_4 && (a0_5 == a1_5 && (a0_6 == a1_6 && (a0_7.toList == a1_7.toList)))))))) = true then (if bt356.1.toList = t343.toList then (gambitlaw05_EffectBack.j1 kj12 a2) else (some false)) else (if bt356.1.toList = t343.toList then (some false) else (gambitlaw05_EffectBack.j1 kj12 a2))) else (gambitlaw05_EffectBack.j1 kj12 a2))) = some r := by rw [if_neg (show ¬ (false = true) by decide)] at H; exact H
      clear H
      have H := H1
      clear H1
      replace H := Option.bind_eq_some_iff.mp H
      obtain ⟨⟨t356, t357⟩, A400, H⟩ := H
      replace H : (if t357 = 0 then (if (a0_0 == a1_0 && (a0_1 == a1_1 && (a0_2 == a1_2 && (a0_3 == a1_3 && (a0_4 == a1_4 && (a0_5 == a1_5 && (a0_6 == a1_6 && (a0_7.toList == a1_7.toList)))))))) = true then (if t356.toList = t343.toList then (gambitlaw05_EffectBack.j1 kj12 a2) else (some false)) else (if t356.toList = t343.toList then (some false) else (gambitlaw05_EffectBack.j1 kj12 a2))) else (gambitlaw05_EffectBack.j1 kj12 a2)) = some r := H
      have A40 := Aside0.mk A400
      clear A400
      by_cases c41 : t357 = 0
      ·rw [if_pos c41] at H
       have c41b0 : (t357 == 0) = true := beq_iff_eq.mpr c41
       have c41b1 : (t357 != 0) = false := bne_eq_false_iff_eq.mpr c41
       clear c41
       by_cases c42 : (a0_0 == a1_0 && (a0_1 == a1_1 && (a0_2 == a1_2 && (a0_3 == a1_3 && (a0_4 == a1_4 && (a0_5 == a1_5 && (a0_6 == a1_6 && (a0_7.toList == a1_7.toList)))))))) = true
       ·rw [if_pos c42] at H
        have c42b0 : (a0_0 == a1_0 && (a0_1 == a1_1 && (a0_2 == a1_2 && (a0_3 == a1_3 && (a0_4 == a1_4 && (a0_5 == a1_5 && (a0_6 == a1_6 && (a0_7.toList == a1_7.toList)))))))) = true := c42
        (try (have c42bz : (a0_0 = a1_0 ∧ a0_1 = a1_1 ∧ a0_2 = a1_2 ∧ a0_3 = a1_3 ∧ a0_4 = a1_4 ∧ a0_5 = a1_5 ∧ a0_6 = a1_6 ∧ a0_7.toList = a1_7.toList) = True := eq_true (by simpa using c42)))
        (try (have c42b1 : decide (a0_0 = a1_0 && (a0_1 == a1_1 && (a0_2 == a1_2 && (a0_3 == a1_3 && (a0_4 == a1_4 && (a0_5 == a1_5 && (a0_6 == a1_6 && (a0_7.toList == a1_7.toList)))))))) = true := by simpa using c42))
        (try (have c42b2 : (a0_0 == a1_0 && (a0_1 == a1_1 && (a0_2 == a1_2 && (a0_3 == a1_3 && (a0_4 == a1_4 && (a0_5 == a1_5 && (a0_6 == a1_6 && (a0_7.toList == a1_7.toList)))))))) = true := by simpa using c42))
        clear c42
        by_cases c43 : t356.toList = t343.toList
        ·rw [if_pos c43] at H
         have c43b0 : (t356.toList == t343.toList) = true := beq_iff_eq.mpr c43
         have c43b1 : (t356.toList != t343.toList) = false := bne_eq_false_iff_eq.mpr c43
         clear c43
         have H' := Aside0.mk H
         clear H
         have hnb44 := NB342_341.out
         have hnc44 := NB341_342.out
         have hnb45 := NB342_354.out
         have hnc45 := NB354_342.out
         have hcz46_0 := Zc BK342.out 0 (.int .u8 a1_0) rfl
         have hcz46_1 := Zc BK342.out 1 (.int .u8 a1_1) rfl
         have hcz46_2 := Zc BK342.out 2 (.int .u8 a1_2) rfl
         have hcz46_3 := Zc BK342.out 3 (.int .i64 a1_3) rfl
         have hcz46_4 := Zc BK342.out 4 (.int .u8 a1_4) rfl
         have hcz46_5 := Zc BK342.out 5 (.int .u8 a1_5) rfl
         have hcz46_6 := Zc BK342.out 6 (.int .u8 a1_6) rfl
         have hcz46_7 := Zc BK342.out 7 (.string a1_7) rfl
         have hfz46_0 := blk_frozen BK342.out 0
         have hfz46_1 := blk_frozen BK342.out 1
         have hfz46_2 := blk_frozen BK342.out 2
         have hfz46_3 := blk_frozen BK342.out 3
         have hfz46_4 := blk_frozen BK342.out 4
         have hfz46_5 := blk_frozen BK342.out 5
         have hfz46_6 := blk_frozen BK342.out 6
         have hfz46_7 := blk_frozen BK342.out 7
         go_wp2_with (first | ((with_reducible refine gate_callee (f := 23) rfl ?_); refine goesL_ (some 48) rfl rfl Tryz.func23 (by kernel_rfl) rfl #[.agg #[.int .u8 a1_0, .int .u8 a1_1, .int .u8 a1_2, .int .i64 a1_3, .int .u8 a1_4, .int .u8 a1_5, .int .u8 a1_6, .string a1_7]] rfl Zl ?_; (with_reducible refine (effect_Print.calls kj12 a1_0 a1_1 a1_2 a1_3 a1_4 a1_5 a1_6 a1_7 t356 t357 _ ?side1 A40.out).mono ?_); (case side1 => first | (with_reducible exact HGP.out) | exact GP_below HGP.out (Zb3 GE341.out GE342.out GE354.out)); rintro e w47 ⟨rfl, hb⟩; refine ⟨_, rfl, ?_⟩; replace BK341 := Aside0.mk (blk_below (g := gb341) (o := .cells #[.int .u8 a0_0, .int .u8 a0_1, .int .u8 a0_2, .int .i64 a0_3, .int .u8 a0_4, .int .u8 a0_5, .int .u8 a0_6, .string a0_7] 48 (0, 0)) (Zk BK341.out) hb); replace BK342 := Aside0.mk (blk_below (g := gb342) (o := .cells #[.int .u8 a1_0, .int .u8 a1_1, .int .u8 a1_2, .int .i64 a1_3, .int .u8 a1_4, .int .u8 a1_5, .int .u8 a1_6, .string a1_7] 48 (0, 0)) (Zk BK342.out) hb); replace BK354 := Aside0.mk (blk_below (g := gb354) (o := .cells #[.int .u8 t345, .int .u8 t346, .int .u8 t347, .int .i64 t348, .int .u8 t349, .int .u8 t350, .int .u8 t351, .string t352] 48 (0, 0)) (Zk BK354.out) hb); replace HB := Aside0.mk (below_step (Zb3 GE341.out GE342.out GE354.out) hb); (try clear hb); (try clear hb2); (try clear hk); (try clear hi); have hnb48 := NB341_354.out; have hnc48 := NB354_341.out; have hcz49_0 := Zc BK341.out 0 (.int .u8 a0_0) rfl; have hcz49_1 := Zc BK341.out 1 (.int .u8 a0_1) rfl; have hcz49_2 := Zc BK341.out 2 (.int .u8 a0_2) rfl; have hcz49_3 := Zc BK341.out 3 (.int .i64 a0_3) rfl; have hcz49_4 := Zc BK341.out 4 (.int .u8 a0_4) rfl; have hcz49_5 := Zc BK341.out 5 (.int .u8 a0_5) rfl; have hcz49_6 := Zc BK341.out 6 (.int .u8 a0_6) rfl; have hcz49_7 := Zc BK341.out 7 (.string a0_7) rfl; have hfz49_0 := blk_frozen BK341.out 0; have hfz49_1 := blk_frozen BK341.out 1; have hfz49_2 := blk_frozen BK341.out 2; have hfz49_3 := blk_frozen BK341.out 3; have hfz49_4 := blk_frozen BK341.out 4; have hfz49_5 := blk_frozen BK341.out 5; have hfz49_6 := blk_frozen BK341.out 6; have hfz49_7 := blk_frozen BK341.out 7; have hcz50_0 := Zc BK342.out 0 (.int .u8 a1_0) rfl; have hcz50_1 := Zc BK342.out 1 (.int .u8 a1_1) rfl; have hcz50_2 := Zc BK342.out 2 (.int .u8 a1_2) rfl; have hcz50_3 := Zc BK342.out 3 (.int .i64 a1_3) rfl; have hcz50_4 := Zc BK342.out 4 (.int .u8 a1_4) rfl; have hcz50_5 := Zc BK342.out 5 (.int .u8 a1_5) rfl; have hcz50_6 := Zc BK342.out 6 (.int .u8 a1_6) rfl; have hcz50_7 := Zc BK342.out 7 (.string a1_7) rfl; have hfz50_0 := blk_frozen BK342.out 0; have hfz50_1 := blk_frozen BK342.out 1; have hfz50_2 := blk_frozen BK342.out 2; have hfz50_3 := blk_frozen BK342.out 3; have hfz50_4 := blk_frozen BK342.out 4; have hfz50_5 := blk_frozen BK342.out 5; have hfz50_6 := blk_frozen BK342.out 6; have hfz50_7 := blk_frozen BK342.out 7))
         go_meet
         case rel => exact ⟨_, H', ⟨by have := HJ12.out; first | omega | exact Nat.le_refl _⟩, ⟨Zk BK341.out⟩, ⟨Zk BK342.out⟩, ⟨Zb3 GE341.out GE342.out GE354.out⟩⟩
        ·rw [if_neg c43] at H
         have c43b0 : (t356.toList == t343.toList) = false := beq_eq_false_iff_ne.mpr c43
         have c43b1 : (t356.toList != t343.toList) = true := bne_iff_ne.mpr c43
         obtain rfl := Option.some.inj H
         have hnb51 := NB342_341.out
         have hnc51 := NB341_342.out
         have hnb52 := NB342_354.out
         have hnc52 := NB354_342.out
         have hcz53_0 := Zc BK342.out 0 (.int .u8 a1_0) rfl
         have hcz53_1 := Zc BK342.out 1 (.int .u8 a1_1) rfl
         have hcz53_2 := Zc BK342.out 2 (.int .u8 a1_2) rfl
         have hcz53_3 := Zc BK342.out 3 (.int .i64 a1_3) rfl
         have hcz53_4 := Zc BK342.out 4 (.int .u8 a1_4) rfl
         have hcz53_5 := Zc BK342.out 5 (.int .u8 a1_5) rfl
         have hcz53_6 := Zc BK342.out 6 (.int .u8 a1_6) rfl
         have hcz53_7 := Zc BK342.out 7 (.string a1_7) rfl
         have hfz53_0 := blk_frozen BK342.out 0
         have hfz53_1 := blk_frozen BK342.out 1
         have hfz53_2 := blk_frozen BK342.out 2
         have hfz53_3 := blk_frozen BK342.out 3
         have hfz53_4 := blk_frozen BK342.out 4
         have hfz53_5 := blk_frozen BK342.out 5
         have hfz53_6 := blk_frozen BK342.out 6
         have hfz53_7 := blk_frozen BK342.out 7
         go_wp2_with (first | ((with_reducible refine gate_callee (f := 23) rfl ?_); refine goesL_ (some 48) rfl rfl Tryz.func23 (by kernel_rfl) rfl #[.agg #[.int .u8 a1_0, .int .u8 a1_1, .int .u8 a1_2, .int .i64 a1_3, .int .u8 a1_4, .int .u8 a1_5, .int .u8 a1_6, .string a1_7]] rfl Zl ?_; (with_reducible refine (effect_Print.calls kj12 a1_0 a1_1 a1_2 a1_3 a1_4 a1_5 a1_6 a1_7 t356 t357 _ ?side1 A40.out).mono ?_); (case side1 => first | (with_reducible exact HGP.out) | exact GP_below HGP.out (Zb3 GE341.out GE342.out GE354.out)); rintro e w54 ⟨rfl, hb⟩; refine ⟨_, rfl, ?_⟩; replace BK341 := Aside0.mk (blk_below (g := gb341) (o := .cells #[.int .u8 a0_0, .int .u8 a0_1, .int .u8 a0_2, .int .i64 a0_3, .int .u8 a0_4, .int .u8 a0_5, .int .u8 a0_6, .string a0_7] 48 (0, 0)) (Zk BK341.out) hb); replace BK342 := Aside0.mk (blk_below (g := gb342) (o := .cells #[.int .u8 a1_0, .int .u8 a1_1, .int .u8 a1_2, .int .i64 a1_3, .int .u8 a1_4, .int .u8 a1_5, .int .u8 a1_6, .string a1_7] 48 (0, 0)) (Zk BK342.out) hb); replace BK354 := Aside0.mk (blk_below (g := gb354) (o := .cells #[.int .u8 t345, .int .u8 t346, .int .u8 t347, .int .i64 t348, .int .u8 t349, .int .u8 t350, .int .u8 t351, .string t352] 48 (0, 0)) (Zk BK354.out) hb); replace HB := Aside0.mk (below_step (Zb3 GE341.out GE342.out GE354.out) hb); (try clear hb); (try clear hb2); (try clear hk); (try clear hi); have hnb55 := NB341_354.out; have hnc55 := NB354_341.out; have hcz56_0 := Zc BK341.out 0 (.int .u8 a0_0) rfl; have hcz56_1 := Zc BK341.out 1 (.int .u8 a0_1) rfl; have hcz56_2 := Zc BK341.out 2 (.int .u8 a0_2) rfl; have hcz56_3 := Zc BK341.out 3 (.int .i64 a0_3) rfl; have hcz56_4 := Zc BK341.out 4 (.int .u8 a0_4) rfl; have hcz56_5 := Zc BK341.out 5 (.int .u8 a0_5) rfl; have hcz56_6 := Zc BK341.out 6 (.int .u8 a0_6) rfl; have hcz56_7 := Zc BK341.out 7 (.string a0_7) rfl; have hfz56_0 := blk_frozen BK341.out 0; have hfz56_1 := blk_frozen BK341.out 1; have hfz56_2 := blk_frozen BK341.out 2; have hfz56_3 := blk_frozen BK341.out 3; have hfz56_4 := blk_frozen BK341.out 4; have hfz56_5 := blk_frozen BK341.out 5; have hfz56_6 := blk_frozen BK341.out 6; have hfz56_7 := blk_frozen BK341.out 7; have hcz57_0 := Zc BK342.out 0 (.int .u8 a1_0) rfl; have hcz57_1 := Zc BK342.out 1 (.int .u8 a1_1) rfl; have hcz57_2 := Zc BK342.out 2 (.int .u8 a1_2) rfl; have hcz57_3 := Zc BK342.out 3 (.int .i64 a1_3) rfl; have hcz57_4 := Zc BK342.out 4 (.int .u8 a1_4) rfl; have hcz57_5 := Zc BK342.out 5 (.int .u8 a1_5) rfl; have hcz57_6 := Zc BK342.out 6 (.int .u8 a1_6) rfl; have hcz57_7 := Zc BK342.out 7 (.string a1_7) rfl; have hfz57_0 := blk_frozen BK342.out 0; have hfz57_1 := blk_frozen BK342.out 1; have hfz57_2 := blk_frozen BK342.out 2; have hfz57_3 := blk_frozen BK342.out 3; have hfz57_4 := blk_frozen BK342.out 4; have hfz57_5 := blk_frozen BK342.out 5; have hfz57_6 := blk_frozen BK342.out 6; have hfz57_7 := blk_frozen BK342.out 7))
         go_ret
         exact ⟨Ze, Zb3 GE341.out GE342.out GE354.out⟩
       ·rw [if_neg c42] at H
        have c42b0 : (a0_0 == a1_0 && (a0_1 == a1_1 && (a0_2 == a1_2 && (a0_3 == a1_3 && (a0_4 == a1_4 && (a0_5 == a1_5 && (a0_6 == a1_6 && (a0_7.toList == a1_7.toList)))))))) = false := by simpa using c42
        (try (have c42bz : (a0_0 = a1_0 ∧ a0_1 = a1_1 ∧ a0_2 = a1_2 ∧ a0_3 = a1_3 ∧ a0_4 = a1_4 ∧ a0_5 = a1_5 ∧ a0_6 = a1_6 ∧ a0_7.toList = a1_7.toList) = False := eq_false (by simpa using c42)))
        (try (have c42b1 : decide (a0_0 = a1_0 && (a0_1 == a1_1 && (a0_2 == a1_2 && (a0_3 == a1_3 && (a0_4 == a1_4 && (a0_5 == a1_5 && (a0_6 == a1_6 && (a0_7.toList == a1_7.toList)))))))) = false := by simpa using c42))
        (try (have c42b2 : (a0_0 == a1_0 && (a0_1 == a1_1 && (a0_2 == a1_2 && (a0_3 == a1_3 && (a0_4 == a1_4 && (a0_5 == a1_5 && (a0_6 == a1_6 && (a0_7.toList == a1_7.toList)))))))) = false := by simpa using c42))
        (try (have c42b3 : ¬ (a0_0 = a1_0 && (a0_1 == a1_1 && (a0_2 == a1_2 && (a0_3 == a1_3 && (a0_4 == a1_4 && (a0_5 == a1_5 && (a0_6 == a1_6 && (a0_7.toList == a1_7.toList)))))))) := by simpa using c42))
        clear c42
        by_cases c58 : t356.toList = t343.toList
        ·rw [if_pos c58] at H
         have c58b0 : (t356.toList == t343.toList) = true := beq_iff_eq.mpr c58
         have c58b1 : (t356.toList != t343.toList) = false := bne_eq_false_iff_eq.mpr c58
         clear c58
         obtain rfl := Option.some.inj H
         have hnb59 := NB342_341.out
         have hnc59 := NB341_342.out
         have hnb60 := NB342_354.out
         have hnc60 := NB354_342.out
         have hcz61_0 := Zc BK342.out 0 (.int .u8 a1_0) rfl
         have hcz61_1 := Zc BK342.out 1 (.int .u8 a1_1) rfl
         have hcz61_2 := Zc BK342.out 2 (.int .u8 a1_2) rfl
         have hcz61_3 := Zc BK342.out 3 (.int .i64 a1_3) rfl
         have hcz61_4 := Zc BK342.out 4 (.int .u8 a1_4) rfl
         have hcz61_5 := Zc BK342.out 5 (.int .u8 a1_5) rfl
         have hcz61_6 := Zc BK342.out 6 (.int .u8 a1_6) rfl
         have hcz61_7 := Zc BK342.out 7 (.string a1_7) rfl
         have hfz61_0 := blk_frozen BK342.out 0
         have hfz61_1 := blk_frozen BK342.out 1
         have hfz61_2 := blk_frozen BK342.out 2
         have hfz61_3 := blk_frozen BK342.out 3
         have hfz61_4 := blk_frozen BK342.out 4
         have hfz61_5 := blk_frozen BK342.out 5
         have hfz61_6 := blk_frozen BK342.out 6
         have hfz61_7 := blk_frozen BK342.out 7
         go_wp2_with (first | ((with_reducible refine gate_callee (f := 23) rfl ?_); refine goesL_ (some 48) rfl rfl Tryz.func23 (by kernel_rfl) rfl #[.agg #[.int .u8 a1_0, .int .u8 a1_1, .int .u8 a1_2, .int .i64 a1_3, .int .u8 a1_4, .int .u8 a1_5, .int .u8 a1_6, .string a1_7]] rfl Zl ?_; (with_reducible refine (effect_Print.calls kj12 a1_0 a1_1 a1_2 a1_3 a1_4 a1_5 a1_6 a1_7 t356 t357 _ ?side1 A40.out).mono ?_); (case side1 => first | (with_reducible exact HGP.out) | exact GP_below HGP.out (Zb3 GE341.out GE342.out GE354.out)); rintro e w62 ⟨rfl, hb⟩; refine ⟨_, rfl, ?_⟩; replace BK341 := Aside0.mk (blk_below (g := gb341) (o := .cells #[.int .u8 a0_0, .int .u8 a0_1, .int .u8 a0_2, .int .i64 a0_3, .int .u8 a0_4, .int .u8 a0_5, .int .u8 a0_6, .string a0_7] 48 (0, 0)) (Zk BK341.out) hb); replace BK342 := Aside0.mk (blk_below (g := gb342) (o := .cells #[.int .u8 a1_0, .int .u8 a1_1, .int .u8 a1_2, .int .i64 a1_3, .int .u8 a1_4, .int .u8 a1_5, .int .u8 a1_6, .string a1_7] 48 (0, 0)) (Zk BK342.out) hb); replace BK354 := Aside0.mk (blk_below (g := gb354) (o := .cells #[.int .u8 t345, .int .u8 t346, .int .u8 t347, .int .i64 t348, .int .u8 t349, .int .u8 t350, .int .u8 t351, .string t352] 48 (0, 0)) (Zk BK354.out) hb); replace HB := Aside0.mk (below_step (Zb3 GE341.out GE342.out GE354.out) hb); (try clear hb); (try clear hb2); (try clear hk); (try clear hi); have hnb63 := NB341_354.out; have hnc63 := NB354_341.out; have hcz64_0 := Zc BK341.out 0 (.int .u8 a0_0) rfl; have hcz64_1 := Zc BK341.out 1 (.int .u8 a0_1) rfl; have hcz64_2 := Zc BK341.out 2 (.int .u8 a0_2) rfl; have hcz64_3 := Zc BK341.out 3 (.int .i64 a0_3) rfl; have hcz64_4 := Zc BK341.out 4 (.int .u8 a0_4) rfl; have hcz64_5 := Zc BK341.out 5 (.int .u8 a0_5) rfl; have hcz64_6 := Zc BK341.out 6 (.int .u8 a0_6) rfl; have hcz64_7 := Zc BK341.out 7 (.string a0_7) rfl; have hfz64_0 := blk_frozen BK341.out 0; have hfz64_1 := blk_frozen BK341.out 1; have hfz64_2 := blk_frozen BK341.out 2; have hfz64_3 := blk_frozen BK341.out 3; have hfz64_4 := blk_frozen BK341.out 4; have hfz64_5 := blk_frozen BK341.out 5; have hfz64_6 := blk_frozen BK341.out 6; have hfz64_7 := blk_frozen BK341.out 7; have hcz65_0 := Zc BK342.out 0 (.int .u8 a1_0) rfl; have hcz65_1 := Zc BK342.out 1 (.int .u8 a1_1) rfl; have hcz65_2 := Zc BK342.out 2 (.int .u8 a1_2) rfl; have hcz65_3 := Zc BK342.out 3 (.int .i64 a1_3) rfl; have hcz65_4 := Zc BK342.out 4 (.int .u8 a1_4) rfl; have hcz65_5 := Zc BK342.out 5 (.int .u8 a1_5) rfl; have hcz65_6 := Zc BK342.out 6 (.int .u8 a1_6) rfl; have hcz65_7 := Zc BK342.out 7 (.string a1_7) rfl; have hfz65_0 := blk_frozen BK342.out 0; have hfz65_1 := blk_frozen BK342.out 1; have hfz65_2 := blk_frozen BK342.out 2; have hfz65_3 := blk_frozen BK342.out 3; have hfz65_4 := blk_frozen BK342.out 4; have hfz65_5 := blk_frozen BK342.out 5; have hfz65_6 := blk_frozen BK342.out 6; have hfz65_7 := blk_frozen BK342.out 7))
         go_ret
         exact ⟨Ze, Zb3 GE341.out GE342.out GE354.out⟩
        ·rw [if_neg c58] at H
         have c58b0 : (t356.toList == t343.toList) = false := beq_eq_false_iff_ne.mpr c58
         have c58b1 : (t356.toList != t343.toList) = true := bne_iff_ne.mpr c58
         have H' := Aside0.mk H
         clear H
         have hnb66 := NB342_341.out
         have hnc66 := NB341_342.out
         have hnb67 := NB342_354.out
         have hnc67 := NB354_342.out
         have hcz68_0 := Zc BK342.out 0 (.int .u8 a1_0) rfl
         have hcz68_1 := Zc BK342.out 1 (.int .u8 a1_1) rfl
         have hcz68_2 := Zc BK342.out 2 (.int .u8 a1_2) rfl
         have hcz68_3 := Zc BK342.out 3 (.int .i64 a1_3) rfl
         have hcz68_4 := Zc BK342.out 4 (.int .u8 a1_4) rfl
         have hcz68_5 := Zc BK342.out 5 (.int .u8 a1_5) rfl
         have hcz68_6 := Zc BK342.out 6 (.int .u8 a1_6) rfl
         have hcz68_7 := Zc BK342.out 7 (.string a1_7) rfl
         have hfz68_0 := blk_frozen BK342.out 0
         have hfz68_1 := blk_frozen BK342.out 1
         have hfz68_2 := blk_frozen BK342.out 2
         have hfz68_3 := blk_frozen BK342.out 3
         have hfz68_4 := blk_frozen BK342.out 4
         have hfz68_5 := blk_frozen BK342.out 5
         have hfz68_6 := blk_frozen BK342.out 6
         have hfz68_7 := blk_frozen BK342.out 7
         go_wp2_with (first | ((with_reducible refine gate_callee (f := 23) rfl ?_); refine goesL_ (some 48) rfl rfl Tryz.func23 (by kernel_rfl) rfl #[.agg #[.int .u8 a1_0, .int .u8 a1_1, .int .u8 a1_2, .int .i64 a1_3, .int .u8 a1_4, .int .u8 a1_5, .int .u8 a1_6, .string a1_7]] rfl Zl ?_; (with_reducible refine (effect_Print.calls kj12 a1_0 a1_1 a1_2 a1_3 a1_4 a1_5 a1_6 a1_7 t356 t357 _ ?side1 A40.out).mono ?_); (case side1 => first | (with_reducible exact HGP.out) | exact GP_below HGP.out (Zb3 GE341.out GE342.out GE354.out)); rintro e w69 ⟨rfl, hb⟩; refine ⟨_, rfl, ?_⟩; replace BK341 := Aside0.mk (blk_below (g := gb341) (o := .cells #[.int .u8 a0_0, .int .u8 a0_1, .int .u8 a0_2, .int .i64 a0_3, .int .u8 a0_4, .int .u8 a0_5, .int .u8 a0_6, .string a0_7] 48 (0, 0)) (Zk BK341.out) hb); replace BK342 := Aside0.mk (blk_below (g := gb342) (o := .cells #[.int .u8 a1_0, .int .u8 a1_1, .int .u8 a1_2, .int .i64 a1_3, .int .u8 a1_4, .int .u8 a1_5, .int .u8 a1_6, .string a1_7] 48 (0, 0)) (Zk BK342.out) hb); replace BK354 := Aside0.mk (blk_below (g := gb354) (o := .cells #[.int .u8 t345, .int .u8 t346, .int .u8 t347, .int .i64 t348, .int .u8 t349, .int .u8 t350, .int .u8 t351, .string t352] 48 (0, 0)) (Zk BK354.out) hb); replace HB := Aside0.mk (below_step (Zb3 GE341.out GE342.out GE354.out) hb); (try clear hb); (try clear hb2); (try clear hk); (try clear hi); have hnb70 := NB341_354.out; have hnc70 := NB354_341.out; have hcz71_0 := Zc BK341.out 0 (.int .u8 a0_0) rfl; have hcz71_1 := Zc BK341.out 1 (.int .u8 a0_1) rfl; have hcz71_2 := Zc BK341.out 2 (.int .u8 a0_2) rfl; have hcz71_3 := Zc BK341.out 3 (.int .i64 a0_3) rfl; have hcz71_4 := Zc BK341.out 4 (.int .u8 a0_4) rfl; have hcz71_5 := Zc BK341.out 5 (.int .u8 a0_5) rfl; have hcz71_6 := Zc BK341.out 6 (.int .u8 a0_6) rfl; have hcz71_7 := Zc BK341.out 7 (.string a0_7) rfl; have hfz71_0 := blk_frozen BK341.out 0; have hfz71_1 := blk_frozen BK341.out 1; have hfz71_2 := blk_frozen BK341.out 2; have hfz71_3 := blk_frozen BK341.out 3; have hfz71_4 := blk_frozen BK341.out 4; have hfz71_5 := blk_frozen BK341.out 5; have hfz71_6 := blk_frozen BK341.out 6; have hfz71_7 := blk_frozen BK341.out 7; have hcz72_0 := Zc BK342.out 0 (.int .u8 a1_0) rfl; have hcz72_1 := Zc BK342.out 1 (.int .u8 a1_1) rfl; have hcz72_2 := Zc BK342.out 2 (.int .u8 a1_2) rfl; have hcz72_3 := Zc BK342.out 3 (.int .i64 a1_3) rfl; have hcz72_4 := Zc BK342.out 4 (.int .u8 a1_4) rfl; have hcz72_5 := Zc BK342.out 5 (.int .u8 a1_5) rfl; have hcz72_6 := Zc BK342.out 6 (.int .u8 a1_6) rfl; have hcz72_7 := Zc BK342.out 7 (.string a1_7) rfl; have hfz72_0 := blk_frozen BK342.out 0; have hfz72_1 := blk_frozen BK342.out 1; have hfz72_2 := blk_frozen BK342.out 2; have hfz72_3 := blk_frozen BK342.out 3; have hfz72_4 := blk_frozen BK342.out 4; have hfz72_5 := blk_frozen BK342.out 5; have hfz72_6 := blk_frozen BK342.out 6; have hfz72_7 := blk_frozen BK342.out 7))
         go_meet
         case rel => exact ⟨_, H', ⟨by have := HJ12.out; first | omega | exact Nat.le_refl _⟩, ⟨Zk BK341.out⟩, ⟨Zk BK342.out⟩, ⟨Zb3 GE341.out GE342.out GE354.out⟩⟩
      ·rw [if_neg c41] at H
       have c41b0 : (t357 == 0) = false := beq_eq_false_iff_ne.mpr c41
       have c41b1 : (t357 != 0) = true := bne_iff_ne.mpr c41
       have H' := Aside0.mk H
       clear H
       have hnb73 := NB342_341.out
       have hnc73 := NB341_342.out
       have hnb74 := NB342_354.out
       have hnc74 := NB354_342.out
       have hcz75_0 := Zc BK342.out 0 (.int .u8 a1_0) rfl
       have hcz75_1 := Zc BK342.out 1 (.int .u8 a1_1) rfl
       have hcz75_2 := Zc BK342.out 2 (.int .u8 a1_2) rfl
       have hcz75_3 := Zc BK342.out 3 (.int .i64 a1_3) rfl
       have hcz75_4 := Zc BK342.out 4 (.int .u8 a1_4) rfl
       have hcz75_5 := Zc BK342.out 5 (.int .u8 a1_5) rfl
       have hcz75_6 := Zc BK342.out 6 (.int .u8 a1_6) rfl
       have hcz75_7 := Zc BK342.out 7 (.string a1_7) rfl
       have hfz75_0 := blk_frozen BK342.out 0
       have hfz75_1 := blk_frozen BK342.out 1
       have hfz75_2 := blk_frozen BK342.out 2
       have hfz75_3 := blk_frozen BK342.out 3
       have hfz75_4 := blk_frozen BK342.out 4
       have hfz75_5 := blk_frozen BK342.out 5
       have hfz75_6 := blk_frozen BK342.out 6
       have hfz75_7 := blk_frozen BK342.out 7
       go_wp2_with (first | ((with_reducible refine gate_callee (f := 23) rfl ?_); refine goesL_ (some 48) rfl rfl Tryz.func23 (by kernel_rfl) rfl #[.agg #[.int .u8 a1_0, .int .u8 a1_1, .int .u8 a1_2, .int .i64 a1_3, .int .u8 a1_4, .int .u8 a1_5, .int .u8 a1_6, .string a1_7]] rfl Zl ?_; (with_reducible refine (effect_Print.calls kj12 a1_0 a1_1 a1_2 a1_3 a1_4 a1_5 a1_6 a1_7 t356 t357 _ ?side1 A40.out).mono ?_); (case side1 => first | (with_reducible exact HGP.out) | exact GP_below HGP.out (Zb3 GE341.out GE342.out GE354.out)); rintro e w76 ⟨rfl, hb⟩; refine ⟨_, rfl, ?_⟩; replace BK341 := Aside0.mk (blk_below (g := gb341) (o := .cells #[.int .u8 a0_0, .int .u8 a0_1, .int .u8 a0_2, .int .i64 a0_3, .int .u8 a0_4, .int .u8 a0_5, .int .u8 a0_6, .string a0_7] 48 (0, 0)) (Zk BK341.out) hb); replace BK342 := Aside0.mk (blk_below (g := gb342) (o := .cells #[.int .u8 a1_0, .int .u8 a1_1, .int .u8 a1_2, .int .i64 a1_3, .int .u8 a1_4, .int .u8 a1_5, .int .u8 a1_6, .string a1_7] 48 (0, 0)) (Zk BK342.out) hb); replace BK354 := Aside0.mk (blk_below (g := gb354) (o := .cells #[.int .u8 t345, .int .u8 t346, .int .u8 t347, .int .i64 t348, .int .u8 t349, .int .u8 t350, .int .u8 t351, .string t352] 48 (0, 0)) (Zk BK354.out) hb); replace HB := Aside0.mk (below_step (Zb3 GE341.out GE342.out GE354.out) hb); (try clear hb); (try clear hb2); (try clear hk); (try clear hi)))
       go_meet
       case rel => exact ⟨_, H', ⟨by have := HJ12.out; first | omega | exact Nat.le_refl _⟩, ⟨Zk BK341.out⟩, ⟨Zk BK342.out⟩, ⟨Zb3 GE341.out GE342.out GE354.out⟩⟩
  ·rw [if_neg c11] at H
   have c11b0 : (t344 == 0) = false := beq_eq_false_iff_ne.mpr c11
   have c11b1 : (t344 != 0) = true := bne_iff_ne.mpr c11
   (first | rw [c11b0] | (simp only [i64_w, i32_w]; rw [c11b0]) | skip)
   have H' := Aside0.mk H
   clear H
   go_wp2
   go_meet
   case rel => exact ⟨_, H', ⟨by first | omega | exact Nat.le_refl _⟩, ⟨Zk BK341.out⟩, ⟨Zk BK342.out⟩, ⟨Zb2 GE341.out GE342.out⟩⟩
 case rest =>
  clear HC5
  try clear c1
  try clear c2
  try clear p2
  try clear c3
  try clear c4
  try clear c5
  try clear c6
  try clear c7
  try clear c8
  try clear c11
  try clear c11b0
  try clear c11b1
  try clear c16
  try clear c17
  try clear c19
  try clear c19b0
  try clear c19b1
  try clear c20
  try clear c20b0
  try clear c21
  try clear c22
  try clear c23
  try clear c24
  try clear c26
  try clear c26b0
  try clear c26b1
  try clear c27
  try clear c28
  try clear c30
  try clear c33
  try clear c34
  try clear c36
  try clear c39
  try clear c41
  try clear c41b0
  try clear c41b1
  try clear c42
  try clear c42b0
  try clear c42b1
  try clear c42b2
  try clear c43
  try clear c43b0
  try clear c43b1
  try clear c44
  try clear c45
  try clear c48
  try clear c51
  try clear c52
  try clear c55
  try clear c58
  try clear c58b0
  try clear c58b1
  try clear c59
  try clear c60
  try clear c63
  try clear c66
  try clear c67
  try clear c70
  try clear c73
  try clear c74
  try clear hcz18_0
  try clear hcz18_1
  try clear hcz18_2
  try clear hcz18_3
  try clear hcz18_4
  try clear hcz18_5
  try clear hcz18_6
  try clear hcz18_7
  try clear hcz23_0
  try clear hcz23_1
  try clear hcz23_2
  try clear hcz23_3
  try clear hcz23_4
  try clear hcz23_5
  try clear hcz23_6
  try clear hcz23_7
  try clear hcz25_0
  try clear hcz25_1
  try clear hcz25_2
  try clear hcz25_3
  try clear hcz25_4
  try clear hcz25_5
  try clear hcz25_6
  try clear hcz25_7
  try clear hcz29_0
  try clear hcz29_1
  try clear hcz29_2
  try clear hcz29_3
  try clear hcz29_4
  try clear hcz29_5
  try clear hcz29_6
  try clear hcz29_7
  try clear hcz31_0
  try clear hcz31_1
  try clear hcz31_2
  try clear hcz31_3
  try clear hcz31_4
  try clear hcz31_5
  try clear hcz31_6
  try clear hcz31_7
  try clear hcz35_0
  try clear hcz35_1
  try clear hcz35_2
  try clear hcz35_3
  try clear hcz35_4
  try clear hcz35_5
  try clear hcz35_6
  try clear hcz35_7
  try clear hcz37_0
  try clear hcz37_1
  try clear hcz37_2
  try clear hcz37_3
  try clear hcz37_4
  try clear hcz37_5
  try clear hcz37_6
  try clear hcz37_7
  try clear hcz46_0
  try clear hcz46_1
  try clear hcz46_2
  try clear hcz46_3
  try clear hcz46_4
  try clear hcz46_5
  try clear hcz46_6
  try clear hcz46_7
  try clear hcz49_0
  try clear hcz49_1
  try clear hcz49_2
  try clear hcz49_3
  try clear hcz49_4
  try clear hcz49_5
  try clear hcz49_6
  try clear hcz49_7
  try clear hcz50_0
  try clear hcz50_1
  try clear hcz50_2
  try clear hcz50_3
  try clear hcz50_4
  try clear hcz50_5
  try clear hcz50_6
  try clear hcz50_7
  try clear hcz53_0
  try clear hcz53_1
  try clear hcz53_2
  try clear hcz53_3
  try clear hcz53_4
  try clear hcz53_5
  try clear hcz53_6
  try clear hcz53_7
  try clear hcz56_0
  try clear hcz56_1
  try clear hcz56_2
  try clear hcz56_3
  try clear hcz56_4
  try clear hcz56_5
  try clear hcz56_6
  try clear hcz56_7
  try clear hcz57_0
  try clear hcz57_1
  try clear hcz57_2
  try clear hcz57_3
  try clear hcz57_4
  try clear hcz57_5
  try clear hcz57_6
  try clear hcz57_7
  try clear hcz61_0
  try clear hcz61_1
  try clear hcz61_2
  try clear hcz61_3
  try clear hcz61_4
  try clear hcz61_5
  try clear hcz61_6
  try clear hcz61_7
  try clear hcz64_0
  try clear hcz64_1
  try clear hcz64_2
  try clear hcz64_3
  try clear hcz64_4
  try clear hcz64_5
  try clear hcz64_6
  try clear hcz64_7
  try clear hcz65_0
  try clear hcz65_1
  try clear hcz65_2
  try clear hcz65_3
  try clear hcz65_4
  try clear hcz65_5
  try clear hcz65_6
  try clear hcz65_7
  try clear hcz68_0
  try clear hcz68_1
  try clear hcz68_2
  try clear hcz68_3
  try clear hcz68_4
  try clear hcz68_5
  try clear hcz68_6
  try clear hcz68_7
  try clear hcz71_0
  try clear hcz71_1
  try clear hcz71_2
  try clear hcz71_3
  try clear hcz71_4
  try clear hcz71_5
  try clear hcz71_6
  try clear hcz71_7
  try clear hcz72_0
  try clear hcz72_1
  try clear hcz72_2
  try clear hcz72_3
  try clear hcz72_4
  try clear hcz72_5
  try clear hcz72_6
  try clear hcz72_7
  try clear hcz75_0
  try clear hcz75_1
  try clear hcz75_2
  try clear hcz75_3
  try clear hcz75_4
  try clear hcz75_5
  try clear hcz75_6
  try clear hcz75_7
  try clear hcz9_0
  try clear hcz9_1
  try clear hcz9_2
  try clear hcz9_3
  try clear hcz9_4
  try clear hcz9_5
  try clear hcz9_6
  try clear hcz9_7
  try clear hfz18_0
  try clear hfz18_1
  try clear hfz18_2
  try clear hfz18_3
  try clear hfz18_4
  try clear hfz18_5
  try clear hfz18_6
  try clear hfz18_7
  try clear hfz23_0
  try clear hfz23_1
  try clear hfz23_2
  try clear hfz23_3
  try clear hfz23_4
  try clear hfz23_5
  try clear hfz23_6
  try clear hfz23_7
  try clear hfz25_0
  try clear hfz25_1
  try clear hfz25_2
  try clear hfz25_3
  try clear hfz25_4
  try clear hfz25_5
  try clear hfz25_6
  try clear hfz25_7
  try clear hfz29_0
  try clear hfz29_1
  try clear hfz29_2
  try clear hfz29_3
  try clear hfz29_4
  try clear hfz29_5
  try clear hfz29_6
  try clear hfz29_7
  try clear hfz31_0
  try clear hfz31_1
  try clear hfz31_2
  try clear hfz31_3
  try clear hfz31_4
  try clear hfz31_5
  try clear hfz31_6
  try clear hfz31_7
  try clear hfz35_0
  try clear hfz35_1
  try clear hfz35_2
  try clear hfz35_3
  try clear hfz35_4
  try clear hfz35_5
  try clear hfz35_6
  try clear hfz35_7
  try clear hfz37_0
  try clear hfz37_1
  try clear hfz37_2
  try clear hfz37_3
  try clear hfz37_4
  try clear hfz37_5
  try clear hfz37_6
  try clear hfz37_7
  try clear hfz46_0
  try clear hfz46_1
  try clear hfz46_2
  try clear hfz46_3
  try clear hfz46_4
  try clear hfz46_5
  try clear hfz46_6
  try clear hfz46_7
  try clear hfz49_0
  try clear hfz49_1
  try clear hfz49_2
  try clear hfz49_3
  try clear hfz49_4
  try clear hfz49_5
  try clear hfz49_6
  try clear hfz49_7
  try clear hfz50_0
  try clear hfz50_1
  try clear hfz50_2
  try clear hfz50_3
  try clear hfz50_4
  try clear hfz50_5
  try clear hfz50_6
  try clear hfz50_7
  try clear hfz53_0
  try clear hfz53_1
  try clear hfz53_2
  try clear hfz53_3
  try clear hfz53_4
  try clear hfz53_5
  try clear hfz53_6
  try clear hfz53_7
  try clear hfz56_0
  try clear hfz56_1
  try clear hfz56_2
  try clear hfz56_3
  try clear hfz56_4
  try clear hfz56_5
  try clear hfz56_6
  try clear hfz56_7
  try clear hfz57_0
  try clear hfz57_1
  try clear hfz57_2
  try clear hfz57_3
  try clear hfz57_4
  try clear hfz57_5
  try clear hfz57_6
  try clear hfz57_7
  try clear hfz61_0
  try clear hfz61_1
  try clear hfz61_2
  try clear hfz61_3
  try clear hfz61_4
  try clear hfz61_5
  try clear hfz61_6
  try clear hfz61_7
  try clear hfz64_0
  try clear hfz64_1
  try clear hfz64_2
  try clear hfz64_3
  try clear hfz64_4
  try clear hfz64_5
  try clear hfz64_6
  try clear hfz64_7
  try clear hfz65_0
  try clear hfz65_1
  try clear hfz65_2
  try clear hfz65_3
  try clear hfz65_4
  try clear hfz65_5
  try clear hfz65_6
  try clear hfz65_7
  try clear hfz68_0
  try clear hfz68_1
  try clear hfz68_2
  try clear hfz68_3
  try clear hfz68_4
  try clear hfz68_5
  try clear hfz68_6
  try clear hfz68_7
  try clear hfz71_0
  try clear hfz71_1
  try clear hfz71_2
  try clear hfz71_3
  try clear hfz71_4
  try clear hfz71_5
  try clear hfz71_6
  try clear hfz71_7
  try clear hfz72_0
  try clear hfz72_1
  try clear hfz72_2
  try clear hfz72_3
  try clear hfz72_4
  try clear hfz72_5
  try clear hfz72_6
  try clear hfz72_7
  try clear hfz75_0
  try clear hfz75_1
  try clear hfz75_2
  try clear hfz75_3
  try clear hfz75_4
  try clear hfz75_5
  try clear hfz75_6
  try clear hfz75_7
  try clear hfz9_0
  try clear hfz9_1
  try clear hfz9_2
  try clear hfz9_3
  try clear hfz9_4
  try clear hfz9_5
  try clear hfz9_6
  try clear hfz9_7
  try clear p2
  obtain ⟨kq, HA, HJ4, BK341, BK342, HB⟩ := hcut
  cases kq with
  | zero => exact absurd HA.out (by simp [gambitlaw05_EffectBack.j1])
  | succ kj4 =>
   have H := HA.out
   clear HA
   simp only [gambitlaw05_EffectBack.j1] at H
   replace H := Option.bind_eq_some_iff.mp H
   obtain ⟨⟨t358, t359, t360, t361, t362, t363, t364, t365, t366⟩, A770, H⟩ := H
   replace H : (if t366 = 0 then ((effect_Print.f kj4 t358 t359 t360 t361 t362 t363 t364 t365).bind fun bt368 => (if bt368.2 = 0 then (if bt368.1.toList = a2.toList then ((gambitlaw05_lives.f kj4).bind fun t370 => (some t370)) else (some false)) else (some false))) else (if (t358 == 0 && (t359 == 0 && (t360 == 0 && (t361 == 0 && (t362 == 0 && (t363 == 0 && (t364 == 0 && (t365.toList == ([] : List UInt8))))))))) = true then ((gambitlaw05_lives.f kj4).bind fun t371 => (some t371)) else (some false))) = some r := H
   have A77 := Aside0.mk A770
   clear A770
   by_cases c78 : t366 = 0
   ·rw [if_pos c78] at H
    have c78b0 : (t366 == 0) = true := beq_iff_eq.mpr c78
    have c78b1 : (t366 != 0) = false := bne_eq_false_iff_eq.mpr c78
    clear c78
    replace H := Option.bind_eq_some_iff.mp H
    obtain ⟨⟨t368, t369⟩, A790, H⟩ := H
    replace H : (if t369 = 0 then (if t368.toList = a2.toList then ((gambitlaw05_lives.f kj4).bind fun t370 => (some t370)) else (some false)) else (some false)) = some r := H
    have A79 := Aside0.mk A790
    clear A790
    by_cases c80 : t369 = 0
    ·rw [if_pos c80] at H
     have c80b0 : (t369 == 0) = true := beq_iff_eq.mpr c80
     have c80b1 : (t369 != 0) = false := bne_eq_false_iff_eq.mpr c80
     clear c80
     by_cases c81 : t368.toList = a2.toList
     ·rw [if_pos c81] at H
      have c81b0 : (t368.toList == a2.toList) = true := beq_iff_eq.mpr c81
      have c81b1 : (t368.toList != a2.toList) = false := bne_eq_false_iff_eq.mpr c81
      clear c81
      replace H := Option.bind_eq_some_iff.mp H
      obtain ⟨t370, A820, H⟩ := H
      replace H : (some t370) = some r := H
      have A82 := Aside0.mk A820
      clear A820
      obtain rfl := Option.some.inj H
      go_wp2_with (first | ((with_reducible refine gate_callee (f := 20) rfl ?_); refine goesL_ (some 64) rfl rfl Tryz.func20 (by kernel_rfl) rfl #[.string a2] rfl Zl ?_; (with_reducible refine (effect_Parse.calls a2 t358 t359 t360 t361 t362 t363 t364 t365 t366 _ ?side1 A77.out).mono ?_); (case side1 => first | (with_reducible exact HGP.out) | exact GP_below HGP.out (Zb2 GE341.out GE342.out)); rintro e w83 ⟨rfl, hb⟩; refine ⟨_, rfl, ?_⟩; replace BK341 := Aside0.mk (blk_below (g := gb341) (o := .cells #[.int .u8 a0_0, .int .u8 a0_1, .int .u8 a0_2, .int .i64 a0_3, .int .u8 a0_4, .int .u8 a0_5, .int .u8 a0_6, .string a0_7] 48 (0, 0)) (Zk BK341.out) hb); replace BK342 := Aside0.mk (blk_below (g := gb342) (o := .cells #[.int .u8 a1_0, .int .u8 a1_1, .int .u8 a1_2, .int .i64 a1_3, .int .u8 a1_4, .int .u8 a1_5, .int .u8 a1_6, .string a1_7] 48 (0, 0)) (Zk BK342.out) hb); replace HB := Aside0.mk (below_step (Zb2 GE341.out GE342.out) hb); (try clear hb); (try clear hb2); (try clear hk); (try clear hi)) | ((with_reducible refine gate_dst (N := 13) rfl ?_); (try (refine gate_guard (by rfl) ?_; dsimp only)); refine box_event ?hg (N := 13) ?hd (cs := #[.int .u8 0, .int .u8 0, .int .u8 0, .int .i64 0, .int .u8 0, .int .u8 0, .int .u8 0, .string (⟨#[]⟩ : ByteArray)]) (t := 48) ?hr ?_; (case hd => rfl); (case hg => rfl); (case hr => first | (go_simp; done) | (go_simp; rfl)); intro gb367 hg w84 hbox hb; have BK367 := Aside0.mk (hbox); have GW367 := Aside0.mk ((by rw [hg]; exact (below_size (Zb2 GE341.out GE342.out)) : w.heap.size ≤ gb367)); have GE367 := Aside0.mk ((by rw [hg]; exact (below_size (Zb2 GE341.out GE342.out)) : w.heap.size ≤ gb367)); replace HB := Aside0.mk (below_step (Zb2 GE341.out GE342.out) hb); have NB341_367 := Aside0.mk ((by rw [hg]; exact Nat.ne_of_lt (blk_lt (g := gb341) (o := .cells #[.int .u8 a0_0, .int .u8 a0_1, .int .u8 a0_2, .int .i64 a0_3, .int .u8 a0_4, .int .u8 a0_5, .int .u8 a0_6, .string a0_7] 48 (0, 0)) (Zk BK341.out)) : gb341 ≠ gb367)); have NB367_341 := Aside0.mk ((by rw [hg]; exact Nat.ne_of_gt (blk_lt (g := gb341) (o := .cells #[.int .u8 a0_0, .int .u8 a0_1, .int .u8 a0_2, .int .i64 a0_3, .int .u8 a0_4, .int .u8 a0_5, .int .u8 a0_6, .string a0_7] 48 (0, 0)) (Zk BK341.out)) : gb367 ≠ gb341)); replace BK341 := Aside0.mk (blk_below (g := gb341) (o := .cells #[.int .u8 a0_0, .int .u8 a0_1, .int .u8 a0_2, .int .i64 a0_3, .int .u8 a0_4, .int .u8 a0_5, .int .u8 a0_6, .string a0_7] 48 (0, 0)) (Zk BK341.out) hb); have NB342_367 := Aside0.mk ((by rw [hg]; exact Nat.ne_of_lt (blk_lt (g := gb342) (o := .cells #[.int .u8 a1_0, .int .u8 a1_1, .int .u8 a1_2, .int .i64 a1_3, .int .u8 a1_4, .int .u8 a1_5, .int .u8 a1_6, .string a1_7] 48 (0, 0)) (Zk BK342.out)) : gb342 ≠ gb367)); have NB367_342 := Aside0.mk ((by rw [hg]; exact Nat.ne_of_gt (blk_lt (g := gb342) (o := .cells #[.int .u8 a1_0, .int .u8 a1_1, .int .u8 a1_2, .int .i64 a1_3, .int .u8 a1_4, .int .u8 a1_5, .int .u8 a1_6, .string a1_7] 48 (0, 0)) (Zk BK342.out)) : gb367 ≠ gb342)); replace BK342 := Aside0.mk (blk_below (g := gb342) (o := .cells #[.int .u8 a1_0, .int .u8 a1_1, .int .u8 a1_2, .int .i64 a1_3, .int .u8 a1_4, .int .u8 a1_5, .int .u8 a1_6, .string a1_7] 48 (0, 0)) (Zk BK342.out) hb); clear hb hbox hg; have hnb85 := NB367_341.out; have hnc85 := NB341_367.out; have hnb86 := NB367_342.out; have hnc86 := NB342_367.out; have hcz87_0 := Zc BK367.out 0 (.int .u8 0) rfl; have hcz87_1 := Zc BK367.out 1 (.int .u8 0) rfl; have hcz87_2 := Zc BK367.out 2 (.int .u8 0) rfl; have hcz87_3 := Zc BK367.out 3 (.int .i64 0) rfl; have hcz87_4 := Zc BK367.out 4 (.int .u8 0) rfl; have hcz87_5 := Zc BK367.out 5 (.int .u8 0) rfl; have hcz87_6 := Zc BK367.out 6 (.int .u8 0) rfl; have hcz87_7 := Zc BK367.out 7 (.string (⟨#[]⟩ : ByteArray)) rfl; have hfz87_0 := blk_frozen BK367.out 0; have hfz87_1 := blk_frozen BK367.out 1; have hfz87_2 := blk_frozen BK367.out 2; have hfz87_3 := blk_frozen BK367.out 3; have hfz87_4 := blk_frozen BK367.out 4; have hfz87_5 := blk_frozen BK367.out 5; have hfz87_6 := blk_frozen BK367.out 6; have hfz87_7 := blk_frozen BK367.out 7) | ((with_reducible refine gate_callee (f := 23) rfl ?_); refine goesL_ (some 77) rfl rfl Tryz.func23 (by kernel_rfl) rfl #[.agg #[.int .u8 t358, .int .u8 t359, .int .u8 t360, .int .i64 t361, .int .u8 t362, .int .u8 t363, .int .u8 t364, .string t365]] rfl Zl ?_; (with_reducible refine (effect_Print.calls kj4 t358 t359 t360 t361 t362 t363 t364 t365 t368 t369 _ ?side1 A79.out).mono ?_); (case side1 => first | (with_reducible exact HGP.out) | exact GP_below HGP.out (Zb3 GE341.out GE342.out GE367.out)); rintro e w88 ⟨rfl, hb⟩; refine ⟨_, rfl, ?_⟩; replace BK341 := Aside0.mk (blk_below (g := gb341) (o := .cells #[.int .u8 a0_0, .int .u8 a0_1, .int .u8 a0_2, .int .i64 a0_3, .int .u8 a0_4, .int .u8 a0_5, .int .u8 a0_6, .string a0_7] 48 (0, 0)) (by (with_reducible repeat (first | refine blk_drewN ?_ _ | refine blk_drew ?_ | refine blk_alloc ?_ _)); refine blk_far ?_ NB341_367.out _; (with_reducible repeat (first | refine blk_drewN ?_ _ | refine blk_drew ?_ | refine blk_alloc ?_ _)); refine blk_far ?_ NB341_367.out _; (with_reducible repeat (first | refine blk_drewN ?_ _ | refine blk_drew ?_ | refine blk_alloc ?_ _)); refine blk_far ?_ NB341_367.out _; (with_reducible repeat (first | refine blk_drewN ?_ _ | refine blk_drew ?_ | refine blk_alloc ?_ _)); refine blk_far ?_ NB341_367.out _; (with_reducible repeat (first | refine blk_drewN ?_ _ | refine blk_drew ?_ | refine blk_alloc ?_ _)); refine blk_far ?_ NB341_367.out _; (with_reducible repeat (first | refine blk_drewN ?_ _ | refine blk_drew ?_ | refine blk_alloc ?_ _)); refine blk_far ?_ NB341_367.out _; (with_reducible repeat (first | refine blk_drewN ?_ _ | refine blk_drew ?_ | refine blk_alloc ?_ _)); refine blk_far ?_ NB341_367.out _; (with_reducible repeat (first | refine blk_drewN ?_ _ | refine blk_drew ?_ | refine blk_alloc ?_ _)); refine blk_far ?_ NB341_367.out _; exact Zk BK341.out) hb); replace BK342 := Aside0.mk (blk_below (g := gb342) (o := .cells #[.int .u8 a1_0, .int .u8 a1_1, .int .u8 a1_2, .int .i64 a1_3, .int .u8 a1_4, .int .u8 a1_5, .int .u8 a1_6, .string a1_7] 48 (0, 0)) (by (with_reducible repeat (first | refine blk_drewN ?_ _ | refine blk_drew ?_ | refine blk_alloc ?_ _)); refine blk_far ?_ NB342_367.out _; (with_reducible repeat (first | refine blk_drewN ?_ _ | refine blk_drew ?_ | refine blk_alloc ?_ _)); refine blk_far ?_ NB342_367.out _; (with_reducible repeat (first | refine blk_drewN ?_ _ | refine blk_drew ?_ | refine blk_alloc ?_ _)); refine blk_far ?_ NB342_367.out _; (with_reducible repeat (first | refine blk_drewN ?_ _ | refine blk_drew ?_ | refine blk_alloc ?_ _)); refine blk_far ?_ NB342_367.out _; (with_reducible repeat (first | refine blk_drewN ?_ _ | refine blk_drew ?_ | refine blk_alloc ?_ _)); refine blk_far ?_ NB342_367.out _; (with_reducible repeat (first | refine blk_drewN ?_ _ | refine blk_drew ?_ | refine blk_alloc ?_ _)); refine blk_far ?_ NB342_367.out _; (with_reducible repeat (first | refine blk_drewN ?_ _ | refine blk_drew ?_ | refine blk_alloc ?_ _)); refine blk_far ?_ NB342_367.out _; (with_reducible repeat (first | refine blk_drewN ?_ _ | refine blk_drew ?_ | refine blk_alloc ?_ _)); refine blk_far ?_ NB342_367.out _; exact Zk BK342.out) hb); replace BK367 := Aside0.mk (blk_below (g := gb367) (o := .cells #[.int .u8 t358, .int .u8 t359, .int .u8 t360, .int .i64 t361, .int .u8 t362, .int .u8 t363, .int .u8 t364, .string t365] 48 (0, 0)) (by (with_reducible repeat (first | refine blk_drewN ?_ _ | refine blk_drew ?_ | refine blk_alloc ?_ _)); refine blk_put (cs := #[.int .u8 t358, .int .u8 t359, .int .u8 t360, .int .i64 t361, .int .u8 t362, .int .u8 t363, .int .u8 t364, .string (⟨#[]⟩ : ByteArray)]) ?_ 7 _ rfl; (with_reducible repeat (first | refine blk_drewN ?_ _ | refine blk_drew ?_ | refine blk_alloc ?_ _)); refine blk_put (cs := #[.int .u8 t358, .int .u8 t359, .int .u8 t360, .int .i64 t361, .int .u8 t362, .int .u8 t363, .int .u8 0, .string (⟨#[]⟩ : ByteArray)]) ?_ 6 _ rfl; (with_reducible repeat (first | refine blk_drewN ?_ _ | refine blk_drew ?_ | refine blk_alloc ?_ _)); refine blk_put (cs := #[.int .u8 t358, .int .u8 t359, .int .u8 t360, .int .i64 t361, .int .u8 t362, .int .u8 0, .int .u8 0, .string (⟨#[]⟩ : ByteArray)]) ?_ 5 _ rfl; (with_reducible repeat (first | refine blk_drewN ?_ _ | refine blk_drew ?_ | refine blk_alloc ?_ _)); refine blk_put (cs := #[.int .u8 t358, .int .u8 t359, .int .u8 t360, .int .i64 t361, .int .u8 0, .int .u8 0, .int .u8 0, .string (⟨#[]⟩ : ByteArray)]) ?_ 4 _ rfl; (with_reducible repeat (first | refine blk_drewN ?_ _ | refine blk_drew ?_ | refine blk_alloc ?_ _)); refine blk_put (cs := #[.int .u8 t358, .int .u8 t359, .int .u8 t360, .int .i64 0, .int .u8 0, .int .u8 0, .int .u8 0, .string (⟨#[]⟩ : ByteArray)]) ?_ 3 _ rfl; (with_reducible repeat (first | refine blk_drewN ?_ _ | refine blk_drew ?_ | refine blk_alloc ?_ _)); refine blk_put (cs := #[.int .u8 t358, .int .u8 t359, .int .u8 0, .int .i64 0, .int .u8 0, .int .u8 0, .int .u8 0, .string (⟨#[]⟩ : ByteArray)]) ?_ 2 _ rfl; (with_reducible repeat (first | refine blk_drewN ?_ _ | refine blk_drew ?_ | refine blk_alloc ?_ _)); refine blk_put (cs := #[.int .u8 t358, .int .u8 0, .int .u8 0, .int .i64 0, .int .u8 0, .int .u8 0, .int .u8 0, .string (⟨#[]⟩ : ByteArray)]) ?_ 1 _ rfl; (with_reducible repeat (first | refine blk_drewN ?_ _ | refine blk_drew ?_ | refine blk_alloc ?_ _)); refine blk_put (cs := #[.int .u8 0, .int .u8 0, .int .u8 0, .int .i64 0, .int .u8 0, .int .u8 0, .int .u8 0, .string (⟨#[]⟩ : ByteArray)]) ?_ 0 _ rfl; exact Zk BK367.out) hb); replace HB := Aside0.mk (below_step (Zb3 GE341.out GE342.out GE367.out) hb); (try clear hb); (try clear hb2); (try clear hk); (try clear hi)) | (go_at_call 22; (with_reducible refine (gambitlaw05_lives.calls kj4  t370 _ ?side1 A82.out).mono ?_); (case side1 => first | (with_reducible exact HGP.out) | exact GP_below HGP.out (Zb3 GE341.out GE342.out GE367.out)); rintro e w89 ⟨rfl, hb⟩; replace BK341 := Aside0.mk (blk_below (g := gb341) (o := .cells #[.int .u8 a0_0, .int .u8 a0_1, .int .u8 a0_2, .int .i64 a0_3, .int .u8 a0_4, .int .u8 a0_5, .int .u8 a0_6, .string a0_7] 48 (0, 0)) (Zk BK341.out) hb); replace BK342 := Aside0.mk (blk_below (g := gb342) (o := .cells #[.int .u8 a1_0, .int .u8 a1_1, .int .u8 a1_2, .int .i64 a1_3, .int .u8 a1_4, .int .u8 a1_5, .int .u8 a1_6, .string a1_7] 48 (0, 0)) (Zk BK342.out) hb); replace BK367 := Aside0.mk (blk_below (g := gb367) (o := .cells #[.int .u8 t358, .int .u8 t359, .int .u8 t360, .int .i64 t361, .int .u8 t362, .int .u8 t363, .int .u8 t364, .string t365] 48 (0, 0)) (Zk BK367.out) hb); replace HB := Aside0.mk (below_step (Zb3 GE341.out GE342.out GE367.out) hb); (try clear hb); (try clear hb2); (try clear hk); (try clear hi)))
      go_ret
      exact ⟨Ze, Zb3 GE341.out GE342.out GE367.out⟩
     ·rw [if_neg c81] at H
      have c81b0 : (t368.toList == a2.toList) = false := beq_eq_false_iff_ne.mpr c81
      have c81b1 : (t368.toList != a2.toList) = true := bne_iff_ne.mpr c81
      obtain rfl := Option.some.inj H
      go_wp2_with (first | ((with_reducible refine gate_callee (f := 20) rfl ?_); refine goesL_ (some 64) rfl rfl Tryz.func20 (by kernel_rfl) rfl #[.string a2] rfl Zl ?_; (with_reducible refine (effect_Parse.calls a2 t358 t359 t360 t361 t362 t363 t364 t365 t366 _ ?side1 A77.out).mono ?_); (case side1 => first | (with_reducible exact HGP.out) | exact GP_below HGP.out (Zb2 GE341.out GE342.out)); rintro e w90 ⟨rfl, hb⟩; refine ⟨_, rfl, ?_⟩; replace BK341 := Aside0.mk (blk_below (g := gb341) (o := .cells #[.int .u8 a0_0, .int .u8 a0_1, .int .u8 a0_2, .int .i64 a0_3, .int .u8 a0_4, .int .u8 a0_5, .int .u8 a0_6, .string a0_7] 48 (0, 0)) (Zk BK341.out) hb); replace BK342 := Aside0.mk (blk_below (g := gb342) (o := .cells #[.int .u8 a1_0, .int .u8 a1_1, .int .u8 a1_2, .int .i64 a1_3, .int .u8 a1_4, .int .u8 a1_5, .int .u8 a1_6, .string a1_7] 48 (0, 0)) (Zk BK342.out) hb); replace HB := Aside0.mk (below_step (Zb2 GE341.out GE342.out) hb); (try clear hb); (try clear hb2); (try clear hk); (try clear hi)) | ((with_reducible refine gate_dst (N := 13) rfl ?_); (try (refine gate_guard (by rfl) ?_; dsimp only)); refine box_event ?hg (N := 13) ?hd (cs := #[.int .u8 0, .int .u8 0, .int .u8 0, .int .i64 0, .int .u8 0, .int .u8 0, .int .u8 0, .string (⟨#[]⟩ : ByteArray)]) (t := 48) ?hr ?_; (case hd => rfl); (case hg => rfl); (case hr => first | (go_simp; done) | (go_simp; rfl)); intro gb367 hg w91 hbox hb; have BK367 := Aside0.mk (hbox); have GW367 := Aside0.mk ((by rw [hg]; exact (below_size (Zb2 GE341.out GE342.out)) : w.heap.size ≤ gb367)); have GE367 := Aside0.mk ((by rw [hg]; exact (below_size (Zb2 GE341.out GE342.out)) : w.heap.size ≤ gb367)); replace HB := Aside0.mk (below_step (Zb2 GE341.out GE342.out) hb); have NB341_367 := Aside0.mk ((by rw [hg]; exact Nat.ne_of_lt (blk_lt (g := gb341) (o := .cells #[.int .u8 a0_0, .int .u8 a0_1, .int .u8 a0_2, .int .i64 a0_3, .int .u8 a0_4, .int .u8 a0_5, .int .u8 a0_6, .string a0_7] 48 (0, 0)) (Zk BK341.out)) : gb341 ≠ gb367)); have NB367_341 := Aside0.mk ((by rw [hg]; exact Nat.ne_of_gt (blk_lt (g := gb341) (o := .cells #[.int .u8 a0_0, .int .u8 a0_1, .int .u8 a0_2, .int .i64 a0_3, .int .u8 a0_4, .int .u8 a0_5, .int .u8 a0_6, .string a0_7] 48 (0, 0)) (Zk BK341.out)) : gb367 ≠ gb341)); replace BK341 := Aside0.mk (blk_below (g := gb341) (o := .cells #[.int .u8 a0_0, .int .u8 a0_1, .int .u8 a0_2, .int .i64 a0_3, .int .u8 a0_4, .int .u8 a0_5, .int .u8 a0_6, .string a0_7] 48 (0, 0)) (Zk BK341.out) hb); have NB342_367 := Aside0.mk ((by rw [hg]; exact Nat.ne_of_lt (blk_lt (g := gb342) (o := .cells #[.int .u8 a1_0, .int .u8 a1_1, .int .u8 a1_2, .int .i64 a1_3, .int .u8 a1_4, .int .u8 a1_5, .int .u8 a1_6, .string a1_7] 48 (0, 0)) (Zk BK342.out)) : gb342 ≠ gb367)); have NB367_342 := Aside0.mk ((by rw [hg]; exact Nat.ne_of_gt (blk_lt (g := gb342) (o := .cells #[.int .u8 a1_0, .int .u8 a1_1, .int .u8 a1_2, .int .i64 a1_3, .int .u8 a1_4, .int .u8 a1_5, .int .u8 a1_6, .string a1_7] 48 (0, 0)) (Zk BK342.out)) : gb367 ≠ gb342)); replace BK342 := Aside0.mk (blk_below (g := gb342) (o := .cells #[.int .u8 a1_0, .int .u8 a1_1, .int .u8 a1_2, .int .i64 a1_3, .int .u8 a1_4, .int .u8 a1_5, .int .u8 a1_6, .string a1_7] 48 (0, 0)) (Zk BK342.out) hb); clear hb hbox hg; have hnb92 := NB367_341.out; have hnc92 := NB341_367.out; have hnb93 := NB367_342.out; have hnc93 := NB342_367.out; have hcz94_0 := Zc BK367.out 0 (.int .u8 0) rfl; have hcz94_1 := Zc BK367.out 1 (.int .u8 0) rfl; have hcz94_2 := Zc BK367.out 2 (.int .u8 0) rfl; have hcz94_3 := Zc BK367.out 3 (.int .i64 0) rfl; have hcz94_4 := Zc BK367.out 4 (.int .u8 0) rfl; have hcz94_5 := Zc BK367.out 5 (.int .u8 0) rfl; have hcz94_6 := Zc BK367.out 6 (.int .u8 0) rfl; have hcz94_7 := Zc BK367.out 7 (.string (⟨#[]⟩ : ByteArray)) rfl; have hfz94_0 := blk_frozen BK367.out 0; have hfz94_1 := blk_frozen BK367.out 1; have hfz94_2 := blk_frozen BK367.out 2; have hfz94_3 := blk_frozen BK367.out 3; have hfz94_4 := blk_frozen BK367.out 4; have hfz94_5 := blk_frozen BK367.out 5; have hfz94_6 := blk_frozen BK367.out 6; have hfz94_7 := blk_frozen BK367.out 7) | ((with_reducible refine gate_callee (f := 23) rfl ?_); refine goesL_ (some 77) rfl rfl Tryz.func23 (by kernel_rfl) rfl #[.agg #[.int .u8 t358, .int .u8 t359, .int .u8 t360, .int .i64 t361, .int .u8 t362, .int .u8 t363, .int .u8 t364, .string t365]] rfl Zl ?_; (with_reducible refine (effect_Print.calls kj4 t358 t359 t360 t361 t362 t363 t364 t365 t368 t369 _ ?side1 A79.out).mono ?_); (case side1 => first | (with_reducible exact HGP.out) | exact GP_below HGP.out (Zb3 GE341.out GE342.out GE367.out)); rintro e w95 ⟨rfl, hb⟩; refine ⟨_, rfl, ?_⟩; replace BK341 := Aside0.mk (blk_below (g := gb341) (o := .cells #[.int .u8 a0_0, .int .u8 a0_1, .int .u8 a0_2, .int .i64 a0_3, .int .u8 a0_4, .int .u8 a0_5, .int .u8 a0_6, .string a0_7] 48 (0, 0)) (by (with_reducible repeat (first | refine blk_drewN ?_ _ | refine blk_drew ?_ | refine blk_alloc ?_ _)); refine blk_far ?_ NB341_367.out _; (with_reducible repeat (first | refine blk_drewN ?_ _ | refine blk_drew ?_ | refine blk_alloc ?_ _)); refine blk_far ?_ NB341_367.out _; (with_reducible repeat (first | refine blk_drewN ?_ _ | refine blk_drew ?_ | refine blk_alloc ?_ _)); refine blk_far ?_ NB341_367.out _; (with_reducible repeat (first | refine blk_drewN ?_ _ | refine blk_drew ?_ | refine blk_alloc ?_ _)); refine blk_far ?_ NB341_367.out _; (with_reducible repeat (first | refine blk_drewN ?_ _ | refine blk_drew ?_ | refine blk_alloc ?_ _)); refine blk_far ?_ NB341_367.out _; (with_reducible repeat (first | refine blk_drewN ?_ _ | refine blk_drew ?_ | refine blk_alloc ?_ _)); refine blk_far ?_ NB341_367.out _; (with_reducible repeat (first | refine blk_drewN ?_ _ | refine blk_drew ?_ | refine blk_alloc ?_ _)); refine blk_far ?_ NB341_367.out _; (with_reducible repeat (first | refine blk_drewN ?_ _ | refine blk_drew ?_ | refine blk_alloc ?_ _)); refine blk_far ?_ NB341_367.out _; exact Zk BK341.out) hb); replace BK342 := Aside0.mk (blk_below (g := gb342) (o := .cells #[.int .u8 a1_0, .int .u8 a1_1, .int .u8 a1_2, .int .i64 a1_3, .int .u8 a1_4, .int .u8 a1_5, .int .u8 a1_6, .string a1_7] 48 (0, 0)) (by (with_reducible repeat (first | refine blk_drewN ?_ _ | refine blk_drew ?_ | refine blk_alloc ?_ _)); refine blk_far ?_ NB342_367.out _; (with_reducible repeat (first | refine blk_drewN ?_ _ | refine blk_drew ?_ | refine blk_alloc ?_ _)); refine blk_far ?_ NB342_367.out _; (with_reducible repeat (first | refine blk_drewN ?_ _ | refine blk_drew ?_ | refine blk_alloc ?_ _)); refine blk_far ?_ NB342_367.out _; (with_reducible repeat (first | refine blk_drewN ?_ _ | refine blk_drew ?_ | refine blk_alloc ?_ _)); refine blk_far ?_ NB342_367.out _; (with_reducible repeat (first | refine blk_drewN ?_ _ | refine blk_drew ?_ | refine blk_alloc ?_ _)); refine blk_far ?_ NB342_367.out _; (with_reducible repeat (first | refine blk_drewN ?_ _ | refine blk_drew ?_ | refine blk_alloc ?_ _)); refine blk_far ?_ NB342_367.out _; (with_reducible repeat (first | refine blk_drewN ?_ _ | refine blk_drew ?_ | refine blk_alloc ?_ _)); refine blk_far ?_ NB342_367.out _; (with_reducible repeat (first | refine blk_drewN ?_ _ | refine blk_drew ?_ | refine blk_alloc ?_ _)); refine blk_far ?_ NB342_367.out _; exact Zk BK342.out) hb); replace BK367 := Aside0.mk (blk_below (g := gb367) (o := .cells #[.int .u8 t358, .int .u8 t359, .int .u8 t360, .int .i64 t361, .int .u8 t362, .int .u8 t363, .int .u8 t364, .string t365] 48 (0, 0)) (by (with_reducible repeat (first | refine blk_drewN ?_ _ | refine blk_drew ?_ | refine blk_alloc ?_ _)); refine blk_put (cs := #[.int .u8 t358, .int .u8 t359, .int .u8 t360, .int .i64 t361, .int .u8 t362, .int .u8 t363, .int .u8 t364, .string (⟨#[]⟩ : ByteArray)]) ?_ 7 _ rfl; (with_reducible repeat (first | refine blk_drewN ?_ _ | refine blk_drew ?_ | refine blk_alloc ?_ _)); refine blk_put (cs := #[.int .u8 t358, .int .u8 t359, .int .u8 t360, .int .i64 t361, .int .u8 t362, .int .u8 t363, .int .u8 0, .string (⟨#[]⟩ : ByteArray)]) ?_ 6 _ rfl; (with_reducible repeat (first | refine blk_drewN ?_ _ | refine blk_drew ?_ | refine blk_alloc ?_ _)); refine blk_put (cs := #[.int .u8 t358, .int .u8 t359, .int .u8 t360, .int .i64 t361, .int .u8 t362, .int .u8 0, .int .u8 0, .string (⟨#[]⟩ : ByteArray)]) ?_ 5 _ rfl; (with_reducible repeat (first | refine blk_drewN ?_ _ | refine blk_drew ?_ | refine blk_alloc ?_ _)); refine blk_put (cs := #[.int .u8 t358, .int .u8 t359, .int .u8 t360, .int .i64 t361, .int .u8 0, .int .u8 0, .int .u8 0, .string (⟨#[]⟩ : ByteArray)]) ?_ 4 _ rfl; (with_reducible repeat (first | refine blk_drewN ?_ _ | refine blk_drew ?_ | refine blk_alloc ?_ _)); refine blk_put (cs := #[.int .u8 t358, .int .u8 t359, .int .u8 t360, .int .i64 0, .int .u8 0, .int .u8 0, .int .u8 0, .string (⟨#[]⟩ : ByteArray)]) ?_ 3 _ rfl; (with_reducible repeat (first | refine blk_drewN ?_ _ | refine blk_drew ?_ | refine blk_alloc ?_ _)); refine blk_put (cs := #[.int .u8 t358, .int .u8 t359, .int .u8 0, .int .i64 0, .int .u8 0, .int .u8 0, .int .u8 0, .string (⟨#[]⟩ : ByteArray)]) ?_ 2 _ rfl; (with_reducible repeat (first | refine blk_drewN ?_ _ | refine blk_drew ?_ | refine blk_alloc ?_ _)); refine blk_put (cs := #[.int .u8 t358, .int .u8 0, .int .u8 0, .int .i64 0, .int .u8 0, .int .u8 0, .int .u8 0, .string (⟨#[]⟩ : ByteArray)]) ?_ 1 _ rfl; (with_reducible repeat (first | refine blk_drewN ?_ _ | refine blk_drew ?_ | refine blk_alloc ?_ _)); refine blk_put (cs := #[.int .u8 0, .int .u8 0, .int .u8 0, .int .i64 0, .int .u8 0, .int .u8 0, .int .u8 0, .string (⟨#[]⟩ : ByteArray)]) ?_ 0 _ rfl; exact Zk BK367.out) hb); replace HB := Aside0.mk (below_step (Zb3 GE341.out GE342.out GE367.out) hb); (try clear hb); (try clear hb2); (try clear hk); (try clear hi)))
      go_ret
      exact ⟨Ze, Zb3 GE341.out GE342.out GE367.out⟩
    ·rw [if_neg c80] at H
     have c80b0 : (t369 == 0) = false := beq_eq_false_iff_ne.mpr c80
     have c80b1 : (t369 != 0) = true := bne_iff_ne.mpr c80
     obtain rfl := Option.some.inj H
     go_wp2_with (first | ((with_reducible refine gate_callee (f := 20) rfl ?_); refine goesL_ (some 64) rfl rfl Tryz.func20 (by kernel_rfl) rfl #[.string a2] rfl Zl ?_; (with_reducible refine (effect_Parse.calls a2 t358 t359 t360 t361 t362 t363 t364 t365 t366 _ ?side1 A77.out).mono ?_); (case side1 => first | (with_reducible exact HGP.out) | exact GP_below HGP.out (Zb2 GE341.out GE342.out)); rintro e w96 ⟨rfl, hb⟩; refine ⟨_, rfl, ?_⟩; replace BK341 := Aside0.mk (blk_below (g := gb341) (o := .cells #[.int .u8 a0_0, .int .u8 a0_1, .int .u8 a0_2, .int .i64 a0_3, .int .u8 a0_4, .int .u8 a0_5, .int .u8 a0_6, .string a0_7] 48 (0, 0)) (Zk BK341.out) hb); replace BK342 := Aside0.mk (blk_below (g := gb342) (o := .cells #[.int .u8 a1_0, .int .u8 a1_1, .int .u8 a1_2, .int .i64 a1_3, .int .u8 a1_4, .int .u8 a1_5, .int .u8 a1_6, .string a1_7] 48 (0, 0)) (Zk BK342.out) hb); replace HB := Aside0.mk (below_step (Zb2 GE341.out GE342.out) hb); (try clear hb); (try clear hb2); (try clear hk); (try clear hi)) | ((with_reducible refine gate_dst (N := 13) rfl ?_); (try (refine gate_guard (by rfl) ?_; dsimp only)); refine box_event ?hg (N := 13) ?hd (cs := #[.int .u8 0, .int .u8 0, .int .u8 0, .int .i64 0, .int .u8 0, .int .u8 0, .int .u8 0, .string (⟨#[]⟩ : ByteArray)]) (t := 48) ?hr ?_; (case hd => rfl); (case hg => rfl); (case hr => first | (go_simp; done) | (go_simp; rfl)); intro gb367 hg w97 hbox hb; have BK367 := Aside0.mk (hbox); have GW367 := Aside0.mk ((by rw [hg]; exact (below_size (Zb2 GE341.out GE342.out)) : w.heap.size ≤ gb367)); have GE367 := Aside0.mk ((by rw [hg]; exact (below_size (Zb2 GE341.out GE342.out)) : w.heap.size ≤ gb367)); replace HB := Aside0.mk (below_step (Zb2 GE341.out GE342.out) hb); have NB341_367 := Aside0.mk ((by rw [hg]; exact Nat.ne_of_lt (blk_lt (g := gb341) (o := .cells #[.int .u8 a0_0, .int .u8 a0_1, .int .u8 a0_2, .int .i64 a0_3, .int .u8 a0_4, .int .u8 a0_5, .int .u8 a0_6, .string a0_7] 48 (0, 0)) (Zk BK341.out)) : gb341 ≠ gb367)); have NB367_341 := Aside0.mk ((by rw [hg]; exact Nat.ne_of_gt (blk_lt (g := gb341) (o := .cells #[.int .u8 a0_0, .int .u8 a0_1, .int .u8 a0_2, .int .i64 a0_3, .int .u8 a0_4, .int .u8 a0_5, .int .u8 a0_6, .string a0_7] 48 (0, 0)) (Zk BK341.out)) : gb367 ≠ gb341)); replace BK341 := Aside0.mk (blk_below (g := gb341) (o := .cells #[.int .u8 a0_0, .int .u8 a0_1, .int .u8 a0_2, .int .i64 a0_3, .int .u8 a0_4, .int .u8 a0_5, .int .u8 a0_6, .string a0_7] 48 (0, 0)) (Zk BK341.out) hb); have NB342_367 := Aside0.mk ((by rw [hg]; exact Nat.ne_of_lt (blk_lt (g := gb342) (o := .cells #[.int .u8 a1_0, .int .u8 a1_1, .int .u8 a1_2, .int .i64 a1_3, .int .u8 a1_4, .int .u8 a1_5, .int .u8 a1_6, .string a1_7] 48 (0, 0)) (Zk BK342.out)) : gb342 ≠ gb367)); have NB367_342 := Aside0.mk ((by rw [hg]; exact Nat.ne_of_gt (blk_lt (g := gb342) (o := .cells #[.int .u8 a1_0, .int .u8 a1_1, .int .u8 a1_2, .int .i64 a1_3, .int .u8 a1_4, .int .u8 a1_5, .int .u8 a1_6, .string a1_7] 48 (0, 0)) (Zk BK342.out)) : gb367 ≠ gb342)); replace BK342 := Aside0.mk (blk_below (g := gb342) (o := .cells #[.int .u8 a1_0, .int .u8 a1_1, .int .u8 a1_2, .int .i64 a1_3, .int .u8 a1_4, .int .u8 a1_5, .int .u8 a1_6, .string a1_7] 48 (0, 0)) (Zk BK342.out) hb); clear hb hbox hg; have hnb98 := NB367_341.out; have hnc98 := NB341_367.out; have hnb99 := NB367_342.out; have hnc99 := NB342_367.out; have hcz100_0 := Zc BK367.out 0 (.int .u8 0) rfl; have hcz100_1 := Zc BK367.out 1 (.int .u8 0) rfl; have hcz100_2 := Zc BK367.out 2 (.int .u8 0) rfl; have hcz100_3 := Zc BK367.out 3 (.int .i64 0) rfl; have hcz100_4 := Zc BK367.out 4 (.int .u8 0) rfl; have hcz100_5 := Zc BK367.out 5 (.int .u8 0) rfl; have hcz100_6 := Zc BK367.out 6 (.int .u8 0) rfl; have hcz100_7 := Zc BK367.out 7 (.string (⟨#[]⟩ : ByteArray)) rfl; have hfz100_0 := blk_frozen BK367.out 0; have hfz100_1 := blk_frozen BK367.out 1; have hfz100_2 := blk_frozen BK367.out 2; have hfz100_3 := blk_frozen BK367.out 3; have hfz100_4 := blk_frozen BK367.out 4; have hfz100_5 := blk_frozen BK367.out 5; have hfz100_6 := blk_frozen BK367.out 6; have hfz100_7 := blk_frozen BK367.out 7) | ((with_reducible refine gate_callee (f := 23) rfl ?_); refine goesL_ (some 77) rfl rfl Tryz.func23 (by kernel_rfl) rfl #[.agg #[.int .u8 t358, .int .u8 t359, .int .u8 t360, .int .i64 t361, .int .u8 t362, .int .u8 t363, .int .u8 t364, .string t365]] rfl Zl ?_; (with_reducible refine (effect_Print.calls kj4 t358 t359 t360 t361 t362 t363 t364 t365 t368 t369 _ ?side1 A79.out).mono ?_); (case side1 => first | (with_reducible exact HGP.out) | exact GP_below HGP.out (Zb3 GE341.out GE342.out GE367.out)); rintro e w101 ⟨rfl, hb⟩; refine ⟨_, rfl, ?_⟩; replace BK341 := Aside0.mk (blk_below (g := gb341) (o := .cells #[.int .u8 a0_0, .int .u8 a0_1, .int .u8 a0_2, .int .i64 a0_3, .int .u8 a0_4, .int .u8 a0_5, .int .u8 a0_6, .string a0_7] 48 (0, 0)) (by (with_reducible repeat (first | refine blk_drewN ?_ _ | refine blk_drew ?_ | refine blk_alloc ?_ _)); refine blk_far ?_ NB341_367.out _; (with_reducible repeat (first | refine blk_drewN ?_ _ | refine blk_drew ?_ | refine blk_alloc ?_ _)); refine blk_far ?_ NB341_367.out _; (with_reducible repeat (first | refine blk_drewN ?_ _ | refine blk_drew ?_ | refine blk_alloc ?_ _)); refine blk_far ?_ NB341_367.out _; (with_reducible repeat (first | refine blk_drewN ?_ _ | refine blk_drew ?_ | refine blk_alloc ?_ _)); refine blk_far ?_ NB341_367.out _; (with_reducible repeat (first | refine blk_drewN ?_ _ | refine blk_drew ?_ | refine blk_alloc ?_ _)); refine blk_far ?_ NB341_367.out _; (with_reducible repeat (first | refine blk_drewN ?_ _ | refine blk_drew ?_ | refine blk_alloc ?_ _)); refine blk_far ?_ NB341_367.out _; (with_reducible repeat (first | refine blk_drewN ?_ _ | refine blk_drew ?_ | refine blk_alloc ?_ _)); refine blk_far ?_ NB341_367.out _; (with_reducible repeat (first | refine blk_drewN ?_ _ | refine blk_drew ?_ | refine blk_alloc ?_ _)); refine blk_far ?_ NB341_367.out _; exact Zk BK341.out) hb); replace BK342 := Aside0.mk (blk_below (g := gb342) (o := .cells #[.int .u8 a1_0, .int .u8 a1_1, .int .u8 a1_2, .int .i64 a1_3, .int .u8 a1_4, .int .u8 a1_5, .int .u8 a1_6, .string a1_7] 48 (0, 0)) (by (with_reducible repeat (first | refine blk_drewN ?_ _ | refine blk_drew ?_ | refine blk_alloc ?_ _)); refine blk_far ?_ NB342_367.out _; (with_reducible repeat (first | refine blk_drewN ?_ _ | refine blk_drew ?_ | refine blk_alloc ?_ _)); refine blk_far ?_ NB342_367.out _; (with_reducible repeat (first | refine blk_drewN ?_ _ | refine blk_drew ?_ | refine blk_alloc ?_ _)); refine blk_far ?_ NB342_367.out _; (with_reducible repeat (first | refine blk_drewN ?_ _ | refine blk_drew ?_ | refine blk_alloc ?_ _)); refine blk_far ?_ NB342_367.out _; (with_reducible repeat (first | refine blk_drewN ?_ _ | refine blk_drew ?_ | refine blk_alloc ?_ _)); refine blk_far ?_ NB342_367.out _; (with_reducible repeat (first | refine blk_drewN ?_ _ | refine blk_drew ?_ | refine blk_alloc ?_ _)); refine blk_far ?_ NB342_367.out _; (with_reducible repeat (first | refine blk_drewN ?_ _ | refine blk_drew ?_ | refine blk_alloc ?_ _)); refine blk_far ?_ NB342_367.out _; (with_reducible repeat (first | refine blk_drewN ?_ _ | refine blk_drew ?_ | refine blk_alloc ?_ _)); refine blk_far ?_ NB342_367.out _; exact Zk BK342.out) hb); replace BK367 := Aside0.mk (blk_below (g := gb367) (o := .cells #[.int .u8 t358, .int .u8 t359, .int .u8 t360, .int .i64 t361, .int .u8 t362, .int .u8 t363, .int .u8 t364, .string t365] 48 (0, 0)) (by (with_reducible repeat (first | refine blk_drewN ?_ _ | refine blk_drew ?_ | refine blk_alloc ?_ _)); refine blk_put (cs := #[.int .u8 t358, .int .u8 t359, .int .u8 t360, .int .i64 t361, .int .u8 t362, .int .u8 t363, .int .u8 t364, .string (⟨#[]⟩ : ByteArray)]) ?_ 7 _ rfl; (with_reducible repeat (first | refine blk_drewN ?_ _ | refine blk_drew ?_ | refine blk_alloc ?_ _)); refine blk_put (cs := #[.int .u8 t358, .int .u8 t359, .int .u8 t360, .int .i64 t361, .int .u8 t362, .int .u8 t363, .int .u8 0, .string (⟨#[]⟩ : ByteArray)]) ?_ 6 _ rfl; (with_reducible repeat (first | refine blk_drewN ?_ _ | refine blk_drew ?_ | refine blk_alloc ?_ _)); refine blk_put (cs := #[.int .u8 t358, .int .u8 t359, .int .u8 t360, .int .i64 t361, .int .u8 t362, .int .u8 0, .int .u8 0, .string (⟨#[]⟩ : ByteArray)]) ?_ 5 _ rfl; (with_reducible repeat (first | refine blk_drewN ?_ _ | refine blk_drew ?_ | refine blk_alloc ?_ _)); refine blk_put (cs := #[.int .u8 t358, .int .u8 t359, .int .u8 t360, .int .i64 t361, .int .u8 0, .int .u8 0, .int .u8 0, .string (⟨#[]⟩ : ByteArray)]) ?_ 4 _ rfl; (with_reducible repeat (first | refine blk_drewN ?_ _ | refine blk_drew ?_ | refine blk_alloc ?_ _)); refine blk_put (cs := #[.int .u8 t358, .int .u8 t359, .int .u8 t360, .int .i64 0, .int .u8 0, .int .u8 0, .int .u8 0, .string (⟨#[]⟩ : ByteArray)]) ?_ 3 _ rfl; (with_reducible repeat (first | refine blk_drewN ?_ _ | refine blk_drew ?_ | refine blk_alloc ?_ _)); refine blk_put (cs := #[.int .u8 t358, .int .u8 t359, .int .u8 0, .int .i64 0, .int .u8 0, .int .u8 0, .int .u8 0, .string (⟨#[]⟩ : ByteArray)]) ?_ 2 _ rfl; (with_reducible repeat (first | refine blk_drewN ?_ _ | refine blk_drew ?_ | refine blk_alloc ?_ _)); refine blk_put (cs := #[.int .u8 t358, .int .u8 0, .int .u8 0, .int .i64 0, .int .u8 0, .int .u8 0, .int .u8 0, .string (⟨#[]⟩ : ByteArray)]) ?_ 1 _ rfl; (with_reducible repeat (first | refine blk_drewN ?_ _ | refine blk_drew ?_ | refine blk_alloc ?_ _)); refine blk_put (cs := #[.int .u8 0, .int .u8 0, .int .u8 0, .int .i64 0, .int .u8 0, .int .u8 0, .int .u8 0, .string (⟨#[]⟩ : ByteArray)]) ?_ 0 _ rfl; exact Zk BK367.out) hb); replace HB := Aside0.mk (below_step (Zb3 GE341.out GE342.out GE367.out) hb); (try clear hb); (try clear hb2); (try clear hk); (try clear hi)))
     go_ret
     exact ⟨Ze, Zb3 GE341.out GE342.out GE367.out⟩
   ·rw [if_neg c78] at H
    have c78b0 : (t366 == 0) = false := beq_eq_false_iff_ne.mpr c78
    have c78b1 : (t366 != 0) = true := bne_iff_ne.mpr c78
    by_cases c102 : (t358 == 0 && (t359 == 0 && (t360 == 0 && (t361 == 0 && (t362 == 0 && (t363 == 0 && (t364 == 0 && (t365.toList == ([] : List UInt8))))))))) = true
    ·rw [if_pos c102] at H
     have c102b0 : (t358 == 0 && (t359 == 0 && (t360 == 0 && (t361 == 0 && (t362 == 0 && (t363 == 0 && (t364 == 0 && (t365.toList == ([] : List UInt8))))))))) = true := c102
     (try (have c102bz : (t358 = 0 ∧ t359 = 0 ∧ t360 = 0 ∧ t361 = 0 ∧ t362 = 0 ∧ t363 = 0 ∧ t364 = 0 ∧ t365.toList = []) = True := eq_true (by simpa using c102)))
     (try (have c102b1 : decide (t358 = 0 && (t359 == 0 && (t360 == 0 && (t361 == 0 && (t362 == 0 && (t363 == 0 && (t364 == 0 && (t365.toList == ([] : List UInt8))))))))) = true := by simpa using c102))
     (try (have c102b2 : (t358 == 0 && (t359 == 0 && (t360 == 0 && (t361 == 0 && (t362 == 0 && (t363 == 0 && (t364 == 0 && (t365.toList == ([] : List UInt8))))))))) = true := by simpa using c102))
     clear c102
     replace H := Option.bind_eq_some_iff.mp H
     obtain ⟨t371, A1030, H⟩ := H
     replace H : (some t371) = some r := H
     have A103 := Aside0.mk A1030
     clear A1030
     obtain rfl := Option.some.inj H
     go_wp2_with (first | ((with_reducible refine gate_callee (f := 20) rfl ?_); refine goesL_ (some 64) rfl rfl Tryz.func20 (by kernel_rfl) rfl #[.string a2] rfl Zl ?_; (with_reducible refine (effect_Parse.calls a2 t358 t359 t360 t361 t362 t363 t364 t365 t366 _ ?side1 A77.out).mono ?_); (case side1 => first | (with_reducible exact HGP.out) | exact GP_below HGP.out (Zb2 GE341.out GE342.out)); rintro e w104 ⟨rfl, hb⟩; refine ⟨_, rfl, ?_⟩; replace BK341 := Aside0.mk (blk_below (g := gb341) (o := .cells #[.int .u8 a0_0, .int .u8 a0_1, .int .u8 a0_2, .int .i64 a0_3, .int .u8 a0_4, .int .u8 a0_5, .int .u8 a0_6, .string a0_7] 48 (0, 0)) (Zk BK341.out) hb); replace BK342 := Aside0.mk (blk_below (g := gb342) (o := .cells #[.int .u8 a1_0, .int .u8 a1_1, .int .u8 a1_2, .int .i64 a1_3, .int .u8 a1_4, .int .u8 a1_5, .int .u8 a1_6, .string a1_7] 48 (0, 0)) (Zk BK342.out) hb); replace HB := Aside0.mk (below_step (Zb2 GE341.out GE342.out) hb); (try clear hb); (try clear hb2); (try clear hk); (try clear hi)) | ((with_reducible refine gate_dst (N := 13) rfl ?_); (try (refine gate_guard (by rfl) ?_; dsimp only)); refine box_event ?hg (N := 13) ?hd (cs := #[.int .u8 0, .int .u8 0, .int .u8 0, .int .i64 0, .int .u8 0, .int .u8 0, .int .u8 0, .string (⟨#[]⟩ : ByteArray)]) (t := 48) ?hr ?_; (case hd => rfl); (case hg => rfl); (case hr => first | (go_simp; done) | (go_simp; rfl)); intro gb367 hg w105 hbox hb; have BK367 := Aside0.mk (hbox); have GW367 := Aside0.mk ((by rw [hg]; exact (below_size (Zb2 GE341.out GE342.out)) : w.heap.size ≤ gb367)); have GE367 := Aside0.mk ((by rw [hg]; exact (below_size (Zb2 GE341.out GE342.out)) : w.heap.size ≤ gb367)); replace HB := Aside0.mk (below_step (Zb2 GE341.out GE342.out) hb); have NB341_367 := Aside0.mk ((by rw [hg]; exact Nat.ne_of_lt (blk_lt (g := gb341) (o := .cells #[.int .u8 a0_0, .int .u8 a0_1, .int .u8 a0_2, .int .i64 a0_3, .int .u8 a0_4, .int .u8 a0_5, .int .u8 a0_6, .string a0_7] 48 (0, 0)) (Zk BK341.out)) : gb341 ≠ gb367)); have NB367_341 := Aside0.mk ((by rw [hg]; exact Nat.ne_of_gt (blk_lt (g := gb341) (o := .cells #[.int .u8 a0_0, .int .u8 a0_1, .int .u8 a0_2, .int .i64 a0_3, .int .u8 a0_4, .int .u8 a0_5, .int .u8 a0_6, .string a0_7] 48 (0, 0)) (Zk BK341.out)) : gb367 ≠ gb341)); replace BK341 := Aside0.mk (blk_below (g := gb341) (o := .cells #[.int .u8 a0_0, .int .u8 a0_1, .int .u8 a0_2, .int .i64 a0_3, .int .u8 a0_4, .int .u8 a0_5, .int .u8 a0_6, .string a0_7] 48 (0, 0)) (Zk BK341.out) hb); have NB342_367 := Aside0.mk ((by rw [hg]; exact Nat.ne_of_lt (blk_lt (g := gb342) (o := .cells #[.int .u8 a1_0, .int .u8 a1_1, .int .u8 a1_2, .int .i64 a1_3, .int .u8 a1_4, .int .u8 a1_5, .int .u8 a1_6, .string a1_7] 48 (0, 0)) (Zk BK342.out)) : gb342 ≠ gb367)); have NB367_342 := Aside0.mk ((by rw [hg]; exact Nat.ne_of_gt (blk_lt (g := gb342) (o := .cells #[.int .u8 a1_0, .int .u8 a1_1, .int .u8 a1_2, .int .i64 a1_3, .int .u8 a1_4, .int .u8 a1_5, .int .u8 a1_6, .string a1_7] 48 (0, 0)) (Zk BK342.out)) : gb367 ≠ gb342)); replace BK342 := Aside0.mk (blk_below (g := gb342) (o := .cells #[.int .u8 a1_0, .int .u8 a1_1, .int .u8 a1_2, .int .i64 a1_3, .int .u8 a1_4, .int .u8 a1_5, .int .u8 a1_6, .string a1_7] 48 (0, 0)) (Zk BK342.out) hb); clear hb hbox hg; have hnb106 := NB367_341.out; have hnc106 := NB341_367.out; have hnb107 := NB367_342.out; have hnc107 := NB342_367.out; have hcz108_0 := Zc BK367.out 0 (.int .u8 0) rfl; have hcz108_1 := Zc BK367.out 1 (.int .u8 0) rfl; have hcz108_2 := Zc BK367.out 2 (.int .u8 0) rfl; have hcz108_3 := Zc BK367.out 3 (.int .i64 0) rfl; have hcz108_4 := Zc BK367.out 4 (.int .u8 0) rfl; have hcz108_5 := Zc BK367.out 5 (.int .u8 0) rfl; have hcz108_6 := Zc BK367.out 6 (.int .u8 0) rfl; have hcz108_7 := Zc BK367.out 7 (.string (⟨#[]⟩ : ByteArray)) rfl; have hfz108_0 := blk_frozen BK367.out 0; have hfz108_1 := blk_frozen BK367.out 1; have hfz108_2 := blk_frozen BK367.out 2; have hfz108_3 := blk_frozen BK367.out 3; have hfz108_4 := blk_frozen BK367.out 4; have hfz108_5 := blk_frozen BK367.out 5; have hfz108_6 := blk_frozen BK367.out 6; have hfz108_7 := blk_frozen BK367.out 7) | (go_at_call 22; (with_reducible refine (gambitlaw05_lives.calls kj4  t371 _ ?side1 A103.out).mono ?_); (case side1 => first | (with_reducible exact HGP.out) | exact GP_below HGP.out (Zb3 GE341.out GE342.out GE367.out)); rintro e w109 ⟨rfl, hb⟩; replace BK341 := Aside0.mk (blk_below (g := gb341) (o := .cells #[.int .u8 a0_0, .int .u8 a0_1, .int .u8 a0_2, .int .i64 a0_3, .int .u8 a0_4, .int .u8 a0_5, .int .u8 a0_6, .string a0_7] 48 (0, 0)) (by (with_reducible repeat (first | refine blk_drewN ?_ _ | refine blk_drew ?_ | refine blk_alloc ?_ _)); refine blk_far ?_ NB341_367.out _; (with_reducible repeat (first | refine blk_drewN ?_ _ | refine blk_drew ?_ | refine blk_alloc ?_ _)); refine blk_far ?_ NB341_367.out _; (with_reducible repeat (first | refine blk_drewN ?_ _ | refine blk_drew ?_ | refine blk_alloc ?_ _)); refine blk_far ?_ NB341_367.out _; (with_reducible repeat (first | refine blk_drewN ?_ _ | refine blk_drew ?_ | refine blk_alloc ?_ _)); refine blk_far ?_ NB341_367.out _; (with_reducible repeat (first | refine blk_drewN ?_ _ | refine blk_drew ?_ | refine blk_alloc ?_ _)); refine blk_far ?_ NB341_367.out _; (with_reducible repeat (first | refine blk_drewN ?_ _ | refine blk_drew ?_ | refine blk_alloc ?_ _)); refine blk_far ?_ NB341_367.out _; (with_reducible repeat (first | refine blk_drewN ?_ _ | refine blk_drew ?_ | refine blk_alloc ?_ _)); refine blk_far ?_ NB341_367.out _; (with_reducible repeat (first | refine blk_drewN ?_ _ | refine blk_drew ?_ | refine blk_alloc ?_ _)); refine blk_far ?_ NB341_367.out _; exact Zk BK341.out) hb); replace BK342 := Aside0.mk (blk_below (g := gb342) (o := .cells #[.int .u8 a1_0, .int .u8 a1_1, .int .u8 a1_2, .int .i64 a1_3, .int .u8 a1_4, .int .u8 a1_5, .int .u8 a1_6, .string a1_7] 48 (0, 0)) (by (with_reducible repeat (first | refine blk_drewN ?_ _ | refine blk_drew ?_ | refine blk_alloc ?_ _)); refine blk_far ?_ NB342_367.out _; (with_reducible repeat (first | refine blk_drewN ?_ _ | refine blk_drew ?_ | refine blk_alloc ?_ _)); refine blk_far ?_ NB342_367.out _; (with_reducible repeat (first | refine blk_drewN ?_ _ | refine blk_drew ?_ | refine blk_alloc ?_ _)); refine blk_far ?_ NB342_367.out _; (with_reducible repeat (first | refine blk_drewN ?_ _ | refine blk_drew ?_ | refine blk_alloc ?_ _)); refine blk_far ?_ NB342_367.out _; (with_reducible repeat (first | refine blk_drewN ?_ _ | refine blk_drew ?_ | refine blk_alloc ?_ _)); refine blk_far ?_ NB342_367.out _; (with_reducible repeat (first | refine blk_drewN ?_ _ | refine blk_drew ?_ | refine blk_alloc ?_ _)); refine blk_far ?_ NB342_367.out _; (with_reducible repeat (first | refine blk_drewN ?_ _ | refine blk_drew ?_ | refine blk_alloc ?_ _)); refine blk_far ?_ NB342_367.out _; (with_reducible repeat (first | refine blk_drewN ?_ _ | refine blk_drew ?_ | refine blk_alloc ?_ _)); refine blk_far ?_ NB342_367.out _; exact Zk BK342.out) hb); replace BK367 := Aside0.mk (blk_below (g := gb367) (o := .cells #[.int .u8 t358, .int .u8 t359, .int .u8 t360, .int .i64 t361, .int .u8 t362, .int .u8 t363, .int .u8 t364, .string t365] 48 (0, 0)) (by (with_reducible repeat (first | refine blk_drewN ?_ _ | refine blk_drew ?_ | refine blk_alloc ?_ _)); refine blk_put (cs := #[.int .u8 t358, .int .u8 t359, .int .u8 t360, .int .i64 t361, .int .u8 t362, .int .u8 t363, .int .u8 t364, .string (⟨#[]⟩ : ByteArray)]) ?_ 7 _ rfl; (with_reducible repeat (first | refine blk_drewN ?_ _ | refine blk_drew ?_ | refine blk_alloc ?_ _)); refine blk_put (cs := #[.int .u8 t358, .int .u8 t359, .int .u8 t360, .int .i64 t361, .int .u8 t362, .int .u8 t363, .int .u8 0, .string (⟨#[]⟩ : ByteArray)]) ?_ 6 _ rfl; (with_reducible repeat (first | refine blk_drewN ?_ _ | refine blk_drew ?_ | refine blk_alloc ?_ _)); refine blk_put (cs := #[.int .u8 t358, .int .u8 t359, .int .u8 t360, .int .i64 t361, .int .u8 t362, .int .u8 0, .int .u8 0, .string (⟨#[]⟩ : ByteArray)]) ?_ 5 _ rfl; (with_reducible repeat (first | refine blk_drewN ?_ _ | refine blk_drew ?_ | refine blk_alloc ?_ _)); refine blk_put (cs := #[.int .u8 t358, .int .u8 t359, .int .u8 t360, .int .i64 t361, .int .u8 0, .int .u8 0, .int .u8 0, .string (⟨#[]⟩ : ByteArray)]) ?_ 4 _ rfl; (with_reducible repeat (first | refine blk_drewN ?_ _ | refine blk_drew ?_ | refine blk_alloc ?_ _)); refine blk_put (cs := #[.int .u8 t358, .int .u8 t359, .int .u8 t360, .int .i64 0, .int .u8 0, .int .u8 0, .int .u8 0, .string (⟨#[]⟩ : ByteArray)]) ?_ 3 _ rfl; (with_reducible repeat (first | refine blk_drewN ?_ _ | refine blk_drew ?_ | refine blk_alloc ?_ _)); refine blk_put (cs := #[.int .u8 t358, .int .u8 t359, .int .u8 0, .int .i64 0, .int .u8 0, .int .u8 0, .int .u8 0, .string (⟨#[]⟩ : ByteArray)]) ?_ 2 _ rfl; (with_reducible repeat (first | refine blk_drewN ?_ _ | refine blk_drew ?_ | refine blk_alloc ?_ _)); refine blk_put (cs := #[.int .u8 t358, .int .u8 0, .int .u8 0, .int .i64 0, .int .u8 0, .int .u8 0, .int .u8 0, .string (⟨#[]⟩ : ByteArray)]) ?_ 1 _ rfl; (with_reducible repeat (first | refine blk_drewN ?_ _ | refine blk_drew ?_ | refine blk_alloc ?_ _)); refine blk_put (cs := #[.int .u8 0, .int .u8 0, .int .u8 0, .int .i64 0, .int .u8 0, .int .u8 0, .int .u8 0, .string (⟨#[]⟩ : ByteArray)]) ?_ 0 _ rfl; exact Zk BK367.out) hb); replace HB := Aside0.mk (below_step (Zb3 GE341.out GE342.out GE367.out) hb); (try clear hb); (try clear hb2); (try clear hk); (try clear hi)))
     go_ret
     exact ⟨Ze, Zb3 GE341.out GE342.out GE367.out⟩
    ·rw [if_neg c102] at H
     have c102b0 : (t358 == 0 && (t359 == 0 && (t360 == 0 && (t361 == 0 && (t362 == 0 && (t363 == 0 && (t364 == 0 && (t365.toList == ([] : List UInt8))))))))) = false := by simpa using c102
     (try (have c102bz : (t358 = 0 ∧ t359 = 0 ∧ t360 = 0 ∧ t361 = 0 ∧ t362 = 0 ∧ t363 = 0 ∧ t364 = 0 ∧ t365.toList = []) = False := eq_false (by simpa using c102)))
     (try (have c102b1 : decide (t358 = 0 && (t359 == 0 && (t360 == 0 && (t361 == 0 && (t362 == 0 && (t363 == 0 && (t364 == 0 && (t365.toList == ([] : List UInt8))))))))) = false := by simpa using c102))
     (try (have c102b2 : (t358 == 0 && (t359 == 0 && (t360 == 0 && (t361 == 0 && (t362 == 0 && (t363 == 0 && (t364 == 0 && (t365.toList == ([] : List UInt8))))))))) = false := by simpa using c102))
     (try (have c102b3 : ¬ (t358 = 0 && (t359 == 0 && (t360 == 0 && (t361 == 0 && (t362 == 0 && (t363 == 0 && (t364 == 0 && (t365.toList == ([] : List UInt8))))))))) := by simpa using c102))
     clear c102
     obtain rfl := Option.some.inj H
     go_wp2_with (first | ((with_reducible refine gate_callee (f := 20) rfl ?_); refine goesL_ (some 64) rfl rfl Tryz.func20 (by kernel_rfl) rfl #[.string a2] rfl Zl ?_; (with_reducible refine (effect_Parse.calls a2 t358 t359 t360 t361 t362 t363 t364 t365 t366 _ ?side1 A77.out).mono ?_); (case side1 => first | (with_reducible exact HGP.out) | exact GP_below HGP.out (Zb2 GE341.out GE342.out)); rintro e w110 ⟨rfl, hb⟩; refine ⟨_, rfl, ?_⟩; replace BK341 := Aside0.mk (blk_below (g := gb341) (o := .cells #[.int .u8 a0_0, .int .u8 a0_1, .int .u8 a0_2, .int .i64 a0_3, .int .u8 a0_4, .int .u8 a0_5, .int .u8 a0_6, .string a0_7] 48 (0, 0)) (Zk BK341.out) hb); replace BK342 := Aside0.mk (blk_below (g := gb342) (o := .cells #[.int .u8 a1_0, .int .u8 a1_1, .int .u8 a1_2, .int .i64 a1_3, .int .u8 a1_4, .int .u8 a1_5, .int .u8 a1_6, .string a1_7] 48 (0, 0)) (Zk BK342.out) hb); replace HB := Aside0.mk (below_step (Zb2 GE341.out GE342.out) hb); (try clear hb); (try clear hb2); (try clear hk); (try clear hi)) | ((with_reducible refine gate_dst (N := 13) rfl ?_); (try (refine gate_guard (by rfl) ?_; dsimp only)); refine box_event ?hg (N := 13) ?hd (cs := #[.int .u8 0, .int .u8 0, .int .u8 0, .int .i64 0, .int .u8 0, .int .u8 0, .int .u8 0, .string (⟨#[]⟩ : ByteArray)]) (t := 48) ?hr ?_; (case hd => rfl); (case hg => rfl); (case hr => first | (go_simp; done) | (go_simp; rfl)); intro gb367 hg w111 hbox hb; have BK367 := Aside0.mk (hbox); have GW367 := Aside0.mk ((by rw [hg]; exact (below_size (Zb2 GE341.out GE342.out)) : w.heap.size ≤ gb367)); have GE367 := Aside0.mk ((by rw [hg]; exact (below_size (Zb2 GE341.out GE342.out)) : w.heap.size ≤ gb367)); replace HB := Aside0.mk (below_step (Zb2 GE341.out GE342.out) hb); have NB341_367 := Aside0.mk ((by rw [hg]; exact Nat.ne_of_lt (blk_lt (g := gb341) (o := .cells #[.int .u8 a0_0, .int .u8 a0_1, .int .u8 a0_2, .int .i64 a0_3, .int .u8 a0_4, .int .u8 a0_5, .int .u8 a0_6, .string a0_7] 48 (0, 0)) (Zk BK341.out)) : gb341 ≠ gb367)); have NB367_341 := Aside0.mk ((by rw [hg]; exact Nat.ne_of_gt (blk_lt (g := gb341) (o := .cells #[.int .u8 a0_0, .int .u8 a0_1, .int .u8 a0_2, .int .i64 a0_3, .int .u8 a0_4, .int .u8 a0_5, .int .u8 a0_6, .string a0_7] 48 (0, 0)) (Zk BK341.out)) : gb367 ≠ gb341)); replace BK341 := Aside0.mk (blk_below (g := gb341) (o := .cells #[.int .u8 a0_0, .int .u8 a0_1, .int .u8 a0_2, .int .i64 a0_3, .int .u8 a0_4, .int .u8 a0_5, .int .u8 a0_6, .string a0_7] 48 (0, 0)) (Zk BK341.out) hb); have NB342_367 := Aside0.mk ((by rw [hg]; exact Nat.ne_of_lt (blk_lt (g := gb342) (o := .cells #[.int .u8 a1_0, .int .u8 a1_1, .int .u8 a1_2, .int .i64 a1_3, .int .u8 a1_4, .int .u8 a1_5, .int .u8 a1_6, .string a1_7] 48 (0, 0)) (Zk BK342.out)) : gb342 ≠ gb367)); have NB367_342 := Aside0.mk ((by rw [hg]; exact Nat.ne_of_gt (blk_lt (g := gb342) (o := .cells #[.int .u8 a1_0, .int .u8 a1_1, .int .u8 a1_2, .int .i64 a1_3, .int .u8 a1_4, .int .u8 a1_5, .int .u8 a1_6, .string a1_7] 48 (0, 0)) (Zk BK342.out)) : gb367 ≠ gb342)); replace BK342 := Aside0.mk (blk_below (g := gb342) (o := .cells #[.int .u8 a1_0, .int .u8 a1_1, .int .u8 a1_2, .int .i64 a1_3, .int .u8 a1_4, .int .u8 a1_5, .int .u8 a1_6, .string a1_7] 48 (0, 0)) (Zk BK342.out) hb); clear hb hbox hg; have hnb112 := NB367_341.out; have hnc112 := NB341_367.out; have hnb113 := NB367_342.out; have hnc113 := NB342_367.out; have hcz114_0 := Zc BK367.out 0 (.int .u8 0) rfl; have hcz114_1 := Zc BK367.out 1 (.int .u8 0) rfl; have hcz114_2 := Zc BK367.out 2 (.int .u8 0) rfl; have hcz114_3 := Zc BK367.out 3 (.int .i64 0) rfl; have hcz114_4 := Zc BK367.out 4 (.int .u8 0) rfl; have hcz114_5 := Zc BK367.out 5 (.int .u8 0) rfl; have hcz114_6 := Zc BK367.out 6 (.int .u8 0) rfl; have hcz114_7 := Zc BK367.out 7 (.string (⟨#[]⟩ : ByteArray)) rfl; have hfz114_0 := blk_frozen BK367.out 0; have hfz114_1 := blk_frozen BK367.out 1; have hfz114_2 := blk_frozen BK367.out 2; have hfz114_3 := blk_frozen BK367.out 3; have hfz114_4 := blk_frozen BK367.out 4; have hfz114_5 := blk_frozen BK367.out 5; have hfz114_6 := blk_frozen BK367.out 6; have hfz114_7 := blk_frozen BK367.out 7))
     go_ret
     exact ⟨Ze, Zb3 GE341.out GE342.out GE367.out⟩
end Go.Proofs.YtfpcideomanbbaaGreatDoor.PA
end
section
namespace Go.Proofs.YtfpcideomanbbaaGreatDoor.PA
open Go.RowKit Go.Proofs.YtfpcideomanbbaaGreatDoorW.PrintWords Go.Proofs.YtfpcideomanbbaaGreatDoorW.PrintLast Go.Proofs.YtfpcideomanbbaaGreatDoorW.PrintMore
theorem back_j1 (s : ByteArray) (k : Nat) : gambitlaw05_EffectBack.j1 (k + 9) s = some true := by
  obtain ⟨w, v, h, c, su, tr, mk, nm, e, hp, hc⟩ := parse_any s
  rw [gambitlaw05_EffectBack.j1, hp, Option.bind_some]
  rcases hc with ⟨rfl, ho, ht⟩ | ⟨he, rfl, rfl, rfl, rfl, rfl, rfl, rfl, rfl⟩
  · simp only
    rw [if_pos trivial, print_effect w v h c su tr mk nm ho k, Option.bind_some, if_pos rfl, ht, if_pos rfl, lives_true k, Option.bind_some]
  · simp only
    rw [if_neg he, if_pos (by simp [ByteArray.toList_eq]), lives_true k, Option.bind_some]
theorem print_any (w v h c su tr mk : Int) (nm : ByteArray) (k : Nat) : ∃ t e, effect_Print.f (k + 8) w v h c su tr mk nm = some (t, e) ∧ (e = 0 → okB w v h c su tr mk nm = true ∧ t = textB (words w v h c su tr mk nm)) := by
  cases ho : okB w v h c su tr mk nm
  · obtain ⟨e, h1, h2⟩ := print_effect_no w v h c su tr mk nm ho (k + 3)
    exact ⟨_, _, h2, fun q => absurd q h1⟩
  · exact ⟨_, _, print_effect w v h c su tr mk nm ho k, fun _ => ⟨rfl, rfl⟩⟩
theorem same_parts (w v h c su tr mk w' v' h' c' su' tr' mk' : Int) (nm nm' : ByteArray) :
    (w == w' && (v == v' && (h == h' && (c == c' && (su == su' && (tr == tr' && (mk == mk' && (nm.toList == nm'.toList)))))))) = decide (w = w' ∧ v = v' ∧ h = h' ∧ c = c' ∧ su = su' ∧ tr = tr' ∧ mk = mk' ∧ nm = nm') := by
  rw [Bool.eq_iff_iff]
  simp [toList_eq_iff]
theorem back_j0 (s : ByteArray) (w v h c su tr mk : Int) (nm : ByteArray) (w' v' h' c' su' tr' mk' : Int) (nm' : ByteArray) (ho : okB w v h c su tr mk nm = true) (k : Nat) :
    gambitlaw05_EffectBack.j0 (k + 10) s (textB (words w v h c su tr mk nm)) false w v h c su tr mk nm w' v' h' c' su' tr' mk' nm' = some true := by
  obtain ⟨t, e, hp, ht⟩ := print_any w' v' h' c' su' tr' mk' nm' (k + 1)
  rw [gambitlaw05_EffectBack.j0, if_neg (by decide), hp, Option.bind_some]
  simp only
  by_cases he : e = 0
  · obtain ⟨ho', rfl⟩ := ht he
    rw [if_pos he, same_parts]
    by_cases hq : w = w' ∧ v = v' ∧ h = h' ∧ c = c' ∧ su = su' ∧ tr = tr' ∧ mk = mk' ∧ nm = nm'
    · rw [if_pos (decide_eq_true hq)]
      obtain ⟨rfl, rfl, rfl, rfl, rfl, rfl, rfl, rfl⟩ := hq
      rw [if_pos rfl, back_j1]
    · rw [if_neg (by rw [decide_eq_false hq]; decide), if_neg, back_j1]
      intro q
      have e1 := parse_text ho
      have e2 := parse_text ho'
      rw [(toList_eq_iff _ _).1 q, e1] at e2
      simp only [Option.some.injEq, Prod.mk.injEq] at e2
      exact hq ⟨e2.1, e2.2.1, e2.2.2.1, e2.2.2.2.1, e2.2.2.2.2.1, e2.2.2.2.2.2.1, e2.2.2.2.2.2.2.1, e2.2.2.2.2.2.2.2.1⟩
  · rw [if_neg he, back_j1]
theorem not_parts (w v h c su tr mk : Int) (nm : ByteArray) :
    (!(w == w) || (!(v == v) || (!(h == h) || (!(c == c) || (!(su == su) || (!(tr == tr) || (!(mk == mk) || (!(nm.toList == nm.toList))))))))) = false := by simp
theorem law_back (w v h c su tr mk : Int) (nm : ByteArray) (w' v' h' c' su' tr' mk' : Int) (nm' s : ByteArray) :
    ∃ k, gambitlaw05_EffectBack.f k w v h c su tr mk nm w' v' h' c' su' tr' mk' nm' s = some true := by
  refine ⟨30, ?_⟩
  unfold gambitlaw05_EffectBack.f
  obtain ⟨t, e, hp, ht⟩ := print_any w v h c su tr mk nm 22
  rw [hp, Option.bind_some]
  simp only
  by_cases he : e = 0
  · obtain ⟨ho, rfl⟩ := ht he
    have hs := text_len ho
    obtain ⟨e1, hc, hi⟩ := check_effect w v h c su tr mk nm 25
    rw [if_pos he, parse_text ho, Option.bind_some]
    simp only
    rw [if_pos trivial, not_parts, if_neg (by decide), if_neg (by omega), hc, Option.bind_some, hi.2 ho]
    exact back_j0 s w v h c su tr mk nm w' v' h' c' su' tr' mk' nm' ho 20
  · rw [if_neg he, back_j1]
end Go.Proofs.YtfpcideomanbbaaGreatDoor.PA
end
section
namespace Go.Proofs.YtfpcideomanbbaaGreatDoor.EffectBack
open Go.ChangeShapes Go.WideShapes Go.ChangeAt Go.RowKit Go.ChangeMaps Go.Deep Go.Joins Go.Proofs.YtfpcideomanbbaaGreatDoor
theorem own : ownKnob Tryz.prog.godebug = none := by kernel_rfl
theorem laidOut : laidOutB Tryz.prog = true := by kernel_rfl
set_option maxRecDepth 100000 in
theorem contract (H : Type) (enc : TypeId × Value → H) (W : World) (base : Nat) (args : Array Value) (ds gs : List (DataW H)) (before : List MemPlace)
    (hval : ∀ (j : Nat) t v, Tryz.f5.params[j]? = some t → args[j]? = some v → Value.okWide Tryz.prog W .any base t v)
    (hW : DataW.Whole enc Tryz.prog Tryz.f5.params.toList Rows.effectBackSpec.vars false W args.toList ds gs before) (hL : laidMet Tryz.prog Rows.effectBackRow.laid W) (hS : W.ShapedOpen Tryz.prog) :
    Calls Tryz.prog 5 args W fun e W' => ∃ v, e = .returned v ∧ Rows.effectBackSpec.post enc Tryz.prog Tryz.f5 false true false false W args v W' := by
  have hW' := hW
  obtain ⟨p, q, hA0, hV, rfl, hfz, hnd⟩ := hW
  have hA : DataW.TrodAll enc Tryz.prog W 0 (fun _ => true) true Tryz.f5.params.toList args.toList ds p := hA0
  rw [Tryz.params5] at hA hval
  obtain ⟨v0, vs0, d0, ds0, p0, q0, hargs, rfl, rfl, h0, r0⟩ := trodAll_cons hA
  obtain ⟨v1, vs1, d1, ds1, p1, q1, rfl, rfl, rfl, h1, r1⟩ := trodAll_cons r0
  obtain ⟨v2, vs2, d2, ds2, p2, q2, rfl, rfl, rfl, h2, r2⟩ := trodAll_cons r1
  obtain ⟨rfl, rfl, rfl⟩ := trodAll_nil r2
  obtain rfl : args = #[v0, v1, v2] := by cases args; simp_all
  obtain ⟨rfl, rfl⟩ := trodVars_none hV
  obtain ⟨a0, a1, a2, a3, a4, a5, a6, a7, rfl⟩ := open_part (hval 0 48 v0 rfl rfl) h0
  obtain ⟨b0, b1, b2, b3, b4, b5, b6, b7, rfl⟩ := open_part (hval 1 48 v1 rfl rfl) h1
  have k0 := h0
  have k1 := h1
  have lt0 : ∀ x ∈ p0, x.block < W.heap.size := by obtain ⟨m, hm⟩ := k0; exact DataW.trod_lt m _ _ _ hm
  have lt1 : ∀ x ∈ p1, x.block < W.heap.size := by obtain ⟨m, hm⟩ := k1; exact DataW.trod_lt m _ _ _ hm
  obtain ⟨s, rfl, rfl, rfl, ws⟩ := open_string Tryz.underlying9 (hval 2 9 v2 rfl rfl) h2
  clear hA0
  obtain ⟨k, hk⟩ := PA.law_back a0 a1 a2 a3 a4 a5 a6 a7 b0 b1 b2 b3 b4 b5 b6 b7 s
  refine (PA.gambitlaw05_EffectBack.calls k a0 a1 a2 a3 a4 a5 a6 a7 b0 b1 b2 b3 b4 b5 b6 b7 s true W (GP_of_row hL hS) hk).mono ?_
  rintro e W' ⟨rfl, bel⟩
  refine ⟨_, rfl, _, _, _, [], _, [], hW', trodAll_mk1 (shut_bool Tryz.underlying4 _), trodAll_cons_mk (Below.trod laidOut (by kernel_rfl) (of_decide_eq_true (by kernel_rfl)) k0 bel lt0) (trodAll_cons_mk (Below.trod laidOut (by kernel_rfl) (of_decide_eq_true (by kernel_rfl)) k1 bel lt1) (trodAll_cons_mk (shut_string Tryz.underlying9 ws) trodAll_mk0)), rfl, bel.frame _, fun h => by cases h⟩
def zeroPart : Value := .agg #[.int .u8 0, .int .u8 0, .int .u8 0, .int .i64 0, .int .u8 0, .int .u8 0, .int .u8 0, .string ⟨#[]⟩]
def zeroPartD {H : Type} : DataW H := .agg [.lit (.int .u8 0), .lit (.int .u8 0), .lit (.int .u8 0), .lit (.int .i64 0), .lit (.int .u8 0), .lit (.int .u8 0), .lit (.int .u8 0), .lit (.string [])]
theorem witness_row (os : Os) {H : Type} (enc : TypeId × Value → H) :
    (OpenSpec.ofChange Rows.effectBackSpec).preRow enc Tryz.prog Tryz.f5 Rows.effectBackRow.domain false Rows.effectBackRow.laid ((laidWorld os).forCall (fun _ _ => 0) ⟨#[], #[zeroPart, zeroPart, .string ⟨#[]⟩], []⟩).memory #[zeroPart, zeroPart, .string ⟨#[]⟩] := by
  have hw : (DataW.whole enc Tryz.prog ((laidWorld os).forCall (fun _ _ => 0) ⟨#[], #[zeroPart, zeroPart, .string ⟨#[]⟩], []⟩).memory Tryz.f5.params.toList Rows.effectBackSpec.vars false #[zeroPart, zeroPart, Value.string ⟨#[]⟩].toList 8).map (fun x => (x.1, x.2.1)) =
      some ([zeroPartD, zeroPartD, .lit (.string [])], []) := by kernel_rfl
  obtain ⟨⟨x1, x2, x3⟩, hx, hx1⟩ := Option.map_eq_some_iff.1 hw
  simp only [Prod.mk.injEq] at hx1
  obtain ⟨rfl, rfl⟩ := hx1
  exact OpenSpec.preRow_of_cond 8 hx (by kernel_rfl) (fun k hk => by cases hk) (by kernel_rfl) (laid_met os _)
set_option maxRecDepth 100000 in
theorem lifted (os : Os) (started : os.Started) (H : Type) (enc : TypeId × Value → H) (F : Stop.Interp) :
    ReturnsInHanded {} Tryz.checked os 5 .any ((OpenSpec.ofChange Rows.effectBackSpec).preRow enc Tryz.prog Tryz.f5 Rows.effectBackRow.domain false Rows.effectBackRow.laid) (((OpenSpec.ofChange Rows.effectBackSpec).at F).post enc Tryz.prog Tryz.f5 false true false false) := by
  refine returnsInHanded_of_row (C := Tryz.checked) (s := OpenSpec.ofChange Rows.effectBackSpec) own started (by kernel_rfl) Tryz.func5
    (witness_row_atRef (enc := enc) (C := Tryz.checked) false (laidWorld os) #[zeroPart, zeroPart, .string ⟨#[]⟩] rfl (by kernel_rfl) (by kernel_rfl) (by kernel_rfl) (witness_row os enc)) ?_
  intro W base args ds gs before hval hW _ _ _ hL hS _
  exact contract H enc W base args ds gs before hval hW hL hS
theorem said : Rows.EffectBackSaid :=
  OpenClaim.holds_of_cond 5 Tryz.f5 rfl rfl rfl rfl rfl rfl rfl ⟨rfl, rfl, rfl, rfl, rfl⟩ rfl rfl rfl rfl rfl (by kernel_rfl) Tryz.func5 (by kernel_rfl)
    (of_decide_eq_true (by kernel_rfl)) (by unfold Func.isWrapper; first | (rw [if_pos (by decide +kernel)]; kernel_rfl) | (rw [if_neg (by decide +kernel)]; exact ⟨rfl, rfl⟩))
    (fun os started H enc _ F => by rw [OpenClaim.pre_eq_preRow]; exact lifted os started H enc F)
theorem plain (f : FuncId) (fn : Func) (hf : Tryz.pinned.checked.prog.funcNamed "gambit/gambitlaw05.EffectBack" = some f) (hfn : Tryz.pinned.checked.prog.funcs[f]? = some fn) :
    true = Tryz.pinned.checked.prog.looks [] ∧ ∀ (j : Nat) t, fn.params[j]? = some t → Tryz.pinned.checked.prog.wantsStandIn t = false := by
  obtain rfl : f = 5 := Option.some.inj ((show Tryz.prog.funcNamed "gambit/gambitlaw05.EffectBack" = some 5 by kernel_rfl).symm.trans hf) |>.symm
  obtain rfl : fn = Tryz.f5 := (Option.some.inj (Tryz.func5.symm.trans hfn)).symm
  refine ⟨by kernel_rfl, fun j t ht => ?_⟩
  rw [Tryz.params5] at ht
  have hm : t = 48 ∨ t = 48 ∨ t = 9 := by simpa using Array.mem_of_getElem? ht
  rcases hm with rfl | rfl | rfl
  · exact (show Tryz.prog.wantsStandIn 48 = false by kernel_rfl)
  · exact (show Tryz.prog.wantsStandIn 48 = false by kernel_rfl)
  · exact (show Tryz.prog.wantsStandIn 9 = false by kernel_rfl)
theorem card : Rows.EffectBackCardSaid :=
  Claim7.holds_tied_plain_at .later [] _ _ _ _ said (fun _ h => by cases h) (by kernel_rfl) (fun _ h => by cases h) effectBack_row_tie rfl ⟨rfl, rfl⟩ (by kernel_rfl) rfl plain (by kernel_rfl)
end Go.Proofs.YtfpcideomanbbaaGreatDoor.EffectBack
end
