/-
  EffectParses: for every text the program's effect.Parse and the document's answer give the same part and the same error; no conditions beyond the row's own.
-/
import Derived.Test.YtfpcideomanbbaaGreatDoorProg
import Derived.Test.YtfpcideomanbbaaGreatDoorRows
import Derived.Test.YtfpcideomanbbaaGreatDoorCards
import Derived.Test.YtfpcideomanbbaaGreatDoorTie
import Derived.Test.YtfpcideomanbbaaGreatDoorEZ
import Derived.Test.YtfpcideomanbbaaGreatDoorE1
import Derived.Test.YtfpcideomanbbaaGreatDoorE2
import Derived.Test.YtfpcideomanbbaaGreatDoorE3
import Derived.Test.YtfpcideomanbbaaGreatDoorE4
import Derived.Test.YtfpcideomanbbaaGreatDoorE5
import Derived.Test.YtfpcideomanbbaaGreatDoorE6
import Derived.Test.YtfpcideomanbbaaGreatDoorE7
import Derived.WalkKit
import Derived.WalkSmall
import Derived.Below
import Derived.Lib.LaidTab
import Derived.KernelRfl
import Derived.Lib.ItoaNum
import Derived.Lib.Space
import Derived.Lib.AtoiErrMem
import Derived.Deep.Draws
import Derived.Deep.AppendLies
import Derived.Maps.AppendAt
import Derived.OwnWalk
import Derived.Laws.BytesArg
import Derived.Laws.MakeOwn
import Derived.Laws.OwnMore
import Derived.Deep.OwnRows
import Derived.Tactics
import Derived.Lib.ConvBytes
import Derived.Laws.Slices
import Derived.RowKit3
import Derived.Deep.LoopGhost
import Derived.Deep.QuietTactic
import Derived.BigQuiet
import Derived.WideLaws
import Derived.Deep.DeepCutAuto
import Derived.Deep.CutBlock
import Derived.Deep.RegionHeld3
import Derived.Laws.Rows
import Derived.Lib.AppendStr
import Derived.ArgAppend
import Derived.Laws.IdiomCopy
import Derived.RowKit
import Derived.OrdersHeld
import Derived.Laws.BitsLemmas
import Derived.Laws.StructEq
import Derived.Shelf.Strings.Builder1
import Derived.Shelf.Strings.Builder2
import Derived.Shelf.Strings.OnBuilder
import Derived.Shelf.Strings.Trim
import Derived.Shelf.Small.Utf8
import Derived.Shelf.Small.Strs
import Derived.Shelf.Strconv.Atoi
import Derived.Shelf.Strconv.Itoa0
import Derived.Shelf.Strconv.Itoa1
import Derived.Shelf.LaysM
import Derived.Shelf.Strconv.Itoa2
import Derived.Shelf.Strconv.Itoa3
import Derived.Shelf.Strconv.AtoiErrFast
import Derived.Shelf.Strconv.ParseIntEmpty
import Derived.Shelf.Strconv.AtoiFail
import Derived.Shelf.Strconv.Clone
import Derived.Shelf.Strconv.SyntaxError
import Derived.Shelf.LaysC
import Derived.Shelf.Strconv.ToError
import Derived.Shelf.Strconv.Lower
import Derived.Shelf.Strconv.ParseUint10
import Derived.Shelf.Strconv.ParseUint10Empty
import Derived.Shelf.Strconv.ParseUint10Any
import Derived.Shelf.Strconv.ParseInt10
import Derived.Shelf.Strconv.AtoiLong
import Derived.Shelf.Strconv.AtoiInnerAll
import Derived.Shelf.Strconv.RangeError
import Derived.Shelf.Strconv.ToErrorRange
import Derived.Shelf.Strconv.AtoiAll
import Derived.Shelf.Strconv.ErrVarAll
import Derived.Shelf.Strings.Search1
import Derived.Shelf.Strings.Search2
import Derived.Shelf.Strings.Search3
import Derived.Shelf.Strings.Cut
import Derived.Shelf.Strings.Count
import Derived.Shelf.Strings.Shaped
import Derived.Shelf.Strings.Prefix
import Derived.Shelf.Strings.Split
import Derived.Shelf.Strings.Fields
import Derived.Shelf.Strings.SplitShaped
import Derived.Shelf.Unicode.Latin
import Derived.Shelf.Strings.Runes
import Derived.Shelf.Strings.AsciiSet
import Derived.Shelf.Unicode.DecodeSlow
import Derived.Shelf.Unicode.Is16White
import Derived.Shelf.Unicode.IsSpaceAny
import Derived.Shelf.Unicode.Is16Any
import Derived.Shelf.Unicode.Is32Any
import Derived.Shelf.Unicode.ExclAny
import Derived.Shelf.Slices.Turned
import Derived.Lib.AppendIntMem
import Derived.Shelf.Strings.SlTrimAscii
import Derived.WalkLawsBesides
import Derived.Lib.Hide
import Derived.RangeFuncNested
import Derived.RangeFuncBound
import Derived.RangeFuncCalls
import Derived.RangeFuncLeaves
import Derived.RangeFuncFrom
import Derived.Shelf.Abstract
import Derived.Shelf.RegionOpen
import Derived.OwnWalkIn
import Derived.TacticsInMore
import Derived.LoopNIn
import Derived.LoopIn
import Derived.Lib.SlicesS
import Derived.StillTailTactics
import Derived.Lib.SplitLaws
import Derived.Lib.IndexMore
import Derived.LaidSub
import Derived.Lib.LaidU8
import Derived.Shelf.Vars
import Derived.Deep.DeepHandedRow
import Derived.Lib.LaidIn
import Derived.Deep.DeepWitnessRowRef
import Derived.ProofKit
import Derived.OpenShut
import Derived.ChangeMaps5
set_option linter.unusedVariables false
set_option linter.unusedSimpArgs false
section
namespace Go.Proofs.YtfpcideomanbbaaGreatDoor.PA
open Go.RowKit Go.Proofs.YtfpcideomanbbaaGreatDoorW.PrintWords Go.Proofs.YtfpcideomanbbaaGreatDoorW.PrintLast Go.Proofs.YtfpcideomanbbaaGreatDoorW.PrintMore
attribute [local go_sem] max2_int min2_int max_two min_two max_three min_three max_four min_four
set_option linter.unusedVariables false
set_option linter.unusedSimpArgs false
attribute [local go_sem high] eqA48
def gambitlaw05_EffectParses.f (k : Nat) (a0 : ByteArray) : Option (Bool) := (effect_Parse.f a0).bind fun bt320 => ((gambitref05_Parse.f k a0).bind fun bt330 => ((gambitlaw05_lives.f k).bind fun t340 => (if t340 = true then (if bt320.2.2.2.2.2.2.2.2 = bt330.2.2.2.2.2.2.2.2 then (some (bt320.1 == bt330.1 && (bt320.2.1 == bt330.2.1 && (bt320.2.2.1 == bt330.2.2.1 && (bt320.2.2.2.1 == bt330.2.2.2.1 && (bt320.2.2.2.2.1 == bt330.2.2.2.2.1 && (bt320.2.2.2.2.2.1 == bt330.2.2.2.2.2.1 && (bt320.2.2.2.2.2.2.1 == bt330.2.2.2.2.2.2.1 && (bt320.2.2.2.2.2.2.2.1.toList == bt330.2.2.2.2.2.2.2.1.toList))))))))) else (some false)) else (some false))))
theorem gambitlaw05_EffectParses.mono : ∀ a0 k, LeO (gambitlaw05_EffectParses.f k a0) (gambitlaw05_EffectParses.f (k + 1) a0) := by
 intro a0 k
 unfold gambitlaw05_EffectParses.f
 repeat' first
   | (with_reducible exact gambitlaw05_lives.mono _)
   | (with_reducible exact gambitref05_Parse.mono _ _)
   | (with_reducible exact LeO.refl _)
   | (with_reducible exact LeO.none _)
   | (with_reducible refine LeO.ite ?_ ?_)
   | (with_reducible refine LeO.bind ?_ (fun _ => ?_))
   | exact gambitlaw05_lives.mono _
   | exact gambitref05_Parse.mono _ _
   | exact LeO.none _
   | refine LeO.ite ?_ ?_
   | refine LeO.bind ?_ (fun _ => ?_)
set_option maxHeartbeats 8000000 in
set_option maxRecDepth 100000 in
theorem gambitlaw05_EffectParses.calls (k : Nat) (a0 : ByteArray) (r : Bool) (w : World) (hG_ : GP w) (h : gambitlaw05_EffectParses.f k a0 = some r) :
  Calls Tryz.prog 4 #[.string a0] w fun e w' => e = .returned (.bool r) ∧ Below w.heap.size w w' := by
 have hu48 := Tryz.underlying48
 have HGP := Aside0.mk hG_
 clear hG_
 have HB := Aside0.mk (Below.refl w.heap.size w)
 have H : ((effect_Parse.f a0).bind fun bt320 => ((gambitref05_Parse.f k a0).bind fun bt330 => ((gambitlaw05_lives.f k).bind fun t340 => (if t340 = true then (if bt320.2.2.2.2.2.2.2.2 = bt330.2.2.2.2.2.2.2.2 then (some (bt320.1 == bt330.1 && (bt320.2.1 == bt330.2.1 && (bt320.2.2.1 == bt330.2.2.1 && (bt320.2.2.2.1 == bt330.2.2.2.1 && (bt320.2.2.2.2.1 == bt330.2.2.2.2.1 && (bt320.2.2.2.2.2.1 == bt330.2.2.2.2.2.1 && (bt320.2.2.2.2.2.2.1 == bt330.2.2.2.2.2.2.1 && (bt320.2.2.2.2.2.2.2.1.toList == bt330.2.2.2.2.2.2.2.1.toList))))))))) else (some false)) else (some false))))) = some r := h
 clear h
 replace H := Option.bind_eq_some_iff.mp H
 obtain ⟨⟨t320, t321, t322, t323, t324, t325, t326, t327, t328⟩, A20, H⟩ := H
 replace H : ((gambitref05_Parse.f k a0).bind fun bt330 => ((gambitlaw05_lives.f k).bind fun t340 => (if t340 = true then (if t328 = bt330.2.2.2.2.2.2.2.2 then (some (t320 == bt330.1 && (t321 == bt330.2.1 && (t322 == bt330.2.2.1 && (t323 == bt330.2.2.2.1 && (t324 == bt330.2.2.2.2.1 && (t325 == bt330.2.2.2.2.2.1 && (t326 == bt330.2.2.2.2.2.2.1 && (t327.toList == bt330.2.2.2.2.2.2.2.1.toList))))))))) else (some false)) else (some false)))) = some r := H
 have A2 := Aside0.mk A20
 clear A20
 replace H := Option.bind_eq_some_iff.mp H
 obtain ⟨⟨t330, t331, t332, t333, t334, t335, t336, t337, t338⟩, A30, H⟩ := H
 replace H : ((gambitlaw05_lives.f k).bind fun t340 => (if t340 = true then (if t328 = t338 then (some (t320 == t330 && (t321 == t331 && (t322 == t332 && (t323 == t333 && (t324 == t334 && (t325 == t335 && (t326 == t336 && (t327.toList == t337.toList))))))))) else (some false)) else (some false))) = some r := H
 have A3 := Aside0.mk A30
 clear A30
 replace H := Option.bind_eq_some_iff.mp H
 obtain ⟨t340, A40, H⟩ := H
 replace H : (if t340 = true then (if t328 = t338 then (some (t320 == t330 && (t321 == t331 && (t322 == t332 && (t323 == t333 && (t324 == t334 && (t325 == t335 && (t326 == t336 && (t327.toList == t337.toList))))))))) else (some false)) else (some false)) = some r := H
 have A4 := Aside0.mk A40
 clear A40
 by_cases c5 : t340 = true
 ·subst c5
  have H1 : (if t328 = t338 then (some (t320 == t330 && (t321 == t331 && (t322 == t332 && (t323 == t333 && (t324 == t334 && (t325 == t335 && (t326 == t336 && (t327.toList == t337.toList))))))))) else (some false)) = some r := by rw [if_pos rfl] at H; exact H
  clear H
  have H := H1
  clear H1
  by_cases c6 : t328 = t338
  ·rw [if_pos c6] at H
   have c6b0 : (t328 == t338) = true := beq_iff_eq.mpr c6
   have c6b1 : (t328 != t338) = false := bne_eq_false_iff_eq.mpr c6
   clear c6
   obtain rfl := Option.some.inj H
   go_enter Tryz.func4, Tryz.ntmps4
   go_wp2_with (first | ((with_reducible refine gate_callee (f := 20) rfl ?_); refine goesL_ (some 9) rfl rfl Tryz.func20 (by kernel_rfl) rfl #[.string a0] rfl Zl ?_; (with_reducible refine (effect_Parse.calls a0 t320 t321 t322 t323 t324 t325 t326 t327 t328 _ ?side1 A2.out).mono ?_); (case side1 => first | (with_reducible exact HGP.out) | exact GP_below HGP.out Zb); rintro e w7 ⟨rfl, hb⟩; refine ⟨_, rfl, ?_⟩; replace HB := Aside0.mk (below_step Zb hb); (try clear hb); (try clear hb2); (try clear hk); (try clear hi)) | ((with_reducible refine gate_dst (N := 3) rfl ?_); refine box_event ?hg (N := 3) ?hd (cs := #[.int .u8 0, .int .u8 0, .int .u8 0, .int .i64 0, .int .u8 0, .int .u8 0, .int .u8 0, .string (⟨#[]⟩ : ByteArray)]) (t := 48) ?hr ?_; (case hd => rfl); (case hg => rfl); (case hr => first | (go_simp; done) | (go_simp; rfl)); intro gb329 hg w8 hbox hb; have BK329 := Aside0.mk (hbox); have GW329 := Aside0.mk ((by rw [hg]; exact (below_size Zb) : w.heap.size ≤ gb329)); have GE329 := Aside0.mk ((by rw [hg]; exact (below_size Zb) : w.heap.size ≤ gb329)); replace HB := Aside0.mk (below_step Zb hb); clear hb hbox hg; have hcz9_0 := Zc BK329.out 0 (.int .u8 0) rfl; have hcz9_1 := Zc BK329.out 1 (.int .u8 0) rfl; have hcz9_2 := Zc BK329.out 2 (.int .u8 0) rfl; have hcz9_3 := Zc BK329.out 3 (.int .i64 0) rfl; have hcz9_4 := Zc BK329.out 4 (.int .u8 0) rfl; have hcz9_5 := Zc BK329.out 5 (.int .u8 0) rfl; have hcz9_6 := Zc BK329.out 6 (.int .u8 0) rfl; have hcz9_7 := Zc BK329.out 7 (.string (⟨#[]⟩ : ByteArray)) rfl; have hfz9_0 := blk_frozen BK329.out 0; have hfz9_1 := blk_frozen BK329.out 1; have hfz9_2 := blk_frozen BK329.out 2; have hfz9_3 := blk_frozen BK329.out 3; have hfz9_4 := blk_frozen BK329.out 4; have hfz9_5 := blk_frozen BK329.out 5; have hfz9_6 := blk_frozen BK329.out 6; have hfz9_7 := blk_frozen BK329.out 7) | ((with_reducible refine gate_callee (f := 21) rfl ?_); refine goesL_ (some 14) rfl rfl Tryz.func21 (by kernel_rfl) rfl #[.string a0] rfl Zl ?_; (with_reducible refine (gambitref05_Parse.calls k a0 t330 t331 t332 t333 t334 t335 t336 t337 t338 _ A3.out).mono ?_); rintro e w10 ⟨rfl, hb⟩; refine ⟨_, rfl, ?_⟩; replace BK329 := Aside0.mk (blk_below (g := gb329) (o := .cells #[.int .u8 t320, .int .u8 t321, .int .u8 t322, .int .i64 t323, .int .u8 t324, .int .u8 t325, .int .u8 t326, .string t327] 48 (0, 0)) (by (with_reducible repeat (first | refine blk_drewN ?_ _ | refine blk_drew ?_ | refine blk_alloc ?_ _)); refine blk_put (cs := #[.int .u8 t320, .int .u8 t321, .int .u8 t322, .int .i64 t323, .int .u8 t324, .int .u8 t325, .int .u8 t326, .string (⟨#[]⟩ : ByteArray)]) ?_ 7 _ rfl; (with_reducible repeat (first | refine blk_drewN ?_ _ | refine blk_drew ?_ | refine blk_alloc ?_ _)); refine blk_put (cs := #[.int .u8 t320, .int .u8 t321, .int .u8 t322, .int .i64 t323, .int .u8 t324, .int .u8 t325, .int .u8 0, .string (⟨#[]⟩ : ByteArray)]) ?_ 6 _ rfl; (with_reducible repeat (first | refine blk_drewN ?_ _ | refine blk_drew ?_ | refine blk_alloc ?_ _)); refine blk_put (cs := #[.int .u8 t320, .int .u8 t321, .int .u8 t322, .int .i64 t323, .int .u8 t324, .int .u8 0, .int .u8 0, .string (⟨#[]⟩ : ByteArray)]) ?_ 5 _ rfl; (with_reducible repeat (first | refine blk_drewN ?_ _ | refine blk_drew ?_ | refine blk_alloc ?_ _)); refine blk_put (cs := #[.int .u8 t320, .int .u8 t321, .int .u8 t322, .int .i64 t323, .int .u8 0, .int .u8 0, .int .u8 0, .string (⟨#[]⟩ : ByteArray)]) ?_ 4 _ rfl; (with_reducible repeat (first | refine blk_drewN ?_ _ | refine blk_drew ?_ | refine blk_alloc ?_ _)); refine blk_put (cs := #[.int .u8 t320, .int .u8 t321, .int .u8 t322, .int .i64 0, .int .u8 0, .int .u8 0, .int .u8 0, .string (⟨#[]⟩ : ByteArray)]) ?_ 3 _ rfl; (with_reducible repeat (first | refine blk_drewN ?_ _ | refine blk_drew ?_ | refine blk_alloc ?_ _)); refine blk_put (cs := #[.int .u8 t320, .int .u8 t321, .int .u8 0, .int .i64 0, .int .u8 0, .int .u8 0, .int .u8 0, .string (⟨#[]⟩ : ByteArray)]) ?_ 2 _ rfl; (with_reducible repeat (first | refine blk_drewN ?_ _ | refine blk_drew ?_ | refine blk_alloc ?_ _)); refine blk_put (cs := #[.int .u8 t320, .int .u8 0, .int .u8 0, .int .i64 0, .int .u8 0, .int .u8 0, .int .u8 0, .string (⟨#[]⟩ : ByteArray)]) ?_ 1 _ rfl; (with_reducible repeat (first | refine blk_drewN ?_ _ | refine blk_drew ?_ | refine blk_alloc ?_ _)); refine blk_put (cs := #[.int .u8 0, .int .u8 0, .int .u8 0, .int .i64 0, .int .u8 0, .int .u8 0, .int .u8 0, .string (⟨#[]⟩ : ByteArray)]) ?_ 0 _ rfl; exact Zk BK329.out) hb); replace HB := Aside0.mk (below_step (Zb1 GE329.out) hb); (try clear hb); (try clear hb2); (try clear hk); (try clear hi)) | ((with_reducible refine gate_dst (N := 5) rfl ?_); refine box_event ?hg (N := 5) ?hd (cs := #[.int .u8 0, .int .u8 0, .int .u8 0, .int .i64 0, .int .u8 0, .int .u8 0, .int .u8 0, .string (⟨#[]⟩ : ByteArray)]) (t := 48) ?hr ?_; (case hd => rfl); (case hg => rfl); (case hr => first | (go_simp; done) | (go_simp; rfl)); intro gb339 hg w11 hbox hb; have BK339 := Aside0.mk (hbox); have GW339 := Aside0.mk ((by rw [hg]; exact (below_size (Zb1 GE329.out)) : w.heap.size ≤ gb339)); have GE339 := Aside0.mk ((by rw [hg]; exact (below_size (Zb1 GE329.out)) : w.heap.size ≤ gb339)); replace HB := Aside0.mk (below_step (Zb1 GE329.out) hb); have NB329_339 := Aside0.mk ((by rw [hg]; exact Nat.ne_of_lt (blk_lt (g := gb329) (o := .cells #[.int .u8 t320, .int .u8 t321, .int .u8 t322, .int .i64 t323, .int .u8 t324, .int .u8 t325, .int .u8 t326, .string t327] 48 (0, 0)) (Zk BK329.out)) : gb329 ≠ gb339)); have NB339_329 := Aside0.mk ((by rw [hg]; exact Nat.ne_of_gt (blk_lt (g := gb329) (o := .cells #[.int .u8 t320, .int .u8 t321, .int .u8 t322, .int .i64 t323, .int .u8 t324, .int .u8 t325, .int .u8 t326, .string t327] 48 (0, 0)) (Zk BK329.out)) : gb339 ≠ gb329)); replace BK329 := Aside0.mk (blk_below (g := gb329) (o := .cells #[.int .u8 t320, .int .u8 t321, .int .u8 t322, .int .i64 t323, .int .u8 t324, .int .u8 t325, .int .u8 t326, .string t327] 48 (0, 0)) (Zk BK329.out) hb); clear hb hbox hg; have hnb12 := NB339_329.out; have hnc12 := NB329_339.out; have hcz13_0 := Zc BK339.out 0 (.int .u8 0) rfl; have hcz13_1 := Zc BK339.out 1 (.int .u8 0) rfl; have hcz13_2 := Zc BK339.out 2 (.int .u8 0) rfl; have hcz13_3 := Zc BK339.out 3 (.int .i64 0) rfl; have hcz13_4 := Zc BK339.out 4 (.int .u8 0) rfl; have hcz13_5 := Zc BK339.out 5 (.int .u8 0) rfl; have hcz13_6 := Zc BK339.out 6 (.int .u8 0) rfl; have hcz13_7 := Zc BK339.out 7 (.string (⟨#[]⟩ : ByteArray)) rfl; have hfz13_0 := blk_frozen BK339.out 0; have hfz13_1 := blk_frozen BK339.out 1; have hfz13_2 := blk_frozen BK339.out 2; have hfz13_3 := blk_frozen BK339.out 3; have hfz13_4 := blk_frozen BK339.out 4; have hfz13_5 := blk_frozen BK339.out 5; have hfz13_6 := blk_frozen BK339.out 6; have hfz13_7 := blk_frozen BK339.out 7) | ((with_reducible refine gate_callee (f := 22) rfl ?_); refine goesL_ (some 17) rfl rfl Tryz.func22 (by kernel_rfl) rfl #[] rfl Zl ?_; (with_reducible refine (gambitlaw05_lives.calls k  true _ ?side1 A4.out).mono ?_); (case side1 => first | (with_reducible exact HGP.out) | exact GP_below HGP.out (Zb2 GE329.out GE339.out)); rintro e w14 ⟨rfl, hb⟩; refine ⟨_, rfl, ?_⟩; replace BK329 := Aside0.mk (blk_below (g := gb329) (o := .cells #[.int .u8 t320, .int .u8 t321, .int .u8 t322, .int .i64 t323, .int .u8 t324, .int .u8 t325, .int .u8 t326, .string t327] 48 (0, 0)) (by (with_reducible repeat (first | refine blk_drewN ?_ _ | refine blk_drew ?_ | refine blk_alloc ?_ _)); refine blk_far ?_ NB329_339.out _; (with_reducible repeat (first | refine blk_drewN ?_ _ | refine blk_drew ?_ | refine blk_alloc ?_ _)); refine blk_far ?_ NB329_339.out _; (with_reducible repeat (first | refine blk_drewN ?_ _ | refine blk_drew ?_ | refine blk_alloc ?_ _)); refine blk_far ?_ NB329_339.out _; (with_reducible repeat (first | refine blk_drewN ?_ _ | refine blk_drew ?_ | refine blk_alloc ?_ _)); refine blk_far ?_ NB329_339.out _; (with_reducible repeat (first | refine blk_drewN ?_ _ | refine blk_drew ?_ | refine blk_alloc ?_ _)); refine blk_far ?_ NB329_339.out _; (with_reducible repeat (first | refine blk_drewN ?_ _ | refine blk_drew ?_ | refine blk_alloc ?_ _)); refine blk_far ?_ NB329_339.out _; (with_reducible repeat (first | refine blk_drewN ?_ _ | refine blk_drew ?_ | refine blk_alloc ?_ _)); refine blk_far ?_ NB329_339.out _; (with_reducible repeat (first | refine blk_drewN ?_ _ | refine blk_drew ?_ | refine blk_alloc ?_ _)); refine blk_far ?_ NB329_339.out _; exact Zk BK329.out) hb); replace BK339 := Aside0.mk (blk_below (g := gb339) (o := .cells #[.int .u8 t330, .int .u8 t331, .int .u8 t332, .int .i64 t333, .int .u8 t334, .int .u8 t335, .int .u8 t336, .string t337] 48 (0, 0)) (by (with_reducible repeat (first | refine blk_drewN ?_ _ | refine blk_drew ?_ | refine blk_alloc ?_ _)); refine blk_put (cs := #[.int .u8 t330, .int .u8 t331, .int .u8 t332, .int .i64 t333, .int .u8 t334, .int .u8 t335, .int .u8 t336, .string (⟨#[]⟩ : ByteArray)]) ?_ 7 _ rfl; (with_reducible repeat (first | refine blk_drewN ?_ _ | refine blk_drew ?_ | refine blk_alloc ?_ _)); refine blk_put (cs := #[.int .u8 t330, .int .u8 t331, .int .u8 t332, .int .i64 t333, .int .u8 t334, .int .u8 t335, .int .u8 0, .string (⟨#[]⟩ : ByteArray)]) ?_ 6 _ rfl; (with_reducible repeat (first | refine blk_drewN ?_ _ | refine blk_drew ?_ | refine blk_alloc ?_ _)); refine blk_put (cs := #[.int .u8 t330, .int .u8 t331, .int .u8 t332, .int .i64 t333, .int .u8 t334, .int .u8 0, .int .u8 0, .string (⟨#[]⟩ : ByteArray)]) ?_ 5 _ rfl; (with_reducible repeat (first | refine blk_drewN ?_ _ | refine blk_drew ?_ | refine blk_alloc ?_ _)); refine blk_put (cs := #[.int .u8 t330, .int .u8 t331, .int .u8 t332, .int .i64 t333, .int .u8 0, .int .u8 0, .int .u8 0, .string (⟨#[]⟩ : ByteArray)]) ?_ 4 _ rfl; (with_reducible repeat (first | refine blk_drewN ?_ _ | refine blk_drew ?_ | refine blk_alloc ?_ _)); refine blk_put (cs := #[.int .u8 t330, .int .u8 t331, .int .u8 t332, .int .i64 0, .int .u8 0, .int .u8 0, .int .u8 0, .string (⟨#[]⟩ : ByteArray)]) ?_ 3 _ rfl; (with_reducible repeat (first | refine blk_drewN ?_ _ | refine blk_drew ?_ | refine blk_alloc ?_ _)); refine blk_put (cs := #[.int .u8 t330, .int .u8 t331, .int .u8 0, .int .i64 0, .int .u8 0, .int .u8 0, .int .u8 0, .string (⟨#[]⟩ : ByteArray)]) ?_ 2 _ rfl; (with_reducible repeat (first | refine blk_drewN ?_ _ | refine blk_drew ?_ | refine blk_alloc ?_ _)); refine blk_put (cs := #[.int .u8 t330, .int .u8 0, .int .u8 0, .int .i64 0, .int .u8 0, .int .u8 0, .int .u8 0, .string (⟨#[]⟩ : ByteArray)]) ?_ 1 _ rfl; (with_reducible repeat (first | refine blk_drewN ?_ _ | refine blk_drew ?_ | refine blk_alloc ?_ _)); refine blk_put (cs := #[.int .u8 0, .int .u8 0, .int .u8 0, .int .i64 0, .int .u8 0, .int .u8 0, .int .u8 0, .string (⟨#[]⟩ : ByteArray)]) ?_ 0 _ rfl; exact Zk BK339.out) hb); replace HB := Aside0.mk (below_step (Zb2 GE329.out GE339.out) hb); (try clear hb); (try clear hb2); (try clear hk); (try clear hi); have hcz15_0 := Zc BK329.out 0 (.int .u8 t320) rfl; have hcz15_1 := Zc BK329.out 1 (.int .u8 t321) rfl; have hcz15_2 := Zc BK329.out 2 (.int .u8 t322) rfl; have hcz15_3 := Zc BK329.out 3 (.int .i64 t323) rfl; have hcz15_4 := Zc BK329.out 4 (.int .u8 t324) rfl; have hcz15_5 := Zc BK329.out 5 (.int .u8 t325) rfl; have hcz15_6 := Zc BK329.out 6 (.int .u8 t326) rfl; have hcz15_7 := Zc BK329.out 7 (.string t327) rfl; have hfz15_0 := blk_frozen BK329.out 0; have hfz15_1 := blk_frozen BK329.out 1; have hfz15_2 := blk_frozen BK329.out 2; have hfz15_3 := blk_frozen BK329.out 3; have hfz15_4 := blk_frozen BK329.out 4; have hfz15_5 := blk_frozen BK329.out 5; have hfz15_6 := blk_frozen BK329.out 6; have hfz15_7 := blk_frozen BK329.out 7; have hcz16_0 := Zc BK339.out 0 (.int .u8 t330) rfl; have hcz16_1 := Zc BK339.out 1 (.int .u8 t331) rfl; have hcz16_2 := Zc BK339.out 2 (.int .u8 t332) rfl; have hcz16_3 := Zc BK339.out 3 (.int .i64 t333) rfl; have hcz16_4 := Zc BK339.out 4 (.int .u8 t334) rfl; have hcz16_5 := Zc BK339.out 5 (.int .u8 t335) rfl; have hcz16_6 := Zc BK339.out 6 (.int .u8 t336) rfl; have hcz16_7 := Zc BK339.out 7 (.string t337) rfl; have hfz16_0 := blk_frozen BK339.out 0; have hfz16_1 := blk_frozen BK339.out 1; have hfz16_2 := blk_frozen BK339.out 2; have hfz16_3 := blk_frozen BK339.out 3; have hfz16_4 := blk_frozen BK339.out 4; have hfz16_5 := blk_frozen BK339.out 5; have hfz16_6 := blk_frozen BK339.out 6; have hfz16_7 := blk_frozen BK339.out 7))
   go_ret
   exact ⟨Ze, Zb2 GE329.out GE339.out⟩
  ·rw [if_neg c6] at H
   have c6b0 : (t328 == t338) = false := beq_eq_false_iff_ne.mpr c6
   have c6b1 : (t328 != t338) = true := bne_iff_ne.mpr c6
   obtain rfl := Option.some.inj H
   go_enter Tryz.func4, Tryz.ntmps4
   go_wp2_with (first | ((with_reducible refine gate_callee (f := 20) rfl ?_); refine goesL_ (some 9) rfl rfl Tryz.func20 (by kernel_rfl) rfl #[.string a0] rfl Zl ?_; (with_reducible refine (effect_Parse.calls a0 t320 t321 t322 t323 t324 t325 t326 t327 t328 _ ?side1 A2.out).mono ?_); (case side1 => first | (with_reducible exact HGP.out) | exact GP_below HGP.out Zb); rintro e w17 ⟨rfl, hb⟩; refine ⟨_, rfl, ?_⟩; replace HB := Aside0.mk (below_step Zb hb); (try clear hb); (try clear hb2); (try clear hk); (try clear hi)) | ((with_reducible refine gate_dst (N := 3) rfl ?_); refine box_event ?hg (N := 3) ?hd (cs := #[.int .u8 0, .int .u8 0, .int .u8 0, .int .i64 0, .int .u8 0, .int .u8 0, .int .u8 0, .string (⟨#[]⟩ : ByteArray)]) (t := 48) ?hr ?_; (case hd => rfl); (case hg => rfl); (case hr => first | (go_simp; done) | (go_simp; rfl)); intro gb329 hg w18 hbox hb; have BK329 := Aside0.mk (hbox); have GW329 := Aside0.mk ((by rw [hg]; exact (below_size Zb) : w.heap.size ≤ gb329)); have GE329 := Aside0.mk ((by rw [hg]; exact (below_size Zb) : w.heap.size ≤ gb329)); replace HB := Aside0.mk (below_step Zb hb); clear hb hbox hg; have hcz19_0 := Zc BK329.out 0 (.int .u8 0) rfl; have hcz19_1 := Zc BK329.out 1 (.int .u8 0) rfl; have hcz19_2 := Zc BK329.out 2 (.int .u8 0) rfl; have hcz19_3 := Zc BK329.out 3 (.int .i64 0) rfl; have hcz19_4 := Zc BK329.out 4 (.int .u8 0) rfl; have hcz19_5 := Zc BK329.out 5 (.int .u8 0) rfl; have hcz19_6 := Zc BK329.out 6 (.int .u8 0) rfl; have hcz19_7 := Zc BK329.out 7 (.string (⟨#[]⟩ : ByteArray)) rfl; have hfz19_0 := blk_frozen BK329.out 0; have hfz19_1 := blk_frozen BK329.out 1; have hfz19_2 := blk_frozen BK329.out 2; have hfz19_3 := blk_frozen BK329.out 3; have hfz19_4 := blk_frozen BK329.out 4; have hfz19_5 := blk_frozen BK329.out 5; have hfz19_6 := blk_frozen BK329.out 6; have hfz19_7 := blk_frozen BK329.out 7) | ((with_reducible refine gate_callee (f := 21) rfl ?_); refine goesL_ (some 14) rfl rfl Tryz.func21 (by kernel_rfl) rfl #[.string a0] rfl Zl ?_; (with_reducible refine (gambitref05_Parse.calls k a0 t330 t331 t332 t333 t334 t335 t336 t337 t338 _ A3.out).mono ?_); rintro e w20 ⟨rfl, hb⟩; refine ⟨_, rfl, ?_⟩; replace BK329 := Aside0.mk (blk_below (g := gb329) (o := .cells #[.int .u8 t320, .int .u8 t321, .int .u8 t322, .int .i64 t323, .int .u8 t324, .int .u8 t325, .int .u8 t326, .string t327] 48 (0, 0)) (by (with_reducible repeat (first | refine blk_drewN ?_ _ | refine blk_drew ?_ | refine blk_alloc ?_ _)); refine blk_put (cs := #[.int .u8 t320, .int .u8 t321, .int .u8 t322, .int .i64 t323, .int .u8 t324, .int .u8 t325, .int .u8 t326, .string (⟨#[]⟩ : ByteArray)]) ?_ 7 _ rfl; (with_reducible repeat (first | refine blk_drewN ?_ _ | refine blk_drew ?_ | refine blk_alloc ?_ _)); refine blk_put (cs := #[.int .u8 t320, .int .u8 t321, .int .u8 t322, .int .i64 t323, .int .u8 t324, .int .u8 t325, .int .u8 0, .string (⟨#[]⟩ : ByteArray)]) ?_ 6 _ rfl; (with_reducible repeat (first | refine blk_drewN ?_ _ | refine blk_drew ?_ | refine blk_alloc ?_ _)); refine blk_put (cs := #[.int .u8 t320, .int .u8 t321, .int .u8 t322, .int .i64 t323, .int .u8 t324, .int .u8 0, .int .u8 0, .string (⟨#[]⟩ : ByteArray)]) ?_ 5 _ rfl; (with_reducible repeat (first | refine blk_drewN ?_ _ | refine blk_drew ?_ | refine blk_alloc ?_ _)); refine blk_put (cs := #[.int .u8 t320, .int .u8 t321, .int .u8 t322, .int .i64 t323, .int .u8 0, .int .u8 0, .int .u8 0, .string (⟨#[]⟩ : ByteArray)]) ?_ 4 _ rfl; (with_reducible repeat (first | refine blk_drewN ?_ _ | refine blk_drew ?_ | refine blk_alloc ?_ _)); refine blk_put (cs := #[.int .u8 t320, .int .u8 t321, .int .u8 t322, .int .i64 0, .int .u8 0, .int .u8 0, .int .u8 0, .string (⟨#[]⟩ : ByteArray)]) ?_ 3 _ rfl; (with_reducible repeat (first | refine blk_drewN ?_ _ | refine blk_drew ?_ | refine blk_alloc ?_ _)); refine blk_put (cs := #[.int .u8 t320, .int .u8 t321, .int .u8 0, .int .i64 0, .int .u8 0, .int .u8 0, .int .u8 0, .string (⟨#[]⟩ : ByteArray)]) ?_ 2 _ rfl; (with_reducible repeat (first | refine blk_drewN ?_ _ | refine blk_drew ?_ | refine blk_alloc ?_ _)); refine blk_put (cs := #[.int .u8 t320, .int .u8 0, .int .u8 0, .int .i64 0, .int .u8 0, .int .u8 0, .int .u8 0, .string (⟨#[]⟩ : ByteArray)]) ?_ 1 _ rfl; (with_reducible repeat (first | refine blk_drewN ?_ _ | refine blk_drew ?_ | refine blk_alloc ?_ _)); refine blk_put (cs := #[.int .u8 0, .int .u8 0, .int .u8 0, .int .i64 0, .int .u8 0, .int .u8 0, .int .u8 0, .string (⟨#[]⟩ : ByteArray)]) ?_ 0 _ rfl; exact Zk BK329.out) hb); replace HB := Aside0.mk (below_step (Zb1 GE329.out) hb); (try clear hb); (try clear hb2); (try clear hk); (try clear hi)) | ((with_reducible refine gate_dst (N := 5) rfl ?_); refine box_event ?hg (N := 5) ?hd (cs := #[.int .u8 0, .int .u8 0, .int .u8 0, .int .i64 0, .int .u8 0, .int .u8 0, .int .u8 0, .string (⟨#[]⟩ : ByteArray)]) (t := 48) ?hr ?_; (case hd => rfl); (case hg => rfl); (case hr => first | (go_simp; done) | (go_simp; rfl)); intro gb339 hg w21 hbox hb; have BK339 := Aside0.mk (hbox); have GW339 := Aside0.mk ((by rw [hg]; exact (below_size (Zb1 GE329.out)) : w.heap.size ≤ gb339)); have GE339 := Aside0.mk ((by rw [hg]; exact (below_size (Zb1 GE329.out)) : w.heap.size ≤ gb339)); replace HB := Aside0.mk (below_step (Zb1 GE329.out) hb); have NB329_339 := Aside0.mk ((by rw [hg]; exact Nat.ne_of_lt (blk_lt (g := gb329) (o := .cells #[.int .u8 t320, .int .u8 t321, .int .u8 t322, .int .i64 t323, .int .u8 t324, .int .u8 t325, .int .u8 t326, .string t327] 48 (0, 0)) (Zk BK329.out)) : gb329 ≠ gb339)); have NB339_329 := Aside0.mk ((by rw [hg]; exact Nat.ne_of_gt (blk_lt (g := gb329) (o := .cells #[.int .u8 t320, .int .u8 t321, .int .u8 t322, .int .i64 t323, .int .u8 t324, .int .u8 t325, .int .u8 t326, .string t327] 48 (0, 0)) (Zk BK329.out)) : gb339 ≠ gb329)); replace BK329 := Aside0.mk (blk_below (g := gb329) (o := .cells #[.int .u8 t320, .int .u8 t321, .int .u8 t322, .int .i64 t323, .int .u8 t324, .int .u8 t325, .int .u8 t326, .string t327] 48 (0, 0)) (Zk BK329.out) hb); clear hb hbox hg; have hnb22 := NB339_329.out; have hnc22 := NB329_339.out; have hcz23_0 := Zc BK339.out 0 (.int .u8 0) rfl; have hcz23_1 := Zc BK339.out 1 (.int .u8 0) rfl; have hcz23_2 := Zc BK339.out 2 (.int .u8 0) rfl; have hcz23_3 := Zc BK339.out 3 (.int .i64 0) rfl; have hcz23_4 := Zc BK339.out 4 (.int .u8 0) rfl; have hcz23_5 := Zc BK339.out 5 (.int .u8 0) rfl; have hcz23_6 := Zc BK339.out 6 (.int .u8 0) rfl; have hcz23_7 := Zc BK339.out 7 (.string (⟨#[]⟩ : ByteArray)) rfl; have hfz23_0 := blk_frozen BK339.out 0; have hfz23_1 := blk_frozen BK339.out 1; have hfz23_2 := blk_frozen BK339.out 2; have hfz23_3 := blk_frozen BK339.out 3; have hfz23_4 := blk_frozen BK339.out 4; have hfz23_5 := blk_frozen BK339.out 5; have hfz23_6 := blk_frozen BK339.out 6; have hfz23_7 := blk_frozen BK339.out 7) | ((with_reducible refine gate_callee (f := 22) rfl ?_); refine goesL_ (some 17) rfl rfl Tryz.func22 (by kernel_rfl) rfl #[] rfl Zl ?_; (with_reducible refine (gambitlaw05_lives.calls k  true _ ?side1 A4.out).mono ?_); (case side1 => first | (with_reducible exact HGP.out) | exact GP_below HGP.out (Zb2 GE329.out GE339.out)); rintro e w24 ⟨rfl, hb⟩; refine ⟨_, rfl, ?_⟩; replace BK329 := Aside0.mk (blk_below (g := gb329) (o := .cells #[.int .u8 t320, .int .u8 t321, .int .u8 t322, .int .i64 t323, .int .u8 t324, .int .u8 t325, .int .u8 t326, .string t327] 48 (0, 0)) (by (with_reducible repeat (first | refine blk_drewN ?_ _ | refine blk_drew ?_ | refine blk_alloc ?_ _)); refine blk_far ?_ NB329_339.out _; (with_reducible repeat (first | refine blk_drewN ?_ _ | refine blk_drew ?_ | refine blk_alloc ?_ _)); refine blk_far ?_ NB329_339.out _; (with_reducible repeat (first | refine blk_drewN ?_ _ | refine blk_drew ?_ | refine blk_alloc ?_ _)); refine blk_far ?_ NB329_339.out _; (with_reducible repeat (first | refine blk_drewN ?_ _ | refine blk_drew ?_ | refine blk_alloc ?_ _)); refine blk_far ?_ NB329_339.out _; (with_reducible repeat (first | refine blk_drewN ?_ _ | refine blk_drew ?_ | refine blk_alloc ?_ _)); refine blk_far ?_ NB329_339.out _; (with_reducible repeat (first | refine blk_drewN ?_ _ | refine blk_drew ?_ | refine blk_alloc ?_ _)); refine blk_far ?_ NB329_339.out _; (with_reducible repeat (first | refine blk_drewN ?_ _ | refine blk_drew ?_ | refine blk_alloc ?_ _)); refine blk_far ?_ NB329_339.out _; (with_reducible repeat (first | refine blk_drewN ?_ _ | refine blk_drew ?_ | refine blk_alloc ?_ _)); refine blk_far ?_ NB329_339.out _; exact Zk BK329.out) hb); replace BK339 := Aside0.mk (blk_below (g := gb339) (o := .cells #[.int .u8 t330, .int .u8 t331, .int .u8 t332, .int .i64 t333, .int .u8 t334, .int .u8 t335, .int .u8 t336, .string t337] 48 (0, 0)) (by (with_reducible repeat (first | refine blk_drewN ?_ _ | refine blk_drew ?_ | refine blk_alloc ?_ _)); refine blk_put (cs := #[.int .u8 t330, .int .u8 t331, .int .u8 t332, .int .i64 t333, .int .u8 t334, .int .u8 t335, .int .u8 t336, .string (⟨#[]⟩ : ByteArray)]) ?_ 7 _ rfl; (with_reducible repeat (first | refine blk_drewN ?_ _ | refine blk_drew ?_ | refine blk_alloc ?_ _)); refine blk_put (cs := #[.int .u8 t330, .int .u8 t331, .int .u8 t332, .int .i64 t333, .int .u8 t334, .int .u8 t335, .int .u8 0, .string (⟨#[]⟩ : ByteArray)]) ?_ 6 _ rfl; (with_reducible repeat (first | refine blk_drewN ?_ _ | refine blk_drew ?_ | refine blk_alloc ?_ _)); refine blk_put (cs := #[.int .u8 t330, .int .u8 t331, .int .u8 t332, .int .i64 t333, .int .u8 t334, .int .u8 0, .int .u8 0, .string (⟨#[]⟩ : ByteArray)]) ?_ 5 _ rfl; (with_reducible repeat (first | refine blk_drewN ?_ _ | refine blk_drew ?_ | refine blk_alloc ?_ _)); refine blk_put (cs := #[.int .u8 t330, .int .u8 t331, .int .u8 t332, .int .i64 t333, .int .u8 0, .int .u8 0, .int .u8 0, .string (⟨#[]⟩ : ByteArray)]) ?_ 4 _ rfl; (with_reducible repeat (first | refine blk_drewN ?_ _ | refine blk_drew ?_ | refine blk_alloc ?_ _)); refine blk_put (cs := #[.int .u8 t330, .int .u8 t331, .int .u8 t332, .int .i64 0, .int .u8 0, .int .u8 0, .int .u8 0, .string (⟨#[]⟩ : ByteArray)]) ?_ 3 _ rfl; (with_reducible repeat (first | refine blk_drewN ?_ _ | refine blk_drew ?_ | refine blk_alloc ?_ _)); refine blk_put (cs := #[.int .u8 t330, .int .u8 t331, .int .u8 0, .int .i64 0, .int .u8 0, .int .u8 0, .int .u8 0, .string (⟨#[]⟩ : ByteArray)]) ?_ 2 _ rfl; (with_reducible repeat (first | refine blk_drewN ?_ _ | refine blk_drew ?_ | refine blk_alloc ?_ _)); refine blk_put (cs := #[.int .u8 t330, .int .u8 0, .int .u8 0, .int .i64 0, .int .u8 0, .int .u8 0, .int .u8 0, .string (⟨#[]⟩ : ByteArray)]) ?_ 1 _ rfl; (with_reducible repeat (first | refine blk_drewN ?_ _ | refine blk_drew ?_ | refine blk_alloc ?_ _)); refine blk_put (cs := #[.int .u8 0, .int .u8 0, .int .u8 0, .int .i64 0, .int .u8 0, .int .u8 0, .int .u8 0, .string (⟨#[]⟩ : ByteArray)]) ?_ 0 _ rfl; exact Zk BK339.out) hb); replace HB := Aside0.mk (below_step (Zb2 GE329.out GE339.out) hb); (try clear hb); (try clear hb2); (try clear hk); (try clear hi)))
   go_ret
   exact ⟨Ze, Zb2 GE329.out GE339.out⟩
 ·replace c5 := Bool.eq_false_iff.mpr c5
  subst c5
  have H1 : (some false) = some r := by rw [if_neg (show ¬ (false = true) by decide)] at H; exact H
  clear H
  have H := H1
  clear H1
  obtain rfl := Option.some.inj H
  go_enter Tryz.func4, Tryz.ntmps4
  go_wp2_with (first | ((with_reducible refine gate_callee (f := 20) rfl ?_); refine goesL_ (some 9) rfl rfl Tryz.func20 (by kernel_rfl) rfl #[.string a0] rfl Zl ?_; (with_reducible refine (effect_Parse.calls a0 t320 t321 t322 t323 t324 t325 t326 t327 t328 _ ?side1 A2.out).mono ?_); (case side1 => first | (with_reducible exact HGP.out) | exact GP_below HGP.out Zb); rintro e w25 ⟨rfl, hb⟩; refine ⟨_, rfl, ?_⟩; replace HB := Aside0.mk (below_step Zb hb); (try clear hb); (try clear hb2); (try clear hk); (try clear hi)) | ((with_reducible refine gate_dst (N := 3) rfl ?_); refine box_event ?hg (N := 3) ?hd (cs := #[.int .u8 0, .int .u8 0, .int .u8 0, .int .i64 0, .int .u8 0, .int .u8 0, .int .u8 0, .string (⟨#[]⟩ : ByteArray)]) (t := 48) ?hr ?_; (case hd => rfl); (case hg => rfl); (case hr => first | (go_simp; done) | (go_simp; rfl)); intro gb329 hg w26 hbox hb; have BK329 := Aside0.mk (hbox); have GW329 := Aside0.mk ((by rw [hg]; exact (below_size Zb) : w.heap.size ≤ gb329)); have GE329 := Aside0.mk ((by rw [hg]; exact (below_size Zb) : w.heap.size ≤ gb329)); replace HB := Aside0.mk (below_step Zb hb); clear hb hbox hg; have hcz27_0 := Zc BK329.out 0 (.int .u8 0) rfl; have hcz27_1 := Zc BK329.out 1 (.int .u8 0) rfl; have hcz27_2 := Zc BK329.out 2 (.int .u8 0) rfl; have hcz27_3 := Zc BK329.out 3 (.int .i64 0) rfl; have hcz27_4 := Zc BK329.out 4 (.int .u8 0) rfl; have hcz27_5 := Zc BK329.out 5 (.int .u8 0) rfl; have hcz27_6 := Zc BK329.out 6 (.int .u8 0) rfl; have hcz27_7 := Zc BK329.out 7 (.string (⟨#[]⟩ : ByteArray)) rfl; have hfz27_0 := blk_frozen BK329.out 0; have hfz27_1 := blk_frozen BK329.out 1; have hfz27_2 := blk_frozen BK329.out 2; have hfz27_3 := blk_frozen BK329.out 3; have hfz27_4 := blk_frozen BK329.out 4; have hfz27_5 := blk_frozen BK329.out 5; have hfz27_6 := blk_frozen BK329.out 6; have hfz27_7 := blk_frozen BK329.out 7) | ((with_reducible refine gate_callee (f := 21) rfl ?_); refine goesL_ (some 14) rfl rfl Tryz.func21 (by kernel_rfl) rfl #[.string a0] rfl Zl ?_; (with_reducible refine (gambitref05_Parse.calls k a0 t330 t331 t332 t333 t334 t335 t336 t337 t338 _ A3.out).mono ?_); rintro e w28 ⟨rfl, hb⟩; refine ⟨_, rfl, ?_⟩; replace BK329 := Aside0.mk (blk_below (g := gb329) (o := .cells #[.int .u8 t320, .int .u8 t321, .int .u8 t322, .int .i64 t323, .int .u8 t324, .int .u8 t325, .int .u8 t326, .string t327] 48 (0, 0)) (by (with_reducible repeat (first | refine blk_drewN ?_ _ | refine blk_drew ?_ | refine blk_alloc ?_ _)); refine blk_put (cs := #[.int .u8 t320, .int .u8 t321, .int .u8 t322, .int .i64 t323, .int .u8 t324, .int .u8 t325, .int .u8 t326, .string (⟨#[]⟩ : ByteArray)]) ?_ 7 _ rfl; (with_reducible repeat (first | refine blk_drewN ?_ _ | refine blk_drew ?_ | refine blk_alloc ?_ _)); refine blk_put (cs := #[.int .u8 t320, .int .u8 t321, .int .u8 t322, .int .i64 t323, .int .u8 t324, .int .u8 t325, .int .u8 0, .string (⟨#[]⟩ : ByteArray)]) ?_ 6 _ rfl; (with_reducible repeat (first | refine blk_drewN ?_ _ | refine blk_drew ?_ | refine blk_alloc ?_ _)); refine blk_put (cs := #[.int .u8 t320, .int .u8 t321, .int .u8 t322, .int .i64 t323, .int .u8 t324, .int .u8 0, .int .u8 0, .string (⟨#[]⟩ : ByteArray)]) ?_ 5 _ rfl; (with_reducible repeat (first | refine blk_drewN ?_ _ | refine blk_drew ?_ | refine blk_alloc ?_ _)); refine blk_put (cs := #[.int .u8 t320, .int .u8 t321, .int .u8 t322, .int .i64 t323, .int .u8 0, .int .u8 0, .int .u8 0, .string (⟨#[]⟩ : ByteArray)]) ?_ 4 _ rfl; (with_reducible repeat (first | refine blk_drewN ?_ _ | refine blk_drew ?_ | refine blk_alloc ?_ _)); refine blk_put (cs := #[.int .u8 t320, .int .u8 t321, .int .u8 t322, .int .i64 0, .int .u8 0, .int .u8 0, .int .u8 0, .string (⟨#[]⟩ : ByteArray)]) ?_ 3 _ rfl; (with_reducible repeat (first | refine blk_drewN ?_ _ | refine blk_drew ?_ | refine blk_alloc ?_ _)); refine blk_put (cs := #[.int .u8 t320, .int .u8 t321, .int .u8 0, .int .i64 0, .int .u8 0, .int .u8 0, .int .u8 0, .string (⟨#[]⟩ : ByteArray)]) ?_ 2 _ rfl; (with_reducible repeat (first | refine blk_drewN ?_ _ | refine blk_drew ?_ | refine blk_alloc ?_ _)); refine blk_put (cs := #[.int .u8 t320, .int .u8 0, .int .u8 0, .int .i64 0, .int .u8 0, .int .u8 0, .int .u8 0, .string (⟨#[]⟩ : ByteArray)]) ?_ 1 _ rfl; (with_reducible repeat (first | refine blk_drewN ?_ _ | refine blk_drew ?_ | refine blk_alloc ?_ _)); refine blk_put (cs := #[.int .u8 0, .int .u8 0, .int .u8 0, .int .i64 0, .int .u8 0, .int .u8 0, .int .u8 0, .string (⟨#[]⟩ : ByteArray)]) ?_ 0 _ rfl; exact Zk BK329.out) hb); replace HB := Aside0.mk (below_step (Zb1 GE329.out) hb); (try clear hb); (try clear hb2); (try clear hk); (try clear hi)) | ((with_reducible refine gate_dst (N := 5) rfl ?_); refine box_event ?hg (N := 5) ?hd (cs := #[.int .u8 0, .int .u8 0, .int .u8 0, .int .i64 0, .int .u8 0, .int .u8 0, .int .u8 0, .string (⟨#[]⟩ : ByteArray)]) (t := 48) ?hr ?_; (case hd => rfl); (case hg => rfl); (case hr => first | (go_simp; done) | (go_simp; rfl)); intro gb339 hg w29 hbox hb; have BK339 := Aside0.mk (hbox); have GW339 := Aside0.mk ((by rw [hg]; exact (below_size (Zb1 GE329.out)) : w.heap.size ≤ gb339)); have GE339 := Aside0.mk ((by rw [hg]; exact (below_size (Zb1 GE329.out)) : w.heap.size ≤ gb339)); replace HB := Aside0.mk (below_step (Zb1 GE329.out) hb); have NB329_339 := Aside0.mk ((by rw [hg]; exact Nat.ne_of_lt (blk_lt (g := gb329) (o := .cells #[.int .u8 t320, .int .u8 t321, .int .u8 t322, .int .i64 t323, .int .u8 t324, .int .u8 t325, .int .u8 t326, .string t327] 48 (0, 0)) (Zk BK329.out)) : gb329 ≠ gb339)); have NB339_329 := Aside0.mk ((by rw [hg]; exact Nat.ne_of_gt (blk_lt (g := gb329) (o := .cells #[.int .u8 t320, .int .u8 t321, .int .u8 t322, .int .i64 t323, .int .u8 t324, .int .u8 t325, .int .u8 t326, .string t327] 48 (0, 0)) (Zk BK329.out)) : gb339 ≠ gb329)); replace BK329 := Aside0.mk (blk_below (g := gb329) (o := .cells #[.int .u8 t320, .int .u8 t321, .int .u8 t322, .int .i64 t323, .int .u8 t324, .int .u8 t325, .int .u8 t326, .string t327] 48 (0, 0)) (Zk BK329.out) hb); clear hb hbox hg; have hnb30 := NB339_329.out; have hnc30 := NB329_339.out; have hcz31_0 := Zc BK339.out 0 (.int .u8 0) rfl; have hcz31_1 := Zc BK339.out 1 (.int .u8 0) rfl; have hcz31_2 := Zc BK339.out 2 (.int .u8 0) rfl; have hcz31_3 := Zc BK339.out 3 (.int .i64 0) rfl; have hcz31_4 := Zc BK339.out 4 (.int .u8 0) rfl; have hcz31_5 := Zc BK339.out 5 (.int .u8 0) rfl; have hcz31_6 := Zc BK339.out 6 (.int .u8 0) rfl; have hcz31_7 := Zc BK339.out 7 (.string (⟨#[]⟩ : ByteArray)) rfl; have hfz31_0 := blk_frozen BK339.out 0; have hfz31_1 := blk_frozen BK339.out 1; have hfz31_2 := blk_frozen BK339.out 2; have hfz31_3 := blk_frozen BK339.out 3; have hfz31_4 := blk_frozen BK339.out 4; have hfz31_5 := blk_frozen BK339.out 5; have hfz31_6 := blk_frozen BK339.out 6; have hfz31_7 := blk_frozen BK339.out 7) | ((with_reducible refine gate_callee (f := 22) rfl ?_); refine goesL_ (some 17) rfl rfl Tryz.func22 (by kernel_rfl) rfl #[] rfl Zl ?_; (with_reducible refine (gambitlaw05_lives.calls k  false _ ?side1 A4.out).mono ?_); (case side1 => first | (with_reducible exact HGP.out) | exact GP_below HGP.out (Zb2 GE329.out GE339.out)); rintro e w32 ⟨rfl, hb⟩; refine ⟨_, rfl, ?_⟩; replace BK329 := Aside0.mk (blk_below (g := gb329) (o := .cells #[.int .u8 t320, .int .u8 t321, .int .u8 t322, .int .i64 t323, .int .u8 t324, .int .u8 t325, .int .u8 t326, .string t327] 48 (0, 0)) (by (with_reducible repeat (first | refine blk_drewN ?_ _ | refine blk_drew ?_ | refine blk_alloc ?_ _)); refine blk_far ?_ NB329_339.out _; (with_reducible repeat (first | refine blk_drewN ?_ _ | refine blk_drew ?_ | refine blk_alloc ?_ _)); refine blk_far ?_ NB329_339.out _; (with_reducible repeat (first | refine blk_drewN ?_ _ | refine blk_drew ?_ | refine blk_alloc ?_ _)); refine blk_far ?_ NB329_339.out _; (with_reducible repeat (first | refine blk_drewN ?_ _ | refine blk_drew ?_ | refine blk_alloc ?_ _)); refine blk_far ?_ NB329_339.out _; (with_reducible repeat (first | refine blk_drewN ?_ _ | refine blk_drew ?_ | refine blk_alloc ?_ _)); refine blk_far ?_ NB329_339.out _; (with_reducible repeat (first | refine blk_drewN ?_ _ | refine blk_drew ?_ | refine blk_alloc ?_ _)); refine blk_far ?_ NB329_339.out _; (with_reducible repeat (first | refine blk_drewN ?_ _ | refine blk_drew ?_ | refine blk_alloc ?_ _)); refine blk_far ?_ NB329_339.out _; (with_reducible repeat (first | refine blk_drewN ?_ _ | refine blk_drew ?_ | refine blk_alloc ?_ _)); refine blk_far ?_ NB329_339.out _; exact Zk BK329.out) hb); replace BK339 := Aside0.mk (blk_below (g := gb339) (o := .cells #[.int .u8 t330, .int .u8 t331, .int .u8 t332, .int .i64 t333, .int .u8 t334, .int .u8 t335, .int .u8 t336, .string t337] 48 (0, 0)) (by (with_reducible repeat (first | refine blk_drewN ?_ _ | refine blk_drew ?_ | refine blk_alloc ?_ _)); refine blk_put (cs := #[.int .u8 t330, .int .u8 t331, .int .u8 t332, .int .i64 t333, .int .u8 t334, .int .u8 t335, .int .u8 t336, .string (⟨#[]⟩ : ByteArray)]) ?_ 7 _ rfl; (with_reducible repeat (first | refine blk_drewN ?_ _ | refine blk_drew ?_ | refine blk_alloc ?_ _)); refine blk_put (cs := #[.int .u8 t330, .int .u8 t331, .int .u8 t332, .int .i64 t333, .int .u8 t334, .int .u8 t335, .int .u8 0, .string (⟨#[]⟩ : ByteArray)]) ?_ 6 _ rfl; (with_reducible repeat (first | refine blk_drewN ?_ _ | refine blk_drew ?_ | refine blk_alloc ?_ _)); refine blk_put (cs := #[.int .u8 t330, .int .u8 t331, .int .u8 t332, .int .i64 t333, .int .u8 t334, .int .u8 0, .int .u8 0, .string (⟨#[]⟩ : ByteArray)]) ?_ 5 _ rfl; (with_reducible repeat (first | refine blk_drewN ?_ _ | refine blk_drew ?_ | refine blk_alloc ?_ _)); refine blk_put (cs := #[.int .u8 t330, .int .u8 t331, .int .u8 t332, .int .i64 t333, .int .u8 0, .int .u8 0, .int .u8 0, .string (⟨#[]⟩ : ByteArray)]) ?_ 4 _ rfl; (with_reducible repeat (first | refine blk_drewN ?_ _ | refine blk_drew ?_ | refine blk_alloc ?_ _)); refine blk_put (cs := #[.int .u8 t330, .int .u8 t331, .int .u8 t332, .int .i64 0, .int .u8 0, .int .u8 0, .int .u8 0, .string (⟨#[]⟩ : ByteArray)]) ?_ 3 _ rfl; (with_reducible repeat (first | refine blk_drewN ?_ _ | refine blk_drew ?_ | refine blk_alloc ?_ _)); refine blk_put (cs := #[.int .u8 t330, .int .u8 t331, .int .u8 0, .int .i64 0, .int .u8 0, .int .u8 0, .int .u8 0, .string (⟨#[]⟩ : ByteArray)]) ?_ 2 _ rfl; (with_reducible repeat (first | refine blk_drewN ?_ _ | refine blk_drew ?_ | refine blk_alloc ?_ _)); refine blk_put (cs := #[.int .u8 t330, .int .u8 0, .int .u8 0, .int .i64 0, .int .u8 0, .int .u8 0, .int .u8 0, .string (⟨#[]⟩ : ByteArray)]) ?_ 1 _ rfl; (with_reducible repeat (first | refine blk_drewN ?_ _ | refine blk_drew ?_ | refine blk_alloc ?_ _)); refine blk_put (cs := #[.int .u8 0, .int .u8 0, .int .u8 0, .int .i64 0, .int .u8 0, .int .u8 0, .int .u8 0, .string (⟨#[]⟩ : ByteArray)]) ?_ 0 _ rfl; exact Zk BK339.out) hb); replace HB := Aside0.mk (below_step (Zb2 GE329.out GE339.out) hb); (try clear hb); (try clear hb2); (try clear hk); (try clear hi)))
  go_ret
  exact ⟨Ze, Zb2 GE329.out GE339.out⟩
end Go.Proofs.YtfpcideomanbbaaGreatDoor.PA
end
section
namespace Go.Proofs.YtfpcideomanbbaaGreatDoor.PA
open Go.RowKit Go.Proofs.YtfpcideomanbbaaGreatDoorW.PrintWords Go.Proofs.YtfpcideomanbbaaGreatDoorW.PrintLast Go.Proofs.YtfpcideomanbbaaGreatDoorW.PrintMore
theorem seqNext (u : Bool) (x : ByteArray) (r : List ByteArray) : nextRest u (opt u x ++ r) = r := by cases u <;> simp [opt, nextRest]
theorem seqWord (u : Bool) (x : ByteArray) (r : List ByteArray) (h : u = true) : nextWord u (opt u x ++ r) = x := by subst h; simp [opt, nextWord]
theorem seqNone (u : Bool) (r : List ByteArray) (h : u = false) : nextWord u r = ⟨#[]⟩ := by subst h; rfl
theorem tail_words (w v h c su tr mk : Int) (nm : ByteArray) : (words w v h c su tr mk nm).drop 3 = opt (usesS v h).1 (itoaB c) ++ (opt (usesS v h).2.1 (suitW su) ++ (opt (usesS v h).2.2.1 (traitW tr) ++ (opt (usesS v h).2.2.2.1 (itoaB mk) ++ (opt (usesS v h).2.2.2.2 nm ++ [])))) := by
  unfold words; simp
theorem count_word {w v h c su tr mk : Int} {nm : ByteArray} (p : Part w v h c su tr mk nm) (r : List ByteArray) (hr : r = (words w v h c su tr mk nm).drop 3) :
    numI (nextWord (usesS v h).1 r) = c ∧ atoiVal (nextWord (usesS v h).1 r) = c := by
  rw [hr, tail_words]
  cases e : (usesS v h).1
  · rw [seqNone _ _ rfl]; exact ⟨empty_words.1.trans (p.c0 e).symm, empty_words.2.2.2.trans (p.c0 e).symm⟩
  · rw [seqWord _ _ _ rfl]; exact ⟨numI_itoa c p.c1 p.c2, atoi_itoa c p.c1 p.c2⟩
theorem mark_word {w v h c su tr mk : Int} {nm : ByteArray} (p : Part w v h c su tr mk nm) (r : List ByteArray) (hr : r = (words w v h c su tr mk nm).drop 3) :
    numI (nextWord (usesS v h).2.2.2.1 (nextRest (usesS v h).2.2.1 (nextRest (usesS v h).2.1 (nextRest (usesS v h).1 r)))) = mk ∧ atoiVal (nextWord (usesS v h).2.2.2.1 (nextRest (usesS v h).2.2.1 (nextRest (usesS v h).2.1 (nextRest (usesS v h).1 r)))) = mk := by
  rw [hr, tail_words, seqNext, seqNext, seqNext]
  have hm := p.mk2
  cases e : (usesS v h).2.2.2.1
  · rw [seqNone _ _ rfl]; exact ⟨empty_words.1.trans (p.m0 e).symm, empty_words.2.2.2.trans (p.m0 e).symm⟩
  · rw [seqWord _ _ _ rfl]; exact ⟨numI_itoa mk (by omega) (by omega), atoi_itoa mk (by omega) (by omega)⟩
def ans (s : ByteArray) (w v h c su tr mk : Int) (nm : ByteArray) : Int × Int × Int × Int × Int × Int × Int × ByteArray × Int :=
  if okB w v h c su tr mk nm = true ∧ textB (words w v h c su tr mk nm) = s then (w, v, h, c, su, tr, mk, nm, 0) else (0, 0, 0, 0, 0, 0, 0, ⟨#[]⟩, 150)
theorem eff_end (s : ByteArray) (w v h c su tr mk : Int) (nm : ByteArray) (k : Nat) :
    ((effect_Print.f (k + 8) w v h c su tr mk nm).bind fun te => if te.2 = 0 ∧ te.1.toList = s.toList then some (w, v, h, c, su, tr, mk, nm, 0) else some (0, 0, 0, 0, 0, 0, 0, (⟨#[]⟩ : ByteArray), 150)) = some (ans s w v h c su tr mk nm) := by
  unfold ans
  cases ho : okB w v h c su tr mk nm
  · obtain ⟨e, h1, h2⟩ := print_effect_no w v h c su tr mk nm ho (k + 3)
    rw [h2, Option.bind_some, if_neg (fun q => h1 q.1), if_neg (fun q => by cases q.1)]
  · rw [print_effect w v h c su tr mk nm ho k, Option.bind_some]
    by_cases ht : textB (words w v h c su tr mk nm) = s
    · rw [if_pos ⟨rfl, (toList_eq_iff _ _).2 ht⟩, if_pos ⟨rfl, ht⟩]
    · rw [if_neg (fun q => ht ((toList_eq_iff _ _).1 q.2)), if_neg (fun q => ht q.2)]
theorem ref_end (s : ByteArray) (w v h c su tr mk : Int) (nm : ByteArray) (hs : 0 ≤ su ∧ su ≤ 255) (ht : 0 ≤ tr ∧ tr ≤ 255) (hm : 0 ≤ mk ∧ mk ≤ 255) (k : Nat) :
    ((gambitref05_Print.f (k + 30) w v h c su tr mk nm).bind fun te => (if te.2 = 0 then (if te.1.toList = s.toList then some (w, v, h, c, su, tr, mk, nm, 0) else some (0, 0, 0, 0, 0, 0, 0, (⟨#[]⟩ : ByteArray), 150)) else some (0, 0, 0, 0, 0, 0, 0, (⟨#[]⟩ : ByteArray), 150))) = some (ans s w v h c su tr mk nm) := by
  unfold ans
  cases ho : okB w v h c su tr mk nm
  · obtain ⟨e, h1, h2⟩ := print_ref_no w v h c su tr mk nm hs ht hm ho k
    rw [h2, Option.bind_some, if_neg h1, if_neg (fun q => by cases q.1)]
  · rw [print_ref w v h c su tr mk nm hs ht hm ho k, Option.bind_some, if_pos rfl]
    by_cases ht : textB (words w v h c su tr mk nm) = s
    · rw [if_pos ((toList_eq_iff _ _).2 ht), if_pos ⟨rfl, ht⟩]
    · rw [if_neg (fun q => ht ((toList_eq_iff _ _).1 q)), if_neg (fun q => ht q.2)]
theorem ans_same (s : ByteArray) (w v h c c' su tr mk mk' : Int) (nm : ByteArray)
    (h1 : okB w v h c su tr mk nm = true → textB (words w v h c su tr mk nm) = s → c' = c ∧ mk' = mk)
    (h2 : okB w v h c' su tr mk' nm = true → textB (words w v h c' su tr mk' nm) = s → c' = c ∧ mk' = mk) : ans s w v h c su tr mk nm = ans s w v h c' su tr mk' nm := by
  by_cases a : okB w v h c su tr mk nm = true ∧ textB (words w v h c su tr mk nm) = s
  · obtain ⟨rfl, rfl⟩ := h1 a.1 a.2; rfl
  · by_cases b : okB w v h c' su tr mk' nm = true ∧ textB (words w v h c' su tr mk' nm) = s
    · obtain ⟨rfl, rfl⟩ := h2 b.1 b.2; rfl
    · unfold ans; rw [if_neg a, if_neg b]
theorem okB_range {w v h c su tr mk : Int} {nm : ByteArray} (ho : okB w v h c su tr mk nm = true) : 1 ≤ v ∧ v ≤ 19 := ⟨(Part.of ho).v1, (Part.of ho).v2⟩
theorem mod200 (n : Int) : 0 ≤ (Int.tmod n 200) % 256 ∧ (Int.tmod n 200) % 256 ≤ 255 := by omega
theorem parse_same (s : ByteArray) (hs : s.size ≤ 80) (k : Nat) : ∃ r, effect_Parse.f s = some r ∧ gambitref05_Parse.f (k + 90) s = some r := by
  unfold effect_Parse.f gambitref05_Parse.f
  rw [if_neg (by omega), if_neg (by omega), cut_split s (by omega) (k + 90) (by omega), Option.bind_some]
  generalize hl : Lib.splitB ⟨#[32]⟩ 0 (Lib.countB s ⟨#[32]⟩) s = l
  have hlen : l.length ≤ 1000 := by
    rw [← hl]
    have h1 := Lib.splitB_length_le ⟨#[32]⟩ 0 (Lib.countB s ⟨#[32]⟩) s
    have h2 := Lib.countB_le ⟨#[32]⟩ (by decide) s.size s (Nat.le_refl _)
    omega
  have hno : okB 0 0 0 0 0 0 0 ⟨#[]⟩ = false := by decide
  have short : l.length < 3 → gambitref05_read.f (k + 90) l = some (0, 0, 0, 0, 0, 0, 0, ⟨#[]⟩) := fun h => by unfold gambitref05_read.f; rw [if_pos (by omega)]
  have hend := ref_end s 0 0 0 0 0 0 0 ⟨#[]⟩ (by omega) (by omega) (by omega) (k + 60)
  have ha : ans s 0 0 0 0 0 0 0 ⟨#[]⟩ = (0, 0, 0, 0, 0, 0, 0, ⟨#[]⟩, 150) := by unfold ans; rw [if_neg (fun q => by rw [hno] at q; cases q.1)]
  match l, hl, short, hlen with
  | [], hl, short, _ => exact ⟨_, rfl, by rw [short (by simp), Option.bind_some]; rw [ha] at hend; exact hend⟩
  | [_], hl, short, _ => exact ⟨_, rfl, by rw [short (by simp), Option.bind_some]; rw [ha] at hend; exact hend⟩
  | [_, _], hl, short, _ => exact ⟨_, rfl, by rw [short (by simp), Option.bind_some]; rw [ha] at hend; exact hend⟩
  | x0 :: x1 :: x2 :: r, hl, _, hlen =>
    dsimp only
    generalize hW : (Lib.idxOfS wWhens x0 + 1) % 256 = W
    generalize hV : (Lib.idxOfS wVerbs x1 + 1) % 256 = V
    generalize hH : (Lib.idxOfS wWhoms x2 + 1) % 256 = H
    have hread : ∀ u, gambitref05_Uses.f (k + 90) V H = some u → gambitref05_read.f (k + 90) (x0 :: x1 :: x2 :: r) = some (W, V, H, numI (nextWord u.1 r), (suitI (nextWord u.2.1 (nextRest u.1 r))).1, (traitI (nextWord u.2.2.1 (nextRest u.2.1 (nextRest u.1 r)))).1, (Int.tmod (numI (nextWord u.2.2.2.1 (nextRest u.2.2.1 (nextRest u.2.1 (nextRest u.1 r))))) 200) % 256, nextWord u.2.2.2.2 (nextRest u.2.2.2.1 (nextRest u.2.2.1 (nextRest u.2.1 (nextRest u.1 r))))) := by
      intro u hu
      unfold gambitref05_read.f
      have l3 : 3 ≤ (x0 :: x1 :: x2 :: r).length := by simp
      rw [if_neg (by omega), whens_ref, verbs_ref, whoms_ref]
      simp only [Option.bind_some]
      rw [if_pos (by omega), show rdOf ByteArray.empty (x0 :: x1 :: x2 :: r) 0 = x0 from rfl, place_idx wWhens (by decide) x0 _ (by omega), Option.bind_some,
        if_pos (by omega), show rdOf ByteArray.empty (x0 :: x1 :: x2 :: r) 1 = x1 from rfl, place_idx wVerbs (by decide) x1 _ (by omega), Option.bind_some,
        if_pos (by omega), show rdOf ByteArray.empty (x0 :: x1 :: x2 :: r) 2 = x2 from rfl, place_idx wWhoms (by decide) x2 _ (by omega), Option.bind_some]
      simp only [hW, hV, hH]
      rw [hu, Option.bind_some]
      have := read0 (x0 :: x1 :: x2 :: r) hlen 3 (by simp) W V H u.1 u.2.1 u.2.2.1 u.2.2.2.1 u.2.2.2.2 (k + 70)
      simpa using this
    unfold parseRest
    by_cases hv : 1 ≤ V ∧ V ≤ 19
    · rw [uses_effect V H hv.1 hv.2 0, Option.bind_some, hread _ (uses_ref V H hv.1 hv.2 (k + 88)), Option.bind_some, suitI_eff, Option.bind_some, traitI_eff _ 11, Option.bind_some]
      refine ⟨_, eff_end s W V H _ _ _ _ _ 4, ?_⟩
      refine (ref_end s W V H _ _ _ _ _ (suitI_range _) (traitI_range _) (mod200 _) (k + 60)).trans ?_
      congr 1
      symm
      apply ans_same
      · intro ho ht
        have p := Part.of ho
        have hr := words_back W V H _ _ _ _ _ ho
        rw [ht, hl] at hr
        have hr' := congrArg (List.drop 3) hr
        have e1 := count_word p r hr'
        have e2 := mark_word p r hr'
        refine ⟨e1.1, ?_⟩
        have hm := p.mk2
        rw [e2.1, Int.tmod_eq_emod_of_nonneg hm.1]
        omega
      · intro ho ht
        have p := Part.of ho
        have hr := words_back W V H _ _ _ _ _ ho
        rw [ht, hl] at hr
        have hr' := congrArg (List.drop 3) hr
        have e1 := count_word p r hr'
        have e2 := mark_word p r hr'
        refine ⟨e1.2.symm, ?_⟩
        have hm := p.mk2
        rw [e2.2]
        omega
    · obtain ⟨u1, h1⟩ := uses_total V H 0
      obtain ⟨u2, h2⟩ := uses_ref_total V H (k + 88)
      rw [h1, Option.bind_some, hread _ h2, Option.bind_some, suitI_eff, Option.bind_some, traitI_eff _ 11, Option.bind_some]
      refine ⟨_, eff_end s W V H _ _ _ _ _ 4, ?_⟩
      refine (ref_end s W V H _ _ _ _ _ (suitI_range _) (traitI_range _) (mod200 _) (k + 60)).trans ?_
      unfold ans
      rw [if_neg (fun q => hv (okB_range q.1)), if_neg (fun q => hv (okB_range q.1))]
set_option synthInstance.maxSize 4096 in
set_option synthInstance.maxHeartbeats 400000 in
theorem lives_true (k : Nat) : gambitlaw05_lives.f (k + 8) = some true := by
  have h1 : effect_Parse.f (⟨#[97, 108, 119, 97, 121, 115, 32, 103, 114, 97, 110, 116, 32, 119, 105, 116, 104, 32, 102, 97, 115, 116]⟩ : ByteArray) = some (5, 12, 10, 0, 0, 1, 0, ⟨#[]⟩, 0) := by decide +kernel
  have h2 : gambitlaw05_printed.f (k + 8) 1 1 3 3 0 0 0 (⟨#[]⟩ : ByteArray) = some (⟨#[112, 108, 97, 121, 101, 100, 32, 104, 97, 114, 109, 32, 105, 116, 32, 51]⟩ : ByteArray) := by
    unfold gambitlaw05_printed.f
    rw [print_effect 1 1 3 3 0 0 0 ⟨#[]⟩ (by decide +kernel) k, Option.bind_some, if_pos rfl]
    exact congrArg some (show textB (words 1 1 3 3 0 0 0 ⟨#[]⟩) = _ by decide +kernel)
  unfold gambitlaw05_lives.f
  rw [h1, Option.bind_some, h2, Option.bind_some, if_pos (by rw [ByteArray.toList_eq]), if_pos rfl]
  simp [ByteArray.toList_eq]
theorem law_parses (s : ByteArray) : ∃ k, gambitlaw05_EffectParses.f k s = some true := by
  refine ⟨90, ?_⟩
  unfold gambitlaw05_EffectParses.f
  by_cases hs : s.size ≤ 80
  · obtain ⟨r, h1, h2⟩ := parse_same s hs 0
    rw [h1, Option.bind_some, h2, Option.bind_some, lives_true 82, Option.bind_some, if_pos rfl, if_pos rfl]
    simp
  · have h1 : effect_Parse.f s = some (0, 0, 0, 0, 0, 0, 0, ⟨#[]⟩, 3) := by unfold effect_Parse.f; rw [if_pos (by omega)]
    have h2 : gambitref05_Parse.f 90 s = some (0, 0, 0, 0, 0, 0, 0, ⟨#[]⟩, 3) := by unfold gambitref05_Parse.f; rw [if_pos (by omega)]
    rw [h1, Option.bind_some, h2, Option.bind_some, lives_true 82, Option.bind_some, if_pos rfl, if_pos rfl]
    simp
end Go.Proofs.YtfpcideomanbbaaGreatDoor.PA
end
section
namespace Go.Proofs.YtfpcideomanbbaaGreatDoor.EffectParses
open Go.ChangeShapes Go.WideShapes Go.ChangeAt Go.RowKit Go.ChangeMaps Go.Proofs.YtfpcideomanbbaaGreatDoor
theorem own : ownKnob Tryz.prog.godebug = none := by kernel_rfl
set_option maxRecDepth 100000 in
theorem contract (H : Type) (enc : TypeId × Value → H) (W : World) (base : Nat) (args : Array Value) (ds gs : List (DataW H)) (before : List MemPlace)
    (hval : ∀ (j : Nat) t v, Tryz.f4.params[j]? = some t → args[j]? = some v → Value.okWide Tryz.prog W .any base t v)
    (hW : DataW.Whole enc Tryz.prog Tryz.f4.params.toList Rows.effectParsesSpec.vars false W args.toList ds gs before) (hL : laidMet Tryz.prog Rows.effectParsesRow.laid W) (hS : W.ShapedOpen Tryz.prog) :
    Calls Tryz.prog 4 args W fun e W' => ∃ v, e = .returned v ∧ Rows.effectParsesSpec.post enc Tryz.prog Tryz.f4 false true false false W args v W' := by
  have hW' := hW
  obtain ⟨p, q, hA0, hV, rfl, hfz, hnd⟩ := hW
  have hA : DataW.TrodAll enc Tryz.prog W 0 (fun _ => true) true Tryz.f4.params.toList args.toList ds p := hA0
  rw [Tryz.params4] at hA hval
  obtain ⟨v0, d0, rfl, rfl, h0⟩ := trodAll_one hA
  obtain ⟨rfl, rfl⟩ := trodVars_none hV
  obtain ⟨s, rfl, rfl, rfl, ws⟩ := open_string Tryz.underlying9 (hval 0 9 v0 rfl rfl) h0
  clear hA0
  obtain ⟨k, hk⟩ := PA.law_parses s
  refine (PA.gambitlaw05_EffectParses.calls k s true W (GP_of_row hL hS) hk).mono ?_
  rintro e W' ⟨rfl, bel⟩
  refine ⟨_, rfl, _, _, _, [], [], [], hW', ?_, ?_, ?_, bel.frame _, fun h => by cases h⟩
  · exact trodAll_mk1 (shut_bool Tryz.underlying4 _)
  · exact trodAll_mk1 (shut_string Tryz.underlying9 ws)
  · rfl
theorem witness_row (os : Os) {H : Type} (enc : TypeId × Value → H) :
    (OpenSpec.ofChange Rows.effectParsesSpec).preRow enc Tryz.prog Tryz.f4 Rows.effectParsesRow.domain false Rows.effectParsesRow.laid ((laidWorld os).forCall (fun _ _ => 0) ⟨#[], #[.string ⟨#[]⟩], []⟩).memory #[.string ⟨#[]⟩] := by
  have hw : (DataW.whole enc Tryz.prog ((laidWorld os).forCall (fun _ _ => 0) ⟨#[], #[.string ⟨#[]⟩], []⟩).memory Tryz.f4.params.toList Rows.effectParsesSpec.vars false #[Value.string ⟨#[]⟩].toList 8).map (fun x => (x.1, x.2.1)) =
      some ([.lit (.string [])], []) := by kernel_rfl
  obtain ⟨⟨x1, x2, x3⟩, hx, hx1⟩ := Option.map_eq_some_iff.1 hw
  simp only [Prod.mk.injEq] at hx1
  obtain ⟨rfl, rfl⟩ := hx1
  exact OpenSpec.preRow_of_cond 8 hx (by kernel_rfl) (fun k hk => by cases hk) (by kernel_rfl) (laid_met os _)
set_option maxRecDepth 100000 in
theorem lifted (os : Os) (started : os.Started) (H : Type) (enc : TypeId × Value → H) (F : Stop.Interp) :
    ReturnsInHanded {} Tryz.checked os 4 .any ((OpenSpec.ofChange Rows.effectParsesSpec).preRow enc Tryz.prog Tryz.f4 Rows.effectParsesRow.domain false Rows.effectParsesRow.laid) (((OpenSpec.ofChange Rows.effectParsesSpec).at F).post enc Tryz.prog Tryz.f4 false true false false) := by
  refine returnsInHanded_of_row (C := Tryz.checked) (s := OpenSpec.ofChange Rows.effectParsesSpec) own started (by kernel_rfl) Tryz.func4
    (witness_row_atRef (enc := enc) (C := Tryz.checked) false (laidWorld os) #[.string ⟨#[]⟩] rfl (by kernel_rfl) (by kernel_rfl) (by kernel_rfl) (witness_row os enc)) ?_
  intro W base args ds gs before hval hW _ _ _ hL hS _
  exact contract H enc W base args ds gs before hval hW hL hS
theorem said : Rows.EffectParsesSaid :=
  OpenClaim.holds_of_cond 4 Tryz.f4 rfl rfl rfl rfl rfl rfl rfl ⟨rfl, rfl, rfl, rfl, rfl⟩ rfl rfl rfl rfl rfl (by kernel_rfl) Tryz.func4 (by kernel_rfl)
    (of_decide_eq_true (by kernel_rfl)) (by unfold Func.isWrapper; first | (rw [if_pos (by decide +kernel)]; kernel_rfl) | (rw [if_neg (by decide +kernel)]; exact ⟨rfl, rfl⟩))
    (fun os started H enc _ F => by rw [OpenClaim.pre_eq_preRow]; exact lifted os started H enc F)
theorem plain (f : FuncId) (fn : Func) (hf : Tryz.pinned.checked.prog.funcNamed "gambit/gambitlaw05.EffectParses" = some f) (hfn : Tryz.pinned.checked.prog.funcs[f]? = some fn) :
    true = Tryz.pinned.checked.prog.looks [] ∧ ∀ (j : Nat) t, fn.params[j]? = some t → Tryz.pinned.checked.prog.wantsStandIn t = false := by
  obtain rfl : f = 4 := Option.some.inj ((show Tryz.prog.funcNamed "gambit/gambitlaw05.EffectParses" = some 4 by kernel_rfl).symm.trans hf) |>.symm
  obtain rfl : fn = Tryz.f4 := (Option.some.inj (Tryz.func4.symm.trans hfn)).symm
  refine ⟨by kernel_rfl, fun j t ht => ?_⟩
  rw [Tryz.params4] at ht
  obtain rfl : t = 9 := by simpa using Array.mem_of_getElem? ht
  exact (show Tryz.prog.wantsStandIn 9 = false by kernel_rfl)
theorem card : Rows.EffectParsesCardSaid :=
  Claim7.holds_tied_plain_at .later [] _ _ _ _ said (fun _ h => by cases h) (by kernel_rfl) (fun _ h => by cases h) effectParses_row_tie rfl ⟨rfl, rfl⟩ (by kernel_rfl) rfl plain (by kernel_rfl)
end Go.Proofs.YtfpcideomanbbaaGreatDoor.EffectParses
end
