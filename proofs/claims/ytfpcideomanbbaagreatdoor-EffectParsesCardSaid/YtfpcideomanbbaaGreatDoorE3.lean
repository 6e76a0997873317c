/-
  Part 3 of a proof in 8 parts: lemmas, contracts and plain laws that its last part joins; no conditions of its own.
-/
import Derived.Test.YtfpcideomanbbaaGreatDoorProg
import Derived.Test.YtfpcideomanbbaaGreatDoorEZ
import Derived.Test.YtfpcideomanbbaaGreatDoorE1
import Derived.Test.YtfpcideomanbbaaGreatDoorE2
import Derived.WalkKit
import Derived.WalkSmall
import Derived.Below
import Derived.Lib.LaidTab
import Derived.KernelRfl
import Derived.Lib.ItoaNum
import Derived.Lib.Space
import Derived.Lib.AtoiErrMem
import Derived.Deep.Draws
import Derived.Deep.AppendLies
import Derived.Maps.AppendAt
import Derived.OwnWalk
import Derived.Laws.BytesArg
import Derived.Laws.MakeOwn
import Derived.Laws.OwnMore
import Derived.Deep.OwnRows
import Derived.Tactics
import Derived.Lib.ConvBytes
import Derived.Laws.Slices
import Derived.RowKit3
import Derived.Deep.LoopGhost
import Derived.Deep.QuietTactic
import Derived.BigQuiet
import Derived.WideLaws
import Derived.Deep.DeepCutAuto
import Derived.Deep.CutBlock
import Derived.Deep.RegionHeld3
import Derived.Laws.Rows
import Derived.Lib.AppendStr
import Derived.ArgAppend
import Derived.Laws.IdiomCopy
import Derived.RowKit
import Derived.OrdersHeld
import Derived.Laws.BitsLemmas
import Derived.Laws.StructEq
set_option linter.unusedVariables false
set_option linter.unusedSimpArgs false
section
namespace Go.Proofs.YtfpcideomanbbaaGreatDoor.PA
open Go.RowKit Go.Proofs.YtfpcideomanbbaaGreatDoorW.PrintWords Go.Proofs.YtfpcideomanbbaaGreatDoorW.PrintLast Go.Proofs.YtfpcideomanbbaaGreatDoorW.PrintMore
attribute [local go_sem] max2_int min2_int max_two min_two max_three min_three max_four min_four
set_option linter.unusedVariables false
set_option linter.unusedSimpArgs false
mutual
def gambitref05_Check.j0 : Nat → Bool → Int → Int → Int → Int → Int → Int → Int → ByteArray → Option (Int)
 | 0, _, _, _, _, _, _, _, _, _ => none
 | k + 1, x35, x124000, x124001, x124002, x124003, x124004, x124005, x124006, x124007 => if x35 = true then (some 2) else ((gambitref05_Uses.f k x124001 x124002).bind fun bt124 => ((gambitref05_kind.f k x124001).bind fun t129 => ((gambitref05_wants.f k x124000).bind fun t130 => (if t129 = t130 then (if x124001 = 11 then (gambitref05_Check.j1 k bt124.2.1 bt124.2.2.1 bt124.2.2.2.1 bt124.2.2.2.2 (x124002 == 9) x124000 x124001 x124002 x124003 x124004 x124005 x124006 x124007) else (gambitref05_Check.j1 k bt124.2.1 bt124.2.2.1 bt124.2.2.2.1 bt124.2.2.2.2 false x124000 x124001 x124002 x124003 x124004 x124005 x124006 x124007)) else (gambitref05_Check.j1 k bt124.2.1 bt124.2.2.1 bt124.2.2.2.1 bt124.2.2.2.2 true x124000 x124001 x124002 x124003 x124004 x124005 x124006 x124007)))))
def gambitref05_Check.j1 : Nat → Bool → Bool → Bool → Bool → Bool → Int → Int → Int → Int → Int → Int → Int → ByteArray → Option (Int)
 | 0, _, _, _, _, _, _, _, _, _, _, _, _, _ => none
 | k + 1, x4, x5, x6, x7, x47, x124000, x124001, x124002, x124003, x124004, x124005, x124006, x124007 => if x47 = true then (some 8) else ((gambitref05_about.f k x124000 x124001 x124002 x124003 x124004 x124005 x124006 x124007).bind fun t131 => (if t131 = true then ((gambitref05_counted.f k x124000 x124001 x124002 x124003 x124004 x124005 x124006 x124007).bind fun t132 => (if t132 = true then ((gambitref05_within.f x4 (wrap64 (x124004)) 6).bind fun t133 => (if t133 = true then ((gambitref05_within.f x5 (wrap64 (x124005)) 8).bind fun t134 => (if t134 = true then ((gambitref05_within.f x6 (wrap64 (x124006)) 4).bind fun t135 => (gambitref05_Check.j2 k x7 (!t135) x124000 x124001 x124002 x124003 x124004 x124005 x124006 x124007)) else (gambitref05_Check.j2 k x7 true x124000 x124001 x124002 x124003 x124004 x124005 x124006 x124007))) else (gambitref05_Check.j2 k x7 true x124000 x124001 x124002 x124003 x124004 x124005 x124006 x124007))) else (some 2))) else (some 13)))
def gambitref05_Check.j2 : Nat → Bool → Bool → Int → Int → Int → Int → Int → Int → Int → ByteArray → Option (Int)
 | 0, _, _, _, _, _, _, _, _, _, _ => none
 | k + 1, x7, x73, x124000, x124001, x124002, x124003, x124004, x124005, x124006, x124007 => if x73 = true then (some 2) else (if x7 = true then ((gambitref05_Name.f k x124007).bind fun t136 => (if t136 = true then (some 0) else (some 4))) else (if x124007.toList = ([] : List UInt8) then (some 0) else (some 4)))
end
def gambitref05_Check.f (k : Nat) (a0_0 : Int) (a0_1 : Int) (a0_2 : Int) (a0_3 : Int) (a0_4 : Int) (a0_5 : Int) (a0_6 : Int) (a0_7 : ByteArray) : Option (Int) := if a0_0 < 1 then (gambitref05_Check.j0 k true a0_0 a0_1 a0_2 a0_3 a0_4 a0_5 a0_6 a0_7) else (if a0_0 > 6 then (gambitref05_Check.j0 k true a0_0 a0_1 a0_2 a0_3 a0_4 a0_5 a0_6 a0_7) else (if a0_1 < 1 then (gambitref05_Check.j0 k true a0_0 a0_1 a0_2 a0_3 a0_4 a0_5 a0_6 a0_7) else (if a0_1 > 19 then (gambitref05_Check.j0 k true a0_0 a0_1 a0_2 a0_3 a0_4 a0_5 a0_6 a0_7) else (if a0_2 < 1 then (gambitref05_Check.j0 k true a0_0 a0_1 a0_2 a0_3 a0_4 a0_5 a0_6 a0_7) else (gambitref05_Check.j0 k (decide (a0_2 > 10)) a0_0 a0_1 a0_2 a0_3 a0_4 a0_5 a0_6 a0_7)))))
theorem gambitref05_Check.mono_l : ∀ k, (∀ y0 y1 y2 y3 y4 y5 y6 y7 y8, LeO (gambitref05_Check.j0 k y0 y1 y2 y3 y4 y5 y6 y7 y8) (gambitref05_Check.j0 (k + 1) y0 y1 y2 y3 y4 y5 y6 y7 y8)) ∧ (∀ y0 y1 y2 y3 y4 y5 y6 y7 y8 y9 y10 y11 y12, LeO (gambitref05_Check.j1 k y0 y1 y2 y3 y4 y5 y6 y7 y8 y9 y10 y11 y12) (gambitref05_Check.j1 (k + 1) y0 y1 y2 y3 y4 y5 y6 y7 y8 y9 y10 y11 y12)) ∧ (∀ y0 y1 y2 y3 y4 y5 y6 y7 y8 y9, LeO (gambitref05_Check.j2 k y0 y1 y2 y3 y4 y5 y6 y7 y8 y9) (gambitref05_Check.j2 (k + 1) y0 y1 y2 y3 y4 y5 y6 y7 y8 y9))
 | 0 => ⟨fun _ _ _ _ _ _ _ _ _ r h => by simp [gambitref05_Check.j0] at h, fun _ _ _ _ _ _ _ _ _ _ _ _ _ r h => by simp [gambitref05_Check.j1] at h, fun _ _ _ _ _ _ _ _ _ _ r h => by simp [gambitref05_Check.j2] at h⟩
 | k + 1 => by
  obtain ⟨ih0, ih1, ih2⟩ := gambitref05_Check.mono_l k
  refine ⟨?_, ?_, ?_⟩
  ·intro y0 y1 y2 y3 y4 y5 y6 y7 y8
   unfold gambitref05_Check.j0
   repeat' first
   | (with_reducible exact ih0 _ _ _ _ _ _ _ _ _)
   | (with_reducible exact ih1 _ _ _ _ _ _ _ _ _ _ _ _ _)
   | (with_reducible exact ih2 _ _ _ _ _ _ _ _ _ _)
   | (with_reducible exact gambitref05_Name.mono _ _)
   | (with_reducible exact gambitref05_Uses.mono _ _ _)
   | (with_reducible exact gambitref05_about.mono _ _ _ _ _ _ _ _ _)
   | (with_reducible exact gambitref05_counted.mono _ _ _ _ _ _ _ _ _)
   | (with_reducible exact gambitref05_kind.mono _ _)
   | (with_reducible exact gambitref05_wants.mono _ _)
   | (with_reducible exact LeO.refl _)
   | (with_reducible exact LeO.none _)
   | (with_reducible refine LeO.ite ?_ ?_)
   | (with_reducible refine LeO.bind ?_ (fun _ => ?_))
   | exact ih0 _ _ _ _ _ _ _ _ _
   | exact ih1 _ _ _ _ _ _ _ _ _ _ _ _ _
   | exact ih2 _ _ _ _ _ _ _ _ _ _
   | exact gambitref05_Name.mono _ _
   | exact gambitref05_Uses.mono _ _ _
   | exact gambitref05_about.mono _ _ _ _ _ _ _ _ _
   | exact gambitref05_counted.mono _ _ _ _ _ _ _ _ _
   | exact gambitref05_kind.mono _ _
   | exact gambitref05_wants.mono _ _
   | exact LeO.none _
   | refine LeO.ite ?_ ?_
   | refine LeO.bind ?_ (fun _ => ?_)
  ·intro y0 y1 y2 y3 y4 y5 y6 y7 y8 y9 y10 y11 y12
   unfold gambitref05_Check.j1
   repeat' first
   | (with_reducible exact ih0 _ _ _ _ _ _ _ _ _)
   | (with_reducible exact ih1 _ _ _ _ _ _ _ _ _ _ _ _ _)
   | (with_reducible exact ih2 _ _ _ _ _ _ _ _ _ _)
   | (with_reducible exact gambitref05_Name.mono _ _)
   | (with_reducible exact gambitref05_Uses.mono _ _ _)
   | (with_reducible exact gambitref05_about.mono _ _ _ _ _ _ _ _ _)
   | (with_reducible exact gambitref05_counted.mono _ _ _ _ _ _ _ _ _)
   | (with_reducible exact gambitref05_kind.mono _ _)
   | (with_reducible exact gambitref05_wants.mono _ _)
   | (with_reducible exact LeO.refl _)
   | (with_reducible exact LeO.none _)
   | (with_reducible refine LeO.ite ?_ ?_)
   | (with_reducible refine LeO.bind ?_ (fun _ => ?_))
   | exact ih0 _ _ _ _ _ _ _ _ _
   | exact ih1 _ _ _ _ _ _ _ _ _ _ _ _ _
   | exact ih2 _ _ _ _ _ _ _ _ _ _
   | exact gambitref05_Name.mono _ _
   | exact gambitref05_Uses.mono _ _ _
   | exact gambitref05_about.mono _ _ _ _ _ _ _ _ _
   | exact gambitref05_counted.mono _ _ _ _ _ _ _ _ _
   | exact gambitref05_kind.mono _ _
   | exact gambitref05_wants.mono _ _
   | exact LeO.none _
   | refine LeO.ite ?_ ?_
   | refine LeO.bind ?_ (fun _ => ?_)
  ·intro y0 y1 y2 y3 y4 y5 y6 y7 y8 y9
   unfold gambitref05_Check.j2
   repeat' first
   | (with_reducible exact ih0 _ _ _ _ _ _ _ _ _)
   | (with_reducible exact ih1 _ _ _ _ _ _ _ _ _ _ _ _ _)
   | (with_reducible exact ih2 _ _ _ _ _ _ _ _ _ _)
   | (with_reducible exact gambitref05_Name.mono _ _)
   | (with_reducible exact gambitref05_Uses.mono _ _ _)
   | (with_reducible exact gambitref05_about.mono _ _ _ _ _ _ _ _ _)
   | (with_reducible exact gambitref05_counted.mono _ _ _ _ _ _ _ _ _)
   | (with_reducible exact gambitref05_kind.mono _ _)
   | (with_reducible exact gambitref05_wants.mono _ _)
   | (with_reducible exact LeO.refl _)
   | (with_reducible exact LeO.none _)
   | (with_reducible refine LeO.ite ?_ ?_)
   | (with_reducible refine LeO.bind ?_ (fun _ => ?_))
   | exact ih0 _ _ _ _ _ _ _ _ _
   | exact ih1 _ _ _ _ _ _ _ _ _ _ _ _ _
   | exact ih2 _ _ _ _ _ _ _ _ _ _
   | exact gambitref05_Name.mono _ _
   | exact gambitref05_Uses.mono _ _ _
   | exact gambitref05_about.mono _ _ _ _ _ _ _ _ _
   | exact gambitref05_counted.mono _ _ _ _ _ _ _ _ _
   | exact gambitref05_kind.mono _ _
   | exact gambitref05_wants.mono _ _
   | exact LeO.none _
   | refine LeO.ite ?_ ?_
   | refine LeO.bind ?_ (fun _ => ?_)
theorem gambitref05_Check.mono : ∀ a0 a1 a2 a3 a4 a5 a6 a7 k, LeO (gambitref05_Check.f k a0 a1 a2 a3 a4 a5 a6 a7) (gambitref05_Check.f (k + 1) a0 a1 a2 a3 a4 a5 a6 a7) := by
 intro a0 a1 a2 a3 a4 a5 a6 a7 k
 obtain ⟨ih0, ih1, ih2⟩ := gambitref05_Check.mono_l k
 unfold gambitref05_Check.f
 repeat' first
   | (with_reducible exact ih0 _ _ _ _ _ _ _ _ _)
   | (with_reducible exact ih1 _ _ _ _ _ _ _ _ _ _ _ _ _)
   | (with_reducible exact ih2 _ _ _ _ _ _ _ _ _ _)
   | (with_reducible exact gambitref05_Name.mono _ _)
   | (with_reducible exact gambitref05_Uses.mono _ _ _)
   | (with_reducible exact gambitref05_about.mono _ _ _ _ _ _ _ _ _)
   | (with_reducible exact gambitref05_counted.mono _ _ _ _ _ _ _ _ _)
   | (with_reducible exact gambitref05_kind.mono _ _)
   | (with_reducible exact gambitref05_wants.mono _ _)
   | (with_reducible exact LeO.refl _)
   | (with_reducible exact LeO.none _)
   | (with_reducible refine LeO.ite ?_ ?_)
   | (with_reducible refine LeO.bind ?_ (fun _ => ?_))
   | exact ih0 _ _ _ _ _ _ _ _ _
   | exact ih1 _ _ _ _ _ _ _ _ _ _ _ _ _
   | exact ih2 _ _ _ _ _ _ _ _ _ _
   | exact gambitref05_Name.mono _ _
   | exact gambitref05_Uses.mono _ _ _
   | exact gambitref05_about.mono _ _ _ _ _ _ _ _ _
   | exact gambitref05_counted.mono _ _ _ _ _ _ _ _ _
   | exact gambitref05_kind.mono _ _
   | exact gambitref05_wants.mono _ _
   | exact LeO.none _
   | refine LeO.ite ?_ ?_
   | refine LeO.bind ?_ (fun _ => ?_)
set_option maxHeartbeats 8000000 in
set_option maxRecDepth 100000 in
theorem gambitref05_Check.calls (k : Nat) (a0_0 : Int) (a0_1 : Int) (a0_2 : Int) (a0_3 : Int) (a0_4 : Int) (a0_5 : Int) (a0_6 : Int) (a0_7 : ByteArray) (r : Int) (w : World) (h : gambitref05_Check.f k a0_0 a0_1 a0_2 a0_3 a0_4 a0_5 a0_6 a0_7 = some r) :
  Calls Tryz.prog 46 #[.agg #[.int .u8 a0_0, .int .u8 a0_1, .int .u8 a0_2, .int .i64 a0_3, .int .u8 a0_4, .int .u8 a0_5, .int .u8 a0_6, .string a0_7]] w fun e w' => e = .returned (.int .i64 r) ∧ Below w.heap.size w w' := by
 have hu48 := Tryz.underlying48
 have HB := Aside0.mk (Below.refl w.heap.size w)
 have H : (if a0_0 < 1 then (gambitref05_Check.j0 k true a0_0 a0_1 a0_2 a0_3 a0_4 a0_5 a0_6 a0_7) else (if a0_0 > 6 then (gambitref05_Check.j0 k true a0_0 a0_1 a0_2 a0_3 a0_4 a0_5 a0_6 a0_7) else (if a0_1 < 1 then (gambitref05_Check.j0 k true a0_0 a0_1 a0_2 a0_3 a0_4 a0_5 a0_6 a0_7) else (if a0_1 > 19 then (gambitref05_Check.j0 k true a0_0 a0_1 a0_2 a0_3 a0_4 a0_5 a0_6 a0_7) else (if a0_2 < 1 then (gambitref05_Check.j0 k true a0_0 a0_1 a0_2 a0_3 a0_4 a0_5 a0_6 a0_7) else (gambitref05_Check.j0 k (decide (a0_2 > 10)) a0_0 a0_1 a0_2 a0_3 a0_4 a0_5 a0_6 a0_7)))))) = some r := h
 clear h
 have HC2 := Aside0.mk H
 clear H
 go_enter Tryz.func46, Tryz.ntmps46
 go_upto_region 1 with (first | ((with_reducible refine gate_dst (N := 1) rfl ?_); refine box_event ?hg (N := 1) ?hd (cs := #[.int .u8 a0_0, .int .u8 a0_1, .int .u8 a0_2, .int .i64 a0_3, .int .u8 a0_4, .int .u8 a0_5, .int .u8 a0_6, .string a0_7]) (t := 48) ?hr ?_; (case hd => rfl); (case hg => rfl); (case hr => first | (go_simp; done) | (go_simp; rfl)); intro gb123 hg w3 hbox hb; have BK123 := Aside0.mk (hbox); have GW123 := Aside0.mk ((by rw [hg]; exact (below_size Zb) : w.heap.size ≤ gb123)); have GE123 := Aside0.mk ((by rw [hg]; exact (below_size Zb) : w.heap.size ≤ gb123)); replace HB := Aside0.mk (below_step Zb hb); clear hb hbox hg))
 repeat (go_quiet (first | ((with_reducible refine gate_dst (N := 1) rfl ?_); refine box_event ?hg (N := 1) ?hd (cs := #[.int .u8 a0_0, .int .u8 a0_1, .int .u8 a0_2, .int .i64 a0_3, .int .u8 a0_4, .int .u8 a0_5, .int .u8 a0_6, .string a0_7]) (t := 48) ?hr ?_; (case hd => rfl); (case hg => rfl); (case hr => first | (go_simp; done) | (go_simp; rfl)); intro gb123 hg w3 hbox hb; have BK123 := Aside0.mk (hbox); have GW123 := Aside0.mk ((by rw [hg]; exact (below_size Zb) : w.heap.size ≤ gb123)); have GE123 := Aside0.mk ((by rw [hg]; exact (below_size Zb) : w.heap.size ≤ gb123)); replace HB := Aside0.mk (below_step Zb hb); clear hb hbox hg)); go_upto_region 1 with (first | ((with_reducible refine gate_dst (N := 1) rfl ?_); refine box_event ?hg (N := 1) ?hd (cs := #[.int .u8 a0_0, .int .u8 a0_1, .int .u8 a0_2, .int .i64 a0_3, .int .u8 a0_4, .int .u8 a0_5, .int .u8 a0_6, .string a0_7]) (t := 48) ?hr ?_; (case hd => rfl); (case hg => rfl); (case hr => first | (go_simp; done) | (go_simp; rfl)); intro gb123 hg w3 hbox hb; have BK123 := Aside0.mk (hbox); have GW123 := Aside0.mk ((by rw [hg]; exact (below_size Zb) : w.heap.size ≤ gb123)); have GE123 := Aside0.mk ((by rw [hg]; exact (below_size Zb) : w.heap.size ≤ gb123)); replace HB := Aside0.mk (below_step Zb hb); clear hb hbox hg)))
 (try simp only [Act.put, List.setIfInBounds_toArray, List.set_cons_zero, List.set_cons_succ])
 go_cut [35] (fun v35 wc => ∃ (kq : Nat) (x35_1 : Bool), v35 = .bool x35_1 ∧ Aside0 (gambitref05_Check.j0 kq x35_1 a0_0 a0_1 a0_2 a0_3 a0_4 a0_5 a0_6 a0_7 = some r) ∧ Aside0 (kq ≤ k) ∧ Aside0 (wc.heap[gb123]? = some (.cells #[.int .u8 a0_0, .int .u8 a0_1, .int .u8 a0_2, .int .i64 a0_3, .int .u8 a0_4, .int .u8 a0_5, .int .u8 a0_6, .string a0_7] 48 (0, 0))) ∧ Aside0 (Below w.heap.size w wc))
 case first =>
  have H := HC2.out
  clear HC2
  by_cases c4 : a0_0 < 1
  ·rw [if_pos c4] at H
   have c4b0 : decide (a0_0 < 1) = true := decide_eq_true c4
   clear c4
   (first | rw [c4b0] | (simp only [i64_w, i32_w]; rw [c4b0]) | skip)
   have H' := Aside0.mk H
   clear H
   have hcz5_0 := Zc BK123.out 0 (.int .u8 a0_0) rfl
   have hcz5_1 := Zc BK123.out 1 (.int .u8 a0_1) rfl
   have hcz5_2 := Zc BK123.out 2 (.int .u8 a0_2) rfl
   have hcz5_3 := Zc BK123.out 3 (.int .i64 a0_3) rfl
   have hcz5_4 := Zc BK123.out 4 (.int .u8 a0_4) rfl
   have hcz5_5 := Zc BK123.out 5 (.int .u8 a0_5) rfl
   have hcz5_6 := Zc BK123.out 6 (.int .u8 a0_6) rfl
   have hcz5_7 := Zc BK123.out 7 (.string a0_7) rfl
   have hfz5_0 := blk_frozen BK123.out 0
   have hfz5_1 := blk_frozen BK123.out 1
   have hfz5_2 := blk_frozen BK123.out 2
   have hfz5_3 := blk_frozen BK123.out 3
   have hfz5_4 := blk_frozen BK123.out 4
   have hfz5_5 := blk_frozen BK123.out 5
   have hfz5_6 := blk_frozen BK123.out 6
   have hfz5_7 := blk_frozen BK123.out 7
   go_wp2
   repeat (go_quiet (fail); try go_wp2)
   go_meet
   case rel => exact ⟨_, (true), Zs, H', ⟨by first | omega | exact Nat.le_refl _⟩, ⟨Zk BK123.out⟩, ⟨Zb1 GE123.out⟩⟩
  ·rw [if_neg c4] at H
   have c4b0 : decide (a0_0 < 1) = false := decide_eq_false c4
   clear c4
   (first | rw [c4b0] | (simp only [i64_w, i32_w]; rw [c4b0]) | skip)
   by_cases c6 : a0_0 > 6
   ·rw [if_pos c6] at H
    have c6b0 : decide (6 < a0_0) = true := decide_eq_true c6
    clear c6
    have H' := Aside0.mk H
    clear H
    have hcz7_0 := Zc BK123.out 0 (.int .u8 a0_0) rfl
    have hcz7_1 := Zc BK123.out 1 (.int .u8 a0_1) rfl
    have hcz7_2 := Zc BK123.out 2 (.int .u8 a0_2) rfl
    have hcz7_3 := Zc BK123.out 3 (.int .i64 a0_3) rfl
    have hcz7_4 := Zc BK123.out 4 (.int .u8 a0_4) rfl
    have hcz7_5 := Zc BK123.out 5 (.int .u8 a0_5) rfl
    have hcz7_6 := Zc BK123.out 6 (.int .u8 a0_6) rfl
    have hcz7_7 := Zc BK123.out 7 (.string a0_7) rfl
    have hfz7_0 := blk_frozen BK123.out 0
    have hfz7_1 := blk_frozen BK123.out 1
    have hfz7_2 := blk_frozen BK123.out 2
    have hfz7_3 := blk_frozen BK123.out 3
    have hfz7_4 := blk_frozen BK123.out 4
    have hfz7_5 := blk_frozen BK123.out 5
    have hfz7_6 := blk_frozen BK123.out 6
    have hfz7_7 := blk_frozen BK123.out 7
    go_wp2
    repeat (go_quiet (fail); try go_wp2)
    go_meet
    case rel => exact ⟨_, (true), Zs, H', ⟨by first | omega | exact Nat.le_refl _⟩, ⟨Zk BK123.out⟩, ⟨Zb1 GE123.out⟩⟩
   ·rw [if_neg c6] at H
    have c6b0 : decide (6 < a0_0) = false := decide_eq_false c6
    clear c6
    by_cases c8 : a0_1 < 1
    ·rw [if_pos c8] at H
     have c8b0 : decide (a0_1 < 1) = true := decide_eq_true c8
     clear c8
     have H' := Aside0.mk H
     clear H
     have hcz9_0 := Zc BK123.out 0 (.int .u8 a0_0) rfl
     have hcz9_1 := Zc BK123.out 1 (.int .u8 a0_1) rfl
     have hcz9_2 := Zc BK123.out 2 (.int .u8 a0_2) rfl
     have hcz9_3 := Zc BK123.out 3 (.int .i64 a0_3) rfl
     have hcz9_4 := Zc BK123.out 4 (.int .u8 a0_4) rfl
     have hcz9_5 := Zc BK123.out 5 (.int .u8 a0_5) rfl
     have hcz9_6 := Zc BK123.out 6 (.int .u8 a0_6) rfl
     have hcz9_7 := Zc BK123.out 7 (.string a0_7) rfl
     have hfz9_0 := blk_frozen BK123.out 0
     have hfz9_1 := blk_frozen BK123.out 1
     have hfz9_2 := blk_frozen BK123.out 2
     have hfz9_3 := blk_frozen BK123.out 3
     have hfz9_4 := blk_frozen BK123.out 4
     have hfz9_5 := blk_frozen BK123.out 5
     have hfz9_6 := blk_frozen BK123.out 6
     have hfz9_7 := blk_frozen BK123.out 7
     go_wp2
     repeat (go_quiet (fail); try go_wp2)
     go_meet
     case rel => exact ⟨_, (true), Zs, H', ⟨by first | omega | exact Nat.le_refl _⟩, ⟨Zk BK123.out⟩, ⟨Zb1 GE123.out⟩⟩
    ·rw [if_neg c8] at H
     have c8b0 : decide (a0_1 < 1) = false := decide_eq_false c8
     clear c8
     by_cases c10 : a0_1 > 19
     ·rw [if_pos c10] at H
      have c10b0 : decide (19 < a0_1) = true := decide_eq_true c10
      clear c10
      have H' := Aside0.mk H
      clear H
      have hcz11_0 := Zc BK123.out 0 (.int .u8 a0_0) rfl
      have hcz11_1 := Zc BK123.out 1 (.int .u8 a0_1) rfl
      have hcz11_2 := Zc BK123.out 2 (.int .u8 a0_2) rfl
      have hcz11_3 := Zc BK123.out 3 (.int .i64 a0_3) rfl
      have hcz11_4 := Zc BK123.out 4 (.int .u8 a0_4) rfl
      have hcz11_5 := Zc BK123.out 5 (.int .u8 a0_5) rfl
      have hcz11_6 := Zc BK123.out 6 (.int .u8 a0_6) rfl
      have hcz11_7 := Zc BK123.out 7 (.string a0_7) rfl
      have hfz11_0 := blk_frozen BK123.out 0
      have hfz11_1 := blk_frozen BK123.out 1
      have hfz11_2 := blk_frozen BK123.out 2
      have hfz11_3 := blk_frozen BK123.out 3
      have hfz11_4 := blk_frozen BK123.out 4
      have hfz11_5 := blk_frozen BK123.out 5
      have hfz11_6 := blk_frozen BK123.out 6
      have hfz11_7 := blk_frozen BK123.out 7
      go_wp2
      repeat (go_quiet (fail); try go_wp2)
      go_meet
      case rel => exact ⟨_, (true), Zs, H', ⟨by first | omega | exact Nat.le_refl _⟩, ⟨Zk BK123.out⟩, ⟨Zb1 GE123.out⟩⟩
     ·rw [if_neg c10] at H
      have c10b0 : decide (19 < a0_1) = false := decide_eq_false c10
      clear c10
      by_cases c12 : a0_2 < 1
      ·rw [if_pos c12] at H
       have c12b0 : decide (a0_2 < 1) = true := decide_eq_true c12
       clear c12
       have H' := Aside0.mk H
       clear H
       have hcz13_0 := Zc BK123.out 0 (.int .u8 a0_0) rfl
       have hcz13_1 := Zc BK123.out 1 (.int .u8 a0_1) rfl
       have hcz13_2 := Zc BK123.out 2 (.int .u8 a0_2) rfl
       have hcz13_3 := Zc BK123.out 3 (.int .i64 a0_3) rfl
       have hcz13_4 := Zc BK123.out 4 (.int .u8 a0_4) rfl
       have hcz13_5 := Zc BK123.out 5 (.int .u8 a0_5) rfl
       have hcz13_6 := Zc BK123.out 6 (.int .u8 a0_6) rfl
       have hcz13_7 := Zc BK123.out 7 (.string a0_7) rfl
       have hfz13_0 := blk_frozen BK123.out 0
       have hfz13_1 := blk_frozen BK123.out 1
       have hfz13_2 := blk_frozen BK123.out 2
       have hfz13_3 := blk_frozen BK123.out 3
       have hfz13_4 := blk_frozen BK123.out 4
       have hfz13_5 := blk_frozen BK123.out 5
       have hfz13_6 := blk_frozen BK123.out 6
       have hfz13_7 := blk_frozen BK123.out 7
       go_wp2
       repeat (go_quiet (fail); try go_wp2)
       go_meet
       case rel => exact ⟨_, (true), Zs, H', ⟨by first | omega | exact Nat.le_refl _⟩, ⟨Zk BK123.out⟩, ⟨Zb1 GE123.out⟩⟩
      ·rw [if_neg c12] at H
       have c12b0 : decide (a0_2 < 1) = false := decide_eq_false c12
       clear c12
       have H' := Aside0.mk H
       clear H
       have hcz14_0 := Zc BK123.out 0 (.int .u8 a0_0) rfl
       have hcz14_1 := Zc BK123.out 1 (.int .u8 a0_1) rfl
       have hcz14_2 := Zc BK123.out 2 (.int .u8 a0_2) rfl
       have hcz14_3 := Zc BK123.out 3 (.int .i64 a0_3) rfl
       have hcz14_4 := Zc BK123.out 4 (.int .u8 a0_4) rfl
       have hcz14_5 := Zc BK123.out 5 (.int .u8 a0_5) rfl
       have hcz14_6 := Zc BK123.out 6 (.int .u8 a0_6) rfl
       have hcz14_7 := Zc BK123.out 7 (.string a0_7) rfl
       have hfz14_0 := blk_frozen BK123.out 0
       have hfz14_1 := blk_frozen BK123.out 1
       have hfz14_2 := blk_frozen BK123.out 2
       have hfz14_3 := blk_frozen BK123.out 3
       have hfz14_4 := blk_frozen BK123.out 4
       have hfz14_5 := blk_frozen BK123.out 5
       have hfz14_6 := blk_frozen BK123.out 6
       have hfz14_7 := blk_frozen BK123.out 7
       go_wp2
       repeat (go_quiet (fail); try go_wp2)
       go_meet
       case rel => exact ⟨_, (decide (a0_2 > 10)), Zs, H', ⟨by first | omega | exact Nat.le_refl _⟩, ⟨Zk BK123.out⟩, ⟨Zb1 GE123.out⟩⟩
 case rest =>
  clear HC2
  try clear c1
  try clear p2
  try clear c4
  try clear c4b0
  try clear c6
  try clear c6b0
  try clear c8
  try clear c8b0
  try clear c10
  try clear c10b0
  try clear c12
  try clear c12b0
  try clear hcz11_0
  try clear hcz11_1
  try clear hcz11_2
  try clear hcz11_3
  try clear hcz11_4
  try clear hcz11_5
  try clear hcz11_6
  try clear hcz11_7
  try clear hcz13_0
  try clear hcz13_1
  try clear hcz13_2
  try clear hcz13_3
  try clear hcz13_4
  try clear hcz13_5
  try clear hcz13_6
  try clear hcz13_7
  try clear hcz14_0
  try clear hcz14_1
  try clear hcz14_2
  try clear hcz14_3
  try clear hcz14_4
  try clear hcz14_5
  try clear hcz14_6
  try clear hcz14_7
  try clear hcz5_0
  try clear hcz5_1
  try clear hcz5_2
  try clear hcz5_3
  try clear hcz5_4
  try clear hcz5_5
  try clear hcz5_6
  try clear hcz5_7
  try clear hcz7_0
  try clear hcz7_1
  try clear hcz7_2
  try clear hcz7_3
  try clear hcz7_4
  try clear hcz7_5
  try clear hcz7_6
  try clear hcz7_7
  try clear hcz9_0
  try clear hcz9_1
  try clear hcz9_2
  try clear hcz9_3
  try clear hcz9_4
  try clear hcz9_5
  try clear hcz9_6
  try clear hcz9_7
  try clear hfz11_0
  try clear hfz11_1
  try clear hfz11_2
  try clear hfz11_3
  try clear hfz11_4
  try clear hfz11_5
  try clear hfz11_6
  try clear hfz11_7
  try clear hfz13_0
  try clear hfz13_1
  try clear hfz13_2
  try clear hfz13_3
  try clear hfz13_4
  try clear hfz13_5
  try clear hfz13_6
  try clear hfz13_7
  try clear hfz14_0
  try clear hfz14_1
  try clear hfz14_2
  try clear hfz14_3
  try clear hfz14_4
  try clear hfz14_5
  try clear hfz14_6
  try clear hfz14_7
  try clear hfz5_0
  try clear hfz5_1
  try clear hfz5_2
  try clear hfz5_3
  try clear hfz5_4
  try clear hfz5_5
  try clear hfz5_6
  try clear hfz5_7
  try clear hfz7_0
  try clear hfz7_1
  try clear hfz7_2
  try clear hfz7_3
  try clear hfz7_4
  try clear hfz7_5
  try clear hfz7_6
  try clear hfz7_7
  try clear hfz9_0
  try clear hfz9_1
  try clear hfz9_2
  try clear hfz9_3
  try clear hfz9_4
  try clear hfz9_5
  try clear hfz9_6
  try clear hfz9_7
  obtain ⟨kq, x35_1, rfl, HA, HJ1, BK123, HB⟩ := hcut
  cases kq with
  | zero => exact absurd HA.out (by simp [gambitref05_Check.j0])
  | succ kj1 =>
   have H := HA.out
   clear HA
   simp only [gambitref05_Check.j0] at H
   by_cases c15 : x35_1 = true
   ·subst c15
    have H1 : (some 2) = some r := by rw [if_pos rfl] at H; exact H
    clear H
    have H := H1
    clear H1
    obtain rfl := Option.some.inj H
    go_wp2
    repeat (go_quiet (fail); try go_wp2)
    go_ret
    exact ⟨Ze, Zb1 GE123.out⟩
   ·replace c15 := Bool.eq_false_iff.mpr c15
    subst c15
    have H1 : ((gambitref05_Uses.f kj1 a0_1 a0_2).bind fun bt124 => ((gambitref05_kind.f kj1 a0_1).bind fun t129 => ((gambitref05_wants.f kj1 a0_0).bind fun t130 => (if t129 = t130 then (if a0_1 = 11 then (gambitref05_Check.j1 kj1 bt124.2.1 bt124.2.2.1 bt124.2.2.2.1 bt124.2.2.2.2 (a0_2 == 9) a0_0 a0_1 a0_2 a0_3 a0_4 a0_5 a0_6 a0_7) else (gambitref05_Check.j1 kj1 bt124.2.1 bt124.2.2.1 bt124.2.2.2.1 bt124.2.2.2.2 false a0_0 a0_1 a0_2 a0_3 a0_4 a0_5 a0_6 a0_7)) else (gambitref05_Check.j1 kj1 bt124.2.1 bt124.2.2.1 bt124.2.2.2.1 bt124.2.2.2.2 true a0_0 a0_1 a0_2 a0_3 a0_4 a0_5 a0_6 a0_7))))) = some r := by rw [if_neg (show ¬ (false = true) by decide)] at H; exact H
    clear H
    have H := H1
    clear H1
    replace H := Option.bind_eq_some_iff.mp H
    obtain ⟨⟨t124, t125, t126, t127, t128⟩, A160, H⟩ := H
    replace H : ((gambitref05_kind.f kj1 a0_1).bind fun t129 => ((gambitref05_wants.f kj1 a0_0).bind fun t130 => (if t129 = t130 then (if a0_1 = 11 then (gambitref05_Check.j1 kj1 t125 t126 t127 t128 (a0_2 == 9) a0_0 a0_1 a0_2 a0_3 a0_4 a0_5 a0_6 a0_7) else (gambitref05_Check.j1 kj1 t125 t126 t127 t128 false a0_0 a0_1 a0_2 a0_3 a0_4 a0_5 a0_6 a0_7)) else (gambitref05_Check.j1 kj1 t125 t126 t127 t128 true a0_0 a0_1 a0_2 a0_3 a0_4 a0_5 a0_6 a0_7)))) = some r := H
    have A16 := Aside0.mk A160
    clear A160
    have HC17 := Aside0.mk H
    clear H
    have hcz18_0 := Zc BK123.out 0 (.int .u8 a0_0) rfl
    have hcz18_1 := Zc BK123.out 1 (.int .u8 a0_1) rfl
    have hcz18_2 := Zc BK123.out 2 (.int .u8 a0_2) rfl
    have hcz18_3 := Zc BK123.out 3 (.int .i64 a0_3) rfl
    have hcz18_4 := Zc BK123.out 4 (.int .u8 a0_4) rfl
    have hcz18_5 := Zc BK123.out 5 (.int .u8 a0_5) rfl
    have hcz18_6 := Zc BK123.out 6 (.int .u8 a0_6) rfl
    have hcz18_7 := Zc BK123.out 7 (.string a0_7) rfl
    have hfz18_0 := blk_frozen BK123.out 0
    have hfz18_1 := blk_frozen BK123.out 1
    have hfz18_2 := blk_frozen BK123.out 2
    have hfz18_3 := blk_frozen BK123.out 3
    have hfz18_4 := blk_frozen BK123.out 4
    have hfz18_5 := blk_frozen BK123.out 5
    have hfz18_6 := blk_frozen BK123.out 6
    have hfz18_7 := blk_frozen BK123.out 7
    go_upto_region 4 with (first | (go_at_call 89; (with_reducible refine (gambitref05_Uses.calls kj1 a0_1 a0_2 t124 t125 t126 t127 t128 _ A16.out).mono ?_); rintro e w' ⟨rfl, ⟨nd, rfl⟩⟩; (try first | exact ⟨rfl, _, World.drewN_drewN _ _ _⟩ | exact ⟨rfl, _, Eq.trans (World.drewN_drewN _ _ _) (congrArg (World.drewN _) (Nat.add_assoc _ _ _))⟩)))
    repeat (go_quiet (first | (go_at_call 89; (with_reducible refine (gambitref05_Uses.calls kj1 a0_1 a0_2 t124 t125 t126 t127 t128 _ A16.out).mono ?_); rintro e w' ⟨rfl, ⟨nd, rfl⟩⟩; (try first | exact ⟨rfl, _, World.drewN_drewN _ _ _⟩ | exact ⟨rfl, _, Eq.trans (World.drewN_drewN _ _ _) (congrArg (World.drewN _) (Nat.add_assoc _ _ _))⟩))); go_upto_region 4 with (first | (go_at_call 89; (with_reducible refine (gambitref05_Uses.calls kj1 a0_1 a0_2 t124 t125 t126 t127 t128 _ A16.out).mono ?_); rintro e w' ⟨rfl, ⟨nd, rfl⟩⟩; (try first | exact ⟨rfl, _, World.drewN_drewN _ _ _⟩ | exact ⟨rfl, _, Eq.trans (World.drewN_drewN _ _ _) (congrArg (World.drewN _) (Nat.add_assoc _ _ _))⟩))))
    (try simp only [Act.put, List.setIfInBounds_toArray, List.set_cons_zero, List.set_cons_succ])
    go_cut [47] (fun v47 wc => ∃ (kq : Nat) (x47_16 : Bool), v47 = .bool x47_16 ∧ Aside0 (gambitref05_Check.j1 kq t125 t126 t127 t128 x47_16 a0_0 a0_1 a0_2 a0_3 a0_4 a0_5 a0_6 a0_7 = some r) ∧ Aside0 (kq ≤ kj1) ∧ Aside0 (wc.heap[gb123]? = some (.cells #[.int .u8 a0_0, .int .u8 a0_1, .int .u8 a0_2, .int .i64 a0_3, .int .u8 a0_4, .int .u8 a0_5, .int .u8 a0_6, .string a0_7] 48 (0, 0))) ∧ Aside0 (Below w.heap.size w wc))
    case first =>
     have H := HC17.out
     clear HC17
     replace H := Option.bind_eq_some_iff.mp H
     obtain ⟨t129, A190, H⟩ := H
     replace H : ((gambitref05_wants.f kj1 a0_0).bind fun t130 => (if t129 = t130 then (if a0_1 = 11 then (gambitref05_Check.j1 kj1 t125 t126 t127 t128 (a0_2 == 9) a0_0 a0_1 a0_2 a0_3 a0_4 a0_5 a0_6 a0_7) else (gambitref05_Check.j1 kj1 t125 t126 t127 t128 false a0_0 a0_1 a0_2 a0_3 a0_4 a0_5 a0_6 a0_7)) else (gambitref05_Check.j1 kj1 t125 t126 t127 t128 true a0_0 a0_1 a0_2 a0_3 a0_4 a0_5 a0_6 a0_7))) = some r := H
     have A19 := Aside0.mk A190
     clear A190
     replace H := Option.bind_eq_some_iff.mp H
     obtain ⟨t130, A200, H⟩ := H
     replace H : (if t129 = t130 then (if a0_1 = 11 then (gambitref05_Check.j1 kj1 t125 t126 t127 t128 (a0_2 == 9) a0_0 a0_1 a0_2 a0_3 a0_4 a0_5 a0_6 a0_7) else (gambitref05_Check.j1 kj1 t125 t126 t127 t128 false a0_0 a0_1 a0_2 a0_3 a0_4 a0_5 a0_6 a0_7)) else (gambitref05_Check.j1 kj1 t125 t126 t127 t128 true a0_0 a0_1 a0_2 a0_3 a0_4 a0_5 a0_6 a0_7)) = some r := H
     have A20 := Aside0.mk A200
     clear A200
     by_cases c21 : t129 = t130
     ·rw [if_pos c21] at H
      have c21b0 : (t129 == t130) = true := beq_iff_eq.mpr c21
      have c21b1 : (t129 != t130) = false := bne_eq_false_iff_eq.mpr c21
      clear c21
      (first | rw [c21b0] | (simp only [i64_w, i32_w]; rw [c21b0]) | skip)
      by_cases c22 : a0_1 = 11
      ·rw [if_pos c22] at H
       have c22b0 : (a0_1 == 11) = true := beq_iff_eq.mpr c22
       have c22b1 : (a0_1 != 11) = false := bne_eq_false_iff_eq.mpr c22
       clear c22
       have H' := Aside0.mk H
       clear H
       have hcz23_0 := Zc BK123.out 0 (.int .u8 a0_0) rfl
       have hcz23_1 := Zc BK123.out 1 (.int .u8 a0_1) rfl
       have hcz23_2 := Zc BK123.out 2 (.int .u8 a0_2) rfl
       have hcz23_3 := Zc BK123.out 3 (.int .i64 a0_3) rfl
       have hcz23_4 := Zc BK123.out 4 (.int .u8 a0_4) rfl
       have hcz23_5 := Zc BK123.out 5 (.int .u8 a0_5) rfl
       have hcz23_6 := Zc BK123.out 6 (.int .u8 a0_6) rfl
       have hcz23_7 := Zc BK123.out 7 (.string a0_7) rfl
       have hfz23_0 := blk_frozen BK123.out 0
       have hfz23_1 := blk_frozen BK123.out 1
       have hfz23_2 := blk_frozen BK123.out 2
       have hfz23_3 := blk_frozen BK123.out 3
       have hfz23_4 := blk_frozen BK123.out 4
       have hfz23_5 := blk_frozen BK123.out 5
       have hfz23_6 := blk_frozen BK123.out 6
       have hfz23_7 := blk_frozen BK123.out 7
       go_wp2_with (first | (go_at_call 91; (with_reducible refine (gambitref05_kind.calls kj1 a0_1 t129 _ A19.out).mono ?_); rintro e w' ⟨rfl, ⟨nd, rfl⟩⟩; (try first | exact ⟨rfl, _, World.drewN_drewN _ _ _⟩ | exact ⟨rfl, _, Eq.trans (World.drewN_drewN _ _ _) (congrArg (World.drewN _) (Nat.add_assoc _ _ _))⟩)) | (go_at_call 92; (with_reducible refine (gambitref05_wants.calls kj1 a0_0 t130 _ A20.out).mono ?_); rintro e w' ⟨rfl, ⟨nd, rfl⟩⟩; (try first | exact ⟨rfl, _, World.drewN_drewN _ _ _⟩ | exact ⟨rfl, _, Eq.trans (World.drewN_drewN _ _ _) (congrArg (World.drewN _) (Nat.add_assoc _ _ _))⟩)))
       repeat (go_quiet (first | (go_at_call 91; (with_reducible refine (gambitref05_kind.calls kj1 a0_1 t129 _ A19.out).mono ?_); rintro e w' ⟨rfl, ⟨nd, rfl⟩⟩; (try first | exact ⟨rfl, _, World.drewN_drewN _ _ _⟩ | exact ⟨rfl, _, Eq.trans (World.drewN_drewN _ _ _) (congrArg (World.drewN _) (Nat.add_assoc _ _ _))⟩)) | (go_at_call 92; (with_reducible refine (gambitref05_wants.calls kj1 a0_0 t130 _ A20.out).mono ?_); rintro e w' ⟨rfl, ⟨nd, rfl⟩⟩; (try first | exact ⟨rfl, _, World.drewN_drewN _ _ _⟩ | exact ⟨rfl, _, Eq.trans (World.drewN_drewN _ _ _) (congrArg (World.drewN _) (Nat.add_assoc _ _ _))⟩))); try go_wp2_with (first | (go_at_call 91; (with_reducible refine (gambitref05_kind.calls kj1 a0_1 t129 _ A19.out).mono ?_); rintro e w' ⟨rfl, ⟨nd, rfl⟩⟩; (try first | exact ⟨rfl, _, World.drewN_drewN _ _ _⟩ | exact ⟨rfl, _, Eq.trans (World.drewN_drewN _ _ _) (congrArg (World.drewN _) (Nat.add_assoc _ _ _))⟩)) | (go_at_call 92; (with_reducible refine (gambitref05_wants.calls kj1 a0_0 t130 _ A20.out).mono ?_); rintro e w' ⟨rfl, ⟨nd, rfl⟩⟩; (try first | exact ⟨rfl, _, World.drewN_drewN _ _ _⟩ | exact ⟨rfl, _, Eq.trans (World.drewN_drewN _ _ _) (congrArg (World.drewN _) (Nat.add_assoc _ _ _))⟩))))
       go_meet
       case rel => exact ⟨_, ((a0_2 == 9)), Zs, H', ⟨by have := HJ1.out; first | omega | exact Nat.le_refl _⟩, ⟨Zk BK123.out⟩, ⟨Zb1 GE123.out⟩⟩
      ·rw [if_neg c22] at H
       have c22b0 : (a0_1 == 11) = false := beq_eq_false_iff_ne.mpr c22
       have c22b1 : (a0_1 != 11) = true := bne_iff_ne.mpr c22
       have H' := Aside0.mk H
       clear H
       have hcz24_0 := Zc BK123.out 0 (.int .u8 a0_0) rfl
       have hcz24_1 := Zc BK123.out 1 (.int .u8 a0_1) rfl
       have hcz24_2 := Zc BK123.out 2 (.int .u8 a0_2) rfl
       have hcz24_3 := Zc BK123.out 3 (.int .i64 a0_3) rfl
       have hcz24_4 := Zc BK123.out 4 (.int .u8 a0_4) rfl
       have hcz24_5 := Zc BK123.out 5 (.int .u8 a0_5) rfl
       have hcz24_6 := Zc BK123.out 6 (.int .u8 a0_6) rfl
       have hcz24_7 := Zc BK123.out 7 (.string a0_7) rfl
       have hfz24_0 := blk_frozen BK123.out 0
       have hfz24_1 := blk_frozen BK123.out 1
       have hfz24_2 := blk_frozen BK123.out 2
       have hfz24_3 := blk_frozen BK123.out 3
       have hfz24_4 := blk_frozen BK123.out 4
       have hfz24_5 := blk_frozen BK123.out 5
       have hfz24_6 := blk_frozen BK123.out 6
       have hfz24_7 := blk_frozen BK123.out 7
       go_wp2_with (first | (go_at_call 91; (with_reducible refine (gambitref05_kind.calls kj1 a0_1 t129 _ A19.out).mono ?_); rintro e w' ⟨rfl, ⟨nd, rfl⟩⟩; (try first | exact ⟨rfl, _, World.drewN_drewN _ _ _⟩ | exact ⟨rfl, _, Eq.trans (World.drewN_drewN _ _ _) (congrArg (World.drewN _) (Nat.add_assoc _ _ _))⟩)) | (go_at_call 92; (with_reducible refine (gambitref05_wants.calls kj1 a0_0 t130 _ A20.out).mono ?_); rintro e w' ⟨rfl, ⟨nd, rfl⟩⟩; (try first | exact ⟨rfl, _, World.drewN_drewN _ _ _⟩ | exact ⟨rfl, _, Eq.trans (World.drewN_drewN _ _ _) (congrArg (World.drewN _) (Nat.add_assoc _ _ _))⟩)))
       repeat (go_quiet (first | (go_at_call 91; (with_reducible refine (gambitref05_kind.calls kj1 a0_1 t129 _ A19.out).mono ?_); rintro e w' ⟨rfl, ⟨nd, rfl⟩⟩; (try first | exact ⟨rfl, _, World.drewN_drewN _ _ _⟩ | exact ⟨rfl, _, Eq.trans (World.drewN_drewN _ _ _) (congrArg (World.drewN _) (Nat.add_assoc _ _ _))⟩)) | (go_at_call 92; (with_reducible refine (gambitref05_wants.calls kj1 a0_0 t130 _ A20.out).mono ?_); rintro e w' ⟨rfl, ⟨nd, rfl⟩⟩; (try first | exact ⟨rfl, _, World.drewN_drewN _ _ _⟩ | exact ⟨rfl, _, Eq.trans (World.drewN_drewN _ _ _) (congrArg (World.drewN _) (Nat.add_assoc _ _ _))⟩))); try go_wp2_with (first | (go_at_call 91; (with_reducible refine (gambitref05_kind.calls kj1 a0_1 t129 _ A19.out).mono ?_); rintro e w' ⟨rfl, ⟨nd, rfl⟩⟩; (try first | exact ⟨rfl, _, World.drewN_drewN _ _ _⟩ | exact ⟨rfl, _, Eq.trans (World.drewN_drewN _ _ _) (congrArg (World.drewN _) (Nat.add_assoc _ _ _))⟩)) | (go_at_call 92; (with_reducible refine (gambitref05_wants.calls kj1 a0_0 t130 _ A20.out).mono ?_); rintro e w' ⟨rfl, ⟨nd, rfl⟩⟩; (try first | exact ⟨rfl, _, World.drewN_drewN _ _ _⟩ | exact ⟨rfl, _, Eq.trans (World.drewN_drewN _ _ _) (congrArg (World.drewN _) (Nat.add_assoc _ _ _))⟩))))
       go_meet
       case rel => exact ⟨_, (false), Zs, H', ⟨by have := HJ1.out; first | omega | exact Nat.le_refl _⟩, ⟨Zk BK123.out⟩, ⟨Zb1 GE123.out⟩⟩
     ·rw [if_neg c21] at H
      have c21b0 : (t129 == t130) = false := beq_eq_false_iff_ne.mpr c21
      have c21b1 : (t129 != t130) = true := bne_iff_ne.mpr c21
      (first | rw [c21b0] | (simp only [i64_w, i32_w]; rw [c21b0]) | skip)
      have H' := Aside0.mk H
      clear H
      have hcz25_0 := Zc BK123.out 0 (.int .u8 a0_0) rfl
      have hcz25_1 := Zc BK123.out 1 (.int .u8 a0_1) rfl
      have hcz25_2 := Zc BK123.out 2 (.int .u8 a0_2) rfl
      have hcz25_3 := Zc BK123.out 3 (.int .i64 a0_3) rfl
      have hcz25_4 := Zc BK123.out 4 (.int .u8 a0_4) rfl
      have hcz25_5 := Zc BK123.out 5 (.int .u8 a0_5) rfl
      have hcz25_6 := Zc BK123.out 6 (.int .u8 a0_6) rfl
      have hcz25_7 := Zc BK123.out 7 (.string a0_7) rfl
      have hfz25_0 := blk_frozen BK123.out 0
      have hfz25_1 := blk_frozen BK123.out 1
      have hfz25_2 := blk_frozen BK123.out 2
      have hfz25_3 := blk_frozen BK123.out 3
      have hfz25_4 := blk_frozen BK123.out 4
      have hfz25_5 := blk_frozen BK123.out 5
      have hfz25_6 := blk_frozen BK123.out 6
      have hfz25_7 := blk_frozen BK123.out 7
      go_wp2_with (first | (go_at_call 91; (with_reducible refine (gambitref05_kind.calls kj1 a0_1 t129 _ A19.out).mono ?_); rintro e w' ⟨rfl, ⟨nd, rfl⟩⟩; (try first | exact ⟨rfl, _, World.drewN_drewN _ _ _⟩ | exact ⟨rfl, _, Eq.trans (World.drewN_drewN _ _ _) (congrArg (World.drewN _) (Nat.add_assoc _ _ _))⟩)) | (go_at_call 92; (with_reducible refine (gambitref05_wants.calls kj1 a0_0 t130 _ A20.out).mono ?_); rintro e w' ⟨rfl, ⟨nd, rfl⟩⟩; (try first | exact ⟨rfl, _, World.drewN_drewN _ _ _⟩ | exact ⟨rfl, _, Eq.trans (World.drewN_drewN _ _ _) (congrArg (World.drewN _) (Nat.add_assoc _ _ _))⟩)))
      repeat (go_quiet (first | (go_at_call 91; (with_reducible refine (gambitref05_kind.calls kj1 a0_1 t129 _ A19.out).mono ?_); rintro e w' ⟨rfl, ⟨nd, rfl⟩⟩; (try first | exact ⟨rfl, _, World.drewN_drewN _ _ _⟩ | exact ⟨rfl, _, Eq.trans (World.drewN_drewN _ _ _) (congrArg (World.drewN _) (Nat.add_assoc _ _ _))⟩)) | (go_at_call 92; (with_reducible refine (gambitref05_wants.calls kj1 a0_0 t130 _ A20.out).mono ?_); rintro e w' ⟨rfl, ⟨nd, rfl⟩⟩; (try first | exact ⟨rfl, _, World.drewN_drewN _ _ _⟩ | exact ⟨rfl, _, Eq.trans (World.drewN_drewN _ _ _) (congrArg (World.drewN _) (Nat.add_assoc _ _ _))⟩))); try go_wp2_with (first | (go_at_call 91; (with_reducible refine (gambitref05_kind.calls kj1 a0_1 t129 _ A19.out).mono ?_); rintro e w' ⟨rfl, ⟨nd, rfl⟩⟩; (try first | exact ⟨rfl, _, World.drewN_drewN _ _ _⟩ | exact ⟨rfl, _, Eq.trans (World.drewN_drewN _ _ _) (congrArg (World.drewN _) (Nat.add_assoc _ _ _))⟩)) | (go_at_call 92; (with_reducible refine (gambitref05_wants.calls kj1 a0_0 t130 _ A20.out).mono ?_); rintro e w' ⟨rfl, ⟨nd, rfl⟩⟩; (try first | exact ⟨rfl, _, World.drewN_drewN _ _ _⟩ | exact ⟨rfl, _, Eq.trans (World.drewN_drewN _ _ _) (congrArg (World.drewN _) (Nat.add_assoc _ _ _))⟩))))
      go_meet
      case rel => exact ⟨_, (true), Zs, H', ⟨by have := HJ1.out; first | omega | exact Nat.le_refl _⟩, ⟨Zk BK123.out⟩, ⟨Zb1 GE123.out⟩⟩
    case rest =>
     clear HC17
     try clear c1
     try clear c2
     try clear p2
     try clear c4
     try clear c4b0
     try clear c6
     try clear c6b0
     try clear c8
     try clear c8b0
     try clear c10
     try clear c10b0
     try clear c12
     try clear c12b0
     try clear c15
     try clear c21
     try clear c21b0
     try clear c21b1
     try clear c22
     try clear c22b0
     try clear c22b1
     try clear hcz11_0
     try clear hcz11_1
     try clear hcz11_2
     try clear hcz11_3
     try clear hcz11_4
     try clear hcz11_5
     try clear hcz11_6
     try clear hcz11_7
     try clear hcz13_0
     try clear hcz13_1
     try clear hcz13_2
     try clear hcz13_3
     try clear hcz13_4
     try clear hcz13_5
     try clear hcz13_6
     try clear hcz13_7
     try clear hcz14_0
     try clear hcz14_1
     try clear hcz14_2
     try clear hcz14_3
     try clear hcz14_4
     try clear hcz14_5
     try clear hcz14_6
     try clear hcz14_7
     try clear hcz18_0
     try clear hcz18_1
     try clear hcz18_2
     try clear hcz18_3
     try clear hcz18_4
     try clear hcz18_5
     try clear hcz18_6
     try clear hcz18_7
     try clear hcz23_0
     try clear hcz23_1
     try clear hcz23_2
     try clear hcz23_3
     try clear hcz23_4
     try clear hcz23_5
     try clear hcz23_6
     try clear hcz23_7
     try clear hcz24_0
     try clear hcz24_1
     try clear hcz24_2
     try clear hcz24_3
     try clear hcz24_4
     try clear hcz24_5
     try clear hcz24_6
     try clear hcz24_7
     try clear hcz25_0
     try clear hcz25_1
     try clear hcz25_2
     try clear hcz25_3
     try clear hcz25_4
     try clear hcz25_5
     try clear hcz25_6
     try clear hcz25_7
     try clear hcz5_0
     try clear hcz5_1
     try clear hcz5_2
     try clear hcz5_3
     try clear hcz5_4
     try clear hcz5_5
     try clear hcz5_6
     try clear hcz5_7
     try clear hcz7_0
     try clear hcz7_1
     try clear hcz7_2
     try clear hcz7_3
     try clear hcz7_4
     try clear hcz7_5
     try clear hcz7_6
     try clear hcz7_7
     try clear hcz9_0
     try clear hcz9_1
     try clear hcz9_2
     try clear hcz9_3
     try clear hcz9_4
     try clear hcz9_5
     try clear hcz9_6
     try clear hcz9_7
     try clear hfz11_0
     try clear hfz11_1
     try clear hfz11_2
     try clear hfz11_3
     try clear hfz11_4
     try clear hfz11_5
     try clear hfz11_6
     try clear hfz11_7
     try clear hfz13_0
     try clear hfz13_1
     try clear hfz13_2
     try clear hfz13_3
     try clear hfz13_4
     try clear hfz13_5
     try clear hfz13_6
     try clear hfz13_7
     try clear hfz14_0
     try clear hfz14_1
     try clear hfz14_2
     try clear hfz14_3
     try clear hfz14_4
     try clear hfz14_5
     try clear hfz14_6
     try clear hfz14_7
     try clear hfz18_0
     try clear hfz18_1
     try clear hfz18_2
     try clear hfz18_3
     try clear hfz18_4
     try clear hfz18_5
     try clear hfz18_6
     try clear hfz18_7
     try clear hfz23_0
     try clear hfz23_1
     try clear hfz23_2
     try clear hfz23_3
     try clear hfz23_4
     try clear hfz23_5
     try clear hfz23_6
     try clear hfz23_7
     try clear hfz24_0
     try clear hfz24_1
     try clear hfz24_2
     try clear hfz24_3
     try clear hfz24_4
     try clear hfz24_5
     try clear hfz24_6
     try clear hfz24_7
     try clear hfz25_0
     try clear hfz25_1
     try clear hfz25_2
     try clear hfz25_3
     try clear hfz25_4
     try clear hfz25_5
     try clear hfz25_6
     try clear hfz25_7
     try clear hfz5_0
     try clear hfz5_1
     try clear hfz5_2
     try clear hfz5_3
     try clear hfz5_4
     try clear hfz5_5
     try clear hfz5_6
     try clear hfz5_7
     try clear hfz7_0
     try clear hfz7_1
     try clear hfz7_2
     try clear hfz7_3
     try clear hfz7_4
     try clear hfz7_5
     try clear hfz7_6
     try clear hfz7_7
     try clear hfz9_0
     try clear hfz9_1
     try clear hfz9_2
     try clear hfz9_3
     try clear hfz9_4
     try clear hfz9_5
     try clear hfz9_6
     try clear hfz9_7
     try clear p2
     obtain ⟨kq, x47_16, rfl, HA, HJ16, BK123, HB⟩ := hcut
     cases kq with
     | zero => exact absurd HA.out (by simp [gambitref05_Check.j1])
     | succ kj16 =>
      have H := HA.out
      clear HA
      simp only [gambitref05_Check.j1] at H
      by_cases c26 : x47_16 = true
      ·subst c26
       have H1 : (some 8) = some r := by rw [if_pos rfl] at H; exact H
       clear H
       have H := H1
       clear H1
       obtain rfl := Option.some.inj H
       go_wp2
       repeat (go_quiet (fail); try go_wp2)
       go_ret
       exact ⟨Ze, Zb1 GE123.out⟩
      ·replace c26 := Bool.eq_false_iff.mpr c26
       subst c26
       have H1 : ((gambitref05_about.f kj16 a0_0 a0_1 a0_2 a0_3 a0_4 a0_5 a0_6 a0_7).bind fun t131 => (if t131 = true then ((gambitref05_counted.f kj16 a0_0 a0_1 a0_2 a0_3 a0_4 a0_5 a0_6 a0_7).bind fun t132 => (if t132 = true then ((gambitref05_within.f t125 (wrap64 (a0_4)) 6).bind fun t133 => (if t133 = true then ((gambitref05_within.f t126 (wrap64 (a0_5)) 8).bind fun t134 => (if t134 = true then ((gambitref05_within.f t127 (wrap64 (a0_6)) 4).bind fun t135 => (gambitref05_Check.j2 kj16 t128 (!t135) a0_0 a0_1 a0_2 a0_3 a0_4 a0_5 a0_6 a0_7)) else (gambitref05_Check.j2 kj16 t128 true a0_0 a0_1 a0_2 a0_3 a0_4 a0_5 a0_6 a0_7))) else (gambitref05_Check.j2 kj16 t128 true a0_0 a0_1 a0_2 a0_3 a0_4 a0_5 a0_6 a0_7))) else (some 2))) else (some 13))) = some r := by rw [if_neg (show ¬ (false = true) by decide)] at H; exact H
       clear H
       have H := H1
       clear H1
       replace H := Option.bind_eq_some_iff.mp H
       obtain ⟨t131, A270, H⟩ := H
       replace H : (if t131 = true then ((gambitref05_counted.f kj16 a0_0 a0_1 a0_2 a0_3 a0_4 a0_5 a0_6 a0_7).bind fun t132 => (if t132 = true then ((gambitref05_within.f t125 (wrap64 (a0_4)) 6).bind fun t133 => (if t133 = true then ((gambitref05_within.f t126 (wrap64 (a0_5)) 8).bind fun t134 => (if t134 = true then ((gambitref05_within.f t127 (wrap64 (a0_6)) 4).bind fun t135 => (gambitref05_Check.j2 kj16 t128 (!t135) a0_0 a0_1 a0_2 a0_3 a0_4 a0_5 a0_6 a0_7)) else (gambitref05_Check.j2 kj16 t128 true a0_0 a0_1 a0_2 a0_3 a0_4 a0_5 a0_6 a0_7))) else (gambitref05_Check.j2 kj16 t128 true a0_0 a0_1 a0_2 a0_3 a0_4 a0_5 a0_6 a0_7))) else (some 2))) else (some 13)) = some r := H
       have A27 := Aside0.mk A270
       clear A270
       by_cases c28 : t131 = true
       ·subst c28
        have H1 : ((gambitref05_counted.f kj16 a0_0 a0_1 a0_2 a0_3 a0_4 a0_5 a0_6 a0_7).bind fun t132 => (if t132 = true then ((gambitref05_within.f t125 (wrap64 (a0_4)) 6).bind fun t133 => (if t133 = true then ((gambitref05_within.f t126 (wrap64 (a0_5)) 8).bind fun t134 => (if t134 = true then ((gambitref05_within.f t127 (wrap64 (a0_6)) 4).bind fun t135 => (gambitref05_Check.j2 kj16 t128 (!t135) a0_0 a0_1 a0_2 a0_3 a0_4 a0_5 a0_6 a0_7)) else (gambitref05_Check.j2 kj16 t128 true a0_0 a0_1 a0_2 a0_3 a0_4 a0_5 a0_6 a0_7))) else (gambitref05_Check.j2 kj16 t128 true a0_0 a0_1 a0_2 a0_3 a0_4 a0_5 a0_6 a0_7))) else (some 2))) = some r := by rw [if_pos rfl] at H; exact H
        clear H
        have H := H1
        clear H1
        replace H := Option.bind_eq_some_iff.mp H
        obtain ⟨t132, A290, H⟩ := H
        replace H : (if t132 = true then ((gambitref05_within.f t125 (wrap64 (a0_4)) 6).bind fun t133 => (if t133 = true then ((gambitref05_within.f t126 (wrap64 (a0_5)) 8).bind fun t134 => (if t134 = true then ((gambitref05_within.f t127 (wrap64 (a0_6)) 4).bind fun t135 => (gambitref05_Check.j2 kj16 t128 (!t135) a0_0 a0_1 a0_2 a0_3 a0_4 a0_5 a0_6 a0_7)) else (gambitref05_Check.j2 kj16 t128 true a0_0 a0_1 a0_2 a0_3 a0_4 a0_5 a0_6 a0_7))) else (gambitref05_Check.j2 kj16 t128 true a0_0 a0_1 a0_2 a0_3 a0_4 a0_5 a0_6 a0_7))) else (some 2)) = some r := H
        have A29 := Aside0.mk A290
        clear A290
        by_cases c30 : t132 = true
        ·subst c30
         have H1 : ((gambitref05_within.f t125 (wrap64 (a0_4)) 6).bind fun t133 => (if t133 = true then ((gambitref05_within.f t126 (wrap64 (a0_5)) 8).bind fun t134 => (if t134 = true then ((gambitref05_within.f t127 (wrap64 (a0_6)) 4).bind fun t135 => (gambitref05_Check.j2 kj16 t128 (!t135) a0_0 a0_1 a0_2 a0_3 a0_4 a0_5 a0_6 a0_7)) else (gambitref05_Check.j2 kj16 t128 true a0_0 a0_1 a0_2 a0_3 a0_4 a0_5 a0_6 a0_7))) else (gambitref05_Check.j2 kj16 t128 true a0_0 a0_1 a0_2 a0_3 a0_4 a0_5 a0_6 a0_7))) = some r := by rw [if_pos rfl] at H; exact H
         clear H
         have H := H1
         clear H1
         have HC31 := Aside0.mk H
         clear H
         have hcz32_0 := Zc BK123.out 0 (.int .u8 a0_0) rfl
         have hcz32_1 := Zc BK123.out 1 (.int .u8 a0_1) rfl
         have hcz32_2 := Zc BK123.out 2 (.int .u8 a0_2) rfl
         have hcz32_3 := Zc BK123.out 3 (.int .i64 a0_3) rfl
         have hcz32_4 := Zc BK123.out 4 (.int .u8 a0_4) rfl
         have hcz32_5 := Zc BK123.out 5 (.int .u8 a0_5) rfl
         have hcz32_6 := Zc BK123.out 6 (.int .u8 a0_6) rfl
         have hcz32_7 := Zc BK123.out 7 (.string a0_7) rfl
         have hfz32_0 := blk_frozen BK123.out 0
         have hfz32_1 := blk_frozen BK123.out 1
         have hfz32_2 := blk_frozen BK123.out 2
         have hfz32_3 := blk_frozen BK123.out 3
         have hfz32_4 := blk_frozen BK123.out 4
         have hfz32_5 := blk_frozen BK123.out 5
         have hfz32_6 := blk_frozen BK123.out 6
         have hfz32_7 := blk_frozen BK123.out 7
         go_upto_region 10 with (first | (go_at_call 93; (with_reducible refine (gambitref05_about.calls kj16 a0_0 a0_1 a0_2 a0_3 a0_4 a0_5 a0_6 a0_7 true _ A27.out).mono ?_); rintro e w33 ⟨rfl, hb⟩; replace BK123 := Aside0.mk (blk_below (g := gb123) (o := .cells #[.int .u8 a0_0, .int .u8 a0_1, .int .u8 a0_2, .int .i64 a0_3, .int .u8 a0_4, .int .u8 a0_5, .int .u8 a0_6, .string a0_7] 48 (0, 0)) (Zk BK123.out) hb); replace HB := Aside0.mk (below_step (Zb1 GE123.out) hb); (try clear hb); (try clear hb2); (try clear hk); (try clear hi); have hcz34_0 := Zc BK123.out 0 (.int .u8 a0_0) rfl; have hcz34_1 := Zc BK123.out 1 (.int .u8 a0_1) rfl; have hcz34_2 := Zc BK123.out 2 (.int .u8 a0_2) rfl; have hcz34_3 := Zc BK123.out 3 (.int .i64 a0_3) rfl; have hcz34_4 := Zc BK123.out 4 (.int .u8 a0_4) rfl; have hcz34_5 := Zc BK123.out 5 (.int .u8 a0_5) rfl; have hcz34_6 := Zc BK123.out 6 (.int .u8 a0_6) rfl; have hcz34_7 := Zc BK123.out 7 (.string a0_7) rfl; have hfz34_0 := blk_frozen BK123.out 0; have hfz34_1 := blk_frozen BK123.out 1; have hfz34_2 := blk_frozen BK123.out 2; have hfz34_3 := blk_frozen BK123.out 3; have hfz34_4 := blk_frozen BK123.out 4; have hfz34_5 := blk_frozen BK123.out 5; have hfz34_6 := blk_frozen BK123.out 6; have hfz34_7 := blk_frozen BK123.out 7) | (go_at_call 94; (with_reducible refine (gambitref05_counted.calls kj16 a0_0 a0_1 a0_2 a0_3 a0_4 a0_5 a0_6 a0_7 true _ A29.out).mono ?_); rintro e w35 ⟨rfl, hb⟩; replace BK123 := Aside0.mk (blk_below (g := gb123) (o := .cells #[.int .u8 a0_0, .int .u8 a0_1, .int .u8 a0_2, .int .i64 a0_3, .int .u8 a0_4, .int .u8 a0_5, .int .u8 a0_6, .string a0_7] 48 (0, 0)) (Zk BK123.out) hb); replace HB := Aside0.mk (below_step (Zb1 GE123.out) hb); (try clear hb); (try clear hb2); (try clear hk); (try clear hi)))
         repeat (go_quiet (first | (go_at_call 93; (with_reducible refine (gambitref05_about.calls kj16 a0_0 a0_1 a0_2 a0_3 a0_4 a0_5 a0_6 a0_7 true _ A27.out).mono ?_); rintro e w33 ⟨rfl, hb⟩; replace BK123 := Aside0.mk (blk_below (g := gb123) (o := .cells #[.int .u8 a0_0, .int .u8 a0_1, .int .u8 a0_2, .int .i64 a0_3, .int .u8 a0_4, .int .u8 a0_5, .int .u8 a0_6, .string a0_7] 48 (0, 0)) (Zk BK123.out) hb); replace HB := Aside0.mk (below_step (Zb1 GE123.out) hb); (try clear hb); (try clear hb2); (try clear hk); (try clear hi); have hcz34_0 := Zc BK123.out 0 (.int .u8 a0_0) rfl; have hcz34_1 := Zc BK123.out 1 (.int .u8 a0_1) rfl; have hcz34_2 := Zc BK123.out 2 (.int .u8 a0_2) rfl; have hcz34_3 := Zc BK123.out 3 (.int .i64 a0_3) rfl; have hcz34_4 := Zc BK123.out 4 (.int .u8 a0_4) rfl; have hcz34_5 := Zc BK123.out 5 (.int .u8 a0_5) rfl; have hcz34_6 := Zc BK123.out 6 (.int .u8 a0_6) rfl; have hcz34_7 := Zc BK123.out 7 (.string a0_7) rfl; have hfz34_0 := blk_frozen BK123.out 0; have hfz34_1 := blk_frozen BK123.out 1; have hfz34_2 := blk_frozen BK123.out 2; have hfz34_3 := blk_frozen BK123.out 3; have hfz34_4 := blk_frozen BK123.out 4; have hfz34_5 := blk_frozen BK123.out 5; have hfz34_6 := blk_frozen BK123.out 6; have hfz34_7 := blk_frozen BK123.out 7) | (go_at_call 94; (with_reducible refine (gambitref05_counted.calls kj16 a0_0 a0_1 a0_2 a0_3 a0_4 a0_5 a0_6 a0_7 true _ A29.out).mono ?_); rintro e w35 ⟨rfl, hb⟩; replace BK123 := Aside0.mk (blk_below (g := gb123) (o := .cells #[.int .u8 a0_0, .int .u8 a0_1, .int .u8 a0_2, .int .i64 a0_3, .int .u8 a0_4, .int .u8 a0_5, .int .u8 a0_6, .string a0_7] 48 (0, 0)) (Zk BK123.out) hb); replace HB := Aside0.mk (below_step (Zb1 GE123.out) hb); (try clear hb); (try clear hb2); (try clear hk); (try clear hi))); go_upto_region 10 with (first | (go_at_call 93; (with_reducible refine (gambitref05_about.calls kj16 a0_0 a0_1 a0_2 a0_3 a0_4 a0_5 a0_6 a0_7 true _ A27.out).mono ?_); rintro e w33 ⟨rfl, hb⟩; replace BK123 := Aside0.mk (blk_below (g := gb123) (o := .cells #[.int .u8 a0_0, .int .u8 a0_1, .int .u8 a0_2, .int .i64 a0_3, .int .u8 a0_4, .int .u8 a0_5, .int .u8 a0_6, .string a0_7] 48 (0, 0)) (Zk BK123.out) hb); replace HB := Aside0.mk (below_step (Zb1 GE123.out) hb); (try clear hb); (try clear hb2); (try clear hk); (try clear hi); have hcz34_0 := Zc BK123.out 0 (.int .u8 a0_0) rfl; have hcz34_1 := Zc BK123.out 1 (.int .u8 a0_1) rfl; have hcz34_2 := Zc BK123.out 2 (.int .u8 a0_2) rfl; have hcz34_3 := Zc BK123.out 3 (.int .i64 a0_3) rfl; have hcz34_4 := Zc BK123.out 4 (.int .u8 a0_4) rfl; have hcz34_5 := Zc BK123.out 5 (.int .u8 a0_5) rfl; have hcz34_6 := Zc BK123.out 6 (.int .u8 a0_6) rfl; have hcz34_7 := Zc BK123.out 7 (.string a0_7) rfl; have hfz34_0 := blk_frozen BK123.out 0; have hfz34_1 := blk_frozen BK123.out 1; have hfz34_2 := blk_frozen BK123.out 2; have hfz34_3 := blk_frozen BK123.out 3; have hfz34_4 := blk_frozen BK123.out 4; have hfz34_5 := blk_frozen BK123.out 5; have hfz34_6 := blk_frozen BK123.out 6; have hfz34_7 := blk_frozen BK123.out 7) | (go_at_call 94; (with_reducible refine (gambitref05_counted.calls kj16 a0_0 a0_1 a0_2 a0_3 a0_4 a0_5 a0_6 a0_7 true _ A29.out).mono ?_); rintro e w35 ⟨rfl, hb⟩; replace BK123 := Aside0.mk (blk_below (g := gb123) (o := .cells #[.int .u8 a0_0, .int .u8 a0_1, .int .u8 a0_2, .int .i64 a0_3, .int .u8 a0_4, .int .u8 a0_5, .int .u8 a0_6, .string a0_7] 48 (0, 0)) (Zk BK123.out) hb); replace HB := Aside0.mk (below_step (Zb1 GE123.out) hb); (try clear hb); (try clear hb2); (try clear hk); (try clear hi))))
         (try simp only [Act.put, List.setIfInBounds_toArray, List.set_cons_zero, List.set_cons_succ])
         go_cut [73] (fun v73 wc => ∃ (kq : Nat) (x73_30 : Bool), v73 = .bool x73_30 ∧ Aside0 (gambitref05_Check.j2 kq t128 x73_30 a0_0 a0_1 a0_2 a0_3 a0_4 a0_5 a0_6 a0_7 = some r) ∧ Aside0 (kq ≤ kj16) ∧ Aside0 (wc.heap[gb123]? = some (.cells #[.int .u8 a0_0, .int .u8 a0_1, .int .u8 a0_2, .int .i64 a0_3, .int .u8 a0_4, .int .u8 a0_5, .int .u8 a0_6, .string a0_7] 48 (0, 0))) ∧ Aside0 (Below w.heap.size w wc))
         case first =>
          have H := HC31.out
          clear HC31
          replace H := Option.bind_eq_some_iff.mp H
          obtain ⟨t133, A360, H⟩ := H
          replace H : (if t133 = true then ((gambitref05_within.f t126 (wrap64 (a0_5)) 8).bind fun t134 => (if t134 = true then ((gambitref05_within.f t127 (wrap64 (a0_6)) 4).bind fun t135 => (gambitref05_Check.j2 kj16 t128 (!t135) a0_0 a0_1 a0_2 a0_3 a0_4 a0_5 a0_6 a0_7)) else (gambitref05_Check.j2 kj16 t128 true a0_0 a0_1 a0_2 a0_3 a0_4 a0_5 a0_6 a0_7))) else (gambitref05_Check.j2 kj16 t128 true a0_0 a0_1 a0_2 a0_3 a0_4 a0_5 a0_6 a0_7)) = some r := H
          have A36 := Aside0.mk A360
          clear A360
          by_cases c37 : t133 = true
          ·subst c37
           have H1 : ((gambitref05_within.f t126 (wrap64 (a0_5)) 8).bind fun t134 => (if t134 = true then ((gambitref05_within.f t127 (wrap64 (a0_6)) 4).bind fun t135 => (gambitref05_Check.j2 kj16 t128 (!t135) a0_0 a0_1 a0_2 a0_3 a0_4 a0_5 a0_6 a0_7)) else (gambitref05_Check.j2 kj16 t128 true a0_0 a0_1 a0_2 a0_3 a0_4 a0_5 a0_6 a0_7))) = some r := by rw [if_pos rfl] at H; exact H
           clear H
           have H := H1
           clear H1
           replace H := Option.bind_eq_some_iff.mp H
           obtain ⟨t134, A380, H⟩ := H
           replace H : (if t134 = true then ((gambitref05_within.f t127 (wrap64 (a0_6)) 4).bind fun t135 => (gambitref05_Check.j2 kj16 t128 (!t135) a0_0 a0_1 a0_2 a0_3 a0_4 a0_5 a0_6 a0_7)) else (gambitref05_Check.j2 kj16 t128 true a0_0 a0_1 a0_2 a0_3 a0_4 a0_5 a0_6 a0_7)) = some r := H
           have A38 := Aside0.mk A380
           clear A380
           by_cases c39 : t134 = true
           ·subst c39
            have H1 : ((gambitref05_within.f t127 (wrap64 (a0_6)) 4).bind fun t135 => (gambitref05_Check.j2 kj16 t128 (!t135) a0_0 a0_1 a0_2 a0_3 a0_4 a0_5 a0_6 a0_7)) = some r := by rw [if_pos rfl] at H; exact H
            clear H
            have H := H1
            clear H1
            replace H := Option.bind_eq_some_iff.mp H
            obtain ⟨t135, A400, H⟩ := H
            replace H : (gambitref05_Check.j2 kj16 t128 (!t135) a0_0 a0_1 a0_2 a0_3 a0_4 a0_5 a0_6 a0_7) = some r := H
            have A40 := Aside0.mk A400
            clear A400
            have H' := Aside0.mk H
            clear H
            have hcz41_0 := Zc BK123.out 0 (.int .u8 a0_0) rfl
            have hcz41_1 := Zc BK123.out 1 (.int .u8 a0_1) rfl
            have hcz41_2 := Zc BK123.out 2 (.int .u8 a0_2) rfl
            have hcz41_3 := Zc BK123.out 3 (.int .i64 a0_3) rfl
            have hcz41_4 := Zc BK123.out 4 (.int .u8 a0_4) rfl
            have hcz41_5 := Zc BK123.out 5 (.int .u8 a0_5) rfl
            have hcz41_6 := Zc BK123.out 6 (.int .u8 a0_6) rfl
            have hcz41_7 := Zc BK123.out 7 (.string a0_7) rfl
            have hfz41_0 := blk_frozen BK123.out 0
            have hfz41_1 := blk_frozen BK123.out 1
            have hfz41_2 := blk_frozen BK123.out 2
            have hfz41_3 := blk_frozen BK123.out 3
            have hfz41_4 := blk_frozen BK123.out 4
            have hfz41_5 := blk_frozen BK123.out 5
            have hfz41_6 := blk_frozen BK123.out 6
            have hfz41_7 := blk_frozen BK123.out 7
            go_wp2_with (first | (go_at_call 95; (with_reducible refine (gambitref05_within.calls t125 (wrap64 (a0_4)) 6 true _ A36.out).mono ?_); rintro e w' ⟨rfl, ⟨nd, rfl⟩⟩; (try first | exact ⟨rfl, _, World.drewN_drewN _ _ _⟩ | exact ⟨rfl, _, Eq.trans (World.drewN_drewN _ _ _) (congrArg (World.drewN _) (Nat.add_assoc _ _ _))⟩)) | (go_at_call 95; (with_reducible refine (gambitref05_within.calls t126 (wrap64 (a0_5)) 8 true _ A38.out).mono ?_); rintro e w' ⟨rfl, ⟨nd, rfl⟩⟩; (try first | exact ⟨rfl, _, World.drewN_drewN _ _ _⟩ | exact ⟨rfl, _, Eq.trans (World.drewN_drewN _ _ _) (congrArg (World.drewN _) (Nat.add_assoc _ _ _))⟩)) | (go_at_call 95; (with_reducible refine (gambitref05_within.calls t127 (wrap64 (a0_6)) 4 t135 _ A40.out).mono ?_); rintro e w' ⟨rfl, ⟨nd, rfl⟩⟩; (try first | exact ⟨rfl, _, World.drewN_drewN _ _ _⟩ | exact ⟨rfl, _, Eq.trans (World.drewN_drewN _ _ _) (congrArg (World.drewN _) (Nat.add_assoc _ _ _))⟩)))
            repeat (go_quiet (first | (go_at_call 95; (with_reducible refine (gambitref05_within.calls t125 (wrap64 (a0_4)) 6 true _ A36.out).mono ?_); rintro e w' ⟨rfl, ⟨nd, rfl⟩⟩; (try first | exact ⟨rfl, _, World.drewN_drewN _ _ _⟩ | exact ⟨rfl, _, Eq.trans (World.drewN_drewN _ _ _) (congrArg (World.drewN _) (Nat.add_assoc _ _ _))⟩)) | (go_at_call 95; (with_reducible refine (gambitref05_within.calls t126 (wrap64 (a0_5)) 8 true _ A38.out).mono ?_); rintro e w' ⟨rfl, ⟨nd, rfl⟩⟩; (try first | exact ⟨rfl, _, World.drewN_drewN _ _ _⟩ | exact ⟨rfl, _, Eq.trans (World.drewN_drewN _ _ _) (congrArg (World.drewN _) (Nat.add_assoc _ _ _))⟩)) | (go_at_call 95; (with_reducible refine (gambitref05_within.calls t127 (wrap64 (a0_6)) 4 t135 _ A40.out).mono ?_); rintro e w' ⟨rfl, ⟨nd, rfl⟩⟩; (try first | exact ⟨rfl, _, World.drewN_drewN _ _ _⟩ | exact ⟨rfl, _, Eq.trans (World.drewN_drewN _ _ _) (congrArg (World.drewN _) (Nat.add_assoc _ _ _))⟩))); try go_wp2_with (first | (go_at_call 95; (with_reducible refine (gambitref05_within.calls t125 (wrap64 (a0_4)) 6 true _ A36.out).mono ?_); rintro e w' ⟨rfl, ⟨nd, rfl⟩⟩; (try first | exact ⟨rfl, _, World.drewN_drewN _ _ _⟩ | exact ⟨rfl, _, Eq.trans (World.drewN_drewN _ _ _) (congrArg (World.drewN _) (Nat.add_assoc _ _ _))⟩)) | (go_at_call 95; (with_reducible refine (gambitref05_within.calls t126 (wrap64 (a0_5)) 8 true _ A38.out).mono ?_); rintro e w' ⟨rfl, ⟨nd, rfl⟩⟩; (try first | exact ⟨rfl, _, World.drewN_drewN _ _ _⟩ | exact ⟨rfl, _, Eq.trans (World.drewN_drewN _ _ _) (congrArg (World.drewN _) (Nat.add_assoc _ _ _))⟩)) | (go_at_call 95; (with_reducible refine (gambitref05_within.calls t127 (wrap64 (a0_6)) 4 t135 _ A40.out).mono ?_); rintro e w' ⟨rfl, ⟨nd, rfl⟩⟩; (try first | exact ⟨rfl, _, World.drewN_drewN _ _ _⟩ | exact ⟨rfl, _, Eq.trans (World.drewN_drewN _ _ _) (congrArg (World.drewN _) (Nat.add_assoc _ _ _))⟩))))
            go_meet
            case rel => exact ⟨_, (!t135), Zs, H', ⟨by have := HJ1.out; have := HJ16.out; first | omega | exact Nat.le_refl _⟩, ⟨Zk BK123.out⟩, ⟨Zb1 GE123.out⟩⟩
           ·replace c39 := Bool.eq_false_iff.mpr c39
            subst c39
            have H1 : (gambitref05_Check.j2 kj16 t128 true a0_0 a0_1 a0_2 a0_3 a0_4 a0_5 a0_6 a0_7) = some r := by rw [if_neg (show ¬ (false = true) by decide)] at H; exact H
            clear H
            have H := H1
            clear H1
            have H' := Aside0.mk H
            clear H
            have hcz42_0 := Zc BK123.out 0 (.int .u8 a0_0) rfl
            have hcz42_1 := Zc BK123.out 1 (.int .u8 a0_1) rfl
            have hcz42_2 := Zc BK123.out 2 (.int .u8 a0_2) rfl
            have hcz42_3 := Zc BK123.out 3 (.int .i64 a0_3) rfl
            have hcz42_4 := Zc BK123.out 4 (.int .u8 a0_4) rfl
            have hcz42_5 := Zc BK123.out 5 (.int .u8 a0_5) rfl
            have hcz42_6 := Zc BK123.out 6 (.int .u8 a0_6) rfl
            have hcz42_7 := Zc BK123.out 7 (.string a0_7) rfl
            have hfz42_0 := blk_frozen BK123.out 0
            have hfz42_1 := blk_frozen BK123.out 1
            have hfz42_2 := blk_frozen BK123.out 2
            have hfz42_3 := blk_frozen BK123.out 3
            have hfz42_4 := blk_frozen BK123.out 4
            have hfz42_5 := blk_frozen BK123.out 5
            have hfz42_6 := blk_frozen BK123.out 6
            have hfz42_7 := blk_frozen BK123.out 7
            go_wp2_with (first | (go_at_call 95; (with_reducible refine (gambitref05_within.calls t125 (wrap64 (a0_4)) 6 true _ A36.out).mono ?_); rintro e w' ⟨rfl, ⟨nd, rfl⟩⟩; (try first | exact ⟨rfl, _, World.drewN_drewN _ _ _⟩ | exact ⟨rfl, _, Eq.trans (World.drewN_drewN _ _ _) (congrArg (World.drewN _) (Nat.add_assoc _ _ _))⟩)) | (go_at_call 95; (with_reducible refine (gambitref05_within.calls t126 (wrap64 (a0_5)) 8 false _ A38.out).mono ?_); rintro e w' ⟨rfl, ⟨nd, rfl⟩⟩; (try first | exact ⟨rfl, _, World.drewN_drewN _ _ _⟩ | exact ⟨rfl, _, Eq.trans (World.drewN_drewN _ _ _) (congrArg (World.drewN _) (Nat.add_assoc _ _ _))⟩)))
            repeat (go_quiet (first | (go_at_call 95; (with_reducible refine (gambitref05_within.calls t125 (wrap64 (a0_4)) 6 true _ A36.out).mono ?_); rintro e w' ⟨rfl, ⟨nd, rfl⟩⟩; (try first | exact ⟨rfl, _, World.drewN_drewN _ _ _⟩ | exact ⟨rfl, _, Eq.trans (World.drewN_drewN _ _ _) (congrArg (World.drewN _) (Nat.add_assoc _ _ _))⟩)) | (go_at_call 95; (with_reducible refine (gambitref05_within.calls t126 (wrap64 (a0_5)) 8 false _ A38.out).mono ?_); rintro e w' ⟨rfl, ⟨nd, rfl⟩⟩; (try first | exact ⟨rfl, _, World.drewN_drewN _ _ _⟩ | exact ⟨rfl, _, Eq.trans (World.drewN_drewN _ _ _) (congrArg (World.drewN _) (Nat.add_assoc _ _ _))⟩))); try go_wp2_with (first | (go_at_call 95; (with_reducible refine (gambitref05_within.calls t125 (wrap64 (a0_4)) 6 true _ A36.out).mono ?_); rintro e w' ⟨rfl, ⟨nd, rfl⟩⟩; (try first | exact ⟨rfl, _, World.drewN_drewN _ _ _⟩ | exact ⟨rfl, _, Eq.trans (World.drewN_drewN _ _ _) (congrArg (World.drewN _) (Nat.add_assoc _ _ _))⟩)) | (go_at_call 95; (with_reducible refine (gambitref05_within.calls t126 (wrap64 (a0_5)) 8 false _ A38.out).mono ?_); rintro e w' ⟨rfl, ⟨nd, rfl⟩⟩; (try first | exact ⟨rfl, _, World.drewN_drewN _ _ _⟩ | exact ⟨rfl, _, Eq.trans (World.drewN_drewN _ _ _) (congrArg (World.drewN _) (Nat.add_assoc _ _ _))⟩))))
            go_meet
            case rel => exact ⟨_, (true), Zs, H', ⟨by have := HJ1.out; have := HJ16.out; first | omega | exact Nat.le_refl _⟩, ⟨Zk BK123.out⟩, ⟨Zb1 GE123.out⟩⟩
          ·replace c37 := Bool.eq_false_iff.mpr c37
           subst c37
           have H1 : (gambitref05_Check.j2 kj16 t128 true a0_0 a0_1 a0_2 a0_3 a0_4 a0_5 a0_6 a0_7) = some r := by rw [if_neg (show ¬ (false = true) by decide)] at H; exact H
           clear H
           have H := H1
           clear H1
           have H' := Aside0.mk H
           clear H
           have hcz43_0 := Zc BK123.out 0 (.int .u8 a0_0) rfl
           have hcz43_1 := Zc BK123.out 1 (.int .u8 a0_1) rfl
           have hcz43_2 := Zc BK123.out 2 (.int .u8 a0_2) rfl
           have hcz43_3 := Zc BK123.out 3 (.int .i64 a0_3) rfl
           have hcz43_4 := Zc BK123.out 4 (.int .u8 a0_4) rfl
           have hcz43_5 := Zc BK123.out 5 (.int .u8 a0_5) rfl
           have hcz43_6 := Zc BK123.out 6 (.int .u8 a0_6) rfl
           have hcz43_7 := Zc BK123.out 7 (.string a0_7) rfl
           have hfz43_0 := blk_frozen BK123.out 0
           have hfz43_1 := blk_frozen BK123.out 1
           have hfz43_2 := blk_frozen BK123.out 2
           have hfz43_3 := blk_frozen BK123.out 3
           have hfz43_4 := blk_frozen BK123.out 4
           have hfz43_5 := blk_frozen BK123.out 5
           have hfz43_6 := blk_frozen BK123.out 6
           have hfz43_7 := blk_frozen BK123.out 7
           go_wp2_with (first | (go_at_call 95; (with_reducible refine (gambitref05_within.calls t125 (wrap64 (a0_4)) 6 false _ A36.out).mono ?_); rintro e w' ⟨rfl, ⟨nd, rfl⟩⟩; (try first | exact ⟨rfl, _, World.drewN_drewN _ _ _⟩ | exact ⟨rfl, _, Eq.trans (World.drewN_drewN _ _ _) (congrArg (World.drewN _) (Nat.add_assoc _ _ _))⟩)))
           repeat (go_quiet (first | (go_at_call 95; (with_reducible refine (gambitref05_within.calls t125 (wrap64 (a0_4)) 6 false _ A36.out).mono ?_); rintro e w' ⟨rfl, ⟨nd, rfl⟩⟩; (try first | exact ⟨rfl, _, World.drewN_drewN _ _ _⟩ | exact ⟨rfl, _, Eq.trans (World.drewN_drewN _ _ _) (congrArg (World.drewN _) (Nat.add_assoc _ _ _))⟩))); try go_wp2_with (first | (go_at_call 95; (with_reducible refine (gambitref05_within.calls t125 (wrap64 (a0_4)) 6 false _ A36.out).mono ?_); rintro e w' ⟨rfl, ⟨nd, rfl⟩⟩; (try first | exact ⟨rfl, _, World.drewN_drewN _ _ _⟩ | exact ⟨rfl, _, Eq.trans (World.drewN_drewN _ _ _) (congrArg (World.drewN _) (Nat.add_assoc _ _ _))⟩))))
           go_meet
           case rel => exact ⟨_, (true), Zs, H', ⟨by have := HJ1.out; have := HJ16.out; first | omega | exact Nat.le_refl _⟩, ⟨Zk BK123.out⟩, ⟨Zb1 GE123.out⟩⟩
         case rest =>
          clear HC31
          try clear c1
          try clear c2
          try clear p2
          try clear c3
          try clear c4
          try clear c4b0
          try clear c6
          try clear c6b0
          try clear p6
          try clear c8
          try clear c8b0
          try clear c10
          try clear c10b0
          try clear c12
          try clear c12b0
          try clear c15
          try clear c21
          try clear c21b0
          try clear c21b1
          try clear c22
          try clear c22b0
          try clear c22b1
          try clear c26
          try clear c28
          try clear c30
          try clear c37
          try clear c39
          try clear hcz11_0
          try clear hcz11_1
          try clear hcz11_2
          try clear hcz11_3
          try clear hcz11_4
          try clear hcz11_5
          try clear hcz11_6
          try clear hcz11_7
          try clear hcz13_0
          try clear hcz13_1
          try clear hcz13_2
          try clear hcz13_3
          try clear hcz13_4
          try clear hcz13_5
          try clear hcz13_6
          try clear hcz13_7
          try clear hcz14_0
          try clear hcz14_1
          try clear hcz14_2
          try clear hcz14_3
          try clear hcz14_4
          try clear hcz14_5
          try clear hcz14_6
          try clear hcz14_7
          try clear hcz18_0
          try clear hcz18_1
          try clear hcz18_2
          try clear hcz18_3
          try clear hcz18_4
          try clear hcz18_5
          try clear hcz18_6
          try clear hcz18_7
          try clear hcz23_0
          try clear hcz23_1
          try clear hcz23_2
          try clear hcz23_3
          try clear hcz23_4
          try clear hcz23_5
          try clear hcz23_6
          try clear hcz23_7
          try clear hcz24_0
          try clear hcz24_1
          try clear hcz24_2
          try clear hcz24_3
          try clear hcz24_4
          try clear hcz24_5
          try clear hcz24_6
          try clear hcz24_7
          try clear hcz25_0
          try clear hcz25_1
          try clear hcz25_2
          try clear hcz25_3
          try clear hcz25_4
          try clear hcz25_5
          try clear hcz25_6
          try clear hcz25_7
          try clear hcz32_0
          try clear hcz32_1
          try clear hcz32_2
          try clear hcz32_3
          try clear hcz32_4
          try clear hcz32_5
          try clear hcz32_6
          try clear hcz32_7
          try clear hcz34_0
          try clear hcz34_1
          try clear hcz34_2
          try clear hcz34_3
          try clear hcz34_4
          try clear hcz34_5
          try clear hcz34_6
          try clear hcz34_7
          try clear hcz41_0
          try clear hcz41_1
          try clear hcz41_2
          try clear hcz41_3
          try clear hcz41_4
          try clear hcz41_5
          try clear hcz41_6
          try clear hcz41_7
          try clear hcz42_0
          try clear hcz42_1
          try clear hcz42_2
          try clear hcz42_3
          try clear hcz42_4
          try clear hcz42_5
          try clear hcz42_6
          try clear hcz42_7
          try clear hcz43_0
          try clear hcz43_1
          try clear hcz43_2
          try clear hcz43_3
          try clear hcz43_4
          try clear hcz43_5
          try clear hcz43_6
          try clear hcz43_7
          try clear hcz5_0
          try clear hcz5_1
          try clear hcz5_2
          try clear hcz5_3
          try clear hcz5_4
          try clear hcz5_5
          try clear hcz5_6
          try clear hcz5_7
          try clear hcz7_0
          try clear hcz7_1
          try clear hcz7_2
          try clear hcz7_3
          try clear hcz7_4
          try clear hcz7_5
          try clear hcz7_6
          try clear hcz7_7
          try clear hcz9_0
          try clear hcz9_1
          try clear hcz9_2
          try clear hcz9_3
          try clear hcz9_4
          try clear hcz9_5
          try clear hcz9_6
          try clear hcz9_7
          try clear hfz11_0
          try clear hfz11_1
          try clear hfz11_2
          try clear hfz11_3
          try clear hfz11_4
          try clear hfz11_5
          try clear hfz11_6
          try clear hfz11_7
          try clear hfz13_0
          try clear hfz13_1
          try clear hfz13_2
          try clear hfz13_3
          try clear hfz13_4
          try clear hfz13_5
          try clear hfz13_6
          try clear hfz13_7
          try clear hfz14_0
          try clear hfz14_1
          try clear hfz14_2
          try clear hfz14_3
          try clear hfz14_4
          try clear hfz14_5
          try clear hfz14_6
          try clear hfz14_7
          try clear hfz18_0
          try clear hfz18_1
          try clear hfz18_2
          try clear hfz18_3
          try clear hfz18_4
          try clear hfz18_5
          try clear hfz18_6
          try clear hfz18_7
          try clear hfz23_0
          try clear hfz23_1
          try clear hfz23_2
          try clear hfz23_3
          try clear hfz23_4
          try clear hfz23_5
          try clear hfz23_6
          try clear hfz23_7
          try clear hfz24_0
          try clear hfz24_1
          try clear hfz24_2
          try clear hfz24_3
          try clear hfz24_4
          try clear hfz24_5
          try clear hfz24_6
          try clear hfz24_7
          try clear hfz25_0
          try clear hfz25_1
          try clear hfz25_2
          try clear hfz25_3
          try clear hfz25_4
          try clear hfz25_5
          try clear hfz25_6
          try clear hfz25_7
          try clear hfz32_0
          try clear hfz32_1
          try clear hfz32_2
          try clear hfz32_3
          try clear hfz32_4
          try clear hfz32_5
          try clear hfz32_6
          try clear hfz32_7
          try clear hfz34_0
          try clear hfz34_1
          try clear hfz34_2
          try clear hfz34_3
          try clear hfz34_4
          try clear hfz34_5
          try clear hfz34_6
          try clear hfz34_7
          try clear hfz41_0
          try clear hfz41_1
          try clear hfz41_2
          try clear hfz41_3
          try clear hfz41_4
          try clear hfz41_5
          try clear hfz41_6
          try clear hfz41_7
          try clear hfz42_0
          try clear hfz42_1
          try clear hfz42_2
          try clear hfz42_3
          try clear hfz42_4
          try clear hfz42_5
          try clear hfz42_6
          try clear hfz42_7
          try clear hfz43_0
          try clear hfz43_1
          try clear hfz43_2
          try clear hfz43_3
          try clear hfz43_4
          try clear hfz43_5
          try clear hfz43_6
          try clear hfz43_7
          try clear hfz5_0
          try clear hfz5_1
          try clear hfz5_2
          try clear hfz5_3
          try clear hfz5_4
          try clear hfz5_5
          try clear hfz5_6
          try clear hfz5_7
          try clear hfz7_0
          try clear hfz7_1
          try clear hfz7_2
          try clear hfz7_3
          try clear hfz7_4
          try clear hfz7_5
          try clear hfz7_6
          try clear hfz7_7
          try clear hfz9_0
          try clear hfz9_1
          try clear hfz9_2
          try clear hfz9_3
          try clear hfz9_4
          try clear hfz9_5
          try clear hfz9_6
          try clear hfz9_7
          try clear p2
          obtain ⟨kq, x73_30, rfl, HA, HJ30, BK123, HB⟩ := hcut
          cases kq with
          | zero => exact absurd HA.out (by simp [gambitref05_Check.j2])
          | succ kj30 =>
           have H := HA.out
           clear HA
           simp only [gambitref05_Check.j2] at H
           by_cases c44 : x73_30 = true
           ·subst c44
            have H1 : (some 2) = some r := by rw [if_pos rfl] at H; exact H
            clear H
            have H := H1
            clear H1
            obtain rfl := Option.some.inj H
            go_wp2
            repeat (go_quiet (fail); try go_wp2)
            go_ret
            exact ⟨Ze, Zb1 GE123.out⟩
           ·replace c44 := Bool.eq_false_iff.mpr c44
            subst c44
            have H1 : (if t128 = true then ((gambitref05_Name.f kj30 a0_7).bind fun t136 => (if t136 = true then (some 0) else (some 4))) else (if a0_7.toList = ([] : List UInt8) then (some 0) else (some 4))) = some r := by rw [if_neg (show ¬ (false = true) by decide)] at H; exact H
            clear H
            have H := H1
            clear H1
            by_cases c45 : t128 = true
            ·subst c45
             have H1 : ((gambitref05_Name.f kj30 a0_7).bind fun t136 => (if t136 = true then (some 0) else (some 4))) = some r := by rw [if_pos rfl] at H; exact H
             clear H
             have H := H1
             clear H1
             replace H := Option.bind_eq_some_iff.mp H
             obtain ⟨t136, A460, H⟩ := H
             replace H : (if t136 = true then (some 0) else (some 4)) = some r := H
             have A46 := Aside0.mk A460
             clear A460
             by_cases c47 : t136 = true
             ·subst c47
              have H1 : (some 0) = some r := by rw [if_pos rfl] at H; exact H
              clear H
              have H := H1
              clear H1
              obtain rfl := Option.some.inj H
              have hcz48_0 := Zc BK123.out 0 (.int .u8 a0_0) rfl
              have hcz48_1 := Zc BK123.out 1 (.int .u8 a0_1) rfl
              have hcz48_2 := Zc BK123.out 2 (.int .u8 a0_2) rfl
              have hcz48_3 := Zc BK123.out 3 (.int .i64 a0_3) rfl
              have hcz48_4 := Zc BK123.out 4 (.int .u8 a0_4) rfl
              have hcz48_5 := Zc BK123.out 5 (.int .u8 a0_5) rfl
              have hcz48_6 := Zc BK123.out 6 (.int .u8 a0_6) rfl
              have hcz48_7 := Zc BK123.out 7 (.string a0_7) rfl
              have hfz48_0 := blk_frozen BK123.out 0
              have hfz48_1 := blk_frozen BK123.out 1
              have hfz48_2 := blk_frozen BK123.out 2
              have hfz48_3 := blk_frozen BK123.out 3
              have hfz48_4 := blk_frozen BK123.out 4
              have hfz48_5 := blk_frozen BK123.out 5
              have hfz48_6 := blk_frozen BK123.out 6
              have hfz48_7 := blk_frozen BK123.out 7
              go_wp2_with (first | (go_at_call 96; (with_reducible refine (gambitref05_Name.calls kj30 a0_7 true _ A46.out).mono ?_); rintro e w' ⟨rfl, ⟨nd, rfl⟩⟩; (try first | exact ⟨rfl, _, World.drewN_drewN _ _ _⟩ | exact ⟨rfl, _, Eq.trans (World.drewN_drewN _ _ _) (congrArg (World.drewN _) (Nat.add_assoc _ _ _))⟩)))
              repeat (go_quiet (first | (go_at_call 96; (with_reducible refine (gambitref05_Name.calls kj30 a0_7 true _ A46.out).mono ?_); rintro e w' ⟨rfl, ⟨nd, rfl⟩⟩; (try first | exact ⟨rfl, _, World.drewN_drewN _ _ _⟩ | exact ⟨rfl, _, Eq.trans (World.drewN_drewN _ _ _) (congrArg (World.drewN _) (Nat.add_assoc _ _ _))⟩))); try go_wp2_with (first | (go_at_call 96; (with_reducible refine (gambitref05_Name.calls kj30 a0_7 true _ A46.out).mono ?_); rintro e w' ⟨rfl, ⟨nd, rfl⟩⟩; (try first | exact ⟨rfl, _, World.drewN_drewN _ _ _⟩ | exact ⟨rfl, _, Eq.trans (World.drewN_drewN _ _ _) (congrArg (World.drewN _) (Nat.add_assoc _ _ _))⟩))))
              go_ret
              exact ⟨Ze, Zb1 GE123.out⟩
             ·replace c47 := Bool.eq_false_iff.mpr c47
              subst c47
              have H1 : (some 4) = some r := by rw [if_neg (show ¬ (false = true) by decide)] at H; exact H
              clear H
              have H := H1
              clear H1
              obtain rfl := Option.some.inj H
              have hcz49_0 := Zc BK123.out 0 (.int .u8 a0_0) rfl
              have hcz49_1 := Zc BK123.out 1 (.int .u8 a0_1) rfl
              have hcz49_2 := Zc BK123.out 2 (.int .u8 a0_2) rfl
              have hcz49_3 := Zc BK123.out 3 (.int .i64 a0_3) rfl
              have hcz49_4 := Zc BK123.out 4 (.int .u8 a0_4) rfl
              have hcz49_5 := Zc BK123.out 5 (.int .u8 a0_5) rfl
              have hcz49_6 := Zc BK123.out 6 (.int .u8 a0_6) rfl
              have hcz49_7 := Zc BK123.out 7 (.string a0_7) rfl
              have hfz49_0 := blk_frozen BK123.out 0
              have hfz49_1 := blk_frozen BK123.out 1
              have hfz49_2 := blk_frozen BK123.out 2
              have hfz49_3 := blk_frozen BK123.out 3
              have hfz49_4 := blk_frozen BK123.out 4
              have hfz49_5 := blk_frozen BK123.out 5
              have hfz49_6 := blk_frozen BK123.out 6
              have hfz49_7 := blk_frozen BK123.out 7
              go_wp2_with (first | (go_at_call 96; (with_reducible refine (gambitref05_Name.calls kj30 a0_7 false _ A46.out).mono ?_); rintro e w' ⟨rfl, ⟨nd, rfl⟩⟩; (try first | exact ⟨rfl, _, World.drewN_drewN _ _ _⟩ | exact ⟨rfl, _, Eq.trans (World.drewN_drewN _ _ _) (congrArg (World.drewN _) (Nat.add_assoc _ _ _))⟩)))
              repeat (go_quiet (first | (go_at_call 96; (with_reducible refine (gambitref05_Name.calls kj30 a0_7 false _ A46.out).mono ?_); rintro e w' ⟨rfl, ⟨nd, rfl⟩⟩; (try first | exact ⟨rfl, _, World.drewN_drewN _ _ _⟩ | exact ⟨rfl, _, Eq.trans (World.drewN_drewN _ _ _) (congrArg (World.drewN _) (Nat.add_assoc _ _ _))⟩))); try go_wp2_with (first | (go_at_call 96; (with_reducible refine (gambitref05_Name.calls kj30 a0_7 false _ A46.out).mono ?_); rintro e w' ⟨rfl, ⟨nd, rfl⟩⟩; (try first | exact ⟨rfl, _, World.drewN_drewN _ _ _⟩ | exact ⟨rfl, _, Eq.trans (World.drewN_drewN _ _ _) (congrArg (World.drewN _) (Nat.add_assoc _ _ _))⟩))))
              go_ret
              exact ⟨Ze, Zb1 GE123.out⟩
            ·replace c45 := Bool.eq_false_iff.mpr c45
             subst c45
             have H1 : (if a0_7.toList = ([] : List UInt8) then (some 0) else (some 4)) = some r := by rw [if_neg (show ¬ (false = true) by decide)] at H; exact H
             clear H
             have H := H1
             clear H1
             by_cases c50 : a0_7.toList = ([] : List UInt8)
             ·rw [if_pos c50] at H
              have c50b0 : (a0_7.toList == ([] : List UInt8)) = true := beq_iff_eq.mpr c50
              have c50b1 : (a0_7.toList != ([] : List UInt8)) = false := bne_eq_false_iff_eq.mpr c50
              clear c50
              obtain rfl := Option.some.inj H
              have hcz51_0 := Zc BK123.out 0 (.int .u8 a0_0) rfl
              have hcz51_1 := Zc BK123.out 1 (.int .u8 a0_1) rfl
              have hcz51_2 := Zc BK123.out 2 (.int .u8 a0_2) rfl
              have hcz51_3 := Zc BK123.out 3 (.int .i64 a0_3) rfl
              have hcz51_4 := Zc BK123.out 4 (.int .u8 a0_4) rfl
              have hcz51_5 := Zc BK123.out 5 (.int .u8 a0_5) rfl
              have hcz51_6 := Zc BK123.out 6 (.int .u8 a0_6) rfl
              have hcz51_7 := Zc BK123.out 7 (.string a0_7) rfl
              have hfz51_0 := blk_frozen BK123.out 0
              have hfz51_1 := blk_frozen BK123.out 1
              have hfz51_2 := blk_frozen BK123.out 2
              have hfz51_3 := blk_frozen BK123.out 3
              have hfz51_4 := blk_frozen BK123.out 4
              have hfz51_5 := blk_frozen BK123.out 5
              have hfz51_6 := blk_frozen BK123.out 6
              have hfz51_7 := blk_frozen BK123.out 7
              go_wp2
              repeat (go_quiet (fail); try go_wp2)
              go_ret
              exact ⟨Ze, Zb1 GE123.out⟩
             ·rw [if_neg c50] at H
              have c50b0 : (a0_7.toList == ([] : List UInt8)) = false := beq_eq_false_iff_ne.mpr c50
              have c50b1 : (a0_7.toList != ([] : List UInt8)) = true := bne_iff_ne.mpr c50
              obtain rfl := Option.some.inj H
              have hcz52_0 := Zc BK123.out 0 (.int .u8 a0_0) rfl
              have hcz52_1 := Zc BK123.out 1 (.int .u8 a0_1) rfl
              have hcz52_2 := Zc BK123.out 2 (.int .u8 a0_2) rfl
              have hcz52_3 := Zc BK123.out 3 (.int .i64 a0_3) rfl
              have hcz52_4 := Zc BK123.out 4 (.int .u8 a0_4) rfl
              have hcz52_5 := Zc BK123.out 5 (.int .u8 a0_5) rfl
              have hcz52_6 := Zc BK123.out 6 (.int .u8 a0_6) rfl
              have hcz52_7 := Zc BK123.out 7 (.string a0_7) rfl
              have hfz52_0 := blk_frozen BK123.out 0
              have hfz52_1 := blk_frozen BK123.out 1
              have hfz52_2 := blk_frozen BK123.out 2
              have hfz52_3 := blk_frozen BK123.out 3
              have hfz52_4 := blk_frozen BK123.out 4
              have hfz52_5 := blk_frozen BK123.out 5
              have hfz52_6 := blk_frozen BK123.out 6
              have hfz52_7 := blk_frozen BK123.out 7
              go_wp2
              repeat (go_quiet (fail); try go_wp2)
              go_ret
              exact ⟨Ze, Zb1 GE123.out⟩
        ·replace c30 := Bool.eq_false_iff.mpr c30
         subst c30
         have H1 : (some 2) = some r := by rw [if_neg (show ¬ (false = true) by decide)] at H; exact H
         clear H
         have H := H1
         clear H1
         obtain rfl := Option.some.inj H
         have hcz53_0 := Zc BK123.out 0 (.int .u8 a0_0) rfl
         have hcz53_1 := Zc BK123.out 1 (.int .u8 a0_1) rfl
         have hcz53_2 := Zc BK123.out 2 (.int .u8 a0_2) rfl
         have hcz53_3 := Zc BK123.out 3 (.int .i64 a0_3) rfl
         have hcz53_4 := Zc BK123.out 4 (.int .u8 a0_4) rfl
         have hcz53_5 := Zc BK123.out 5 (.int .u8 a0_5) rfl
         have hcz53_6 := Zc BK123.out 6 (.int .u8 a0_6) rfl
         have hcz53_7 := Zc BK123.out 7 (.string a0_7) rfl
         have hfz53_0 := blk_frozen BK123.out 0
         have hfz53_1 := blk_frozen BK123.out 1
         have hfz53_2 := blk_frozen BK123.out 2
         have hfz53_3 := blk_frozen BK123.out 3
         have hfz53_4 := blk_frozen BK123.out 4
         have hfz53_5 := blk_frozen BK123.out 5
         have hfz53_6 := blk_frozen BK123.out 6
         have hfz53_7 := blk_frozen BK123.out 7
         go_wp2_with (first | (go_at_call 93; (with_reducible refine (gambitref05_about.calls kj16 a0_0 a0_1 a0_2 a0_3 a0_4 a0_5 a0_6 a0_7 true _ A27.out).mono ?_); rintro e w54 ⟨rfl, hb⟩; replace BK123 := Aside0.mk (blk_below (g := gb123) (o := .cells #[.int .u8 a0_0, .int .u8 a0_1, .int .u8 a0_2, .int .i64 a0_3, .int .u8 a0_4, .int .u8 a0_5, .int .u8 a0_6, .string a0_7] 48 (0, 0)) (Zk BK123.out) hb); replace HB := Aside0.mk (below_step (Zb1 GE123.out) hb); (try clear hb); (try clear hb2); (try clear hk); (try clear hi); have hcz55_0 := Zc BK123.out 0 (.int .u8 a0_0) rfl; have hcz55_1 := Zc BK123.out 1 (.int .u8 a0_1) rfl; have hcz55_2 := Zc BK123.out 2 (.int .u8 a0_2) rfl; have hcz55_3 := Zc BK123.out 3 (.int .i64 a0_3) rfl; have hcz55_4 := Zc BK123.out 4 (.int .u8 a0_4) rfl; have hcz55_5 := Zc BK123.out 5 (.int .u8 a0_5) rfl; have hcz55_6 := Zc BK123.out 6 (.int .u8 a0_6) rfl; have hcz55_7 := Zc BK123.out 7 (.string a0_7) rfl; have hfz55_0 := blk_frozen BK123.out 0; have hfz55_1 := blk_frozen BK123.out 1; have hfz55_2 := blk_frozen BK123.out 2; have hfz55_3 := blk_frozen BK123.out 3; have hfz55_4 := blk_frozen BK123.out 4; have hfz55_5 := blk_frozen BK123.out 5; have hfz55_6 := blk_frozen BK123.out 6; have hfz55_7 := blk_frozen BK123.out 7) | (go_at_call 94; (with_reducible refine (gambitref05_counted.calls kj16 a0_0 a0_1 a0_2 a0_3 a0_4 a0_5 a0_6 a0_7 false _ A29.out).mono ?_); rintro e w56 ⟨rfl, hb⟩; replace BK123 := Aside0.mk (blk_below (g := gb123) (o := .cells #[.int .u8 a0_0, .int .u8 a0_1, .int .u8 a0_2, .int .i64 a0_3, .int .u8 a0_4, .int .u8 a0_5, .int .u8 a0_6, .string a0_7] 48 (0, 0)) (Zk BK123.out) hb); replace HB := Aside0.mk (below_step (Zb1 GE123.out) hb); (try clear hb); (try clear hb2); (try clear hk); (try clear hi)))
         repeat (go_quiet (first | (go_at_call 93; (with_reducible refine (gambitref05_about.calls kj16 a0_0 a0_1 a0_2 a0_3 a0_4 a0_5 a0_6 a0_7 true _ A27.out).mono ?_); rintro e w54 ⟨rfl, hb⟩; replace BK123 := Aside0.mk (blk_below (g := gb123) (o := .cells #[.int .u8 a0_0, .int .u8 a0_1, .int .u8 a0_2, .int .i64 a0_3, .int .u8 a0_4, .int .u8 a0_5, .int .u8 a0_6, .string a0_7] 48 (0, 0)) (Zk BK123.out) hb); replace HB := Aside0.mk (below_step (Zb1 GE123.out) hb); (try clear hb); (try clear hb2); (try clear hk); (try clear hi); have hcz55_0 := Zc BK123.out 0 (.int .u8 a0_0) rfl; have hcz55_1 := Zc BK123.out 1 (.int .u8 a0_1) rfl; have hcz55_2 := Zc BK123.out 2 (.int .u8 a0_2) rfl; have hcz55_3 := Zc BK123.out 3 (.int .i64 a0_3) rfl; have hcz55_4 := Zc BK123.out 4 (.int .u8 a0_4) rfl; have hcz55_5 := Zc BK123.out 5 (.int .u8 a0_5) rfl; have hcz55_6 := Zc BK123.out 6 (.int .u8 a0_6) rfl; have hcz55_7 := Zc BK123.out 7 (.string a0_7) rfl; have hfz55_0 := blk_frozen BK123.out 0; have hfz55_1 := blk_frozen BK123.out 1; have hfz55_2 := blk_frozen BK123.out 2; have hfz55_3 := blk_frozen BK123.out 3; have hfz55_4 := blk_frozen BK123.out 4; have hfz55_5 := blk_frozen BK123.out 5; have hfz55_6 := blk_frozen BK123.out 6; have hfz55_7 := blk_frozen BK123.out 7) | (go_at_call 94; (with_reducible refine (gambitref05_counted.calls kj16 a0_0 a0_1 a0_2 a0_3 a0_4 a0_5 a0_6 a0_7 false _ A29.out).mono ?_); rintro e w56 ⟨rfl, hb⟩; replace BK123 := Aside0.mk (blk_below (g := gb123) (o := .cells #[.int .u8 a0_0, .int .u8 a0_1, .int .u8 a0_2, .int .i64 a0_3, .int .u8 a0_4, .int .u8 a0_5, .int .u8 a0_6, .string a0_7] 48 (0, 0)) (Zk BK123.out) hb); replace HB := Aside0.mk (below_step (Zb1 GE123.out) hb); (try clear hb); (try clear hb2); (try clear hk); (try clear hi))); try go_wp2_with (first | (go_at_call 93; (with_reducible refine (gambitref05_about.calls kj16 a0_0 a0_1 a0_2 a0_3 a0_4 a0_5 a0_6 a0_7 true _ A27.out).mono ?_); rintro e w54 ⟨rfl, hb⟩; replace BK123 := Aside0.mk (blk_below (g := gb123) (o := .cells #[.int .u8 a0_0, .int .u8 a0_1, .int .u8 a0_2, .int .i64 a0_3, .int .u8 a0_4, .int .u8 a0_5, .int .u8 a0_6, .string a0_7] 48 (0, 0)) (Zk BK123.out) hb); replace HB := Aside0.mk (below_step (Zb1 GE123.out) hb); (try clear hb); (try clear hb2); (try clear hk); (try clear hi); have hcz55_0 := Zc BK123.out 0 (.int .u8 a0_0) rfl; have hcz55_1 := Zc BK123.out 1 (.int .u8 a0_1) rfl; have hcz55_2 := Zc BK123.out 2 (.int .u8 a0_2) rfl; have hcz55_3 := Zc BK123.out 3 (.int .i64 a0_3) rfl; have hcz55_4 := Zc BK123.out 4 (.int .u8 a0_4) rfl; have hcz55_5 := Zc BK123.out 5 (.int .u8 a0_5) rfl; have hcz55_6 := Zc BK123.out 6 (.int .u8 a0_6) rfl; have hcz55_7 := Zc BK123.out 7 (.string a0_7) rfl; have hfz55_0 := blk_frozen BK123.out 0; have hfz55_1 := blk_frozen BK123.out 1; have hfz55_2 := blk_frozen BK123.out 2; have hfz55_3 := blk_frozen BK123.out 3; have hfz55_4 := blk_frozen BK123.out 4; have hfz55_5 := blk_frozen BK123.out 5; have hfz55_6 := blk_frozen BK123.out 6; have hfz55_7 := blk_frozen BK123.out 7) | (go_at_call 94; (with_reducible refine (gambitref05_counted.calls kj16 a0_0 a0_1 a0_2 a0_3 a0_4 a0_5 a0_6 a0_7 false _ A29.out).mono ?_); rintro e w56 ⟨rfl, hb⟩; replace BK123 := Aside0.mk (blk_below (g := gb123) (o := .cells #[.int .u8 a0_0, .int .u8 a0_1, .int .u8 a0_2, .int .i64 a0_3, .int .u8 a0_4, .int .u8 a0_5, .int .u8 a0_6, .string a0_7] 48 (0, 0)) (Zk BK123.out) hb); replace HB := Aside0.mk (below_step (Zb1 GE123.out) hb); (try clear hb); (try clear hb2); (try clear hk); (try clear hi))))
         go_ret
         exact ⟨Ze, Zb1 GE123.out⟩
       ·replace c28 := Bool.eq_false_iff.mpr c28
        subst c28
        have H1 : (some 13) = some r := by rw [if_neg (show ¬ (false = true) by decide)] at H; exact H
        clear H
        have H := H1
        clear H1
        obtain rfl := Option.some.inj H
        have hcz57_0 := Zc BK123.out 0 (.int .u8 a0_0) rfl
        have hcz57_1 := Zc BK123.out 1 (.int .u8 a0_1) rfl
        have hcz57_2 := Zc BK123.out 2 (.int .u8 a0_2) rfl
        have hcz57_3 := Zc BK123.out 3 (.int .i64 a0_3) rfl
        have hcz57_4 := Zc BK123.out 4 (.int .u8 a0_4) rfl
        have hcz57_5 := Zc BK123.out 5 (.int .u8 a0_5) rfl
        have hcz57_6 := Zc BK123.out 6 (.int .u8 a0_6) rfl
        have hcz57_7 := Zc BK123.out 7 (.string a0_7) rfl
        have hfz57_0 := blk_frozen BK123.out 0
        have hfz57_1 := blk_frozen BK123.out 1
        have hfz57_2 := blk_frozen BK123.out 2
        have hfz57_3 := blk_frozen BK123.out 3
        have hfz57_4 := blk_frozen BK123.out 4
        have hfz57_5 := blk_frozen BK123.out 5
        have hfz57_6 := blk_frozen BK123.out 6
        have hfz57_7 := blk_frozen BK123.out 7
        go_wp2_with (first | (go_at_call 93; (with_reducible refine (gambitref05_about.calls kj16 a0_0 a0_1 a0_2 a0_3 a0_4 a0_5 a0_6 a0_7 false _ A27.out).mono ?_); rintro e w58 ⟨rfl, hb⟩; replace BK123 := Aside0.mk (blk_below (g := gb123) (o := .cells #[.int .u8 a0_0, .int .u8 a0_1, .int .u8 a0_2, .int .i64 a0_3, .int .u8 a0_4, .int .u8 a0_5, .int .u8 a0_6, .string a0_7] 48 (0, 0)) (Zk BK123.out) hb); replace HB := Aside0.mk (below_step (Zb1 GE123.out) hb); (try clear hb); (try clear hb2); (try clear hk); (try clear hi)))
        repeat (go_quiet (first | (go_at_call 93; (with_reducible refine (gambitref05_about.calls kj16 a0_0 a0_1 a0_2 a0_3 a0_4 a0_5 a0_6 a0_7 false _ A27.out).mono ?_); rintro e w58 ⟨rfl, hb⟩; replace BK123 := Aside0.mk (blk_below (g := gb123) (o := .cells #[.int .u8 a0_0, .int .u8 a0_1, .int .u8 a0_2, .int .i64 a0_3, .int .u8 a0_4, .int .u8 a0_5, .int .u8 a0_6, .string a0_7] 48 (0, 0)) (Zk BK123.out) hb); replace HB := Aside0.mk (below_step (Zb1 GE123.out) hb); (try clear hb); (try clear hb2); (try clear hk); (try clear hi))); try go_wp2_with (first | (go_at_call 93; (with_reducible refine (gambitref05_about.calls kj16 a0_0 a0_1 a0_2 a0_3 a0_4 a0_5 a0_6 a0_7 false _ A27.out).mono ?_); rintro e w58 ⟨rfl, hb⟩; replace BK123 := Aside0.mk (blk_below (g := gb123) (o := .cells #[.int .u8 a0_0, .int .u8 a0_1, .int .u8 a0_2, .int .i64 a0_3, .int .u8 a0_4, .int .u8 a0_5, .int .u8 a0_6, .string a0_7] 48 (0, 0)) (Zk BK123.out) hb); replace HB := Aside0.mk (below_step (Zb1 GE123.out) hb); (try clear hb); (try clear hb2); (try clear hk); (try clear hi))))
        go_ret
        exact ⟨Ze, Zb1 GE123.out⟩
end Go.Proofs.YtfpcideomanbbaaGreatDoor.PA
end
section
namespace Go.Proofs.YtfpcideomanbbaaGreatDoor.PA
open Go.RowKit Go.Proofs.YtfpcideomanbbaaGreatDoorW.PrintWords Go.Proofs.YtfpcideomanbbaaGreatDoorW.PrintLast Go.Proofs.YtfpcideomanbbaaGreatDoorW.PrintMore
attribute [local go_sem] max2_int min2_int max_two min_two max_three min_three max_four min_four
set_option linter.unusedVariables false
set_option linter.unusedSimpArgs false
def suit_Name.f (a0 : Int) : Option (ByteArray) := if a0 = 1 then (some (⟨#[97, 105, 114]⟩ : ByteArray)) else (if a0 = 2 then (some (⟨#[101, 97, 114, 116, 104]⟩ : ByteArray)) else (if a0 = 3 then (some (⟨#[102, 105, 114, 101]⟩ : ByteArray)) else (if a0 = 4 then (some (⟨#[119, 97, 116, 101, 114]⟩ : ByteArray)) else (if a0 = 5 then (some (⟨#[118, 111, 105, 100]⟩ : ByteArray)) else (if a0 = 6 then (some (⟨#[103, 111, 108, 100]⟩ : ByteArray)) else (some (⟨#[]⟩ : ByteArray)))))))
set_option maxHeartbeats 8000000 in
set_option maxRecDepth 100000 in
theorem suit_Name.calls (a0 : Int) (r : ByteArray) (w : World) (h : suit_Name.f a0 = some r) :
  Calls Tryz.prog 30 #[.int .u8 a0] w fun e w' => e = .returned (.string r) ∧ Drawn0 w w' := by
 have H : (if a0 = 1 then (some (⟨#[97, 105, 114]⟩ : ByteArray)) else (if a0 = 2 then (some (⟨#[101, 97, 114, 116, 104]⟩ : ByteArray)) else (if a0 = 3 then (some (⟨#[102, 105, 114, 101]⟩ : ByteArray)) else (if a0 = 4 then (some (⟨#[119, 97, 116, 101, 114]⟩ : ByteArray)) else (if a0 = 5 then (some (⟨#[118, 111, 105, 100]⟩ : ByteArray)) else (if a0 = 6 then (some (⟨#[103, 111, 108, 100]⟩ : ByteArray)) else (some (⟨#[]⟩ : ByteArray)))))))) = some r := h
 clear h
 by_cases c2 : a0 = 1
 ·rw [if_pos c2] at H
  have c2b0 : (a0 == 1) = true := beq_iff_eq.mpr c2
  have c2b1 : (a0 != 1) = false := bne_eq_false_iff_eq.mpr c2
  clear c2
  obtain rfl := Option.some.inj H
  go_enter Tryz.func30, Tryz.ntmps30
  go_wp2
  go_ret
  exact ⟨Zt, Zd⟩
 ·rw [if_neg c2] at H
  have c2b0 : (a0 == 1) = false := beq_eq_false_iff_ne.mpr c2
  have c2b1 : (a0 != 1) = true := bne_iff_ne.mpr c2
  by_cases c3 : a0 = 2
  ·rw [if_pos c3] at H
   have c3b0 : (a0 == 2) = true := beq_iff_eq.mpr c3
   have c3b1 : (a0 != 2) = false := bne_eq_false_iff_eq.mpr c3
   clear c3
   obtain rfl := Option.some.inj H
   go_enter Tryz.func30, Tryz.ntmps30
   go_wp2
   go_ret
   exact ⟨Zt, Zd⟩
  ·rw [if_neg c3] at H
   have c3b0 : (a0 == 2) = false := beq_eq_false_iff_ne.mpr c3
   have c3b1 : (a0 != 2) = true := bne_iff_ne.mpr c3
   by_cases c4 : a0 = 3
   ·rw [if_pos c4] at H
    have c4b0 : (a0 == 3) = true := beq_iff_eq.mpr c4
    have c4b1 : (a0 != 3) = false := bne_eq_false_iff_eq.mpr c4
    clear c4
    obtain rfl := Option.some.inj H
    go_enter Tryz.func30, Tryz.ntmps30
    go_wp2
    go_ret
    exact ⟨Zt, Zd⟩
   ·rw [if_neg c4] at H
    have c4b0 : (a0 == 3) = false := beq_eq_false_iff_ne.mpr c4
    have c4b1 : (a0 != 3) = true := bne_iff_ne.mpr c4
    by_cases c5 : a0 = 4
    ·rw [if_pos c5] at H
     have c5b0 : (a0 == 4) = true := beq_iff_eq.mpr c5
     have c5b1 : (a0 != 4) = false := bne_eq_false_iff_eq.mpr c5
     clear c5
     obtain rfl := Option.some.inj H
     go_enter Tryz.func30, Tryz.ntmps30
     go_wp2
     go_ret
     exact ⟨Zt, Zd⟩
    ·rw [if_neg c5] at H
     have c5b0 : (a0 == 4) = false := beq_eq_false_iff_ne.mpr c5
     have c5b1 : (a0 != 4) = true := bne_iff_ne.mpr c5
     by_cases c6 : a0 = 5
     ·rw [if_pos c6] at H
      have c6b0 : (a0 == 5) = true := beq_iff_eq.mpr c6
      have c6b1 : (a0 != 5) = false := bne_eq_false_iff_eq.mpr c6
      clear c6
      obtain rfl := Option.some.inj H
      go_enter Tryz.func30, Tryz.ntmps30
      go_wp2
      go_ret
      exact ⟨Zt, Zd⟩
     ·rw [if_neg c6] at H
      have c6b0 : (a0 == 5) = false := beq_eq_false_iff_ne.mpr c6
      have c6b1 : (a0 != 5) = true := bne_iff_ne.mpr c6
      by_cases c7 : a0 = 6
      ·rw [if_pos c7] at H
       have c7b0 : (a0 == 6) = true := beq_iff_eq.mpr c7
       have c7b1 : (a0 != 6) = false := bne_eq_false_iff_eq.mpr c7
       clear c7
       obtain rfl := Option.some.inj H
       go_enter Tryz.func30, Tryz.ntmps30
       go_wp2
       go_ret
       exact ⟨Zt, Zd⟩
      ·rw [if_neg c7] at H
       have c7b0 : (a0 == 6) = false := beq_eq_false_iff_ne.mpr c7
       have c7b1 : (a0 != 6) = true := bne_iff_ne.mpr c7
       obtain rfl := Option.some.inj H
       go_enter Tryz.func30, Tryz.ntmps30
       go_wp2
       go_ret
       exact ⟨Zt, Zd⟩
end Go.Proofs.YtfpcideomanbbaaGreatDoor.PA
end
section
namespace Go.Proofs.YtfpcideomanbbaaGreatDoor.PA
open Go.RowKit Go.Proofs.YtfpcideomanbbaaGreatDoorW.PrintWords Go.Proofs.YtfpcideomanbbaaGreatDoorW.PrintLast Go.Proofs.YtfpcideomanbbaaGreatDoorW.PrintMore
attribute [local go_sem] max2_int min2_int max_two min_two max_three min_three max_four min_four
set_option linter.unusedVariables false
set_option linter.unusedSimpArgs false
def gambitref03_Name.f (a0 : Int) : Option (ByteArray) := if a0 = 1 then (some (⟨#[97, 105, 114]⟩ : ByteArray)) else (if a0 = 2 then (some (⟨#[101, 97, 114, 116, 104]⟩ : ByteArray)) else (if a0 = 3 then (some (⟨#[102, 105, 114, 101]⟩ : ByteArray)) else (if a0 = 4 then (some (⟨#[119, 97, 116, 101, 114]⟩ : ByteArray)) else (if a0 = 5 then (some (⟨#[118, 111, 105, 100]⟩ : ByteArray)) else (if a0 = 6 then (some (⟨#[103, 111, 108, 100]⟩ : ByteArray)) else (some (⟨#[]⟩ : ByteArray)))))))
set_option maxHeartbeats 8000000 in
set_option maxRecDepth 100000 in
theorem gambitref03_Name.calls (a0 : Int) (r : ByteArray) (w : World) (h : gambitref03_Name.f a0 = some r) :
  Calls Tryz.prog 38 #[.int .u8 a0] w fun e w' => e = .returned (.string r) ∧ Drawn0 w w' := by
 have H : (if a0 = 1 then (some (⟨#[97, 105, 114]⟩ : ByteArray)) else (if a0 = 2 then (some (⟨#[101, 97, 114, 116, 104]⟩ : ByteArray)) else (if a0 = 3 then (some (⟨#[102, 105, 114, 101]⟩ : ByteArray)) else (if a0 = 4 then (some (⟨#[119, 97, 116, 101, 114]⟩ : ByteArray)) else (if a0 = 5 then (some (⟨#[118, 111, 105, 100]⟩ : ByteArray)) else (if a0 = 6 then (some (⟨#[103, 111, 108, 100]⟩ : ByteArray)) else (some (⟨#[]⟩ : ByteArray)))))))) = some r := h
 clear h
 by_cases c2 : a0 = 1
 ·rw [if_pos c2] at H
  have c2b0 : (a0 == 1) = true := beq_iff_eq.mpr c2
  have c2b1 : (a0 != 1) = false := bne_eq_false_iff_eq.mpr c2
  clear c2
  obtain rfl := Option.some.inj H
  go_enter Tryz.func38, Tryz.ntmps38
  go_wp2
  go_ret
  exact ⟨Zt, Zd⟩
 ·rw [if_neg c2] at H
  have c2b0 : (a0 == 1) = false := beq_eq_false_iff_ne.mpr c2
  have c2b1 : (a0 != 1) = true := bne_iff_ne.mpr c2
  by_cases c3 : a0 = 2
  ·rw [if_pos c3] at H
   have c3b0 : (a0 == 2) = true := beq_iff_eq.mpr c3
   have c3b1 : (a0 != 2) = false := bne_eq_false_iff_eq.mpr c3
   clear c3
   obtain rfl := Option.some.inj H
   go_enter Tryz.func38, Tryz.ntmps38
   go_wp2
   go_ret
   exact ⟨Zt, Zd⟩
  ·rw [if_neg c3] at H
   have c3b0 : (a0 == 2) = false := beq_eq_false_iff_ne.mpr c3
   have c3b1 : (a0 != 2) = true := bne_iff_ne.mpr c3
   by_cases c4 : a0 = 3
   ·rw [if_pos c4] at H
    have c4b0 : (a0 == 3) = true := beq_iff_eq.mpr c4
    have c4b1 : (a0 != 3) = false := bne_eq_false_iff_eq.mpr c4
    clear c4
    obtain rfl := Option.some.inj H
    go_enter Tryz.func38, Tryz.ntmps38
    go_wp2
    go_ret
    exact ⟨Zt, Zd⟩
   ·rw [if_neg c4] at H
    have c4b0 : (a0 == 3) = false := beq_eq_false_iff_ne.mpr c4
    have c4b1 : (a0 != 3) = true := bne_iff_ne.mpr c4
    by_cases c5 : a0 = 4
    ·rw [if_pos c5] at H
     have c5b0 : (a0 == 4) = true := beq_iff_eq.mpr c5
     have c5b1 : (a0 != 4) = false := bne_eq_false_iff_eq.mpr c5
     clear c5
     obtain rfl := Option.some.inj H
     go_enter Tryz.func38, Tryz.ntmps38
     go_wp2
     go_ret
     exact ⟨Zt, Zd⟩
    ·rw [if_neg c5] at H
     have c5b0 : (a0 == 4) = false := beq_eq_false_iff_ne.mpr c5
     have c5b1 : (a0 != 4) = true := bne_iff_ne.mpr c5
     by_cases c6 : a0 = 5
     ·rw [if_pos c6] at H
      have c6b0 : (a0 == 5) = true := beq_iff_eq.mpr c6
      have c6b1 : (a0 != 5) = false := bne_eq_false_iff_eq.mpr c6
      clear c6
      obtain rfl := Option.some.inj H
      go_enter Tryz.func38, Tryz.ntmps38
      go_wp2
      go_ret
      exact ⟨Zt, Zd⟩
     ·rw [if_neg c6] at H
      have c6b0 : (a0 == 5) = false := beq_eq_false_iff_ne.mpr c6
      have c6b1 : (a0 != 5) = true := bne_iff_ne.mpr c6
      by_cases c7 : a0 = 6
      ·rw [if_pos c7] at H
       have c7b0 : (a0 == 6) = true := beq_iff_eq.mpr c7
       have c7b1 : (a0 != 6) = false := bne_eq_false_iff_eq.mpr c7
       clear c7
       obtain rfl := Option.some.inj H
       go_enter Tryz.func38, Tryz.ntmps38
       go_wp2
       go_ret
       exact ⟨Zt, Zd⟩
      ·rw [if_neg c7] at H
       have c7b0 : (a0 == 6) = false := beq_eq_false_iff_ne.mpr c7
       have c7b1 : (a0 != 6) = true := bne_iff_ne.mpr c7
       obtain rfl := Option.some.inj H
       go_enter Tryz.func38, Tryz.ntmps38
       go_wp2
       go_ret
       exact ⟨Zt, Zd⟩
end Go.Proofs.YtfpcideomanbbaaGreatDoor.PA
end
section
namespace Go.Proofs.YtfpcideomanbbaaGreatDoor.PA
open Go.RowKit Go.Proofs.YtfpcideomanbbaaGreatDoorW.PrintWords Go.Proofs.YtfpcideomanbbaaGreatDoorW.PrintLast Go.Proofs.YtfpcideomanbbaaGreatDoorW.PrintMore
attribute [local go_sem] max2_int min2_int max_two min_two max_three min_three max_four min_four
set_option linter.unusedVariables false
set_option linter.unusedSimpArgs false
def gambitref04_Rows.f  : Option ((List (S116))) := some (([(⟨1, (⟨#[102, 97, 115, 116]⟩ : ByteArray), 1, (⟨#[109, 97, 121, 32, 115, 116, 114, 105, 107, 101, 32, 111, 110, 32, 116, 104, 101, 32, 116, 117, 114, 110, 32, 111, 110, 32, 119, 104, 105, 99, 104, 32, 105, 116, 32, 99, 97, 109, 101]⟩ : ByteArray)⟩ : S116), (⟨2, (⟨#[103, 117, 97, 114, 100]⟩ : ByteArray), 2, (⟨#[105, 115, 32, 115, 116, 114, 117, 99, 107, 32, 97, 104, 101, 97, 100, 32, 111, 102, 32, 97, 108, 108, 32, 116, 104, 97, 116, 32, 105, 115, 32, 110, 111, 32, 103, 117, 97, 114, 100]⟩ : ByteArray)⟩ : S116), (⟨3, (⟨#[118, 101, 110, 111, 109]⟩ : ByteArray), 3, (⟨#[119, 104, 97, 116, 101, 118, 101, 114, 32, 105, 116, 32, 104, 97, 114, 109, 115, 32, 98, 114, 101, 97, 107, 115]⟩ : ByteArray)⟩ : S116), (⟨4, (⟨#[108, 111, 110, 101]⟩ : ByteArray), 4, (⟨#[99, 97, 110, 110, 111, 116, 32, 98, 101, 32, 109, 101, 97, 110, 116, 32, 98, 121, 32, 116, 104, 101, 32, 102, 111, 101]⟩ : ByteArray)⟩ : S116), (⟨5, (⟨#[100, 114, 97, 105, 110]⟩ : ByteArray), 4, (⟨#[119, 104, 97, 116, 32, 105, 116, 32, 104, 97, 114, 109, 115, 32, 109, 101, 110, 100, 115, 32, 105, 116, 115, 32, 104, 111, 108, 100, 101, 114]⟩ : ByteArray)⟩ : S116), (⟨6, (⟨#[109, 117, 116, 101]⟩ : ByteArray), 5, (⟨#[105, 116, 115, 32, 99, 97, 114, 100, 39, 115, 32, 112, 97, 114, 116, 115, 32, 99, 111, 117, 110, 116, 32, 102, 111, 114, 32, 110, 111, 116, 104, 105, 110, 103]⟩ : ByteArray)⟩ : S116), (⟨7, (⟨#[102, 105, 120, 101, 100]⟩ : ByteArray), 6, (⟨#[99, 97, 110, 110, 111, 116, 32, 115, 116, 114, 105, 107, 101]⟩ : ByteArray)⟩ : S116), (⟨8, (⟨#[115, 119, 105, 102, 116]⟩ : ByteArray), 1, (⟨#[115, 116, 114, 105, 107, 101, 115, 32, 97, 32, 115, 101, 99, 111, 110, 100, 32, 116, 105, 109, 101, 32, 101, 97, 99, 104, 32, 116, 117, 114, 110]⟩ : ByteArray)⟩ : S116)] : List (S116)))
set_option maxHeartbeats 8000000 in
set_option maxRecDepth 100000 in
theorem gambitref04_Rows.calls  (r : List (S116)) (w : World) (h : gambitref04_Rows.f  = some r) :
  Calls Tryz.prog 120 #[] w fun e w' => ∃ v0_ : Value, e = .returned (v0_) ∧ Kd.R k116 116 w' w.heap.size (fun _ => True) v0_ r ∧ Below w.heap.size w w' := by
 have hu116 := Tryz.underlying116
 have HB := Aside0.mk (Below.refl w.heap.size w)
 have H : (some (([(⟨1, (⟨#[102, 97, 115, 116]⟩ : ByteArray), 1, (⟨#[109, 97, 121, 32, 115, 116, 114, 105, 107, 101, 32, 111, 110, 32, 116, 104, 101, 32, 116, 117, 114, 110, 32, 111, 110, 32, 119, 104, 105, 99, 104, 32, 105, 116, 32, 99, 97, 109, 101]⟩ : ByteArray)⟩ : S116), (⟨2, (⟨#[103, 117, 97, 114, 100]⟩ : ByteArray), 2, (⟨#[105, 115, 32, 115, 116, 114, 117, 99, 107, 32, 97, 104, 101, 97, 100, 32, 111, 102, 32, 97, 108, 108, 32, 116, 104, 97, 116, 32, 105, 115, 32, 110, 111, 32, 103, 117, 97, 114, 100]⟩ : ByteArray)⟩ : S116), (⟨3, (⟨#[118, 101, 110, 111, 109]⟩ : ByteArray), 3, (⟨#[119, 104, 97, 116, 101, 118, 101, 114, 32, 105, 116, 32, 104, 97, 114, 109, 115, 32, 98, 114, 101, 97, 107, 115]⟩ : ByteArray)⟩ : S116), (⟨4, (⟨#[108, 111, 110, 101]⟩ : ByteArray), 4, (⟨#[99, 97, 110, 110, 111, 116, 32, 98, 101, 32, 109, 101, 97, 110, 116, 32, 98, 121, 32, 116, 104, 101, 32, 102, 111, 101]⟩ : ByteArray)⟩ : S116), (⟨5, (⟨#[100, 114, 97, 105, 110]⟩ : ByteArray), 4, (⟨#[119, 104, 97, 116, 32, 105, 116, 32, 104, 97, 114, 109, 115, 32, 109, 101, 110, 100, 115, 32, 105, 116, 115, 32, 104, 111, 108, 100, 101, 114]⟩ : ByteArray)⟩ : S116), (⟨6, (⟨#[109, 117, 116, 101]⟩ : ByteArray), 5, (⟨#[105, 116, 115, 32, 99, 97, 114, 100, 39, 115, 32, 112, 97, 114, 116, 115, 32, 99, 111, 117, 110, 116, 32, 102, 111, 114, 32, 110, 111, 116, 104, 105, 110, 103]⟩ : ByteArray)⟩ : S116), (⟨7, (⟨#[102, 105, 120, 101, 100]⟩ : ByteArray), 6, (⟨#[99, 97, 110, 110, 111, 116, 32, 115, 116, 114, 105, 107, 101]⟩ : ByteArray)⟩ : S116), (⟨8, (⟨#[115, 119, 105, 102, 116]⟩ : ByteArray), 1, (⟨#[115, 116, 114, 105, 107, 101, 115, 32, 97, 32, 115, 101, 99, 111, 110, 100, 32, 116, 105, 109, 101, 32, 101, 97, 99, 104, 32, 116, 117, 114, 110]⟩ : ByteArray)⟩ : S116)] : List (S116)))) = some r := h
 clear h
 obtain ⟨y101, hy101⟩ : ∃ y_ : List (S116), y_ = (([(⟨1, (⟨#[102, 97, 115, 116]⟩ : ByteArray), 1, (⟨#[109, 97, 121, 32, 115, 116, 114, 105, 107, 101, 32, 111, 110, 32, 116, 104, 101, 32, 116, 117, 114, 110, 32, 111, 110, 32, 119, 104, 105, 99, 104, 32, 105, 116, 32, 99, 97, 109, 101]⟩ : ByteArray)⟩ : S116), (⟨2, (⟨#[103, 117, 97, 114, 100]⟩ : ByteArray), 2, (⟨#[105, 115, 32, 115, 116, 114, 117, 99, 107, 32, 97, 104, 101, 97, 100, 32, 111, 102, 32, 97, 108, 108, 32, 116, 104, 97, 116, 32, 105, 115, 32, 110, 111, 32, 103, 117, 97, 114, 100]⟩ : ByteArray)⟩ : S116), (⟨3, (⟨#[118, 101, 110, 111, 109]⟩ : ByteArray), 3, (⟨#[119, 104, 97, 116, 101, 118, 101, 114, 32, 105, 116, 32, 104, 97, 114, 109, 115, 32, 98, 114, 101, 97, 107, 115]⟩ : ByteArray)⟩ : S116), (⟨4, (⟨#[108, 111, 110, 101]⟩ : ByteArray), 4, (⟨#[99, 97, 110, 110, 111, 116, 32, 98, 101, 32, 109, 101, 97, 110, 116, 32, 98, 121, 32, 116, 104, 101, 32, 102, 111, 101]⟩ : ByteArray)⟩ : S116), (⟨5, (⟨#[100, 114, 97, 105, 110]⟩ : ByteArray), 4, (⟨#[119, 104, 97, 116, 32, 105, 116, 32, 104, 97, 114, 109, 115, 32, 109, 101, 110, 100, 115, 32, 105, 116, 115, 32, 104, 111, 108, 100, 101, 114]⟩ : ByteArray)⟩ : S116), (⟨6, (⟨#[109, 117, 116, 101]⟩ : ByteArray), 5, (⟨#[105, 116, 115, 32, 99, 97, 114, 100, 39, 115, 32, 112, 97, 114, 116, 115, 32, 99, 111, 117, 110, 116, 32, 102, 111, 114, 32, 110, 111, 116, 104, 105, 110, 103]⟩ : ByteArray)⟩ : S116), (⟨7, (⟨#[102, 105, 120, 101, 100]⟩ : ByteArray), 6, (⟨#[99, 97, 110, 110, 111, 116, 32, 115, 116, 114, 105, 107, 101]⟩ : ByteArray)⟩ : S116), (⟨8, (⟨#[115, 119, 105, 102, 116]⟩ : ByteArray), 1, (⟨#[115, 116, 114, 105, 107, 101, 115, 32, 97, 32, 115, 101, 99, 111, 110, 100, 32, 116, 105, 109, 101, 32, 101, 97, 99, 104, 32, 116, 117, 114, 110]⟩ : ByteArray)⟩ : S116)] : List (S116))) := ⟨_, rfl⟩
 replace H : (some y101) = some r := by first | (rw [hy101]; with_reducible exact H) | (have H2_ := (Option.bind_some _ _).symm.trans H; rw [hy101]; with_reducible exact H2_) | (have H2_ := (Option.bind_some _ _).symm.trans H; with_reducible exact H2_) | with_reducible exact H | (rw [hy101]; exact H) | exact H
 have Ny101 := Aside0.mk hy101
 clear hy101
 obtain rfl := Option.some.inj H
 go_enter Tryz.func120, Tryz.ntmps120
 go_wp2_with (first | ((with_reducible refine gate_dst (N := 9) rfl ?_); refine Kd.R_lit k116 _ 116 ?hg (N := 9) ?hd (xs := ([(⟨1, (⟨#[102, 97, 115, 116]⟩ : ByteArray), 1, (⟨#[109, 97, 121, 32, 115, 116, 114, 105, 107, 101, 32, 111, 110, 32, 116, 104, 101, 32, 116, 117, 114, 110, 32, 111, 110, 32, 119, 104, 105, 99, 104, 32, 105, 116, 32, 99, 97, 109, 101]⟩ : ByteArray)⟩ : S116), (⟨2, (⟨#[103, 117, 97, 114, 100]⟩ : ByteArray), 2, (⟨#[105, 115, 32, 115, 116, 114, 117, 99, 107, 32, 97, 104, 101, 97, 100, 32, 111, 102, 32, 97, 108, 108, 32, 116, 104, 97, 116, 32, 105, 115, 32, 110, 111, 32, 103, 117, 97, 114, 100]⟩ : ByteArray)⟩ : S116), (⟨3, (⟨#[118, 101, 110, 111, 109]⟩ : ByteArray), 3, (⟨#[119, 104, 97, 116, 101, 118, 101, 114, 32, 105, 116, 32, 104, 97, 114, 109, 115, 32, 98, 114, 101, 97, 107, 115]⟩ : ByteArray)⟩ : S116), (⟨4, (⟨#[108, 111, 110, 101]⟩ : ByteArray), 4, (⟨#[99, 97, 110, 110, 111, 116, 32, 98, 101, 32, 109, 101, 97, 110, 116, 32, 98, 121, 32, 116, 104, 101, 32, 102, 111, 101]⟩ : ByteArray)⟩ : S116), (⟨5, (⟨#[100, 114, 97, 105, 110]⟩ : ByteArray), 4, (⟨#[119, 104, 97, 116, 32, 105, 116, 32, 104, 97, 114, 109, 115, 32, 109, 101, 110, 100, 115, 32, 105, 116, 115, 32, 104, 111, 108, 100, 101, 114]⟩ : ByteArray)⟩ : S116), (⟨6, (⟨#[109, 117, 116, 101]⟩ : ByteArray), 5, (⟨#[105, 116, 115, 32, 99, 97, 114, 100, 39, 115, 32, 112, 97, 114, 116, 115, 32, 99, 111, 117, 110, 116, 32, 102, 111, 114, 32, 110, 111, 116, 104, 105, 110, 103]⟩ : ByteArray)⟩ : S116), (⟨7, (⟨#[102, 105, 120, 101, 100]⟩ : ByteArray), 6, (⟨#[99, 97, 110, 110, 111, 116, 32, 115, 116, 114, 105, 107, 101]⟩ : ByteArray)⟩ : S116), (⟨8, (⟨#[115, 119, 105, 102, 116]⟩ : ByteArray), 1, (⟨#[115, 116, 114, 105, 107, 101, 115, 32, 97, 32, 115, 101, 99, 111, 110, 100, 32, 116, 105, 109, 101, 32, 101, 97, 99, 104, 32, 116, 117, 114, 110]⟩ : ByteArray)⟩ : S116)] : List (S116))) (inner := [.int .u8 1, .string (⟨#[102, 97, 115, 116]⟩ : ByteArray), .int .u8 1, .string (⟨#[109, 97, 121, 32, 115, 116, 114, 105, 107, 101, 32, 111, 110, 32, 116, 104, 101, 32, 116, 117, 114, 110, 32, 111, 110, 32, 119, 104, 105, 99, 104, 32, 105, 116, 32, 99, 97, 109, 101]⟩ : ByteArray), .int .u8 2, .string (⟨#[103, 117, 97, 114, 100]⟩ : ByteArray), .int .u8 2, .string (⟨#[105, 115, 32, 115, 116, 114, 117, 99, 107, 32, 97, 104, 101, 97, 100, 32, 111, 102, 32, 97, 108, 108, 32, 116, 104, 97, 116, 32, 105, 115, 32, 110, 111, 32, 103, 117, 97, 114, 100]⟩ : ByteArray), .int .u8 3, .string (⟨#[118, 101, 110, 111, 109]⟩ : ByteArray), .int .u8 3, .string (⟨#[119, 104, 97, 116, 101, 118, 101, 114, 32, 105, 116, 32, 104, 97, 114, 109, 115, 32, 98, 114, 101, 97, 107, 115]⟩ : ByteArray), .int .u8 4, .string (⟨#[108, 111, 110, 101]⟩ : ByteArray), .int .u8 4, .string (⟨#[99, 97, 110, 110, 111, 116, 32, 98, 101, 32, 109, 101, 97, 110, 116, 32, 98, 121, 32, 116, 104, 101, 32, 102, 111, 101]⟩ : ByteArray), .int .u8 5, .string (⟨#[100, 114, 97, 105, 110]⟩ : ByteArray), .int .u8 4, .string (⟨#[119, 104, 97, 116, 32, 105, 116, 32, 104, 97, 114, 109, 115, 32, 109, 101, 110, 100, 115, 32, 105, 116, 115, 32, 104, 111, 108, 100, 101, 114]⟩ : ByteArray), .int .u8 6, .string (⟨#[109, 117, 116, 101]⟩ : ByteArray), .int .u8 5, .string (⟨#[105, 116, 115, 32, 99, 97, 114, 100, 39, 115, 32, 112, 97, 114, 116, 115, 32, 99, 111, 117, 110, 116, 32, 102, 111, 114, 32, 110, 111, 116, 104, 105, 110, 103]⟩ : ByteArray), .int .u8 7, .string (⟨#[102, 105, 120, 101, 100]⟩ : ByteArray), .int .u8 6, .string (⟨#[99, 97, 110, 110, 111, 116, 32, 115, 116, 114, 105, 107, 101]⟩ : ByteArray), .int .u8 8, .string (⟨#[115, 119, 105, 102, 116]⟩ : ByteArray), .int .u8 1, .string (⟨#[115, 116, 114, 105, 107, 101, 115, 32, 97, 32, 115, 101, 99, 111, 110, 100, 32, 116, 105, 109, 101, 32, 101, 97, 99, 104, 32, 116, 117, 114, 110]⟩ : ByteArray)]) (ok := fun _ => True) (okp := fun _ => True) ?hr ?hp (fun _ hk => hk) trivial (Below.refl _ _) (Nat.le_refl _) (by simp) ?_; (case hd => rfl); (case hg => rfl); (case hr => first | (go_simp; done) | (go_simp; rfl)); (case hp => exact (Reps.c4 (show Kd.M k116 _ _ _ (⟨1, (⟨#[102, 97, 115, 116]⟩ : ByteArray), 1, (⟨#[109, 97, 121, 32, 115, 116, 114, 105, 107, 101, 32, 111, 110, 32, 116, 104, 101, 32, 116, 117, 114, 110, 32, 111, 110, 32, 119, 104, 105, 99, 104, 32, 105, 116, 32, 99, 97, 109, 101]⟩ : ByteArray)⟩ : S116) [.int .u8 1, .string (⟨#[102, 97, 115, 116]⟩ : ByteArray), .int .u8 1, .string (⟨#[109, 97, 121, 32, 115, 116, 114, 105, 107, 101, 32, 111, 110, 32, 116, 104, 101, 32, 116, 117, 114, 110, 32, 111, 110, 32, 119, 104, 105, 99, 104, 32, 105, 116, 32, 99, 97, 109, 101]⟩ : ByteArray)] from (k116_mkM _ _ _ (⟨1, (⟨#[102, 97, 115, 116]⟩ : ByteArray), 1, (⟨#[109, 97, 121, 32, 115, 116, 114, 105, 107, 101, 32, 111, 110, 32, 116, 104, 101, 32, 116, 117, 114, 110, 32, 111, 110, 32, 119, 104, 105, 99, 104, 32, 105, 116, 32, 99, 97, 109, 101]⟩ : ByteArray)⟩ : S116) )) (Reps.c4 (show Kd.M k116 _ _ _ (⟨2, (⟨#[103, 117, 97, 114, 100]⟩ : ByteArray), 2, (⟨#[105, 115, 32, 115, 116, 114, 117, 99, 107, 32, 97, 104, 101, 97, 100, 32, 111, 102, 32, 97, 108, 108, 32, 116, 104, 97, 116, 32, 105, 115, 32, 110, 111, 32, 103, 117, 97, 114, 100]⟩ : ByteArray)⟩ : S116) [.int .u8 2, .string (⟨#[103, 117, 97, 114, 100]⟩ : ByteArray), .int .u8 2, .string (⟨#[105, 115, 32, 115, 116, 114, 117, 99, 107, 32, 97, 104, 101, 97, 100, 32, 111, 102, 32, 97, 108, 108, 32, 116, 104, 97, 116, 32, 105, 115, 32, 110, 111, 32, 103, 117, 97, 114, 100]⟩ : ByteArray)] from (k116_mkM _ _ _ (⟨2, (⟨#[103, 117, 97, 114, 100]⟩ : ByteArray), 2, (⟨#[105, 115, 32, 115, 116, 114, 117, 99, 107, 32, 97, 104, 101, 97, 100, 32, 111, 102, 32, 97, 108, 108, 32, 116, 104, 97, 116, 32, 105, 115, 32, 110, 111, 32, 103, 117, 97, 114, 100]⟩ : ByteArray)⟩ : S116) )) (Reps.c4 (show Kd.M k116 _ _ _ (⟨3, (⟨#[118, 101, 110, 111, 109]⟩ : ByteArray), 3, (⟨#[119, 104, 97, 116, 101, 118, 101, 114, 32, 105, 116, 32, 104, 97, 114, 109, 115, 32, 98, 114, 101, 97, 107, 115]⟩ : ByteArray)⟩ : S116) [.int .u8 3, .string (⟨#[118, 101, 110, 111, 109]⟩ : ByteArray), .int .u8 3, .string (⟨#[119, 104, 97, 116, 101, 118, 101, 114, 32, 105, 116, 32, 104, 97, 114, 109, 115, 32, 98, 114, 101, 97, 107, 115]⟩ : ByteArray)] from (k116_mkM _ _ _ (⟨3, (⟨#[118, 101, 110, 111, 109]⟩ : ByteArray), 3, (⟨#[119, 104, 97, 116, 101, 118, 101, 114, 32, 105, 116, 32, 104, 97, 114, 109, 115, 32, 98, 114, 101, 97, 107, 115]⟩ : ByteArray)⟩ : S116) )) (Reps.c4 (show Kd.M k116 _ _ _ (⟨4, (⟨#[108, 111, 110, 101]⟩ : ByteArray), 4, (⟨#[99, 97, 110, 110, 111, 116, 32, 98, 101, 32, 109, 101, 97, 110, 116, 32, 98, 121, 32, 116, 104, 101, 32, 102, 111, 101]⟩ : ByteArray)⟩ : S116) [.int .u8 4, .string (⟨#[108, 111, 110, 101]⟩ : ByteArray), .int .u8 4, .string (⟨#[99, 97, 110, 110, 111, 116, 32, 98, 101, 32, 109, 101, 97, 110, 116, 32, 98, 121, 32, 116, 104, 101, 32, 102, 111, 101]⟩ : ByteArray)] from (k116_mkM _ _ _ (⟨4, (⟨#[108, 111, 110, 101]⟩ : ByteArray), 4, (⟨#[99, 97, 110, 110, 111, 116, 32, 98, 101, 32, 109, 101, 97, 110, 116, 32, 98, 121, 32, 116, 104, 101, 32, 102, 111, 101]⟩ : ByteArray)⟩ : S116) )) (Reps.c4 (show Kd.M k116 _ _ _ (⟨5, (⟨#[100, 114, 97, 105, 110]⟩ : ByteArray), 4, (⟨#[119, 104, 97, 116, 32, 105, 116, 32, 104, 97, 114, 109, 115, 32, 109, 101, 110, 100, 115, 32, 105, 116, 115, 32, 104, 111, 108, 100, 101, 114]⟩ : ByteArray)⟩ : S116) [.int .u8 5, .string (⟨#[100, 114, 97, 105, 110]⟩ : ByteArray), .int .u8 4, .string (⟨#[119, 104, 97, 116, 32, 105, 116, 32, 104, 97, 114, 109, 115, 32, 109, 101, 110, 100, 115, 32, 105, 116, 115, 32, 104, 111, 108, 100, 101, 114]⟩ : ByteArray)] from (k116_mkM _ _ _ (⟨5, (⟨#[100, 114, 97, 105, 110]⟩ : ByteArray), 4, (⟨#[119, 104, 97, 116, 32, 105, 116, 32, 104, 97, 114, 109, 115, 32, 109, 101, 110, 100, 115, 32, 105, 116, 115, 32, 104, 111, 108, 100, 101, 114]⟩ : ByteArray)⟩ : S116) )) (Reps.c4 (show Kd.M k116 _ _ _ (⟨6, (⟨#[109, 117, 116, 101]⟩ : ByteArray), 5, (⟨#[105, 116, 115, 32, 99, 97, 114, 100, 39, 115, 32, 112, 97, 114, 116, 115, 32, 99, 111, 117, 110, 116, 32, 102, 111, 114, 32, 110, 111, 116, 104, 105, 110, 103]⟩ : ByteArray)⟩ : S116) [.int .u8 6, .string (⟨#[109, 117, 116, 101]⟩ : ByteArray), .int .u8 5, .string (⟨#[105, 116, 115, 32, 99, 97, 114, 100, 39, 115, 32, 112, 97, 114, 116, 115, 32, 99, 111, 117, 110, 116, 32, 102, 111, 114, 32, 110, 111, 116, 104, 105, 110, 103]⟩ : ByteArray)] from (k116_mkM _ _ _ (⟨6, (⟨#[109, 117, 116, 101]⟩ : ByteArray), 5, (⟨#[105, 116, 115, 32, 99, 97, 114, 100, 39, 115, 32, 112, 97, 114, 116, 115, 32, 99, 111, 117, 110, 116, 32, 102, 111, 114, 32, 110, 111, 116, 104, 105, 110, 103]⟩ : ByteArray)⟩ : S116) )) (Reps.c4 (show Kd.M k116 _ _ _ (⟨7, (⟨#[102, 105, 120, 101, 100]⟩ : ByteArray), 6, (⟨#[99, 97, 110, 110, 111, 116, 32, 115, 116, 114, 105, 107, 101]⟩ : ByteArray)⟩ : S116) [.int .u8 7, .string (⟨#[102, 105, 120, 101, 100]⟩ : ByteArray), .int .u8 6, .string (⟨#[99, 97, 110, 110, 111, 116, 32, 115, 116, 114, 105, 107, 101]⟩ : ByteArray)] from (k116_mkM _ _ _ (⟨7, (⟨#[102, 105, 120, 101, 100]⟩ : ByteArray), 6, (⟨#[99, 97, 110, 110, 111, 116, 32, 115, 116, 114, 105, 107, 101]⟩ : ByteArray)⟩ : S116) )) (Reps.c4 (show Kd.M k116 _ _ _ (⟨8, (⟨#[115, 119, 105, 102, 116]⟩ : ByteArray), 1, (⟨#[115, 116, 114, 105, 107, 101, 115, 32, 97, 32, 115, 101, 99, 111, 110, 100, 32, 116, 105, 109, 101, 32, 101, 97, 99, 104, 32, 116, 117, 114, 110]⟩ : ByteArray)⟩ : S116) [.int .u8 8, .string (⟨#[115, 119, 105, 102, 116]⟩ : ByteArray), .int .u8 1, .string (⟨#[115, 116, 114, 105, 107, 101, 115, 32, 97, 32, 115, 101, 99, 111, 110, 100, 32, 116, 105, 109, 101, 32, 101, 97, 99, 104, 32, 116, 117, 114, 110]⟩ : ByteArray)] from (k116_mkM _ _ _ (⟨8, (⟨#[115, 119, 105, 102, 116]⟩ : ByteArray), 1, (⟨#[115, 116, 114, 105, 107, 101, 115, 32, 97, 32, 115, 101, 99, 111, 110, 100, 32, 116, 105, 109, 101, 32, 101, 97, 99, 104, 32, 116, 117, 114, 110]⟩ : ByteArray)⟩ : S116) )) (Reps.none _ _)))))))))); intro v102 w1 ho2 hb hg_ hnew_; clear hg_ hnew_; (first | rw [← Ny101.out] at ho2 | (simp only [Int.reduceToNat] at ho2; rw [← Ny101.out] at ho2)); have HO103 := Aside0.mk (Kd.R_lower ho2 (below_size Zb)); replace HB := Aside0.mk (below_step Zb hb); clear hb ho2))
 go_ret
 exact ⟨_, Ze, Zr HO103.out, Zb⟩
end Go.Proofs.YtfpcideomanbbaaGreatDoor.PA
end
section
namespace Go.Proofs.YtfpcideomanbbaaGreatDoor.PA
open Go.RowKit Go.Proofs.YtfpcideomanbbaaGreatDoorW.PrintWords Go.Proofs.YtfpcideomanbbaaGreatDoorW.PrintLast Go.Proofs.YtfpcideomanbbaaGreatDoorW.PrintMore
attribute [local go_sem] max2_int min2_int max_two min_two max_three min_three max_four min_four
set_option linter.unusedVariables false
set_option linter.unusedSimpArgs false
def gambitref04_row.l0 : Nat → Int → List (S116) → Int → Option (Int × ByteArray × Int × ByteArray × Bool)
 | 0, _, _, _ => none
 | k + 1, x0, x4, x5 => if x5 < (x4.length : Int) then (if 0 ≤ x5 then (if ((rd_T116 x4 x5).f0) = x0 then (some ((rd_T116 x4 x5).f0, (rd_T116 x4 x5).f1, (rd_T116 x4 x5).f2, (rd_T116 x4 x5).f3, true)) else (gambitref04_row.l0 k x0 x4 (wrap64 (x5 + 1)))) else (none)) else (some (0, (⟨#[]⟩ : ByteArray), 0, (⟨#[]⟩ : ByteArray), false))
def gambitref04_row.f (k : Nat) (a0 : Int) : Option (Int × ByteArray × Int × ByteArray × Bool) := (gambitref04_Rows.f).bind fun t105 => (gambitref04_row.l0 k a0 t105 0)
theorem gambitref04_row.mono_l : ∀ k, (∀ y0 y1 y2, LeO (gambitref04_row.l0 k y0 y1 y2) (gambitref04_row.l0 (k + 1) y0 y1 y2))
 | 0 => fun _ _ _ r h => by simp [gambitref04_row.l0] at h
 | k + 1 => by
  have ih0 := gambitref04_row.mono_l k
  ·intro y0 y1 y2
   unfold gambitref04_row.l0
   repeat' first
   | (with_reducible exact ih0 _ _ _)
   | (with_reducible exact LeO.refl _)
   | (with_reducible exact LeO.none _)
   | (with_reducible refine LeO.ite ?_ ?_)
   | (with_reducible refine LeO.bind ?_ (fun _ => ?_))
   | exact ih0 _ _ _
   | exact LeO.none _
   | refine LeO.ite ?_ ?_
   | refine LeO.bind ?_ (fun _ => ?_)
theorem gambitref04_row.mono : ∀ a0 k, LeO (gambitref04_row.f k a0) (gambitref04_row.f (k + 1) a0) := by
 intro a0 k
 have ih0 := gambitref04_row.mono_l k
 unfold gambitref04_row.f
 repeat' first
   | (with_reducible exact ih0 _ _ _)
   | (with_reducible exact LeO.refl _)
   | (with_reducible exact LeO.none _)
   | (with_reducible refine LeO.ite ?_ ?_)
   | (with_reducible refine LeO.bind ?_ (fun _ => ?_))
   | exact ih0 _ _ _
   | exact LeO.none _
   | refine LeO.ite ?_ ?_
   | refine LeO.bind ?_ (fun _ => ?_)
set_option maxHeartbeats 8000000 in
set_option maxRecDepth 100000 in
theorem gambitref04_row.calls (k : Nat) (a0 : Int) (r1 : Int) (r2 : ByteArray) (r3 : Int) (r4 : ByteArray) (r5 : Bool) (w : World) (h : gambitref04_row.f k a0 = some (r1, r2, r3, r4, r5)) :
  Calls Tryz.prog 85 #[.int .u8 a0] w fun e w' => e = .returned (.tuple #[.agg #[.int .u8 r1, .string r2, .int .u8 r3, .string r4], .bool r5]) ∧ Below w.heap.size w w' := by
 have hu116 := Tryz.underlying116
 have HB := Aside0.mk (Below.refl w.heap.size w)
 have H : ((gambitref04_Rows.f).bind fun t105 => (gambitref04_row.l0 k a0 t105 0)) = some (r1, r2, r3, r4, r5) := h
 clear h
 replace H := Option.bind_eq_some_iff.mp H
 obtain ⟨t105, A20, H⟩ := H
 replace H : (gambitref04_row.l0 k a0 t105 0) = some (r1, r2, r3, r4, r5) := H
 have A2 := Aside0.mk A20
 clear A20
 have H' := Aside0.mk H
 clear H
 go_enter Tryz.func85, Tryz.ntmps85
 go_wp2_with (first | ((with_reducible refine gate_dst (N := 2) rfl ?_); refine box_event ?hg (N := 2) ?hd (cs := #[.int .u8 0, .string (⟨#[]⟩ : ByteArray), .int .u8 0, .string (⟨#[]⟩ : ByteArray)]) (t := 116) ?hr ?_; (case hd => rfl); (case hg => rfl); (case hr => first | (go_simp; done) | (go_simp; rfl)); intro gb104 hg w3 hbox hb; have BK104 := Aside0.mk (hbox); have GW104 := Aside0.mk ((by rw [hg]; exact (below_size Zb) : w.heap.size ≤ gb104)); have GE104 := Aside0.mk ((by rw [hg]; exact (below_size Zb) : w.heap.size ≤ gb104)); replace HB := Aside0.mk (below_step Zb hb); clear hb hbox hg) | ((with_reducible refine gate_callee (f := 120) rfl ?_); refine goesL_ (some 6) rfl rfl Tryz.func120 (by kernel_rfl) rfl #[] rfl Zl ?_; (with_reducible refine (gambitref04_Rows.calls  t105 _ A2.out).mono ?_); rintro e w4 ⟨v106, rfl, ho0, hb⟩; refine ⟨_, rfl, ?_⟩; have HO107 := Aside0.mk (Kd.R_lower (Kd.R_newB ho0 (g := gb104) (o := .cells #[.int .u8 0, .string (⟨#[]⟩ : ByteArray), .int .u8 0, .string (⟨#[]⟩ : ByteArray)] 116 (0, 0)) (Zk BK104.out)) (below_size (Zb1 GE104.out))); replace BK104 := Aside0.mk (blk_below (g := gb104) (o := .cells #[.int .u8 0, .string (⟨#[]⟩ : ByteArray), .int .u8 0, .string (⟨#[]⟩ : ByteArray)] 116 (0, 0)) (Zk BK104.out) hb); replace HB := Aside0.mk (below_step (Zb1 GE104.out) hb); (try clear hb); (try clear hb2); (try clear hk); (try clear hi); (try clear ho0)))
 go_loopg [5] k (fun kq v5 w' => ∃ (x5_1 : Int) (x105000_1 : Int) (x105001_1 : ByteArray) (x105002_1 : Int) (x105003_1 : ByteArray), v5 = .int .i64 x5_1 ∧ Aside0 (gambitref04_row.l0 kq a0 t105 x5_1 = some (r1, r2, r3, r4, r5)) ∧ Aside0 (kq ≤ k) ∧ Aside0 (Kd.R k116 116 w' w.heap.size (fun k_ => k_ ≠ gb104) v106 t105) ∧ Aside0 (w'.heap[gb104]? = some (.cells #[.int .u8 x105000_1, .string x105001_1, .int .u8 x105002_1, .string x105003_1] 116 (0, 0))) ∧ Aside0 (Below w.heap.size w w'))
 case atStart => exact ⟨(0), (0), ((⟨#[]⟩ : ByteArray)), (0), ((⟨#[]⟩ : ByteArray)), Zs, H', ⟨Nat.le_refl _⟩, ⟨by (with_reducible repeat (first | apply Kd.R_alloc | apply Kd.R_drewN | apply Kd.R_drew)); exact Kd.R_mono HO107.out (fun _ hk => by exact Zh)⟩, ⟨Zk BK104.out⟩, ⟨Zb1 GE104.out⟩⟩
 case round =>
  clear H'
  try clear c1
  try clear p2
  obtain ⟨x5_1, x105000_1, x105001_1, x105002_1, x105003_1, rfl, HA, HK1, HO_4, BK104, HB⟩ := hrel
  cases gk with
  | zero => exact absurd HA.out (by simp [gambitref04_row.l0])
  | succ k1 =>
   have H := HA.out
   clear HA
   simp only [gambitref04_row.l0] at H
   by_cases c5 : x5_1 < (t105.length : Int)
   ·rw [if_pos c5] at H
    have c5b0 : decide (x5_1 < (t105.length : Int)) = true := decide_eq_true c5
    clear c5
    by_cases c6 : 0 ≤ x5_1
    ·rw [if_pos c6] at H
     have c6b0 : decide (0 ≤ x5_1) = true := decide_eq_true c6
     clear c6
     by_cases c7 : ((rd_T116 t105 x5_1).f0) = a0
     ·rw [if_pos c7] at H
      have c7b0 : (((rd_T116 t105 x5_1).f0) == a0) = true := beq_iff_eq.mpr c7
      have c7b1 : (((rd_T116 t105 x5_1).f0) != a0) = false := bne_eq_false_iff_eq.mpr c7
      clear c7
      simp only [Option.some.injEq, Prod.mk.injEq] at H
      obtain ⟨rfl, rfl, rfl, rfl, rfl⟩ := H
      obtain ⟨Ao8, co8, eo8⟩ := Kd.R_slice HO_4.out
      subst eo8
      have p108 : 0 ≤ (x5_1 : Int) := of_decide_eq_true Za
      have q108 : x5_1 < (t105.length : Int) := of_decide_eq_true Za
      obtain ⟨ad108, e108, hx108_0, hx108_1, hx108_2, hx108_3⟩ := at_T116 (Kd.R_reads' HO_4.out).2.2 x5_1 p108 q108
      cases e108
      replace p108 := eq_true p108
      replace q108 := eq_true q108
      have p109 : 0 ≤ (x5_1 : Int) := of_decide_eq_true Za
      have q109 : x5_1 < (t105.length : Int) := of_decide_eq_true Za
      obtain ⟨ad109, e109, hx109_0, hx109_1, hx109_2, hx109_3⟩ := at_T116 (Kd.R_reads' HO_4.out).2.2 x5_1 p109 q109
      obtain rfl : ad108 = ad109 := (by injection e109)
      replace p109 := eq_true p109
      replace q109 := eq_true q109
      have hcz9_0 := Zc BK104.out 0 (.int .u8 x105000_1) rfl
      have hcz9_1 := Zc BK104.out 1 (.string x105001_1) rfl
      have hcz9_2 := Zc BK104.out 2 (.int .u8 x105002_1) rfl
      have hcz9_3 := Zc BK104.out 3 (.string x105003_1) rfl
      have hfz9_0 := blk_frozen BK104.out 0
      have hfz9_1 := blk_frozen BK104.out 1
      have hfz9_2 := blk_frozen BK104.out 2
      have hfz9_3 := blk_frozen BK104.out 3
      go_wp2
      refine bodyPost_ret (results_ct rfl _ _ gb104 116 #[.int .u8 ((rd_T116 t105 x5_1).f0), .string ((rd_T116 t105 x5_1).f1), .int .u8 ((rd_T116 t105 x5_1).f2), .string ((rd_T116 t105 x5_1).f3)] (0, 0) _ rfl (by (with_reducible repeat (first | refine blk_drewN ?_ _ | refine blk_drew ?_ | refine blk_alloc ?_ _)); refine blk_put (cs := #[.int .u8 ((rd_T116 t105 x5_1).f0), .string ((rd_T116 t105 x5_1).f1), .int .u8 ((rd_T116 t105 x5_1).f2), .string x105003_1]) ?_ 3 _ rfl; (with_reducible repeat (first | refine blk_drewN ?_ _ | refine blk_drew ?_ | refine blk_alloc ?_ _)); refine blk_put (cs := #[.int .u8 ((rd_T116 t105 x5_1).f0), .string ((rd_T116 t105 x5_1).f1), .int .u8 x105002_1, .string x105003_1]) ?_ 2 _ rfl; (with_reducible repeat (first | refine blk_drewN ?_ _ | refine blk_drew ?_ | refine blk_alloc ?_ _)); refine blk_put (cs := #[.int .u8 ((rd_T116 t105 x5_1).f0), .string x105001_1, .int .u8 x105002_1, .string x105003_1]) ?_ 1 _ rfl; (with_reducible repeat (first | refine blk_drewN ?_ _ | refine blk_drew ?_ | refine blk_alloc ?_ _)); refine blk_put (cs := #[.int .u8 x105000_1, .string x105001_1, .int .u8 x105002_1, .string x105003_1]) ?_ 0 _ rfl; exact Zk BK104.out) Tryz.underlying116 rfl (by kernel_rfl)) rfl ?_
      exact ⟨Ze, Zb1 GE104.out⟩
     ·rw [if_neg c7] at H
      have c7b0 : (((rd_T116 t105 x5_1).f0) == a0) = false := beq_eq_false_iff_ne.mpr c7
      have c7b1 : (((rd_T116 t105 x5_1).f0) != a0) = true := bne_iff_ne.mpr c7
      have H' := Aside0.mk H
      clear H
      obtain ⟨Ao10, co10, eo10⟩ := Kd.R_slice HO_4.out
      subst eo10
      have p108 : 0 ≤ (x5_1 : Int) := of_decide_eq_true Za
      have q108 : x5_1 < (t105.length : Int) := of_decide_eq_true Za
      obtain ⟨ad108, e108, hx108_0, hx108_1, hx108_2, hx108_3⟩ := at_T116 (Kd.R_reads' HO_4.out).2.2 x5_1 p108 q108
      cases e108
      replace p108 := eq_true p108
      replace q108 := eq_true q108
      go_wp2
      go_roundg k1
      case measure => have := HK1.out; omega
      case rel => exact ⟨(wrap64 (x5_1 + 1)), (x105000_1), (x105001_1), (x105002_1), (x105003_1), Zs, H', ⟨by have := HK1.out; omega⟩, ⟨Zr HO_4.out⟩, ⟨Zk BK104.out⟩, ⟨Zb1 GE104.out⟩⟩
    ·rw [if_neg c6] at H
     exact absurd H (by simp)
   ·rw [if_neg c5] at H
    have c5b0 : decide (x5_1 < (t105.length : Int)) = false := decide_eq_false c5
    clear c5
    simp only [Option.some.injEq, Prod.mk.injEq] at H
    obtain ⟨rfl, rfl, rfl, rfl, rfl⟩ := H
    obtain ⟨Ao11, co11, eo11⟩ := Kd.R_slice HO_4.out
    subst eo11
    have hcz12_0 := Zc BK104.out 0 (.int .u8 x105000_1) rfl
    have hcz12_1 := Zc BK104.out 1 (.string x105001_1) rfl
    have hcz12_2 := Zc BK104.out 2 (.int .u8 x105002_1) rfl
    have hcz12_3 := Zc BK104.out 3 (.string x105003_1) rfl
    have hfz12_0 := blk_frozen BK104.out 0
    have hfz12_1 := blk_frozen BK104.out 1
    have hfz12_2 := blk_frozen BK104.out 2
    have hfz12_3 := blk_frozen BK104.out 3
    go_wp2
    refine bodyPost_ret (results_ct rfl _ _ gb104 116 #[.int .u8 0, .string (⟨#[]⟩ : ByteArray), .int .u8 0, .string (⟨#[]⟩ : ByteArray)] (0, 0) _ rfl (by (with_reducible repeat (first | refine blk_drewN ?_ _ | refine blk_drew ?_ | refine blk_alloc ?_ _)); refine blk_put (cs := #[.int .u8 0, .string (⟨#[]⟩ : ByteArray), .int .u8 0, .string x105003_1]) ?_ 3 _ rfl; (with_reducible repeat (first | refine blk_drewN ?_ _ | refine blk_drew ?_ | refine blk_alloc ?_ _)); refine blk_put (cs := #[.int .u8 0, .string (⟨#[]⟩ : ByteArray), .int .u8 x105002_1, .string x105003_1]) ?_ 2 _ rfl; (with_reducible repeat (first | refine blk_drewN ?_ _ | refine blk_drew ?_ | refine blk_alloc ?_ _)); refine blk_put (cs := #[.int .u8 0, .string x105001_1, .int .u8 x105002_1, .string x105003_1]) ?_ 1 _ rfl; (with_reducible repeat (first | refine blk_drewN ?_ _ | refine blk_drew ?_ | refine blk_alloc ?_ _)); refine blk_put (cs := #[.int .u8 x105000_1, .string x105001_1, .int .u8 x105002_1, .string x105003_1]) ?_ 0 _ rfl; exact Zk BK104.out) Tryz.underlying116 rfl (by kernel_rfl)) rfl ?_
    exact ⟨Ze, Zb1 GE104.out⟩
end Go.Proofs.YtfpcideomanbbaaGreatDoor.PA
end
section
namespace Go.Proofs.YtfpcideomanbbaaGreatDoor.PA
open Go.RowKit Go.Proofs.YtfpcideomanbbaaGreatDoorW.PrintWords Go.Proofs.YtfpcideomanbbaaGreatDoorW.PrintLast Go.Proofs.YtfpcideomanbbaaGreatDoorW.PrintMore
attribute [local go_sem] max2_int min2_int max_two min_two max_three min_three max_four min_four
set_option linter.unusedVariables false
set_option linter.unusedSimpArgs false
def gambitref04_Name.f (k : Nat) (a0 : Int) : Option (ByteArray) := (gambitref04_row.f k a0).bind fun bt110 => (some bt110.2.1)
theorem gambitref04_Name.mono : ∀ a0 k, LeO (gambitref04_Name.f k a0) (gambitref04_Name.f (k + 1) a0) := by
 intro a0 k
 unfold gambitref04_Name.f
 repeat' first
   | (with_reducible exact gambitref04_row.mono _ _)
   | (with_reducible exact LeO.refl _)
   | (with_reducible exact LeO.none _)
   | (with_reducible refine LeO.ite ?_ ?_)
   | (with_reducible refine LeO.bind ?_ (fun _ => ?_))
   | exact gambitref04_row.mono _ _
   | exact LeO.none _
   | refine LeO.ite ?_ ?_
   | refine LeO.bind ?_ (fun _ => ?_)
set_option maxHeartbeats 8000000 in
set_option maxRecDepth 100000 in
theorem gambitref04_Name.calls (k : Nat) (a0 : Int) (r : ByteArray) (w : World) (h : gambitref04_Name.f k a0 = some r) :
  Calls Tryz.prog 41 #[.int .u8 a0] w fun e w' => e = .returned (.string r) ∧ Below w.heap.size w w' := by
 have hu116 := Tryz.underlying116
 have HB := Aside0.mk (Below.refl w.heap.size w)
 have H : ((gambitref04_row.f k a0).bind fun bt110 => (some bt110.2.1)) = some r := h
 clear h
 replace H := Option.bind_eq_some_iff.mp H
 obtain ⟨⟨t110, t111, t112, t113, t114⟩, A20, H⟩ := H
 replace H : (some t111) = some r := H
 have A2 := Aside0.mk A20
 clear A20
 obtain rfl := Option.some.inj H
 go_enter Tryz.func41, Tryz.ntmps41
 go_wp2_with (first | ((with_reducible refine gate_callee (f := 85) rfl ?_); refine goesL_ (some 7) rfl rfl Tryz.func85 (by kernel_rfl) rfl #[.int .u8 a0] rfl Zl ?_; (with_reducible refine (gambitref04_row.calls k a0 t110 t111 t112 t113 t114 _ A2.out).mono ?_); rintro e w3 ⟨rfl, hb⟩; refine ⟨_, rfl, ?_⟩; replace HB := Aside0.mk (below_step Zb hb); (try clear hb); (try clear hb2); (try clear hk); (try clear hi)) | ((with_reducible refine gate_dst (N := 3) rfl ?_); refine box_event ?hg (N := 3) ?hd (cs := #[.int .u8 0, .string (⟨#[]⟩ : ByteArray), .int .u8 0, .string (⟨#[]⟩ : ByteArray)]) (t := 116) ?hr ?_; (case hd => rfl); (case hg => rfl); (case hr => first | (go_simp; done) | (go_simp; rfl)); intro gb115 hg w4 hbox hb; have BK115 := Aside0.mk (hbox); have GW115 := Aside0.mk ((by rw [hg]; exact (below_size Zb) : w.heap.size ≤ gb115)); have GE115 := Aside0.mk ((by rw [hg]; exact (below_size Zb) : w.heap.size ≤ gb115)); replace HB := Aside0.mk (below_step Zb hb); clear hb hbox hg; have hcz5_0 := Zc BK115.out 0 (.int .u8 0) rfl; have hcz5_1 := Zc BK115.out 1 (.string (⟨#[]⟩ : ByteArray)) rfl; have hcz5_2 := Zc BK115.out 2 (.int .u8 0) rfl; have hcz5_3 := Zc BK115.out 3 (.string (⟨#[]⟩ : ByteArray)) rfl; have hfz5_0 := blk_frozen BK115.out 0; have hfz5_1 := blk_frozen BK115.out 1; have hfz5_2 := blk_frozen BK115.out 2; have hfz5_3 := blk_frozen BK115.out 3))
 go_ret
 exact ⟨Ze, Zb1 GE115.out⟩
end Go.Proofs.YtfpcideomanbbaaGreatDoor.PA
end
section
namespace Go.Proofs.YtfpcideomanbbaaGreatDoor.PA
open Go.RowKit Go.Proofs.YtfpcideomanbbaaGreatDoorW.PrintWords Go.Proofs.YtfpcideomanbbaaGreatDoorW.PrintLast Go.Proofs.YtfpcideomanbbaaGreatDoorW.PrintMore
attribute [local go_sem] max2_int min2_int max_two min_two max_three min_three max_four min_four
set_option linter.unusedVariables false
set_option linter.unusedSimpArgs false
def gambitref05_whens.f  : Option (List ByteArray) := some (([(⟨#[112, 108, 97, 121, 101, 100]⟩ : ByteArray), (⟨#[98, 114, 111, 107, 101, 110]⟩ : ByteArray), (⟨#[98, 101, 103, 117, 110]⟩ : ByteArray), (⟨#[115, 116, 114, 117, 99, 107]⟩ : ByteArray), (⟨#[97, 108, 119, 97, 121, 115]⟩ : ByteArray), (⟨#[114, 97, 116, 104, 101, 114]⟩ : ByteArray)] : List ByteArray))
set_option maxHeartbeats 8000000 in
set_option maxRecDepth 100000 in
theorem gambitref05_whens.calls  (r : List ByteArray) (w : World) (h : gambitref05_whens.f  = some r) :
  Calls Tryz.prog 86 #[] w fun e w' => ∃ v0_ : Value, e = .returned (v0_) ∧ Kd.R Kd.string 9 w' w.heap.size (fun _ => True) v0_ r ∧ Below w.heap.size w w' := by
 have HB := Aside0.mk (Below.refl w.heap.size w)
 have H : (some (([(⟨#[112, 108, 97, 121, 101, 100]⟩ : ByteArray), (⟨#[98, 114, 111, 107, 101, 110]⟩ : ByteArray), (⟨#[98, 101, 103, 117, 110]⟩ : ByteArray), (⟨#[115, 116, 114, 117, 99, 107]⟩ : ByteArray), (⟨#[97, 108, 119, 97, 121, 115]⟩ : ByteArray), (⟨#[114, 97, 116, 104, 101, 114]⟩ : ByteArray)] : List ByteArray))) = some r := h
 clear h
 obtain ⟨y137, hy137⟩ : ∃ y_ : List ByteArray, y_ = (([(⟨#[112, 108, 97, 121, 101, 100]⟩ : ByteArray), (⟨#[98, 114, 111, 107, 101, 110]⟩ : ByteArray), (⟨#[98, 101, 103, 117, 110]⟩ : ByteArray), (⟨#[115, 116, 114, 117, 99, 107]⟩ : ByteArray), (⟨#[97, 108, 119, 97, 121, 115]⟩ : ByteArray), (⟨#[114, 97, 116, 104, 101, 114]⟩ : ByteArray)] : List ByteArray)) := ⟨_, rfl⟩
 replace H : (some y137) = some r := by first | (rw [hy137]; with_reducible exact H) | (have H2_ := (Option.bind_some _ _).symm.trans H; rw [hy137]; with_reducible exact H2_) | (have H2_ := (Option.bind_some _ _).symm.trans H; with_reducible exact H2_) | with_reducible exact H | (rw [hy137]; exact H) | exact H
 have Ny137 := Aside0.mk hy137
 clear hy137
 obtain rfl := Option.some.inj H
 go_enter Tryz.func86, Tryz.ntmps86
 go_wp2_with (first | ((with_reducible refine gate_dst (N := 1) rfl ?_); refine Kd.R_lit Kd.string _ 9 ?hg (N := 1) ?hd (xs := ([(⟨#[112, 108, 97, 121, 101, 100]⟩ : ByteArray), (⟨#[98, 114, 111, 107, 101, 110]⟩ : ByteArray), (⟨#[98, 101, 103, 117, 110]⟩ : ByteArray), (⟨#[115, 116, 114, 117, 99, 107]⟩ : ByteArray), (⟨#[97, 108, 119, 97, 121, 115]⟩ : ByteArray), (⟨#[114, 97, 116, 104, 101, 114]⟩ : ByteArray)] : List ByteArray)) (inner := [.string (⟨#[112, 108, 97, 121, 101, 100]⟩ : ByteArray), .string (⟨#[98, 114, 111, 107, 101, 110]⟩ : ByteArray), .string (⟨#[98, 101, 103, 117, 110]⟩ : ByteArray), .string (⟨#[115, 116, 114, 117, 99, 107]⟩ : ByteArray), .string (⟨#[97, 108, 119, 97, 121, 115]⟩ : ByteArray), .string (⟨#[114, 97, 116, 104, 101, 114]⟩ : ByteArray)]) (ok := fun _ => True) (okp := fun _ => True) ?hr ?hp (fun _ hk => hk) trivial (Below.refl _ _) (Nat.le_refl _) (by simp) ?_; (case hd => rfl); (case hg => rfl); (case hr => first | (go_simp; done) | (go_simp; rfl)); (case hp => exact (Reps.one (show Kd.M Kd.string _ _ _ (⟨#[112, 108, 97, 121, 101, 100]⟩ : ByteArray) [.string (⟨#[112, 108, 97, 121, 101, 100]⟩ : ByteArray)] from rfl) (Reps.one (show Kd.M Kd.string _ _ _ (⟨#[98, 114, 111, 107, 101, 110]⟩ : ByteArray) [.string (⟨#[98, 114, 111, 107, 101, 110]⟩ : ByteArray)] from rfl) (Reps.one (show Kd.M Kd.string _ _ _ (⟨#[98, 101, 103, 117, 110]⟩ : ByteArray) [.string (⟨#[98, 101, 103, 117, 110]⟩ : ByteArray)] from rfl) (Reps.one (show Kd.M Kd.string _ _ _ (⟨#[115, 116, 114, 117, 99, 107]⟩ : ByteArray) [.string (⟨#[115, 116, 114, 117, 99, 107]⟩ : ByteArray)] from rfl) (Reps.one (show Kd.M Kd.string _ _ _ (⟨#[97, 108, 119, 97, 121, 115]⟩ : ByteArray) [.string (⟨#[97, 108, 119, 97, 121, 115]⟩ : ByteArray)] from rfl) (Reps.one (show Kd.M Kd.string _ _ _ (⟨#[114, 97, 116, 104, 101, 114]⟩ : ByteArray) [.string (⟨#[114, 97, 116, 104, 101, 114]⟩ : ByteArray)] from rfl) (Reps.none _ _)))))))); intro v138 w1 ho2 hb hg_ hnew_; clear hg_ hnew_; (first | rw [← Ny137.out] at ho2 | (simp only [Int.reduceToNat] at ho2; rw [← Ny137.out] at ho2)); have HO139 := Aside0.mk (Kd.R_lower ho2 (below_size Zb)); replace HB := Aside0.mk (below_step Zb hb); clear hb ho2))
 go_ret
 exact ⟨_, Ze, Zr HO139.out, Zb⟩
end Go.Proofs.YtfpcideomanbbaaGreatDoor.PA
end
section
namespace Go.Proofs.YtfpcideomanbbaaGreatDoor.PA
open Go.RowKit Go.Proofs.YtfpcideomanbbaaGreatDoorW.PrintWords Go.Proofs.YtfpcideomanbbaaGreatDoorW.PrintLast Go.Proofs.YtfpcideomanbbaaGreatDoorW.PrintMore
attribute [local go_sem] max2_int min2_int max_two min_two max_three min_three max_four min_four
set_option linter.unusedVariables false
set_option linter.unusedSimpArgs false
def gambitref05_verbs.f  : Option (List ByteArray) := some (([(⟨#[104, 97, 114, 109]⟩ : ByteArray), (⟨#[109, 101, 110, 100]⟩ : ByteArray), (⟨#[100, 114, 97, 119]⟩ : ByteArray), (⟨#[100, 114, 111, 112]⟩ : ByteArray), (⟨#[103, 97, 105, 110]⟩ : ByteArray), (⟨#[98, 114, 101, 97, 107]⟩ : ByteArray), (⟨#[99, 97, 108, 108]⟩ : ByteArray), (⟨#[98, 97, 99, 107]⟩ : ByteArray), (⟨#[112, 117, 116]⟩ : ByteArray), (⟨#[115, 101, 105, 122, 101]⟩ : ByteArray), (⟨#[100, 121, 101]⟩ : ByteArray), (⟨#[103, 114, 97, 110, 116]⟩ : ByteArray), (⟨#[115, 116, 114, 105, 112]⟩ : ByteArray), (⟨#[98, 97, 115, 101]⟩ : ByteArray), (⟨#[114, 97, 105, 115, 101]⟩ : ByteArray), (⟨#[108, 101, 115, 115]⟩ : ByteArray), (⟨#[116, 119, 105, 99, 101]⟩ : ByteArray), (⟨#[116, 117, 114, 110, 101, 100]⟩ : ByteArray), (⟨#[105, 110, 115, 116, 101, 97, 100]⟩ : ByteArray)] : List ByteArray))
set_option maxHeartbeats 8000000 in
set_option maxRecDepth 100000 in
theorem gambitref05_verbs.calls  (r : List ByteArray) (w : World) (h : gambitref05_verbs.f  = some r) :
  Calls Tryz.prog 87 #[] w fun e w' => ∃ v0_ : Value, e = .returned (v0_) ∧ Kd.R Kd.string 9 w' w.heap.size (fun _ => True) v0_ r ∧ Below w.heap.size w w' := by
 have HB := Aside0.mk (Below.refl w.heap.size w)
 have H : (some (([(⟨#[104, 97, 114, 109]⟩ : ByteArray), (⟨#[109, 101, 110, 100]⟩ : ByteArray), (⟨#[100, 114, 97, 119]⟩ : ByteArray), (⟨#[100, 114, 111, 112]⟩ : ByteArray), (⟨#[103, 97, 105, 110]⟩ : ByteArray), (⟨#[98, 114, 101, 97, 107]⟩ : ByteArray), (⟨#[99, 97, 108, 108]⟩ : ByteArray), (⟨#[98, 97, 99, 107]⟩ : ByteArray), (⟨#[112, 117, 116]⟩ : ByteArray), (⟨#[115, 101, 105, 122, 101]⟩ : ByteArray), (⟨#[100, 121, 101]⟩ : ByteArray), (⟨#[103, 114, 97, 110, 116]⟩ : ByteArray), (⟨#[115, 116, 114, 105, 112]⟩ : ByteArray), (⟨#[98, 97, 115, 101]⟩ : ByteArray), (⟨#[114, 97, 105, 115, 101]⟩ : ByteArray), (⟨#[108, 101, 115, 115]⟩ : ByteArray), (⟨#[116, 119, 105, 99, 101]⟩ : ByteArray), (⟨#[116, 117, 114, 110, 101, 100]⟩ : ByteArray), (⟨#[105, 110, 115, 116, 101, 97, 100]⟩ : ByteArray)] : List ByteArray))) = some r := h
 clear h
 obtain ⟨y140, hy140⟩ : ∃ y_ : List ByteArray, y_ = (([(⟨#[104, 97, 114, 109]⟩ : ByteArray), (⟨#[109, 101, 110, 100]⟩ : ByteArray), (⟨#[100, 114, 97, 119]⟩ : ByteArray), (⟨#[100, 114, 111, 112]⟩ : ByteArray), (⟨#[103, 97, 105, 110]⟩ : ByteArray), (⟨#[98, 114, 101, 97, 107]⟩ : ByteArray), (⟨#[99, 97, 108, 108]⟩ : ByteArray), (⟨#[98, 97, 99, 107]⟩ : ByteArray), (⟨#[112, 117, 116]⟩ : ByteArray), (⟨#[115, 101, 105, 122, 101]⟩ : ByteArray), (⟨#[100, 121, 101]⟩ : ByteArray), (⟨#[103, 114, 97, 110, 116]⟩ : ByteArray), (⟨#[115, 116, 114, 105, 112]⟩ : ByteArray), (⟨#[98, 97, 115, 101]⟩ : ByteArray), (⟨#[114, 97, 105, 115, 101]⟩ : ByteArray), (⟨#[108, 101, 115, 115]⟩ : ByteArray), (⟨#[116, 119, 105, 99, 101]⟩ : ByteArray), (⟨#[116, 117, 114, 110, 101, 100]⟩ : ByteArray), (⟨#[105, 110, 115, 116, 101, 97, 100]⟩ : ByteArray)] : List ByteArray)) := ⟨_, rfl⟩
 replace H : (some y140) = some r := by first | (rw [hy140]; with_reducible exact H) | (have H2_ := (Option.bind_some _ _).symm.trans H; rw [hy140]; with_reducible exact H2_) | (have H2_ := (Option.bind_some _ _).symm.trans H; with_reducible exact H2_) | with_reducible exact H | (rw [hy140]; exact H) | exact H
 have Ny140 := Aside0.mk hy140
 clear hy140
 obtain rfl := Option.some.inj H
 go_enter Tryz.func87, Tryz.ntmps87
 go_wp2_with (first | ((with_reducible refine gate_dst (N := 1) rfl ?_); refine Kd.R_lit Kd.string _ 9 ?hg (N := 1) ?hd (xs := ([(⟨#[104, 97, 114, 109]⟩ : ByteArray), (⟨#[109, 101, 110, 100]⟩ : ByteArray), (⟨#[100, 114, 97, 119]⟩ : ByteArray), (⟨#[100, 114, 111, 112]⟩ : ByteArray), (⟨#[103, 97, 105, 110]⟩ : ByteArray), (⟨#[98, 114, 101, 97, 107]⟩ : ByteArray), (⟨#[99, 97, 108, 108]⟩ : ByteArray), (⟨#[98, 97, 99, 107]⟩ : ByteArray), (⟨#[112, 117, 116]⟩ : ByteArray), (⟨#[115, 101, 105, 122, 101]⟩ : ByteArray), (⟨#[100, 121, 101]⟩ : ByteArray), (⟨#[103, 114, 97, 110, 116]⟩ : ByteArray), (⟨#[115, 116, 114, 105, 112]⟩ : ByteArray), (⟨#[98, 97, 115, 101]⟩ : ByteArray), (⟨#[114, 97, 105, 115, 101]⟩ : ByteArray), (⟨#[108, 101, 115, 115]⟩ : ByteArray), (⟨#[116, 119, 105, 99, 101]⟩ : ByteArray), (⟨#[116, 117, 114, 110, 101, 100]⟩ : ByteArray), (⟨#[105, 110, 115, 116, 101, 97, 100]⟩ : ByteArray)] : List ByteArray)) (inner := [.string (⟨#[104, 97, 114, 109]⟩ : ByteArray), .string (⟨#[109, 101, 110, 100]⟩ : ByteArray), .string (⟨#[100, 114, 97, 119]⟩ : ByteArray), .string (⟨#[100, 114, 111, 112]⟩ : ByteArray), .string (⟨#[103, 97, 105, 110]⟩ : ByteArray), .string (⟨#[98, 114, 101, 97, 107]⟩ : ByteArray), .string (⟨#[99, 97, 108, 108]⟩ : ByteArray), .string (⟨#[98, 97, 99, 107]⟩ : ByteArray), .string (⟨#[112, 117, 116]⟩ : ByteArray), .string (⟨#[115, 101, 105, 122, 101]⟩ : ByteArray), .string (⟨#[100, 121, 101]⟩ : ByteArray), .string (⟨#[103, 114, 97, 110, 116]⟩ : ByteArray), .string (⟨#[115, 116, 114, 105, 112]⟩ : ByteArray), .string (⟨#[98, 97, 115, 101]⟩ : ByteArray), .string (⟨#[114, 97, 105, 115, 101]⟩ : ByteArray), .string (⟨#[108, 101, 115, 115]⟩ : ByteArray), .string (⟨#[116, 119, 105, 99, 101]⟩ : ByteArray), .string (⟨#[116, 117, 114, 110, 101, 100]⟩ : ByteArray), .string (⟨#[105, 110, 115, 116, 101, 97, 100]⟩ : ByteArray)]) (ok := fun _ => True) (okp := fun _ => True) ?hr ?hp (fun _ hk => hk) trivial (Below.refl _ _) (Nat.le_refl _) (by simp) ?_; (case hd => rfl); (case hg => rfl); (case hr => first | (go_simp; done) | (go_simp; rfl)); (case hp => exact (Reps.one (show Kd.M Kd.string _ _ _ (⟨#[104, 97, 114, 109]⟩ : ByteArray) [.string (⟨#[104, 97, 114, 109]⟩ : ByteArray)] from rfl) (Reps.one (show Kd.M Kd.string _ _ _ (⟨#[109, 101, 110, 100]⟩ : ByteArray) [.string (⟨#[109, 101, 110, 100]⟩ : ByteArray)] from rfl) (Reps.one (show Kd.M Kd.string _ _ _ (⟨#[100, 114, 97, 119]⟩ : ByteArray) [.string (⟨#[100, 114, 97, 119]⟩ : ByteArray)] from rfl) (Reps.one (show Kd.M Kd.string _ _ _ (⟨#[100, 114, 111, 112]⟩ : ByteArray) [.string (⟨#[100, 114, 111, 112]⟩ : ByteArray)] from rfl) (Reps.one (show Kd.M Kd.string _ _ _ (⟨#[103, 97, 105, 110]⟩ : ByteArray) [.string (⟨#[103, 97, 105, 110]⟩ : ByteArray)] from rfl) (Reps.one (show Kd.M Kd.string _ _ _ (⟨#[98, 114, 101, 97, 107]⟩ : ByteArray) [.string (⟨#[98, 114, 101, 97, 107]⟩ : ByteArray)] from rfl) (Reps.one (show Kd.M Kd.string _ _ _ (⟨#[99, 97, 108, 108]⟩ : ByteArray) [.string (⟨#[99, 97, 108, 108]⟩ : ByteArray)] from rfl) (Reps.one (show Kd.M Kd.string _ _ _ (⟨#[98, 97, 99, 107]⟩ : ByteArray) [.string (⟨#[98, 97, 99, 107]⟩ : ByteArray)] from rfl) (Reps.one (show Kd.M Kd.string _ _ _ (⟨#[112, 117, 116]⟩ : ByteArray) [.string (⟨#[112, 117, 116]⟩ : ByteArray)] from rfl) (Reps.one (show Kd.M Kd.string _ _ _ (⟨#[115, 101, 105, 122, 101]⟩ : ByteArray) [.string (⟨#[115, 101, 105, 122, 101]⟩ : ByteArray)] from rfl) (Reps.one (show Kd.M Kd.string _ _ _ (⟨#[100, 121, 101]⟩ : ByteArray) [.string (⟨#[100, 121, 101]⟩ : ByteArray)] from rfl) (Reps.one (show Kd.M Kd.string _ _ _ (⟨#[103, 114, 97, 110, 116]⟩ : ByteArray) [.string (⟨#[103, 114, 97, 110, 116]⟩ : ByteArray)] from rfl) (Reps.one (show Kd.M Kd.string _ _ _ (⟨#[115, 116, 114, 105, 112]⟩ : ByteArray) [.string (⟨#[115, 116, 114, 105, 112]⟩ : ByteArray)] from rfl) (Reps.one (show Kd.M Kd.string _ _ _ (⟨#[98, 97, 115, 101]⟩ : ByteArray) [.string (⟨#[98, 97, 115, 101]⟩ : ByteArray)] from rfl) (Reps.one (show Kd.M Kd.string _ _ _ (⟨#[114, 97, 105, 115, 101]⟩ : ByteArray) [.string (⟨#[114, 97, 105, 115, 101]⟩ : ByteArray)] from rfl) (Reps.one (show Kd.M Kd.string _ _ _ (⟨#[108, 101, 115, 115]⟩ : ByteArray) [.string (⟨#[108, 101, 115, 115]⟩ : ByteArray)] from rfl) (Reps.one (show Kd.M Kd.string _ _ _ (⟨#[116, 119, 105, 99, 101]⟩ : ByteArray) [.string (⟨#[116, 119, 105, 99, 101]⟩ : ByteArray)] from rfl) (Reps.one (show Kd.M Kd.string _ _ _ (⟨#[116, 117, 114, 110, 101, 100]⟩ : ByteArray) [.string (⟨#[116, 117, 114, 110, 101, 100]⟩ : ByteArray)] from rfl) (Reps.one (show Kd.M Kd.string _ _ _ (⟨#[105, 110, 115, 116, 101, 97, 100]⟩ : ByteArray) [.string (⟨#[105, 110, 115, 116, 101, 97, 100]⟩ : ByteArray)] from rfl) (Reps.none _ _))))))))))))))))))))); intro v141 w1 ho2 hb hg_ hnew_; clear hg_ hnew_; (first | rw [← Ny140.out] at ho2 | (simp only [Int.reduceToNat] at ho2; rw [← Ny140.out] at ho2)); have HO142 := Aside0.mk (Kd.R_lower ho2 (below_size Zb)); replace HB := Aside0.mk (below_step Zb hb); clear hb ho2))
 go_ret
 exact ⟨_, Ze, Zr HO142.out, Zb⟩
end Go.Proofs.YtfpcideomanbbaaGreatDoor.PA
end
section
namespace Go.Proofs.YtfpcideomanbbaaGreatDoor.PA
open Go.RowKit Go.Proofs.YtfpcideomanbbaaGreatDoorW.PrintWords Go.Proofs.YtfpcideomanbbaaGreatDoorW.PrintLast Go.Proofs.YtfpcideomanbbaaGreatDoorW.PrintMore
attribute [local go_sem] max2_int min2_int max_two min_two max_three min_three max_four min_four
set_option linter.unusedVariables false
set_option linter.unusedSimpArgs false
def gambitref05_whoms.f  : Option (List ByteArray) := some (([(⟨#[121, 111, 117]⟩ : ByteArray), (⟨#[102, 111, 101]⟩ : ByteArray), (⟨#[105, 116]⟩ : ByteArray), (⟨#[115, 101, 108, 102]⟩ : ByteArray), (⟨#[121, 111, 117, 114, 115]⟩ : ByteArray), (⟨#[116, 104, 101, 105, 114, 115]⟩ : ByteArray), (⟨#[97, 108, 108]⟩ : ByteArray), (⟨#[114, 101, 115, 116]⟩ : ByteArray), (⟨#[100, 121, 101, 100]⟩ : ByteArray), (⟨#[119, 105, 116, 104]⟩ : ByteArray)] : List ByteArray))
set_option maxHeartbeats 8000000 in
set_option maxRecDepth 100000 in
theorem gambitref05_whoms.calls  (r : List ByteArray) (w : World) (h : gambitref05_whoms.f  = some r) :
  Calls Tryz.prog 88 #[] w fun e w' => ∃ v0_ : Value, e = .returned (v0_) ∧ Kd.R Kd.string 9 w' w.heap.size (fun _ => True) v0_ r ∧ Below w.heap.size w w' := by
 have HB := Aside0.mk (Below.refl w.heap.size w)
 have H : (some (([(⟨#[121, 111, 117]⟩ : ByteArray), (⟨#[102, 111, 101]⟩ : ByteArray), (⟨#[105, 116]⟩ : ByteArray), (⟨#[115, 101, 108, 102]⟩ : ByteArray), (⟨#[121, 111, 117, 114, 115]⟩ : ByteArray), (⟨#[116, 104, 101, 105, 114, 115]⟩ : ByteArray), (⟨#[97, 108, 108]⟩ : ByteArray), (⟨#[114, 101, 115, 116]⟩ : ByteArray), (⟨#[100, 121, 101, 100]⟩ : ByteArray), (⟨#[119, 105, 116, 104]⟩ : ByteArray)] : List ByteArray))) = some r := h
 clear h
 obtain ⟨y143, hy143⟩ : ∃ y_ : List ByteArray, y_ = (([(⟨#[121, 111, 117]⟩ : ByteArray), (⟨#[102, 111, 101]⟩ : ByteArray), (⟨#[105, 116]⟩ : ByteArray), (⟨#[115, 101, 108, 102]⟩ : ByteArray), (⟨#[121, 111, 117, 114, 115]⟩ : ByteArray), (⟨#[116, 104, 101, 105, 114, 115]⟩ : ByteArray), (⟨#[97, 108, 108]⟩ : ByteArray), (⟨#[114, 101, 115, 116]⟩ : ByteArray), (⟨#[100, 121, 101, 100]⟩ : ByteArray), (⟨#[119, 105, 116, 104]⟩ : ByteArray)] : List ByteArray)) := ⟨_, rfl⟩
 replace H : (some y143) = some r := by first | (rw [hy143]; with_reducible exact H) | (have H2_ := (Option.bind_some _ _).symm.trans H; rw [hy143]; with_reducible exact H2_) | (have H2_ := (Option.bind_some _ _).symm.trans H; with_reducible exact H2_) | with_reducible exact H | (rw [hy143]; exact H) | exact H
 have Ny143 := Aside0.mk hy143
 clear hy143
 obtain rfl := Option.some.inj H
 go_enter Tryz.func88, Tryz.ntmps88
 go_wp2_with (first | ((with_reducible refine gate_dst (N := 1) rfl ?_); refine Kd.R_lit Kd.string _ 9 ?hg (N := 1) ?hd (xs := ([(⟨#[121, 111, 117]⟩ : ByteArray), (⟨#[102, 111, 101]⟩ : ByteArray), (⟨#[105, 116]⟩ : ByteArray), (⟨#[115, 101, 108, 102]⟩ : ByteArray), (⟨#[121, 111, 117, 114, 115]⟩ : ByteArray), (⟨#[116, 104, 101, 105, 114, 115]⟩ : ByteArray), (⟨#[97, 108, 108]⟩ : ByteArray), (⟨#[114, 101, 115, 116]⟩ : ByteArray), (⟨#[100, 121, 101, 100]⟩ : ByteArray), (⟨#[119, 105, 116, 104]⟩ : ByteArray)] : List ByteArray)) (inner := [.string (⟨#[121, 111, 117]⟩ : ByteArray), .string (⟨#[102, 111, 101]⟩ : ByteArray), .string (⟨#[105, 116]⟩ : ByteArray), .string (⟨#[115, 101, 108, 102]⟩ : ByteArray), .string (⟨#[121, 111, 117, 114, 115]⟩ : ByteArray), .string (⟨#[116, 104, 101, 105, 114, 115]⟩ : ByteArray), .string (⟨#[97, 108, 108]⟩ : ByteArray), .string (⟨#[114, 101, 115, 116]⟩ : ByteArray), .string (⟨#[100, 121, 101, 100]⟩ : ByteArray), .string (⟨#[119, 105, 116, 104]⟩ : ByteArray)]) (ok := fun _ => True) (okp := fun _ => True) ?hr ?hp (fun _ hk => hk) trivial (Below.refl _ _) (Nat.le_refl _) (by simp) ?_; (case hd => rfl); (case hg => rfl); (case hr => first | (go_simp; done) | (go_simp; rfl)); (case hp => exact (Reps.one (show Kd.M Kd.string _ _ _ (⟨#[121, 111, 117]⟩ : ByteArray) [.string (⟨#[121, 111, 117]⟩ : ByteArray)] from rfl) (Reps.one (show Kd.M Kd.string _ _ _ (⟨#[102, 111, 101]⟩ : ByteArray) [.string (⟨#[102, 111, 101]⟩ : ByteArray)] from rfl) (Reps.one (show Kd.M Kd.string _ _ _ (⟨#[105, 116]⟩ : ByteArray) [.string (⟨#[105, 116]⟩ : ByteArray)] from rfl) (Reps.one (show Kd.M Kd.string _ _ _ (⟨#[115, 101, 108, 102]⟩ : ByteArray) [.string (⟨#[115, 101, 108, 102]⟩ : ByteArray)] from rfl) (Reps.one (show Kd.M Kd.string _ _ _ (⟨#[121, 111, 117, 114, 115]⟩ : ByteArray) [.string (⟨#[121, 111, 117, 114, 115]⟩ : ByteArray)] from rfl) (Reps.one (show Kd.M Kd.string _ _ _ (⟨#[116, 104, 101, 105, 114, 115]⟩ : ByteArray) [.string (⟨#[116, 104, 101, 105, 114, 115]⟩ : ByteArray)] from rfl) (Reps.one (show Kd.M Kd.string _ _ _ (⟨#[97, 108, 108]⟩ : ByteArray) [.string (⟨#[97, 108, 108]⟩ : ByteArray)] from rfl) (Reps.one (show Kd.M Kd.string _ _ _ (⟨#[114, 101, 115, 116]⟩ : ByteArray) [.string (⟨#[114, 101, 115, 116]⟩ : ByteArray)] from rfl) (Reps.one (show Kd.M Kd.string _ _ _ (⟨#[100, 121, 101, 100]⟩ : ByteArray) [.string (⟨#[100, 121, 101, 100]⟩ : ByteArray)] from rfl) (Reps.one (show Kd.M Kd.string _ _ _ (⟨#[119, 105, 116, 104]⟩ : ByteArray) [.string (⟨#[119, 105, 116, 104]⟩ : ByteArray)] from rfl) (Reps.none _ _)))))))))))); intro v144 w1 ho2 hb hg_ hnew_; clear hg_ hnew_; (first | rw [← Ny143.out] at ho2 | (simp only [Int.reduceToNat] at ho2; rw [← Ny143.out] at ho2)); have HO145 := Aside0.mk (Kd.R_lower ho2 (below_size Zb)); replace HB := Aside0.mk (below_step Zb hb); clear hb ho2))
 go_ret
 exact ⟨_, Ze, Zr HO145.out, Zb⟩
end Go.Proofs.YtfpcideomanbbaaGreatDoor.PA
end
section
namespace Go.Proofs.YtfpcideomanbbaaGreatDoor.PA
open Go.RowKit Go.Proofs.YtfpcideomanbbaaGreatDoorW.PrintWords Go.Proofs.YtfpcideomanbbaaGreatDoorW.PrintLast Go.Proofs.YtfpcideomanbbaaGreatDoorW.PrintMore
attribute [local go_sem] max2_int min2_int max_two min_two max_three min_three max_four min_four
set_option linter.unusedVariables false
set_option linter.unusedSimpArgs false
def gambitref05_Digits.f : Nat → Int → Option (ByteArray)
 | 0, _ => none
 | k + 1, a0 => if a0 < 0 then ((gambitref05_Digits.f k (wrap64 (-a0))).bind fun t146 => (if 1 + t146.size ≤ 9223372036854775807 then (some ((⟨#[45]⟩ : ByteArray) ++ t146)) else (none))) else (if a0 < 10 then (if 0 ≤ a0 then (if a0 ≤ (wrap64 (a0 + 1)) then (if (wrap64 (a0 + 1)) ≤ 10 then (some ((⟨#[48, 49, 50, 51, 52, 53, 54, 55, 56, 57]⟩ : ByteArray).extract (a0 : Int).toNat ((wrap64 (a0 + 1)) : Int).toNat)) else (none)) else (none)) else (none)) else ((gambitref05_Digits.f k (wrap64 (Int.tdiv a0 10))).bind fun t147 => ((gambitref05_Digits.f k (Int.tmod a0 10)).bind fun t148 => (if t147.size + t148.size ≤ 9223372036854775807 then (some (t147 ++ t148)) else (none)))))
theorem gambitref05_Digits.mono_l : ∀ k, (∀ y0, LeO (gambitref05_Digits.f k y0) (gambitref05_Digits.f (k + 1) y0))
 | 0 => fun _ r h => by simp [gambitref05_Digits.f] at h
 | k + 1 => by
  have ih0 := gambitref05_Digits.mono_l k
  ·intro y0
   unfold gambitref05_Digits.f
   repeat' first
   | (with_reducible exact ih0 _)
   | (with_reducible exact LeO.refl _)
   | (with_reducible exact LeO.none _)
   | (with_reducible refine LeO.ite ?_ ?_)
   | (with_reducible refine LeO.bind ?_ (fun _ => ?_))
   | exact ih0 _
   | exact LeO.none _
   | refine LeO.ite ?_ ?_
   | refine LeO.bind ?_ (fun _ => ?_)
theorem gambitref05_Digits.mono : ∀ a0 k, LeO (gambitref05_Digits.f k a0) (gambitref05_Digits.f (k + 1) a0) := by
 intro a0 k
 have ih0 := gambitref05_Digits.mono_l k
 exact ih0 a0
set_option maxHeartbeats 8000000 in
set_option maxRecDepth 100000 in
theorem gambitref05_Digits.calls (k : Nat) : ∀ (a0 : Int) (r : ByteArray) (w : World) (h : gambitref05_Digits.f k a0 = some r),
  Calls Tryz.prog 90 #[.int .i64 a0] w fun e w' => e = .returned (.string r) ∧ Drawn0 w w' := by
 induction k using Nat.strongRecOn with
 | _ k ih =>
 intro a0 r w h
 cases k with
 | zero => exact absurd h (by simp [gambitref05_Digits.f])
 | succ k =>
 simp only [gambitref05_Digits.f] at h
 have H : (if a0 < 0 then ((gambitref05_Digits.f k (wrap64 (-a0))).bind fun t146 => (if 1 + t146.size ≤ 9223372036854775807 then (some ((⟨#[45]⟩ : ByteArray) ++ t146)) else (none))) else (if a0 < 10 then (if 0 ≤ a0 then (if a0 ≤ (wrap64 (a0 + 1)) then (if (wrap64 (a0 + 1)) ≤ 10 then (some ((⟨#[48, 49, 50, 51, 52, 53, 54, 55, 56, 57]⟩ : ByteArray).extract (a0 : Int).toNat ((wrap64 (a0 + 1)) : Int).toNat)) else (none)) else (none)) else (none)) else ((gambitref05_Digits.f k (wrap64 (Int.tdiv a0 10))).bind fun t147 => ((gambitref05_Digits.f k (Int.tmod a0 10)).bind fun t148 => (if t147.size + t148.size ≤ 9223372036854775807 then (some (t147 ++ t148)) else (none)))))) = some r := h
 clear h
 by_cases c2 : a0 < 0
 ·rw [if_pos c2] at H
  have c2b0 : decide (a0 < 0) = true := decide_eq_true c2
  clear c2
  replace H := Option.bind_eq_some_iff.mp H
  obtain ⟨t146, A30, H⟩ := H
  replace H : (if 1 + t146.size ≤ 9223372036854775807 then (some ((⟨#[45]⟩ : ByteArray) ++ t146)) else (none)) = some r := H
  have A3 := Aside0.mk A30
  clear A30
  by_cases c4 : 1 + t146.size ≤ 9223372036854775807
  ·rw [if_pos c4] at H
   have c4b0 := eq_true c4
   have c4b1 : decide (1 + t146.size ≤ 9223372036854775807) = true := decide_eq_true c4
   try have c4b2 : (9223372036854775807 < 1 + t146.size) = False := eq_false (Nat.not_lt.2 c4)
   obtain rfl := Option.some.inj H
   go_enter Tryz.func90, Tryz.ntmps90
   go_wp2_with (first | ((with_reducible refine gate_callee (f := 90) rfl ?_); refine goesL_ (some 7) rfl rfl Tryz.func90 (by kernel_rfl) rfl #[.int .i64 (wrap64 (-a0))] rfl Zl ?_; (with_reducible refine (ih k (by omega) (wrap64 (-a0)) t146 _ A3.out).mono ?_); rintro e w' ⟨rfl, ⟨nd, rfl⟩⟩; refine ⟨_, rfl, ?_⟩))
   go_ret
   exact ⟨Zt, Zd⟩
  ·rw [if_neg c4] at H
   exact absurd H (by simp)
 ·rw [if_neg c2] at H
  have c2b0 : decide (a0 < 0) = false := decide_eq_false c2
  clear c2
  by_cases c5 : a0 < 10
  ·rw [if_pos c5] at H
   have c5b0 : decide (a0 < 10) = true := decide_eq_true c5
   clear c5
   by_cases c6 : 0 ≤ a0
   ·rw [if_pos c6] at H
    have c6b0 := eq_true c6
    have c6b1 : decide (0 ≤ a0) = true := decide_eq_true c6
    clear c6
    by_cases c7 : a0 ≤ (wrap64 (a0 + 1))
    ·rw [if_pos c7] at H
     have c7b0 := eq_true c7
     have c7b1 : decide (a0 ≤ (wrap64 (a0 + 1))) = true := decide_eq_true c7
     by_cases c8 : (wrap64 (a0 + 1)) ≤ 10
     ·rw [if_pos c8] at H
      have c8b0 := eq_true c8
      have c8b1 : decide ((wrap64 (a0 + 1)) ≤ 10) = true := decide_eq_true c8
      obtain rfl := Option.some.inj H
      go_enter Tryz.func90, Tryz.ntmps90
      go_wp2
      go_ret
      exact ⟨Zt, Zd⟩
     ·rw [if_neg c8] at H
      exact absurd H (by simp)
    ·rw [if_neg c7] at H
     exact absurd H (by simp)
   ·rw [if_neg c6] at H
    exact absurd H (by simp)
  ·rw [if_neg c5] at H
   have c5b0 : decide (a0 < 10) = false := decide_eq_false c5
   clear c5
   replace H := Option.bind_eq_some_iff.mp H
   obtain ⟨t147, A90, H⟩ := H
   replace H : ((gambitref05_Digits.f k (Int.tmod a0 10)).bind fun t148 => (if t147.size + t148.size ≤ 9223372036854775807 then (some (t147 ++ t148)) else (none))) = some r := H
   have A9 := Aside0.mk A90
   clear A90
   replace H := Option.bind_eq_some_iff.mp H
   obtain ⟨t148, A100, H⟩ := H
   replace H : (if t147.size + t148.size ≤ 9223372036854775807 then (some (t147 ++ t148)) else (none)) = some r := H
   have A10 := Aside0.mk A100
   clear A100
   by_cases c11 : t147.size + t148.size ≤ 9223372036854775807
   ·rw [if_pos c11] at H
    have c11b0 := eq_true c11
    have c11b1 : decide (t147.size + t148.size ≤ 9223372036854775807) = true := decide_eq_true c11
    try have c11b2 : (9223372036854775807 < t147.size + t148.size) = False := eq_false (Nat.not_lt.2 c11)
    obtain rfl := Option.some.inj H
    go_enter Tryz.func90, Tryz.ntmps90
    go_wp2_with (first | ((with_reducible refine gate_callee (f := 90) rfl ?_); refine goesL_ (some 17) rfl rfl Tryz.func90 (by kernel_rfl) rfl #[.int .i64 (wrap64 (Int.tdiv a0 10))] rfl Zl ?_; (with_reducible refine (ih k (by omega) (wrap64 (Int.tdiv a0 10)) t147 _ A9.out).mono ?_); rintro e w' ⟨rfl, ⟨nd, rfl⟩⟩; refine ⟨_, rfl, ?_⟩) | ((with_reducible refine gate_callee (f := 90) rfl ?_); refine goesL_ (some 20) rfl rfl Tryz.func90 (by kernel_rfl) rfl #[.int .i64 (Int.tmod a0 10)] rfl Zl ?_; (with_reducible refine (ih k (by omega) (Int.tmod a0 10) t148 _ A10.out).mono ?_); rintro e w' ⟨rfl, ⟨nd, rfl⟩⟩; refine ⟨_, rfl, ?_⟩))
    go_ret
    exact ⟨Zt, Zd⟩
   ·rw [if_neg c11] at H
    exact absurd H (by simp)
end Go.Proofs.YtfpcideomanbbaaGreatDoor.PA
end
