/-
  CardBack: for every two cards and every text: there and back; no conditions beyond the row's own.
-/
import Derived.Test.YtfpcideomanbbaaGreatDoorCards
import Derived.Test.YtfpcideomanbbaaGreatDoorTie
import Derived.Test.YtfpcideomanbbaaGreatDoorKZ
import Derived.Test.YtfpcideomanbbaaGreatDoorK1
import Derived.Test.YtfpcideomanbbaaGreatDoorK2
import Derived.Test.YtfpcideomanbbaaGreatDoorK3
import Derived.Test.YtfpcideomanbbaaGreatDoorK4
import Derived.Test.YtfpcideomanbbaaGreatDoorK5
import Derived.Test.YtfpcideomanbbaaGreatDoorK6
import Derived.Test.YtfpcideomanbbaaGreatDoorK7
import Derived.ProofKit
import Derived.ChangeMaps5
import Derived.Carry
set_option linter.unusedVariables false
set_option linter.unusedSimpArgs false
section
namespace Go.Proofs.YtfpcideomanbbaaGreatDoor.PA
open Go.RowKit Go.Proofs.YtfpcideomanbbaaGreatDoorW.PrintWords Go.Proofs.YtfpcideomanbbaaGreatDoorW.PrintLast Go.Proofs.YtfpcideomanbbaaGreatDoorW.PrintMore
attribute [local go_sem] max2_int min2_int max_two min_two max_three min_three max_four min_four
set_option linter.unusedVariables false
set_option linter.unusedSimpArgs false
mutual
def gambitlaw06_CardBack.j0 : Nat → ByteArray → ByteArray → Int → ByteArray → Int → ByteArray → Int → Int → Int → Int → Int → Int → Bool → List (S48) → ByteArray → Int → Int → Int → Int → Int → Int → Bool → List (S48) → Option (Bool)
 | 0, _, _, _, _, _, _, _, _, _, _, _, _, _, _, _, _, _, _, _, _, _, _, _ => none
 | k + 1, x2, x7, x8, x9, x10, x692000, x692001, x692002, x692003, x692004, x692005, x692006, x692007, x692008, x693000, x693001, x693002, x693003, x693004, x693005, x693006, x693007, x693008 => if x8 = 0 then (if x10 = 0 then ((gambitkit_SameCard.f k x692000 x692001 x692002 x692003 x692004 x692005 x692006 x692007 x692008 x693000 x693001 x693002 x693003 x693004 x693005 x693006 x693007 x693008).bind fun t711 => (if x7.toList = x9.toList then (gambitlaw06_CardBack.j1 k x2 (!t711)) else (gambitlaw06_CardBack.j1 k x2 t711))) else (gambitlaw06_CardBack.j1 k x2 false)) else (gambitlaw06_CardBack.j1 k x2 false)
def gambitlaw06_CardBack.j1 : Nat → ByteArray → Bool → Option (Bool)
 | 0, _, _ => none
 | k + 1, x2, x61 => if x61 = true then (some false) else ((card_Parse.f k x2).bind fun bt712 => (if bt712.2.2.2.2.2.2.2.2.2 = 0 then ((card_Print.f k bt712.1 bt712.2.1 bt712.2.2.1 bt712.2.2.2.1 bt712.2.2.2.2.1 bt712.2.2.2.2.2.1 bt712.2.2.2.2.2.2.1 bt712.2.2.2.2.2.2.2.1 bt712.2.2.2.2.2.2.2.2.1).bind fun bt725 => (if bt725.2 = 0 then (if bt725.1.toList = x2.toList then ((card_Check.f k bt712.1 bt712.2.1 bt712.2.2.1 bt712.2.2.2.1 bt712.2.2.2.2.1 bt712.2.2.2.2.2.1 bt712.2.2.2.2.2.2.1 bt712.2.2.2.2.2.2.2.1 bt712.2.2.2.2.2.2.2.2.1).bind fun t727 => (if t727 = 0 then ((gambitlaw06_awake.f k).bind fun t728 => (some t728)) else (some false))) else (some false)) else (some false))) else ((gambitlaw06_awake.f k).bind fun t729 => (some t729))))
end
def gambitlaw06_CardBack.f (k : Nat) (a0_0 : ByteArray) (a0_1 : Int) (a0_2 : Int) (a0_3 : Int) (a0_4 : Int) (a0_5 : Int) (a0_6 : Int) (a0_7 : Bool) (l0_8 : List (S48)) (a1_0 : ByteArray) (a1_1 : Int) (a1_2 : Int) (a1_3 : Int) (a1_4 : Int) (a1_5 : Int) (a1_6 : Int) (a1_7 : Bool) (l1_8 : List (S48)) (a2 : ByteArray) : Option (Bool) := (card_Print.f k a0_0 a0_1 a0_2 a0_3 a0_4 a0_5 a0_6 a0_7 l0_8).bind fun bt693 => ((card_Print.f k a1_0 a1_1 a1_2 a1_3 a1_4 a1_5 a1_6 a1_7 l1_8).bind fun bt695 => (if bt693.2 = 0 then ((card_Parse.f k bt693.1).bind fun bt697 => (if bt697.2.2.2.2.2.2.2.2.2 = 0 then ((gambitkit_SameCard.f k bt697.1 bt697.2.1 bt697.2.2.1 bt697.2.2.2.1 bt697.2.2.2.2.1 bt697.2.2.2.2.2.1 bt697.2.2.2.2.2.2.1 bt697.2.2.2.2.2.2.2.1 bt697.2.2.2.2.2.2.2.2.1 a0_0 a0_1 a0_2 a0_3 a0_4 a0_5 a0_6 a0_7 l0_8).bind fun t710 => (if t710 = true then (if (bt693.1.size : Int) > 512 then (some false) else (gambitlaw06_CardBack.j0 k a2 bt693.1 bt693.2 bt695.1 bt695.2 a0_0 a0_1 a0_2 a0_3 a0_4 a0_5 a0_6 a0_7 l0_8 a1_0 a1_1 a1_2 a1_3 a1_4 a1_5 a1_6 a1_7 l1_8)) else (some false))) else (some false))) else (gambitlaw06_CardBack.j0 k a2 bt693.1 bt693.2 bt695.1 bt695.2 a0_0 a0_1 a0_2 a0_3 a0_4 a0_5 a0_6 a0_7 l0_8 a1_0 a1_1 a1_2 a1_3 a1_4 a1_5 a1_6 a1_7 l1_8)))
theorem gambitlaw06_CardBack.mono_l : ∀ k, (∀ y0 y1 y2 y3 y4 y5 y6 y7 y8 y9 y10 y11 y12 y13 y14 y15 y16 y17 y18 y19 y20 y21 y22, LeO (gambitlaw06_CardBack.j0 k y0 y1 y2 y3 y4 y5 y6 y7 y8 y9 y10 y11 y12 y13 y14 y15 y16 y17 y18 y19 y20 y21 y22) (gambitlaw06_CardBack.j0 (k + 1) y0 y1 y2 y3 y4 y5 y6 y7 y8 y9 y10 y11 y12 y13 y14 y15 y16 y17 y18 y19 y20 y21 y22)) ∧ (∀ y0 y1, LeO (gambitlaw06_CardBack.j1 k y0 y1) (gambitlaw06_CardBack.j1 (k + 1) y0 y1))
 | 0 => ⟨fun _ _ _ _ _ _ _ _ _ _ _ _ _ _ _ _ _ _ _ _ _ _ _ r h => by simp [gambitlaw06_CardBack.j0] at h, fun _ _ r h => by simp [gambitlaw06_CardBack.j1] at h⟩
 | k + 1 => by
  obtain ⟨ih0, ih1⟩ := gambitlaw06_CardBack.mono_l k
  refine ⟨?_, ?_⟩
  ·intro y0 y1 y2 y3 y4 y5 y6 y7 y8 y9 y10 y11 y12 y13 y14 y15 y16 y17 y18 y19 y20 y21 y22
   unfold gambitlaw06_CardBack.j0
   repeat' first
   | (with_reducible exact ih0 _ _ _ _ _ _ _ _ _ _ _ _ _ _ _ _ _ _ _ _ _ _ _)
   | (with_reducible exact ih1 _ _)
   | (with_reducible exact card_Check.mono _ _ _ _ _ _ _ _ _ _)
   | (with_reducible exact card_Parse.mono _ _)
   | (with_reducible exact card_Print.mono _ _ _ _ _ _ _ _ _ _)
   | (with_reducible exact gambitkit_SameCard.mono _ _ _ _ _ _ _ _ _ _ _ _ _ _ _ _ _ _ _)
   | (with_reducible exact gambitlaw06_awake.mono _)
   | (with_reducible exact LeO.refl _)
   | (with_reducible exact LeO.none _)
   | (with_reducible refine LeO.ite ?_ ?_)
   | (with_reducible refine LeO.bind ?_ (fun _ => ?_))
   | exact ih0 _ _ _ _ _ _ _ _ _ _ _ _ _ _ _ _ _ _ _ _ _ _ _
   | exact ih1 _ _
   | exact card_Check.mono _ _ _ _ _ _ _ _ _ _
   | exact card_Parse.mono _ _
   | exact card_Print.mono _ _ _ _ _ _ _ _ _ _
   | exact gambitkit_SameCard.mono _ _ _ _ _ _ _ _ _ _ _ _ _ _ _ _ _ _ _
   | exact gambitlaw06_awake.mono _
   | exact LeO.none _
   | refine LeO.ite ?_ ?_
   | refine LeO.bind ?_ (fun _ => ?_)
  ·intro y0 y1
   unfold gambitlaw06_CardBack.j1
   repeat' first
   | (with_reducible exact ih0 _ _ _ _ _ _ _ _ _ _ _ _ _ _ _ _ _ _ _ _ _ _ _)
   | (with_reducible exact ih1 _ _)
   | (with_reducible exact card_Check.mono _ _ _ _ _ _ _ _ _ _)
   | (with_reducible exact card_Parse.mono _ _)
   | (with_reducible exact card_Print.mono _ _ _ _ _ _ _ _ _ _)
   | (with_reducible exact gambitkit_SameCard.mono _ _ _ _ _ _ _ _ _ _ _ _ _ _ _ _ _ _ _)
   | (with_reducible exact gambitlaw06_awake.mono _)
   | (with_reducible exact LeO.refl _)
   | (with_reducible exact LeO.none _)
   | (with_reducible refine LeO.ite ?_ ?_)
   | (with_reducible refine LeO.bind ?_ (fun _ => ?_))
   | exact ih0 _ _ _ _ _ _ _ _ _ _ _ _ _ _ _ _ _ _ _ _ _ _ _
   | exact ih1 _ _
   | exact card_Check.mono _ _ _ _ _ _ _ _ _ _
   | exact card_Parse.mono _ _
   | exact card_Print.mono _ _ _ _ _ _ _ _ _ _
   | exact gambitkit_SameCard.mono _ _ _ _ _ _ _ _ _ _ _ _ _ _ _ _ _ _ _
   | exact gambitlaw06_awake.mono _
   | exact LeO.none _
   | refine LeO.ite ?_ ?_
   | refine LeO.bind ?_ (fun _ => ?_)
theorem gambitlaw06_CardBack.mono : ∀ a0 a1 a2 a3 a4 a5 a6 a7 a8 a9 a10 a11 a12 a13 a14 a15 a16 a17 a18 k, LeO (gambitlaw06_CardBack.f k a0 a1 a2 a3 a4 a5 a6 a7 a8 a9 a10 a11 a12 a13 a14 a15 a16 a17 a18) (gambitlaw06_CardBack.f (k + 1) a0 a1 a2 a3 a4 a5 a6 a7 a8 a9 a10 a11 a12 a13 a14 a15 a16 a17 a18) := by
 intro a0 a1 a2 a3 a4 a5 a6 a7 a8 a9 a10 a11 a12 a13 a14 a15 a16 a17 a18 k
 obtain ⟨ih0, ih1⟩ := gambitlaw06_CardBack.mono_l k
 unfold gambitlaw06_CardBack.f
 repeat' first
   | (with_reducible exact ih0 _ _ _ _ _ _ _ _ _ _ _ _ _ _ _ _ _ _ _ _ _ _ _)
   | (with_reducible exact ih1 _ _)
   | (with_reducible exact card_Check.mono _ _ _ _ _ _ _ _ _ _)
   | (with_reducible exact card_Parse.mono _ _)
   | (with_reducible exact card_Print.mono _ _ _ _ _ _ _ _ _ _)
   | (with_reducible exact gambitkit_SameCard.mono _ _ _ _ _ _ _ _ _ _ _ _ _ _ _ _ _ _ _)
   | (with_reducible exact gambitlaw06_awake.mono _)
   | (with_reducible exact LeO.refl _)
   | (with_reducible exact LeO.none _)
   | (with_reducible refine LeO.ite ?_ ?_)
   | (with_reducible refine LeO.bind ?_ (fun _ => ?_))
   | exact ih0 _ _ _ _ _ _ _ _ _ _ _ _ _ _ _ _ _ _ _ _ _ _ _
   | exact ih1 _ _
   | exact card_Check.mono _ _ _ _ _ _ _ _ _ _
   | exact card_Parse.mono _ _
   | exact card_Print.mono _ _ _ _ _ _ _ _ _ _
   | exact gambitkit_SameCard.mono _ _ _ _ _ _ _ _ _ _ _ _ _ _ _ _ _ _ _
   | exact gambitlaw06_awake.mono _
   | exact LeO.none _
   | refine LeO.ite ?_ ?_
   | refine LeO.bind ?_ (fun _ => ?_)
set_option maxHeartbeats 8000000 in
set_option maxRecDepth 100000 in
theorem gambitlaw06_CardBack.calls (k : Nat) (a0_0 : ByteArray) (a0_1 : Int) (a0_2 : Int) (a0_3 : Int) (a0_4 : Int) (a0_5 : Int) (a0_6 : Int) (a0_7 : Bool) (A0_8 : Option Addr) (c0_8 : Nat) (l0_8 : List (S48)) (a1_0 : ByteArray) (a1_1 : Int) (a1_2 : Int) (a1_3 : Int) (a1_4 : Int) (a1_5 : Int) (a1_6 : Int) (a1_7 : Bool) (A1_8 : Option Addr) (c1_8 : Nat) (l1_8 : List (S48)) (a2 : ByteArray) (r : Bool) (w : World) (hG_ : GP w) (hr0_8 : Kd.C k48 w A0_8 l0_8.length l0_8) (hc0_8 : l0_8.length ≤ c0_8) (hr1_8 : Kd.C k48 w A1_8 l1_8.length l1_8) (hc1_8 : l1_8.length ≤ c1_8) (h : gambitlaw06_CardBack.f k a0_0 a0_1 a0_2 a0_3 a0_4 a0_5 a0_6 a0_7 l0_8 a1_0 a1_1 a1_2 a1_3 a1_4 a1_5 a1_6 a1_7 l1_8 a2 = some r) :
  Calls Tryz.prog 7 #[.agg #[.string a0_0, .int .u8 a0_1, .int .u8 a0_2, .int .i64 a0_3, .int .i64 a0_4, .int .i64 a0_5, .int .u16 a0_6, .bool a0_7, .slice A0_8 l0_8.length c0_8], .agg #[.string a1_0, .int .u8 a1_1, .int .u8 a1_2, .int .i64 a1_3, .int .i64 a1_4, .int .i64 a1_5, .int .u16 a1_6, .bool a1_7, .slice A1_8 l1_8.length c1_8], .string a2] w fun e w' => e = .returned (.bool r) ∧ Below w.heap.size w w' := by
 have hu28 := Tryz.underlying28
 have HR0_8 := Aside0.mk hr0_8
 have HC0_8 := Aside0.mk hc0_8
 clear hr0_8 hc0_8
 have HR1_8 := Aside0.mk hr1_8
 have HC1_8 := Aside0.mk hc1_8
 clear hr1_8 hc1_8
 have HGP := Aside0.mk hG_
 clear hG_
 have HB := Aside0.mk (Below.refl w.heap.size w)
 have H : ((card_Print.f k a0_0 a0_1 a0_2 a0_3 a0_4 a0_5 a0_6 a0_7 l0_8).bind fun bt693 => ((card_Print.f k a1_0 a1_1 a1_2 a1_3 a1_4 a1_5 a1_6 a1_7 l1_8).bind fun bt695 => (if bt693.2 = 0 then ((card_Parse.f k bt693.1).bind fun bt697 => (if bt697.2.2.2.2.2.2.2.2.2 = 0 then ((gambitkit_SameCard.f k bt697.1 bt697.2.1 bt697.2.2.1 bt697.2.2.2.1 bt697.2.2.2.2.1 bt697.2.2.2.2.2.1 bt697.2.2.2.2.2.2.1 bt697.2.2.2.2.2.2.2.1 bt697.2.2.2.2.2.2.2.2.1 a0_0 a0_1 a0_2 a0_3 a0_4 a0_5 a0_6 a0_7 l0_8).bind fun t710 => (if t710 = true then (if (bt693.1.size : Int) > 512 then (some false) else (gambitlaw06_CardBack.j0 k a2 bt693.1 bt693.2 bt695.1 bt695.2 a0_0 a0_1 a0_2 a0_3 a0_4 a0_5 a0_6 a0_7 l0_8 a1_0 a1_1 a1_2 a1_3 a1_4 a1_5 a1_6 a1_7 l1_8)) else (some false))) else (some false))) else (gambitlaw06_CardBack.j0 k a2 bt693.1 bt693.2 bt695.1 bt695.2 a0_0 a0_1 a0_2 a0_3 a0_4 a0_5 a0_6 a0_7 l0_8 a1_0 a1_1 a1_2 a1_3 a1_4 a1_5 a1_6 a1_7 l1_8)))) = some r := h
 clear h
 replace H := Option.bind_eq_some_iff.mp H
 obtain ⟨⟨t693, t694⟩, A40, H⟩ := H
 replace H : ((card_Print.f k a1_0 a1_1 a1_2 a1_3 a1_4 a1_5 a1_6 a1_7 l1_8).bind fun bt695 => (if t694 = 0 then ((card_Parse.f k t693).bind fun bt697 => (if bt697.2.2.2.2.2.2.2.2.2 = 0 then ((gambitkit_SameCard.f k bt697.1 bt697.2.1 bt697.2.2.1 bt697.2.2.2.1 bt697.2.2.2.2.1 bt697.2.2.2.2.2.1 bt697.2.2.2.2.2.2.1 bt697.2.2.2.2.2.2.2.1 bt697.2.2.2.2.2.2.2.2.1 a0_0 a0_1 a0_2 a0_3 a0_4 a0_5 a0_6 a0_7 l0_8).bind fun t710 => (if t710 = true then (if (t693.size : Int) > 512 then (some false) else (gambitlaw06_CardBack.j0 k a2 t693 t694 bt695.1 bt695.2 a0_0 a0_1 a0_2 a0_3 a0_4 a0_5 a0_6 a0_7 l0_8 a1_0 a1_1 a1_2 a1_3 a1_4 a1_5 a1_6 a1_7 l1_8)) else (some false))) else (some false))) else (gambitlaw06_CardBack.j0 k a2 t693 t694 bt695.1 bt695.2 a0_0 a0_1 a0_2 a0_3 a0_4 a0_5 a0_6 a0_7 l0_8 a1_0 a1_1 a1_2 a1_3 a1_4 a1_5 a1_6 a1_7 l1_8))) = some r := H
 have A4 := Aside0.mk A40
 clear A40
 replace H := Option.bind_eq_some_iff.mp H
 obtain ⟨⟨t695, t696⟩, A50, H⟩ := H
 replace H : (if t694 = 0 then ((card_Parse.f k t693).bind fun bt697 => (if bt697.2.2.2.2.2.2.2.2.2 = 0 then ((gambitkit_SameCard.f k bt697.1 bt697.2.1 bt697.2.2.1 bt697.2.2.2.1 bt697.2.2.2.2.1 bt697.2.2.2.2.2.1 bt697.2.2.2.2.2.2.1 bt697.2.2.2.2.2.2.2.1 bt697.2.2.2.2.2.2.2.2.1 a0_0 a0_1 a0_2 a0_3 a0_4 a0_5 a0_6 a0_7 l0_8).bind fun t710 => (if t710 = true then (if (t693.size : Int) > 512 then (some false) else (gambitlaw06_CardBack.j0 k a2 t693 t694 t695 t696 a0_0 a0_1 a0_2 a0_3 a0_4 a0_5 a0_6 a0_7 l0_8 a1_0 a1_1 a1_2 a1_3 a1_4 a1_5 a1_6 a1_7 l1_8)) else (some false))) else (some false))) else (gambitlaw06_CardBack.j0 k a2 t693 t694 t695 t696 a0_0 a0_1 a0_2 a0_3 a0_4 a0_5 a0_6 a0_7 l0_8 a1_0 a1_1 a1_2 a1_3 a1_4 a1_5 a1_6 a1_7 l1_8)) = some r := H
 have A5 := Aside0.mk A50
 clear A50
 have HC6 := Aside0.mk H
 clear H
 go_enter Tryz.func7, Tryz.ntmps7
 go_upto_if 28 with (first | ((with_reducible refine gate_dst (N := 3) rfl ?_); (try (refine gate_guard (by rfl) ?_; dsimp only)); refine box_event ?hg (N := 3) ?hd (cs := #[.string a0_0, .int .u8 a0_1, .int .u8 a0_2, .int .i64 a0_3, .int .i64 a0_4, .int .i64 a0_5, .int .u16 a0_6, .bool a0_7, .slice A0_8 l0_8.length c0_8]) (t := 28) ?hr ?_; (case hd => rfl); (case hg => rfl); (case hr => first | (go_simp; done) | (go_simp; rfl)); intro gb691 hg w7 hbox hb; have BK691 := Aside0.mk (hbox); have GW691 := Aside0.mk ((by rw [hg]; exact (below_size Zb) : w.heap.size ≤ gb691)); have GE691 := Aside0.mk ((by rw [hg]; exact (below_size Zb) : w.heap.size ≤ gb691)); replace HB := Aside0.mk (below_step Zb hb); clear hb hbox hg) | ((with_reducible refine gate_dst (N := 4) rfl ?_); (try (refine gate_guard (by rfl) ?_; dsimp only)); refine box_event ?hg (N := 4) ?hd (cs := #[.string a1_0, .int .u8 a1_1, .int .u8 a1_2, .int .i64 a1_3, .int .i64 a1_4, .int .i64 a1_5, .int .u16 a1_6, .bool a1_7, .slice A1_8 l1_8.length c1_8]) (t := 28) ?hr ?_; (case hd => rfl); (case hg => rfl); (case hr => first | (go_simp; done) | (go_simp; rfl)); intro gb692 hg w8 hbox hb; have BK692 := Aside0.mk (hbox); have GW692 := Aside0.mk ((by rw [hg]; exact (below_size (Zb1 GE691.out)) : w.heap.size ≤ gb692)); have GE692 := Aside0.mk ((by rw [hg]; exact (below_size (Zb1 GE691.out)) : w.heap.size ≤ gb692)); replace HB := Aside0.mk (below_step (Zb1 GE691.out) hb); have NB691_692 := Aside0.mk ((by rw [hg]; exact Nat.ne_of_lt (blk_lt (Zj BK691.out)) : gb691 ≠ gb692)); have NB692_691 := Aside0.mk ((by rw [hg]; exact Nat.ne_of_gt (blk_lt (Zj BK691.out)) : gb692 ≠ gb691)); replace BK691 := Aside0.mk (blk_below (Zj BK691.out) hb); clear hb hbox hg; have hnb9 := NB691_692.out; have hnc9 := NB692_691.out; obtain ⟨hcz10_0, hcz10_1, hcz10_2, hcz10_3, hcz10_4, hcz10_5, hcz10_6, hcz10_7, hcz10_8, hfz10_0, hfz10_1, hfz10_2, hfz10_3, hfz10_4, hfz10_5, hfz10_6, hfz10_7, hfz10_8⟩ := Z9 BK691.out) | ((with_reducible refine gate_callee (f := 10) rfl ?_); refine goesL_ (some 19) rfl rfl Tryz.func10 (by kernel_rfl) rfl #[.agg #[.string a0_0, .int .u8 a0_1, .int .u8 a0_2, .int .i64 a0_3, .int .i64 a0_4, .int .i64 a0_5, .int .u16 a0_6, .bool a0_7, .slice A0_8 l0_8.length c0_8]] rfl Zl ?_; (with_reducible refine (card_Print.calls k a0_0 a0_1 a0_2 a0_3 a0_4 a0_5 a0_6 a0_7 _ _ l0_8 t693 t694 _ ?side3 ?side1 ?side2 A4.out).mono ?_); (case side1 => repeat (first | exact (Kd.C_below HR0_8.out HB.out) | (with_reducible refine Kd.C_alloc ?_ _) | (with_reducible refine Kd.C_drewN ?_ _) | (with_reducible refine Kd.C_drew ?_))); (case side2 => exact HC0_8.out); (case side3 => first | (with_reducible exact HGP.out) | exact GP_below HGP.out (Zb2 GE691.out GE692.out)); rintro e w11 ⟨rfl, hb⟩; refine ⟨_, rfl, ?_⟩; replace BK691 := Aside0.mk (blk_below (Zj BK691.out) hb); replace BK692 := Aside0.mk (blk_below (Zj BK692.out) hb); replace HB := Aside0.mk (below_step (Zb2 GE691.out GE692.out) hb); (try clear hb); (try clear hb2); (try clear hk); (try clear hi); obtain ⟨hcz12_0, hcz12_1, hcz12_2, hcz12_3, hcz12_4, hcz12_5, hcz12_6, hcz12_7, hcz12_8, hfz12_0, hfz12_1, hfz12_2, hfz12_3, hfz12_4, hfz12_5, hfz12_6, hfz12_7, hfz12_8⟩ := Z9 BK692.out) | ((with_reducible refine gate_callee (f := 10) rfl ?_); refine goesL_ (some 24) rfl rfl Tryz.func10 (by kernel_rfl) rfl #[.agg #[.string a1_0, .int .u8 a1_1, .int .u8 a1_2, .int .i64 a1_3, .int .i64 a1_4, .int .i64 a1_5, .int .u16 a1_6, .bool a1_7, .slice A1_8 l1_8.length c1_8]] rfl Zl ?_; (with_reducible refine (card_Print.calls k a1_0 a1_1 a1_2 a1_3 a1_4 a1_5 a1_6 a1_7 _ _ l1_8 t695 t696 _ ?side3 ?side1 ?side2 A5.out).mono ?_); (case side1 => repeat (first | exact (Kd.C_below HR1_8.out HB.out) | (with_reducible refine Kd.C_alloc ?_ _) | (with_reducible refine Kd.C_drewN ?_ _) | (with_reducible refine Kd.C_drew ?_))); (case side2 => exact HC1_8.out); (case side3 => first | (with_reducible exact HGP.out) | exact GP_below HGP.out (Zb2 GE691.out GE692.out)); rintro e w13 ⟨rfl, hb⟩; refine ⟨_, rfl, ?_⟩; replace BK691 := Aside0.mk (blk_below (Zj BK691.out) hb); replace BK692 := Aside0.mk (blk_below (Zj BK692.out) hb); replace HB := Aside0.mk (below_step (Zb2 GE691.out GE692.out) hb); (try clear hb); (try clear hb2); (try clear hk); (try clear hi)))
 (try simp only [Act.put, List.setIfInBounds_toArray, List.set_cons_zero, List.set_cons_succ])
 go_cut [] (fun wc => ∃ (kq : Nat), Aside0 (gambitlaw06_CardBack.j0 kq a2 t693 t694 t695 t696 a0_0 a0_1 a0_2 a0_3 a0_4 a0_5 a0_6 a0_7 l0_8 a1_0 a1_1 a1_2 a1_3 a1_4 a1_5 a1_6 a1_7 l1_8 = some r) ∧ Aside0 (kq ≤ k) ∧ Aside0 (wc.heap[gb691]? = some (.cells #[.string a0_0, .int .u8 a0_1, .int .u8 a0_2, .int .i64 a0_3, .int .i64 a0_4, .int .i64 a0_5, .int .u16 a0_6, .bool a0_7, (.slice A0_8 l0_8.length c0_8)] 28 (0, 0))) ∧ Aside0 (wc.heap[gb692]? = some (.cells #[.string a1_0, .int .u8 a1_1, .int .u8 a1_2, .int .i64 a1_3, .int .i64 a1_4, .int .i64 a1_5, .int .u16 a1_6, .bool a1_7, (.slice A1_8 l1_8.length c1_8)] 28 (0, 0))) ∧ Aside0 (Below w.heap.size w wc))
 case first =>
  have H := HC6.out
  clear HC6
  by_cases c14 : t694 = 0
  ·rw [if_pos c14] at H
   have c14b0 : (t694 == 0) = true := beq_iff_eq.mpr c14
   have c14b1 : (t694 != 0) = false := bne_eq_false_iff_eq.mpr c14
   clear c14
   (first | rw [c14b0] | (simp only [i64_w, i32_w]; rw [c14b0]) | skip)
   replace H := Option.bind_eq_some_iff.mp H
   obtain ⟨⟨t697, t698, t699, t700, t701, t702, t703, t704, t705, t708⟩, A150, H⟩ := H
   replace H : (if t708 = 0 then ((gambitkit_SameCard.f k t697 t698 t699 t700 t701 t702 t703 t704 t705 a0_0 a0_1 a0_2 a0_3 a0_4 a0_5 a0_6 a0_7 l0_8).bind fun t710 => (if t710 = true then (if (t693.size : Int) > 512 then (some false) else (gambitlaw06_CardBack.j0 k a2 t693 t694 t695 t696 a0_0 a0_1 a0_2 a0_3 a0_4 a0_5 a0_6 a0_7 l0_8 a1_0 a1_1 a1_2 a1_3 a1_4 a1_5 a1_6 a1_7 l1_8)) else (some false))) else (some false)) = some r := H
   have A15 := Aside0.mk A150
   clear A150
   by_cases c16 : t708 = 0
   ·rw [if_pos c16] at H
    have c16b0 : (t708 == 0) = true := beq_iff_eq.mpr c16
    have c16b1 : (t708 != 0) = false := bne_eq_false_iff_eq.mpr c16
    clear c16
    replace H := Option.bind_eq_some_iff.mp H
    obtain ⟨t710, A170, H⟩ := H
    replace H : (if t710 = true then (if (t693.size : Int) > 512 then (some false) else (gambitlaw06_CardBack.j0 k a2 t693 t694 t695 t696 a0_0 a0_1 a0_2 a0_3 a0_4 a0_5 a0_6 a0_7 l0_8 a1_0 a1_1 a1_2 a1_3 a1_4 a1_5 a1_6 a1_7 l1_8)) else (some false)) = some r := H
    have A17 := Aside0.mk A170
    clear A170
    by_cases c18 : t710 = true
    ·subst c18
     have H1 : (if (t693.size : Int) > 512 then (some false) else (gambitlaw06_CardBack.j0 k a2 t693 t694 t695 t696 a0_0 a0_1 a0_2 a0_3 a0_4 a0_5 a0_6 a0_7 l0_8 a1_0 a1_1 a1_2 a1_3 a1_4 a1_5 a1_6 a1_7 l1_8)) = some r := by rw [if_pos rfl] at H; exact H
     clear H
     have H := H1
     clear H1
     by_cases c19 : (t693.size : Int) > 512
     ·rw [if_pos c19] at H
      have c19b0 : decide (512 < (t693.size : Int)) = true := decide_eq_true c19
      have c19b1 : decide (512 < t693.size) = true := decide_eq_true (by omega)
      clear c19
      obtain rfl := Option.some.inj H
      go_wp2_with (first | ((with_reducible refine gate_callee (f := 25) rfl ?_); refine goesL_ (some 31) rfl rfl Tryz.func25 (by kernel_rfl) rfl #[.string t693] rfl Zl ?_; (with_reducible refine (card_Parse.calls k t693 t697 t698 t699 t700 t701 t702 t703 t704 t705 t708 _ ?side1 A15.out).mono ?_); (case side1 => first | (with_reducible exact HGP.out) | exact GP_below HGP.out (Zb2 GE691.out GE692.out)); rintro e w20 ⟨v706, rfl, ho0, hb⟩; refine ⟨_, rfl, ?_⟩; have HO707 := Aside0.mk (Kd.R_lower ho0 (below_size (Zb2 GE691.out GE692.out))); replace BK691 := Aside0.mk (blk_below (Zj BK691.out) hb); replace BK692 := Aside0.mk (blk_below (Zj BK692.out) hb); replace HB := Aside0.mk (below_step (Zb2 GE691.out GE692.out) hb); (try clear hb); (try clear hb2); (try clear hk); (try clear hi); (try clear ho0)) | ((with_reducible refine gate_dst (N := 11) rfl ?_); (try (refine gate_guard (by rfl) ?_; dsimp only)); refine box_event ?hg (N := 11) ?hd (cs := #[.string (⟨#[]⟩ : ByteArray), .int .u8 0, .int .u8 0, .int .i64 0, .int .i64 0, .int .i64 0, .int .u16 0, .bool false, .slice none 0 0]) (t := 28) ?hr ?_; (case hd => rfl); (case hg => rfl); (case hr => first | (go_simp; done) | (go_simp; rfl)); intro gb709 hg w21 hbox hb; replace HO707 := Aside0.mk (Kd.R_below (Zq HO707.out) hb); have BK709 := Aside0.mk (hbox); have GW709 := Aside0.mk ((by rw [hg]; exact (below_size (Zb2 GE691.out GE692.out)) : w.heap.size ≤ gb709)); have GE709 := Aside0.mk ((by rw [hg]; exact (below_size (Zb2 GE691.out GE692.out)) : w.heap.size ≤ gb709)); replace HB := Aside0.mk (below_step (Zb2 GE691.out GE692.out) hb); have NB691_709 := Aside0.mk ((by rw [hg]; exact Nat.ne_of_lt (blk_lt (Zj BK691.out)) : gb691 ≠ gb709)); have NB709_691 := Aside0.mk ((by rw [hg]; exact Nat.ne_of_gt (blk_lt (Zj BK691.out)) : gb709 ≠ gb691)); replace BK691 := Aside0.mk (blk_below (Zj BK691.out) hb); have NB692_709 := Aside0.mk ((by rw [hg]; exact Nat.ne_of_lt (blk_lt (Zj BK692.out)) : gb692 ≠ gb709)); have NB709_692 := Aside0.mk ((by rw [hg]; exact Nat.ne_of_gt (blk_lt (Zj BK692.out)) : gb709 ≠ gb692)); replace BK692 := Aside0.mk (blk_below (Zj BK692.out) hb); clear hb hbox hg; have hnb22 := NB709_691.out; have hnc22 := NB691_709.out; have hnb23 := NB709_692.out; have hnc23 := NB692_709.out; obtain ⟨hcz24_0, hcz24_1, hcz24_2, hcz24_3, hcz24_4, hcz24_5, hcz24_6, hcz24_7, hcz24_8, hfz24_0, hfz24_1, hfz24_2, hfz24_3, hfz24_4, hfz24_5, hfz24_6, hfz24_7, hfz24_8⟩ := Z9 BK709.out; obtain ⟨Ao25, co25, eo25⟩ := Kd.R_slice HO707.out; subst eo25; have hnb26 := NB691_692.out; have hnc26 := NB692_691.out; obtain ⟨hcz27_0, hcz27_1, hcz27_2, hcz27_3, hcz27_4, hcz27_5, hcz27_6, hcz27_7, hcz27_8, hfz27_0, hfz27_1, hfz27_2, hfz27_3, hfz27_4, hfz27_5, hfz27_6, hfz27_7, hfz27_8⟩ := Z9 BK691.out) | (go_at_call 18; (with_reducible refine (gambitkit_SameCard.calls k t697 t698 t699 t700 t701 t702 t703 t704 _ _ t705 a0_0 a0_1 a0_2 a0_3 a0_4 a0_5 a0_6 a0_7 _ _ l0_8 true _ ?side1 ?side2 ?side3 ?side4 A17.out).mono ?_); (case side1 => refine (Kd.R_reads' (e := 48) (base := w.heap.size) (ok := fun k_ => True) (n := t705.length) (c := co25) ?_).2.2; exact (by (with_reducible repeat (first | apply Kd.R_alloc | apply Kd.R_drewN | apply Kd.R_drew)); exact (Kd.R_mono (Kd.R_far (p := ⟨gb709, 8, none⟩) (Kd.R_far (p := ⟨gb709, 7, none⟩) (Kd.R_far (p := ⟨gb709, 6, none⟩) (Kd.R_far (p := ⟨gb709, 5, none⟩) (Kd.R_far (p := ⟨gb709, 4, none⟩) (Kd.R_far (p := ⟨gb709, 3, none⟩) (Kd.R_far (p := ⟨gb709, 2, none⟩) (Kd.R_far (p := ⟨gb709, 1, none⟩) (Kd.R_far (p := ⟨gb709, 0, none⟩) (Kd.R_types HO707.out BK709.out (by decide)) Zg (.string t697)) Zg (.int .u8 t698)) Zg (.int .u8 t699)) Zg (.int .i64 t700)) Zg (.int .i64 t701)) Zg (.int .i64 t702)) Zg (.int .u16 t703)) Zg (.bool t704)) Zg (.slice Ao25 t705.length co25)) (fun _ h_ => h_.1)))); (case side2 => exact (Kd.R_reads' HO707.out).2.1); (case side3 => exact Kd.C_below HR0_8.out (Zb3 GE691.out GE692.out GE709.out)); (case side4 => exact HC0_8.out); rintro e w28 ⟨rfl, hb⟩; replace HO707 := Aside0.mk (Kd.R_below (by (with_reducible repeat (first | apply Kd.R_alloc | apply Kd.R_drewN | apply Kd.R_drew)); exact (Kd.R_mono (Kd.R_far (p := ⟨gb709, 8, none⟩) (Kd.R_far (p := ⟨gb709, 7, none⟩) (Kd.R_far (p := ⟨gb709, 6, none⟩) (Kd.R_far (p := ⟨gb709, 5, none⟩) (Kd.R_far (p := ⟨gb709, 4, none⟩) (Kd.R_far (p := ⟨gb709, 3, none⟩) (Kd.R_far (p := ⟨gb709, 2, none⟩) (Kd.R_far (p := ⟨gb709, 1, none⟩) (Kd.R_far (p := ⟨gb709, 0, none⟩) (Kd.R_types HO707.out BK709.out (by decide)) Zg (.string t697)) Zg (.int .u8 t698)) Zg (.int .u8 t699)) Zg (.int .i64 t700)) Zg (.int .i64 t701)) Zg (.int .i64 t702)) Zg (.int .u16 t703)) Zg (.bool t704)) Zg (.slice Ao25 t705.length co25)) (fun _ h_ => h_.1))) hb); replace BK691 := Aside0.mk (blk_below (g := gb691) (o := .cells #[.string a0_0, .int .u8 a0_1, .int .u8 a0_2, .int .i64 a0_3, .int .i64 a0_4, .int .i64 a0_5, .int .u16 a0_6, .bool a0_7, .slice A0_8 l0_8.length c0_8] 28 (0, 0)) (by (with_reducible repeat (first | apply blk_kn | apply blk_kd | apply blk_ka)); refine blk_far ?_ NB691_709.out _; (with_reducible repeat (first | apply blk_kn | apply blk_kd | apply blk_ka)); refine blk_far ?_ NB691_709.out _; (with_reducible repeat (first | apply blk_kn | apply blk_kd | apply blk_ka)); refine blk_far ?_ NB691_709.out _; (with_reducible repeat (first | apply blk_kn | apply blk_kd | apply blk_ka)); refine blk_far ?_ NB691_709.out _; (with_reducible repeat (first | apply blk_kn | apply blk_kd | apply blk_ka)); refine blk_far ?_ NB691_709.out _; (with_reducible repeat (first | apply blk_kn | apply blk_kd | apply blk_ka)); refine blk_far ?_ NB691_709.out _; (with_reducible repeat (first | apply blk_kn | apply blk_kd | apply blk_ka)); refine blk_far ?_ NB691_709.out _; (with_reducible repeat (first | apply blk_kn | apply blk_kd | apply blk_ka)); refine blk_far ?_ NB691_709.out _; (with_reducible repeat (first | apply blk_kn | apply blk_kd | apply blk_ka)); refine blk_far ?_ NB691_709.out _; exact Zk BK691.out) hb); replace BK692 := Aside0.mk (blk_below (g := gb692) (o := .cells #[.string a1_0, .int .u8 a1_1, .int .u8 a1_2, .int .i64 a1_3, .int .i64 a1_4, .int .i64 a1_5, .int .u16 a1_6, .bool a1_7, .slice A1_8 l1_8.length c1_8] 28 (0, 0)) (by (with_reducible repeat (first | apply blk_kn | apply blk_kd | apply blk_ka)); refine blk_far ?_ NB692_709.out _; (with_reducible repeat (first | apply blk_kn | apply blk_kd | apply blk_ka)); refine blk_far ?_ NB692_709.out _; (with_reducible repeat (first | apply blk_kn | apply blk_kd | apply blk_ka)); refine blk_far ?_ NB692_709.out _; (with_reducible repeat (first | apply blk_kn | apply blk_kd | apply blk_ka)); refine blk_far ?_ NB692_709.out _; (with_reducible repeat (first | apply blk_kn | apply blk_kd | apply blk_ka)); refine blk_far ?_ NB692_709.out _; (with_reducible repeat (first | apply blk_kn | apply blk_kd | apply blk_ka)); refine blk_far ?_ NB692_709.out _; (with_reducible repeat (first | apply blk_kn | apply blk_kd | apply blk_ka)); refine blk_far ?_ NB692_709.out _; (with_reducible repeat (first | apply blk_kn | apply blk_kd | apply blk_ka)); refine blk_far ?_ NB692_709.out _; (with_reducible repeat (first | apply blk_kn | apply blk_kd | apply blk_ka)); refine blk_far ?_ NB692_709.out _; exact Zk BK692.out) hb); replace BK709 := Aside0.mk (blk_below (g := gb709) (o := .cells #[.string t697, .int .u8 t698, .int .u8 t699, .int .i64 t700, .int .i64 t701, .int .i64 t702, .int .u16 t703, .bool t704, .slice Ao25 t705.length co25] 28 (0, 0)) (by (with_reducible repeat (first | apply blk_kn | apply blk_kd | apply blk_ka)); refine blk_put (cs := #[.string t697, .int .u8 t698, .int .u8 t699, .int .i64 t700, .int .i64 t701, .int .i64 t702, .int .u16 t703, .bool t704, .slice none 0 0]) ?_ 8 _ rfl; (with_reducible repeat (first | apply blk_kn | apply blk_kd | apply blk_ka)); refine blk_put (cs := #[.string t697, .int .u8 t698, .int .u8 t699, .int .i64 t700, .int .i64 t701, .int .i64 t702, .int .u16 t703, .bool false, .slice none 0 0]) ?_ 7 _ rfl; (with_reducible repeat (first | apply blk_kn | apply blk_kd | apply blk_ka)); refine blk_put (cs := #[.string t697, .int .u8 t698, .int .u8 t699, .int .i64 t700, .int .i64 t701, .int .i64 t702, .int .u16 0, .bool false, .slice none 0 0]) ?_ 6 _ rfl; (with_reducible repeat (first | apply blk_kn | apply blk_kd | apply blk_ka)); refine blk_put (cs := #[.string t697, .int .u8 t698, .int .u8 t699, .int .i64 t700, .int .i64 t701, .int .i64 0, .int .u16 0, .bool false, .slice none 0 0]) ?_ 5 _ rfl; (with_reducible repeat (first | apply blk_kn | apply blk_kd | apply blk_ka)); refine blk_put (cs := #[.string t697, .int .u8 t698, .int .u8 t699, .int .i64 t700, .int .i64 0, .int .i64 0, .int .u16 0, .bool false, .slice none 0 0]) ?_ 4 _ rfl; (with_reducible repeat (first | apply blk_kn | apply blk_kd | apply blk_ka)); refine blk_put (cs := #[.string t697, .int .u8 t698, .int .u8 t699, .int .i64 0, .int .i64 0, .int .i64 0, .int .u16 0, .bool false, .slice none 0 0]) ?_ 3 _ rfl; (with_reducible repeat (first | apply blk_kn | apply blk_kd | apply blk_ka)); refine blk_put (cs := #[.string t697, .int .u8 t698, .int .u8 0, .int .i64 0, .int .i64 0, .int .i64 0, .int .u16 0, .bool false, .slice none 0 0]) ?_ 2 _ rfl; (with_reducible repeat (first | apply blk_kn | apply blk_kd | apply blk_ka)); refine blk_put (cs := #[.string t697, .int .u8 0, .int .u8 0, .int .i64 0, .int .i64 0, .int .i64 0, .int .u16 0, .bool false, .slice none 0 0]) ?_ 1 _ rfl; (with_reducible repeat (first | apply blk_kn | apply blk_kd | apply blk_ka)); refine blk_put (cs := #[.string (⟨#[]⟩ : ByteArray), .int .u8 0, .int .u8 0, .int .i64 0, .int .i64 0, .int .i64 0, .int .u16 0, .bool false, .slice none 0 0]) ?_ 0 _ rfl; exact Zk BK709.out) hb); replace HB := Aside0.mk (below_step (Zb3 GE691.out GE692.out GE709.out) hb); (try clear hb); (try clear hb2); (try clear hk); (try clear hi)))
      go_ret
      exact ⟨Ze, Zb3 GE691.out GE692.out GE709.out⟩
     ·rw [if_neg c19] at H
      have c19b0 : decide (512 < (t693.size : Int)) = false := decide_eq_false c19
      have c19b1 : decide (512 < t693.size) = false := decide_eq_false (by omega)
      clear c19
      have H' := Aside0.mk H
      clear H
      go_wp2_with (first | ((with_reducible refine gate_callee (f := 25) rfl ?_); refine goesL_ (some 31) rfl rfl Tryz.func25 (by kernel_rfl) rfl #[.string t693] rfl Zl ?_; (with_reducible refine (card_Parse.calls k t693 t697 t698 t699 t700 t701 t702 t703 t704 t705 t708 _ ?side1 A15.out).mono ?_); (case side1 => first | (with_reducible exact HGP.out) | exact GP_below HGP.out (Zb2 GE691.out GE692.out)); rintro e w29 ⟨v706, rfl, ho0, hb⟩; refine ⟨_, rfl, ?_⟩; have HO707 := Aside0.mk (Kd.R_lower ho0 (below_size (Zb2 GE691.out GE692.out))); replace BK691 := Aside0.mk (blk_below (Zj BK691.out) hb); replace BK692 := Aside0.mk (blk_below (Zj BK692.out) hb); replace HB := Aside0.mk (below_step (Zb2 GE691.out GE692.out) hb); (try clear hb); (try clear hb2); (try clear hk); (try clear hi); (try clear ho0)) | ((with_reducible refine gate_dst (N := 11) rfl ?_); (try (refine gate_guard (by rfl) ?_; dsimp only)); refine box_event ?hg (N := 11) ?hd (cs := #[.string (⟨#[]⟩ : ByteArray), .int .u8 0, .int .u8 0, .int .i64 0, .int .i64 0, .int .i64 0, .int .u16 0, .bool false, .slice none 0 0]) (t := 28) ?hr ?_; (case hd => rfl); (case hg => rfl); (case hr => first | (go_simp; done) | (go_simp; rfl)); intro gb709 hg w30 hbox hb; replace HO707 := Aside0.mk (Kd.R_below (Zq HO707.out) hb); have BK709 := Aside0.mk (hbox); have GW709 := Aside0.mk ((by rw [hg]; exact (below_size (Zb2 GE691.out GE692.out)) : w.heap.size ≤ gb709)); have GE709 := Aside0.mk ((by rw [hg]; exact (below_size (Zb2 GE691.out GE692.out)) : w.heap.size ≤ gb709)); replace HB := Aside0.mk (below_step (Zb2 GE691.out GE692.out) hb); have NB691_709 := Aside0.mk ((by rw [hg]; exact Nat.ne_of_lt (blk_lt (Zj BK691.out)) : gb691 ≠ gb709)); have NB709_691 := Aside0.mk ((by rw [hg]; exact Nat.ne_of_gt (blk_lt (Zj BK691.out)) : gb709 ≠ gb691)); replace BK691 := Aside0.mk (blk_below (Zj BK691.out) hb); have NB692_709 := Aside0.mk ((by rw [hg]; exact Nat.ne_of_lt (blk_lt (Zj BK692.out)) : gb692 ≠ gb709)); have NB709_692 := Aside0.mk ((by rw [hg]; exact Nat.ne_of_gt (blk_lt (Zj BK692.out)) : gb709 ≠ gb692)); replace BK692 := Aside0.mk (blk_below (Zj BK692.out) hb); clear hb hbox hg; have hnb31 := NB709_691.out; have hnc31 := NB691_709.out; have hnb32 := NB709_692.out; have hnc32 := NB692_709.out; obtain ⟨hcz33_0, hcz33_1, hcz33_2, hcz33_3, hcz33_4, hcz33_5, hcz33_6, hcz33_7, hcz33_8, hfz33_0, hfz33_1, hfz33_2, hfz33_3, hfz33_4, hfz33_5, hfz33_6, hfz33_7, hfz33_8⟩ := Z9 BK709.out; obtain ⟨Ao34, co34, eo34⟩ := Kd.R_slice HO707.out; subst eo34; have hnb35 := NB691_692.out; have hnc35 := NB692_691.out; obtain ⟨hcz36_0, hcz36_1, hcz36_2, hcz36_3, hcz36_4, hcz36_5, hcz36_6, hcz36_7, hcz36_8, hfz36_0, hfz36_1, hfz36_2, hfz36_3, hfz36_4, hfz36_5, hfz36_6, hfz36_7, hfz36_8⟩ := Z9 BK691.out) | (go_at_call 18; (with_reducible refine (gambitkit_SameCard.calls k t697 t698 t699 t700 t701 t702 t703 t704 _ _ t705 a0_0 a0_1 a0_2 a0_3 a0_4 a0_5 a0_6 a0_7 _ _ l0_8 true _ ?side1 ?side2 ?side3 ?side4 A17.out).mono ?_); (case side1 => refine (Kd.R_reads' (e := 48) (base := w.heap.size) (ok := fun k_ => True) (n := t705.length) (c := co34) ?_).2.2; exact (by (with_reducible repeat (first | apply Kd.R_alloc | apply Kd.R_drewN | apply Kd.R_drew)); exact (Kd.R_mono (Kd.R_far (p := ⟨gb709, 8, none⟩) (Kd.R_far (p := ⟨gb709, 7, none⟩) (Kd.R_far (p := ⟨gb709, 6, none⟩) (Kd.R_far (p := ⟨gb709, 5, none⟩) (Kd.R_far (p := ⟨gb709, 4, none⟩) (Kd.R_far (p := ⟨gb709, 3, none⟩) (Kd.R_far (p := ⟨gb709, 2, none⟩) (Kd.R_far (p := ⟨gb709, 1, none⟩) (Kd.R_far (p := ⟨gb709, 0, none⟩) (Kd.R_types HO707.out BK709.out (by decide)) Zg (.string t697)) Zg (.int .u8 t698)) Zg (.int .u8 t699)) Zg (.int .i64 t700)) Zg (.int .i64 t701)) Zg (.int .i64 t702)) Zg (.int .u16 t703)) Zg (.bool t704)) Zg (.slice Ao34 t705.length co34)) (fun _ h_ => h_.1)))); (case side2 => exact (Kd.R_reads' HO707.out).2.1); (case side3 => exact Kd.C_below HR0_8.out (Zb3 GE691.out GE692.out GE709.out)); (case side4 => exact HC0_8.out); rintro e w37 ⟨rfl, hb⟩; replace HO707 := Aside0.mk (Kd.R_below (by (with_reducible repeat (first | apply Kd.R_alloc | apply Kd.R_drewN | apply Kd.R_drew)); exact (Kd.R_mono (Kd.R_far (p := ⟨gb709, 8, none⟩) (Kd.R_far (p := ⟨gb709, 7, none⟩) (Kd.R_far (p := ⟨gb709, 6, none⟩) (Kd.R_far (p := ⟨gb709, 5, none⟩) (Kd.R_far (p := ⟨gb709, 4, none⟩) (Kd.R_far (p := ⟨gb709, 3, none⟩) (Kd.R_far (p := ⟨gb709, 2, none⟩) (Kd.R_far (p := ⟨gb709, 1, none⟩) (Kd.R_far (p := ⟨gb709, 0, none⟩) (Kd.R_types HO707.out BK709.out (by decide)) Zg (.string t697)) Zg (.int .u8 t698)) Zg (.int .u8 t699)) Zg (.int .i64 t700)) Zg (.int .i64 t701)) Zg (.int .i64 t702)) Zg (.int .u16 t703)) Zg (.bool t704)) Zg (.slice Ao34 t705.length co34)) (fun _ h_ => h_.1))) hb); replace BK691 := Aside0.mk (blk_below (g := gb691) (o := .cells #[.string a0_0, .int .u8 a0_1, .int .u8 a0_2, .int .i64 a0_3, .int .i64 a0_4, .int .i64 a0_5, .int .u16 a0_6, .bool a0_7, .slice A0_8 l0_8.length c0_8] 28 (0, 0)) (by (with_reducible repeat (first | apply blk_kn | apply blk_kd | apply blk_ka)); refine blk_far ?_ NB691_709.out _; (with_reducible repeat (first | apply blk_kn | apply blk_kd | apply blk_ka)); refine blk_far ?_ NB691_709.out _; (with_reducible repeat (first | apply blk_kn | apply blk_kd | apply blk_ka)); refine blk_far ?_ NB691_709.out _; (with_reducible repeat (first | apply blk_kn | apply blk_kd | apply blk_ka)); refine blk_far ?_ NB691_709.out _; (with_reducible repeat (first | apply blk_kn | apply blk_kd | apply blk_ka)); refine blk_far ?_ NB691_709.out _; (with_reducible repeat (first | apply blk_kn | apply blk_kd | apply blk_ka)); refine blk_far ?_ NB691_709.out _; (with_reducible repeat (first | apply blk_kn | apply blk_kd | apply blk_ka)); refine blk_far ?_ NB691_709.out _; (with_reducible repeat (first | apply blk_kn | apply blk_kd | apply blk_ka)); refine blk_far ?_ NB691_709.out _; (with_reducible repeat (first | apply blk_kn | apply blk_kd | apply blk_ka)); refine blk_far ?_ NB691_709.out _; exact Zk BK691.out) hb); replace BK692 := Aside0.mk (blk_below (g := gb692) (o := .cells #[.string a1_0, .int .u8 a1_1, .int .u8 a1_2, .int .i64 a1_3, .int .i64 a1_4, .int .i64 a1_5, .int .u16 a1_6, .bool a1_7, .slice A1_8 l1_8.length c1_8] 28 (0, 0)) (by (with_reducible repeat (first | apply blk_kn | apply blk_kd | apply blk_ka)); refine blk_far ?_ NB692_709.out _; (with_reducible repeat (first | apply blk_kn | apply blk_kd | apply blk_ka)); refine blk_far ?_ NB692_709.out _; (with_reducible repeat (first | apply blk_kn | apply blk_kd | apply blk_ka)); refine blk_far ?_ NB692_709.out _; (with_reducible repeat (first | apply blk_kn | apply blk_kd | apply blk_ka)); refine blk_far ?_ NB692_709.out _; (with_reducible repeat (first | apply blk_kn | apply blk_kd | apply blk_ka)); refine blk_far ?_ NB692_709.out _; (with_reducible repeat (first | apply blk_kn | apply blk_kd | apply blk_ka)); refine blk_far ?_ NB692_709.out _; (with_reducible repeat (first | apply blk_kn | apply blk_kd | apply blk_ka)); refine blk_far ?_ NB692_709.out _; (with_reducible repeat (first | apply blk_kn | apply blk_kd | apply blk_ka)); refine blk_far ?_ NB692_709.out _; (with_reducible repeat (first | apply blk_kn | apply blk_kd | apply blk_ka)); refine blk_far ?_ NB692_709.out _; exact Zk BK692.out) hb); replace BK709 := Aside0.mk (blk_below (g := gb709) (o := .cells #[.string t697, .int .u8 t698, .int .u8 t699, .int .i64 t700, .int .i64 t701, .int .i64 t702, .int .u16 t703, .bool t704, .slice Ao34 t705.length co34] 28 (0, 0)) (by (with_reducible repeat (first | apply blk_kn | apply blk_kd | apply blk_ka)); refine blk_put (cs := #[.string t697, .int .u8 t698, .int .u8 t699, .int .i64 t700, .int .i64 t701, .int .i64 t702, .int .u16 t703, .bool t704, .slice none 0 0]) ?_ 8 _ rfl; (with_reducible repeat (first | apply blk_kn | apply blk_kd | apply blk_ka)); refine blk_put (cs := #[.string t697, .int .u8 t698, .int .u8 t699, .int .i64 t700, .int .i64 t701, .int .i64 t702, .int .u16 t703, .bool false, .slice none 0 0]) ?_ 7 _ rfl; (with_reducible repeat (first | apply blk_kn | apply blk_kd | apply blk_ka)); refine blk_put (cs := #[.string t697, .int .u8 t698, .int .u8 t699, .int .i64 t700, .int .i64 t701, .int .i64 t702, .int .u16 0, .bool false, .slice none 0 0]) ?_ 6 _ rfl; (with_reducible repeat (first | apply blk_kn | apply blk_kd | apply blk_ka)); refine blk_put (cs := #[.string t697, .int .u8 t698, .int .u8 t699, .int .i64 t700, .int .i64 t701, .int .i64 0, .int .u16 0, .bool false, .slice none 0 0]) ?_ 5 _ rfl; (with_reducible repeat (first | apply blk_kn | apply blk_kd | apply blk_ka)); refine blk_put (cs := #[.string t697, .int .u8 t698, .int .u8 t699, .int .i64 t700, .int .i64 0, .int .i64 0, .int .u16 0, .bool false, .slice none 0 0]) ?_ 4 _ rfl; (with_reducible repeat (first | apply blk_kn | apply blk_kd | apply blk_ka)); refine blk_put (cs := #[.string t697, .int .u8 t698, .int .u8 t699, .int .i64 0, .int .i64 0, .int .i64 0, .int .u16 0, .bool false, .slice none 0 0]) ?_ 3 _ rfl; (with_reducible repeat (first | apply blk_kn | apply blk_kd | apply blk_ka)); refine blk_put (cs := #[.string t697, .int .u8 t698, .int .u8 0, .int .i64 0, .int .i64 0, .int .i64 0, .int .u16 0, .bool false, .slice none 0 0]) ?_ 2 _ rfl; (with_reducible repeat (first | apply blk_kn | apply blk_kd | apply blk_ka)); refine blk_put (cs := #[.string t697, .int .u8 0, .int .u8 0, .int .i64 0, .int .i64 0, .int .i64 0, .int .u16 0, .bool false, .slice none 0 0]) ?_ 1 _ rfl; (with_reducible repeat (first | apply blk_kn | apply blk_kd | apply blk_ka)); refine blk_put (cs := #[.string (⟨#[]⟩ : ByteArray), .int .u8 0, .int .u8 0, .int .i64 0, .int .i64 0, .int .i64 0, .int .u16 0, .bool false, .slice none 0 0]) ?_ 0 _ rfl; exact Zk BK709.out) hb); replace HB := Aside0.mk (below_step (Zb3 GE691.out GE692.out GE709.out) hb); (try clear hb); (try clear hb2); (try clear hk); (try clear hi)))
      go_meet
      case rel => exact ⟨_, H', ⟨by first | omega | exact Nat.le_refl _⟩, ⟨Zk BK691.out⟩, ⟨Zk BK692.out⟩, ⟨Zb3 GE691.out GE692.out GE709.out⟩⟩
    ·replace c18 := Bool.eq_false_iff.mpr c18
     subst c18
     have H1 : (some false) = some r := by rw [if_neg (show ¬ (false = true) by decide)] at H; exact H
     clear H
     have H := H1
     clear H1
     obtain rfl := Option.some.inj H
     go_wp2_with (first | ((with_reducible refine gate_callee (f := 25) rfl ?_); refine goesL_ (some 31) rfl rfl Tryz.func25 (by kernel_rfl) rfl #[.string t693] rfl Zl ?_; (with_reducible refine (card_Parse.calls k t693 t697 t698 t699 t700 t701 t702 t703 t704 t705 t708 _ ?side1 A15.out).mono ?_); (case side1 => first | (with_reducible exact HGP.out) | exact GP_below HGP.out (Zb2 GE691.out GE692.out)); rintro e w38 ⟨v706, rfl, ho0, hb⟩; refine ⟨_, rfl, ?_⟩; have HO707 := Aside0.mk (Kd.R_lower ho0 (below_size (Zb2 GE691.out GE692.out))); replace BK691 := Aside0.mk (blk_below (Zj BK691.out) hb); replace BK692 := Aside0.mk (blk_below (Zj BK692.out) hb); replace HB := Aside0.mk (below_step (Zb2 GE691.out GE692.out) hb); (try clear hb); (try clear hb2); (try clear hk); (try clear hi); (try clear ho0)) | ((with_reducible refine gate_dst (N := 11) rfl ?_); (try (refine gate_guard (by rfl) ?_; dsimp only)); refine box_event ?hg (N := 11) ?hd (cs := #[.string (⟨#[]⟩ : ByteArray), .int .u8 0, .int .u8 0, .int .i64 0, .int .i64 0, .int .i64 0, .int .u16 0, .bool false, .slice none 0 0]) (t := 28) ?hr ?_; (case hd => rfl); (case hg => rfl); (case hr => first | (go_simp; done) | (go_simp; rfl)); intro gb709 hg w39 hbox hb; replace HO707 := Aside0.mk (Kd.R_below (Zq HO707.out) hb); have BK709 := Aside0.mk (hbox); have GW709 := Aside0.mk ((by rw [hg]; exact (below_size (Zb2 GE691.out GE692.out)) : w.heap.size ≤ gb709)); have GE709 := Aside0.mk ((by rw [hg]; exact (below_size (Zb2 GE691.out GE692.out)) : w.heap.size ≤ gb709)); replace HB := Aside0.mk (below_step (Zb2 GE691.out GE692.out) hb); have NB691_709 := Aside0.mk ((by rw [hg]; exact Nat.ne_of_lt (blk_lt (Zj BK691.out)) : gb691 ≠ gb709)); have NB709_691 := Aside0.mk ((by rw [hg]; exact Nat.ne_of_gt (blk_lt (Zj BK691.out)) : gb709 ≠ gb691)); replace BK691 := Aside0.mk (blk_below (Zj BK691.out) hb); have NB692_709 := Aside0.mk ((by rw [hg]; exact Nat.ne_of_lt (blk_lt (Zj BK692.out)) : gb692 ≠ gb709)); have NB709_692 := Aside0.mk ((by rw [hg]; exact Nat.ne_of_gt (blk_lt (Zj BK692.out)) : gb709 ≠ gb692)); replace BK692 := Aside0.mk (blk_below (Zj BK692.out) hb); clear hb hbox hg; have hnb40 := NB709_691.out; have hnc40 := NB691_709.out; have hnb41 := NB709_692.out; have hnc41 := NB692_709.out; obtain ⟨hcz42_0, hcz42_1, hcz42_2, hcz42_3, hcz42_4, hcz42_5, hcz42_6, hcz42_7, hcz42_8, hfz42_0, hfz42_1, hfz42_2, hfz42_3, hfz42_4, hfz42_5, hfz42_6, hfz42_7, hfz42_8⟩ := Z9 BK709.out; obtain ⟨Ao43, co43, eo43⟩ := Kd.R_slice HO707.out; subst eo43; have hnb44 := NB691_692.out; have hnc44 := NB692_691.out; obtain ⟨hcz45_0, hcz45_1, hcz45_2, hcz45_3, hcz45_4, hcz45_5, hcz45_6, hcz45_7, hcz45_8, hfz45_0, hfz45_1, hfz45_2, hfz45_3, hfz45_4, hfz45_5, hfz45_6, hfz45_7, hfz45_8⟩ := Z9 BK691.out) | (go_at_call 18; (with_reducible refine (gambitkit_SameCard.calls k t697 t698 t699 t700 t701 t702 t703 t704 _ _ t705 a0_0 a0_1 a0_2 a0_3 a0_4 a0_5 a0_6 a0_7 _ _ l0_8 false _ ?side1 ?side2 ?side3 ?side4 A17.out).mono ?_); (case side1 => refine (Kd.R_reads' (e := 48) (base := w.heap.size) (ok := fun k_ => True) (n := t705.length) (c := co43) ?_).2.2; exact (by (with_reducible repeat (first | apply Kd.R_alloc | apply Kd.R_drewN | apply Kd.R_drew)); exact (Kd.R_mono (Kd.R_far (p := ⟨gb709, 8, none⟩) (Kd.R_far (p := ⟨gb709, 7, none⟩) (Kd.R_far (p := ⟨gb709, 6, none⟩) (Kd.R_far (p := ⟨gb709, 5, none⟩) (Kd.R_far (p := ⟨gb709, 4, none⟩) (Kd.R_far (p := ⟨gb709, 3, none⟩) (Kd.R_far (p := ⟨gb709, 2, none⟩) (Kd.R_far (p := ⟨gb709, 1, none⟩) (Kd.R_far (p := ⟨gb709, 0, none⟩) (Kd.R_types HO707.out BK709.out (by decide)) Zg (.string t697)) Zg (.int .u8 t698)) Zg (.int .u8 t699)) Zg (.int .i64 t700)) Zg (.int .i64 t701)) Zg (.int .i64 t702)) Zg (.int .u16 t703)) Zg (.bool t704)) Zg (.slice Ao43 t705.length co43)) (fun _ h_ => h_.1)))); (case side2 => exact (Kd.R_reads' HO707.out).2.1); (case side3 => exact Kd.C_below HR0_8.out (Zb3 GE691.out GE692.out GE709.out)); (case side4 => exact HC0_8.out); rintro e w46 ⟨rfl, hb⟩; replace HO707 := Aside0.mk (Kd.R_below (by (with_reducible repeat (first | apply Kd.R_alloc | apply Kd.R_drewN | apply Kd.R_drew)); exact (Kd.R_mono (Kd.R_far (p := ⟨gb709, 8, none⟩) (Kd.R_far (p := ⟨gb709, 7, none⟩) (Kd.R_far (p := ⟨gb709, 6, none⟩) (Kd.R_far (p := ⟨gb709, 5, none⟩) (Kd.R_far (p := ⟨gb709, 4, none⟩) (Kd.R_far (p := ⟨gb709, 3, none⟩) (Kd.R_far (p := ⟨gb709, 2, none⟩) (Kd.R_far (p := ⟨gb709, 1, none⟩) (Kd.R_far (p := ⟨gb709, 0, none⟩) (Kd.R_types HO707.out BK709.out (by decide)) Zg (.string t697)) Zg (.int .u8 t698)) Zg (.int .u8 t699)) Zg (.int .i64 t700)) Zg (.int .i64 t701)) Zg (.int .i64 t702)) Zg (.int .u16 t703)) Zg (.bool t704)) Zg (.slice Ao43 t705.length co43)) (fun _ h_ => h_.1))) hb); replace BK691 := Aside0.mk (blk_below (g := gb691) (o := .cells #[.string a0_0, .int .u8 a0_1, .int .u8 a0_2, .int .i64 a0_3, .int .i64 a0_4, .int .i64 a0_5, .int .u16 a0_6, .bool a0_7, .slice A0_8 l0_8.length c0_8] 28 (0, 0)) (by (with_reducible repeat (first | apply blk_kn | apply blk_kd | apply blk_ka)); refine blk_far ?_ NB691_709.out _; (with_reducible repeat (first | apply blk_kn | apply blk_kd | apply blk_ka)); refine blk_far ?_ NB691_709.out _; (with_reducible repeat (first | apply blk_kn | apply blk_kd | apply blk_ka)); refine blk_far ?_ NB691_709.out _; (with_reducible repeat (first | apply blk_kn | apply blk_kd | apply blk_ka)); refine blk_far ?_ NB691_709.out _; (with_reducible repeat (first | apply blk_kn | apply blk_kd | apply blk_ka)); refine blk_far ?_ NB691_709.out _; (with_reducible repeat (first | apply blk_kn | apply blk_kd | apply blk_ka)); refine blk_far ?_ NB691_709.out _; (with_reducible repeat (first | apply blk_kn | apply blk_kd | apply blk_ka)); refine blk_far ?_ NB691_709.out _; (with_reducible repeat (first | apply blk_kn | apply blk_kd | apply blk_ka)); refine blk_far ?_ NB691_709.out _; (with_reducible repeat (first | apply blk_kn | apply blk_kd | apply blk_ka)); refine blk_far ?_ NB691_709.out _; exact Zk BK691.out) hb); replace BK692 := Aside0.mk (blk_below (g := gb692) (o := .cells #[.string a1_0, .int .u8 a1_1, .int .u8 a1_2, .int .i64 a1_3, .int .i64 a1_4, .int .i64 a1_5, .int .u16 a1_6, .bool a1_7, .slice A1_8 l1_8.length c1_8] 28 (0, 0)) (by (with_reducible repeat (first | apply blk_kn | apply blk_kd | apply blk_ka)); refine blk_far ?_ NB692_709.out _; (with_reducible repeat (first | apply blk_kn | apply blk_kd | apply blk_ka)); refine blk_far ?_ NB692_709.out _; (with_reducible repeat (first | apply blk_kn | apply blk_kd | apply blk_ka)); refine blk_far ?_ NB692_709.out _; (with_reducible repeat (first | apply blk_kn | apply blk_kd | apply blk_ka)); refine blk_far ?_ NB692_709.out _; (with_reducible repeat (first | apply blk_kn | apply blk_kd | apply blk_ka)); refine blk_far ?_ NB692_709.out _; (with_reducible repeat (first | apply blk_kn | apply blk_kd | apply blk_ka)); refine blk_far ?_ NB692_709.out _; (with_reducible repeat (first | apply blk_kn | apply blk_kd | apply blk_ka)); refine blk_far ?_ NB692_709.out _; (with_reducible repeat (first | apply blk_kn | apply blk_kd | apply blk_ka)); refine blk_far ?_ NB692_709.out _; (with_reducible repeat (first | apply blk_kn | apply blk_kd | apply blk_ka)); refine blk_far ?_ NB692_709.out _; exact Zk BK692.out) hb); replace BK709 := Aside0.mk (blk_below (g := gb709) (o := .cells #[.string t697, .int .u8 t698, .int .u8 t699, .int .i64 t700, .int .i64 t701, .int .i64 t702, .int .u16 t703, .bool t704, .slice Ao43 t705.length co43] 28 (0, 0)) (by (with_reducible repeat (first | apply blk_kn | apply blk_kd | apply blk_ka)); refine blk_put (cs := #[.string t697, .int .u8 t698, .int .u8 t699, .int .i64 t700, .int .i64 t701, .int .i64 t702, .int .u16 t703, .bool t704, .slice none 0 0]) ?_ 8 _ rfl; (with_reducible repeat (first | apply blk_kn | apply blk_kd | apply blk_ka)); refine blk_put (cs := #[.string t697, .int .u8 t698, .int .u8 t699, .int .i64 t700, .int .i64 t701, .int .i64 t702, .int .u16 t703, .bool false, .slice none 0 0]) ?_ 7 _ rfl; (with_reducible repeat (first | apply blk_kn | apply blk_kd | apply blk_ka)); refine blk_put (cs := #[.string t697, .int .u8 t698, .int .u8 t699, .int .i64 t700, .int .i64 t701, .int .i64 t702, .int .u16 0, .bool false, .slice none 0 0]) ?_ 6 _ rfl; (with_reducible repeat (first | apply blk_kn | apply blk_kd | apply blk_ka)); refine blk_put (cs := #[.string t697, .int .u8 t698, .int .u8 t699, .int .i64 t700, .int .i64 t701, .int .i64 0, .int .u16 0, .bool false, .slice none 0 0]) ?_ 5 _ rfl; (with_reducible repeat (first | apply blk_kn | apply blk_kd | apply blk_ka)); refine blk_put (cs := #[.string t697, .int .u8 t698, .int .u8 t699, .int .i64 t700, .int .i64 0, .int .i64 0, .int .u16 0, .bool false, .slice none 0 0]) ?_ 4 _ rfl; (with_reducible repeat (first | apply blk_kn | apply blk_kd | apply blk_ka)); refine blk_put (cs := #[.string t697, .int .u8 t698, .int .u8 t699, .int .i64 0, .int .i64 0, .int .i64 0, .int .u16 0, .bool false, .slice none 0 0]) ?_ 3 _ rfl; (with_reducible repeat (first | apply blk_kn | apply blk_kd | apply blk_ka)); refine blk_put (cs := #[.string t697, .int .u8 t698, .int .u8 0, .int .i64 0, .int .i64 0, .int .i64 0, .int .u16 0, .bool false, .slice none 0 0]) ?_ 2 _ rfl; (with_reducible repeat (first | apply blk_kn | apply blk_kd | apply blk_ka)); refine blk_put (cs := #[.string t697, .int .u8 0, .int .u8 0, .int .i64 0, .int .i64 0, .int .i64 0, .int .u16 0, .bool false, .slice none 0 0]) ?_ 1 _ rfl; (with_reducible repeat (first | apply blk_kn | apply blk_kd | apply blk_ka)); refine blk_put (cs := #[.string (⟨#[]⟩ : ByteArray), .int .u8 0, .int .u8 0, .int .i64 0, .int .i64 0, .int .i64 0, .int .u16 0, .bool false, .slice none 0 0]) ?_ 0 _ rfl; exact Zk BK709.out) hb); replace HB := Aside0.mk (below_step (Zb3 GE691.out GE692.out GE709.out) hb); (try clear hb); (try clear hb2); (try clear hk); (try clear hi)))
     go_ret
     exact ⟨Ze, Zb3 GE691.out GE692.out GE709.out⟩
   ·rw [if_neg c16] at H
    have c16b0 : (t708 == 0) = false := beq_eq_false_iff_ne.mpr c16
    have c16b1 : (t708 != 0) = true := bne_iff_ne.mpr c16
    obtain rfl := Option.some.inj H
    go_wp2_with (first | ((with_reducible refine gate_callee (f := 25) rfl ?_); refine goesL_ (some 31) rfl rfl Tryz.func25 (by kernel_rfl) rfl #[.string t693] rfl Zl ?_; (with_reducible refine (card_Parse.calls k t693 t697 t698 t699 t700 t701 t702 t703 t704 t705 t708 _ ?side1 A15.out).mono ?_); (case side1 => first | (with_reducible exact HGP.out) | exact GP_below HGP.out (Zb2 GE691.out GE692.out)); rintro e w47 ⟨v706, rfl, ho0, hb⟩; refine ⟨_, rfl, ?_⟩; have HO707 := Aside0.mk (Kd.R_lower ho0 (below_size (Zb2 GE691.out GE692.out))); replace BK691 := Aside0.mk (blk_below (Zj BK691.out) hb); replace BK692 := Aside0.mk (blk_below (Zj BK692.out) hb); replace HB := Aside0.mk (below_step (Zb2 GE691.out GE692.out) hb); (try clear hb); (try clear hb2); (try clear hk); (try clear hi); (try clear ho0)) | ((with_reducible refine gate_dst (N := 11) rfl ?_); (try (refine gate_guard (by rfl) ?_; dsimp only)); refine box_event ?hg (N := 11) ?hd (cs := #[.string (⟨#[]⟩ : ByteArray), .int .u8 0, .int .u8 0, .int .i64 0, .int .i64 0, .int .i64 0, .int .u16 0, .bool false, .slice none 0 0]) (t := 28) ?hr ?_; (case hd => rfl); (case hg => rfl); (case hr => first | (go_simp; done) | (go_simp; rfl)); intro gb709 hg w48 hbox hb; replace HO707 := Aside0.mk (Kd.R_below (Zq HO707.out) hb); have BK709 := Aside0.mk (hbox); have GW709 := Aside0.mk ((by rw [hg]; exact (below_size (Zb2 GE691.out GE692.out)) : w.heap.size ≤ gb709)); have GE709 := Aside0.mk ((by rw [hg]; exact (below_size (Zb2 GE691.out GE692.out)) : w.heap.size ≤ gb709)); replace HB := Aside0.mk (below_step (Zb2 GE691.out GE692.out) hb); have NB691_709 := Aside0.mk ((by rw [hg]; exact Nat.ne_of_lt (blk_lt (Zj BK691.out)) : gb691 ≠ gb709)); have NB709_691 := Aside0.mk ((by rw [hg]; exact Nat.ne_of_gt (blk_lt (Zj BK691.out)) : gb709 ≠ gb691)); replace BK691 := Aside0.mk (blk_below (Zj BK691.out) hb); have NB692_709 := Aside0.mk ((by rw [hg]; exact Nat.ne_of_lt (blk_lt (Zj BK692.out)) : gb692 ≠ gb709)); have NB709_692 := Aside0.mk ((by rw [hg]; exact Nat.ne_of_gt (blk_lt (Zj BK692.out)) : gb709 ≠ gb692)); replace BK692 := Aside0.mk (blk_below (Zj BK692.out) hb); clear hb hbox hg; have hnb49 := NB709_691.out; have hnc49 := NB691_709.out; have hnb50 := NB709_692.out; have hnc50 := NB692_709.out; obtain ⟨hcz51_0, hcz51_1, hcz51_2, hcz51_3, hcz51_4, hcz51_5, hcz51_6, hcz51_7, hcz51_8, hfz51_0, hfz51_1, hfz51_2, hfz51_3, hfz51_4, hfz51_5, hfz51_6, hfz51_7, hfz51_8⟩ := Z9 BK709.out; obtain ⟨Ao52, co52, eo52⟩ := Kd.R_slice HO707.out; subst eo52))
    go_ret
    exact ⟨Ze, Zb3 GE691.out GE692.out GE709.out⟩
  ·rw [if_neg c14] at H
   have c14b0 : (t694 == 0) = false := beq_eq_false_iff_ne.mpr c14
   have c14b1 : (t694 != 0) = true := bne_iff_ne.mpr c14
   (first | rw [c14b0] | (simp only [i64_w, i32_w]; rw [c14b0]) | skip)
   have H' := Aside0.mk H
   clear H
   go_wp2
   go_meet
   case rel => exact ⟨_, H', ⟨by first | omega | exact Nat.le_refl _⟩, ⟨Zk BK691.out⟩, ⟨Zk BK692.out⟩, ⟨Zb2 GE691.out GE692.out⟩⟩
 case rest =>
  clear HC6
  try clear c1
  try clear c2
  try clear p2
  try clear c3
  try clear c4
  try clear c5
  try clear c7
  try clear c9
  try clear c10
  try clear c14
  try clear c14b0
  try clear c14b1
  try clear c16
  try clear c16b0
  try clear c16b1
  try clear c18
  try clear c19
  try clear c19b0
  try clear c19b1
  try clear c22
  try clear c23
  try clear c25
  try clear c26
  try clear c31
  try clear c32
  try clear c35
  try clear c40
  try clear c41
  try clear c44
  try clear c49
  try clear c50
  try clear hcz10_0
  try clear hcz10_1
  try clear hcz10_2
  try clear hcz10_3
  try clear hcz10_4
  try clear hcz10_5
  try clear hcz10_6
  try clear hcz10_7
  try clear hcz10_8
  try clear hcz12_0
  try clear hcz12_1
  try clear hcz12_2
  try clear hcz12_3
  try clear hcz12_4
  try clear hcz12_5
  try clear hcz12_6
  try clear hcz12_7
  try clear hcz12_8
  try clear hcz24_0
  try clear hcz24_1
  try clear hcz24_2
  try clear hcz24_3
  try clear hcz24_4
  try clear hcz24_5
  try clear hcz24_6
  try clear hcz24_7
  try clear hcz24_8
  try clear hcz27_0
  try clear hcz27_1
  try clear hcz27_2
  try clear hcz27_3
  try clear hcz27_4
  try clear hcz27_5
  try clear hcz27_6
  try clear hcz27_7
  try clear hcz27_8
  try clear hcz33_0
  try clear hcz33_1
  try clear hcz33_2
  try clear hcz33_3
  try clear hcz33_4
  try clear hcz33_5
  try clear hcz33_6
  try clear hcz33_7
  try clear hcz33_8
  try clear hcz36_0
  try clear hcz36_1
  try clear hcz36_2
  try clear hcz36_3
  try clear hcz36_4
  try clear hcz36_5
  try clear hcz36_6
  try clear hcz36_7
  try clear hcz36_8
  try clear hcz42_0
  try clear hcz42_1
  try clear hcz42_2
  try clear hcz42_3
  try clear hcz42_4
  try clear hcz42_5
  try clear hcz42_6
  try clear hcz42_7
  try clear hcz42_8
  try clear hcz45_0
  try clear hcz45_1
  try clear hcz45_2
  try clear hcz45_3
  try clear hcz45_4
  try clear hcz45_5
  try clear hcz45_6
  try clear hcz45_7
  try clear hcz45_8
  try clear hcz51_0
  try clear hcz51_1
  try clear hcz51_2
  try clear hcz51_3
  try clear hcz51_4
  try clear hcz51_5
  try clear hcz51_6
  try clear hcz51_7
  try clear hcz51_8
  try clear hfz10_0
  try clear hfz10_1
  try clear hfz10_2
  try clear hfz10_3
  try clear hfz10_4
  try clear hfz10_5
  try clear hfz10_6
  try clear hfz10_7
  try clear hfz10_8
  try clear hfz12_0
  try clear hfz12_1
  try clear hfz12_2
  try clear hfz12_3
  try clear hfz12_4
  try clear hfz12_5
  try clear hfz12_6
  try clear hfz12_7
  try clear hfz12_8
  try clear hfz24_0
  try clear hfz24_1
  try clear hfz24_2
  try clear hfz24_3
  try clear hfz24_4
  try clear hfz24_5
  try clear hfz24_6
  try clear hfz24_7
  try clear hfz24_8
  try clear hfz27_0
  try clear hfz27_1
  try clear hfz27_2
  try clear hfz27_3
  try clear hfz27_4
  try clear hfz27_5
  try clear hfz27_6
  try clear hfz27_7
  try clear hfz27_8
  try clear hfz33_0
  try clear hfz33_1
  try clear hfz33_2
  try clear hfz33_3
  try clear hfz33_4
  try clear hfz33_5
  try clear hfz33_6
  try clear hfz33_7
  try clear hfz33_8
  try clear hfz36_0
  try clear hfz36_1
  try clear hfz36_2
  try clear hfz36_3
  try clear hfz36_4
  try clear hfz36_5
  try clear hfz36_6
  try clear hfz36_7
  try clear hfz36_8
  try clear hfz42_0
  try clear hfz42_1
  try clear hfz42_2
  try clear hfz42_3
  try clear hfz42_4
  try clear hfz42_5
  try clear hfz42_6
  try clear hfz42_7
  try clear hfz42_8
  try clear hfz45_0
  try clear hfz45_1
  try clear hfz45_2
  try clear hfz45_3
  try clear hfz45_4
  try clear hfz45_5
  try clear hfz45_6
  try clear hfz45_7
  try clear hfz45_8
  try clear hfz51_0
  try clear hfz51_1
  try clear hfz51_2
  try clear hfz51_3
  try clear hfz51_4
  try clear hfz51_5
  try clear hfz51_6
  try clear hfz51_7
  try clear hfz51_8
  obtain ⟨kq, HA, HJ5, BK691, BK692, HB⟩ := hcut
  cases kq with
  | zero => exact absurd HA.out (by simp [gambitlaw06_CardBack.j0])
  | succ kj5 =>
   have H := HA.out
   clear HA
   simp only [gambitlaw06_CardBack.j0] at H
   have HC53 := Aside0.mk H
   clear H
   go_upto_region 7 with (fail)
   go_cut [61] (fun v61 wc => ∃ (kq : Nat) (x61_52 : Bool), v61 = .bool x61_52 ∧ Aside0 (gambitlaw06_CardBack.j1 kq a2 x61_52 = some r) ∧ Aside0 (kq ≤ kj5) ∧ Aside0 (wc.heap[gb691]? = some (.cells #[.string a0_0, .int .u8 a0_1, .int .u8 a0_2, .int .i64 a0_3, .int .i64 a0_4, .int .i64 a0_5, .int .u16 a0_6, .bool a0_7, (.slice A0_8 l0_8.length c0_8)] 28 (0, 0))) ∧ Aside0 (wc.heap[gb692]? = some (.cells #[.string a1_0, .int .u8 a1_1, .int .u8 a1_2, .int .i64 a1_3, .int .i64 a1_4, .int .i64 a1_5, .int .u16 a1_6, .bool a1_7, (.slice A1_8 l1_8.length c1_8)] 28 (0, 0))) ∧ Aside0 (Below w.heap.size w wc))
   case first =>
    have H := HC53.out
    clear HC53
    by_cases c54 : t694 = 0
    ·rw [if_pos c54] at H
     have c54b0 : (t694 == 0) = true := beq_iff_eq.mpr c54
     have c54b1 : (t694 != 0) = false := bne_eq_false_iff_eq.mpr c54
     clear c54
     (first | rw [c54b0] | (simp only [i64_w, i32_w]; rw [c54b0]) | skip)
     by_cases c55 : t696 = 0
     ·rw [if_pos c55] at H
      have c55b0 : (t696 == 0) = true := beq_iff_eq.mpr c55
      have c55b1 : (t696 != 0) = false := bne_eq_false_iff_eq.mpr c55
      clear c55
      replace H := Option.bind_eq_some_iff.mp H
      obtain ⟨t711, A560, H⟩ := H
      replace H : (if t693.toList = t695.toList then (gambitlaw06_CardBack.j1 kj5 a2 (!t711)) else (gambitlaw06_CardBack.j1 kj5 a2 t711)) = some r := H
      have A56 := Aside0.mk A560
      clear A560
      by_cases c57 : t693.toList = t695.toList
      ·rw [if_pos c57] at H
       have c57b0 : (t693.toList == t695.toList) = true := beq_iff_eq.mpr c57
       have c57b1 : (t693.toList != t695.toList) = false := bne_eq_false_iff_eq.mpr c57
       clear c57
       have H' := Aside0.mk H
       clear H
       have hnb58 := NB691_692.out
       have hnc58 := NB692_691.out
       obtain ⟨hcz59_0, hcz59_1, hcz59_2, hcz59_3, hcz59_4, hcz59_5, hcz59_6, hcz59_7, hcz59_8, hfz59_0, hfz59_1, hfz59_2, hfz59_3, hfz59_4, hfz59_5, hfz59_6, hfz59_7, hfz59_8⟩ := Z9 BK691.out
       obtain ⟨hcz60_0, hcz60_1, hcz60_2, hcz60_3, hcz60_4, hcz60_5, hcz60_6, hcz60_7, hcz60_8, hfz60_0, hfz60_1, hfz60_2, hfz60_3, hfz60_4, hfz60_5, hfz60_6, hfz60_7, hfz60_8⟩ := Z9 BK692.out
       go_wp2_with (first | (go_at_call 18; (with_reducible refine (gambitkit_SameCard.calls kj5 a0_0 a0_1 a0_2 a0_3 a0_4 a0_5 a0_6 a0_7 _ _ l0_8 a1_0 a1_1 a1_2 a1_3 a1_4 a1_5 a1_6 a1_7 _ _ l1_8 t711 _ ?side1 ?side2 ?side3 ?side4 A56.out).mono ?_); (case side1 => repeat (first | exact (Kd.C_below HR0_8.out HB.out) | (with_reducible refine Kd.C_alloc ?_ _) | (with_reducible refine Kd.C_drewN ?_ _) | (with_reducible refine Kd.C_drew ?_))); (case side2 => exact HC0_8.out); (case side3 => repeat (first | exact (Kd.C_below HR1_8.out HB.out) | (with_reducible refine Kd.C_alloc ?_ _) | (with_reducible refine Kd.C_drewN ?_ _) | (with_reducible refine Kd.C_drew ?_))); (case side4 => exact HC1_8.out); rintro e w61 ⟨rfl, hb⟩; replace BK691 := Aside0.mk (blk_below (Zj BK691.out) hb); replace BK692 := Aside0.mk (blk_below (Zj BK692.out) hb); replace HB := Aside0.mk (below_step (Zb2 GE691.out GE692.out) hb); (try clear hb); (try clear hb2); (try clear hk); (try clear hi)))
       go_meet
       case rel => exact ⟨_, (!t711), Zs, H', ⟨by have := HJ5.out; first | omega | exact Nat.le_refl _⟩, ⟨Zk BK691.out⟩, ⟨Zk BK692.out⟩, ⟨Zb2 GE691.out GE692.out⟩⟩
      ·rw [if_neg c57] at H
       have c57b0 : (t693.toList == t695.toList) = false := beq_eq_false_iff_ne.mpr c57
       have c57b1 : (t693.toList != t695.toList) = true := bne_iff_ne.mpr c57
       have H' := Aside0.mk H
       clear H
       have hnb62 := NB691_692.out
       have hnc62 := NB692_691.out
       obtain ⟨hcz63_0, hcz63_1, hcz63_2, hcz63_3, hcz63_4, hcz63_5, hcz63_6, hcz63_7, hcz63_8, hfz63_0, hfz63_1, hfz63_2, hfz63_3, hfz63_4, hfz63_5, hfz63_6, hfz63_7, hfz63_8⟩ := Z9 BK691.out
       obtain ⟨hcz64_0, hcz64_1, hcz64_2, hcz64_3, hcz64_4, hcz64_5, hcz64_6, hcz64_7, hcz64_8, hfz64_0, hfz64_1, hfz64_2, hfz64_3, hfz64_4, hfz64_5, hfz64_6, hfz64_7, hfz64_8⟩ := Z9 BK692.out
       go_wp2_with (first | (go_at_call 18; (with_reducible refine (gambitkit_SameCard.calls kj5 a0_0 a0_1 a0_2 a0_3 a0_4 a0_5 a0_6 a0_7 _ _ l0_8 a1_0 a1_1 a1_2 a1_3 a1_4 a1_5 a1_6 a1_7 _ _ l1_8 t711 _ ?side1 ?side2 ?side3 ?side4 A56.out).mono ?_); (case side1 => repeat (first | exact (Kd.C_below HR0_8.out HB.out) | (with_reducible refine Kd.C_alloc ?_ _) | (with_reducible refine Kd.C_drewN ?_ _) | (with_reducible refine Kd.C_drew ?_))); (case side2 => exact HC0_8.out); (case side3 => repeat (first | exact (Kd.C_below HR1_8.out HB.out) | (with_reducible refine Kd.C_alloc ?_ _) | (with_reducible refine Kd.C_drewN ?_ _) | (with_reducible refine Kd.C_drew ?_))); (case side4 => exact HC1_8.out); rintro e w65 ⟨rfl, hb⟩; replace BK691 := Aside0.mk (blk_below (Zj BK691.out) hb); replace BK692 := Aside0.mk (blk_below (Zj BK692.out) hb); replace HB := Aside0.mk (below_step (Zb2 GE691.out GE692.out) hb); (try clear hb); (try clear hb2); (try clear hk); (try clear hi)))
       go_meet
       case rel => exact ⟨_, (t711), Zs, H', ⟨by have := HJ5.out; first | omega | exact Nat.le_refl _⟩, ⟨Zk BK691.out⟩, ⟨Zk BK692.out⟩, ⟨Zb2 GE691.out GE692.out⟩⟩
     ·rw [if_neg c55] at H
      have c55b0 : (t696 == 0) = false := beq_eq_false_iff_ne.mpr c55
      have c55b1 : (t696 != 0) = true := bne_iff_ne.mpr c55
      have H' := Aside0.mk H
      clear H
      go_wp2
      go_meet
      case rel => exact ⟨_, (false), Zs, H', ⟨by have := HJ5.out; first | omega | exact Nat.le_refl _⟩, ⟨Zk BK691.out⟩, ⟨Zk BK692.out⟩, ⟨Zb2 GE691.out GE692.out⟩⟩
    ·rw [if_neg c54] at H
     have c54b0 : (t694 == 0) = false := beq_eq_false_iff_ne.mpr c54
     have c54b1 : (t694 != 0) = true := bne_iff_ne.mpr c54
     (first | rw [c54b0] | (simp only [i64_w, i32_w]; rw [c54b0]) | skip)
     have H' := Aside0.mk H
     clear H
     go_wp2
     go_meet
     case rel => exact ⟨_, (false), Zs, H', ⟨by have := HJ5.out; first | omega | exact Nat.le_refl _⟩, ⟨Zk BK691.out⟩, ⟨Zk BK692.out⟩, ⟨Zb2 GE691.out GE692.out⟩⟩
   case rest =>
    clear HC53
    try clear c1
    try clear c2
    try clear p2
    try clear c3
    try clear c4
    try clear c5
    try clear c6
    try clear c7
    try clear c9
    try clear c10
    try clear c14
    try clear c14b0
    try clear c14b1
    try clear c16
    try clear c16b0
    try clear c16b1
    try clear c18
    try clear c19
    try clear c19b0
    try clear c19b1
    try clear c22
    try clear c23
    try clear c25
    try clear c26
    try clear c31
    try clear c32
    try clear c35
    try clear c40
    try clear c41
    try clear c44
    try clear c49
    try clear c50
    try clear c54
    try clear c54b0
    try clear c54b1
    try clear c55
    try clear c55b0
    try clear c55b1
    try clear c57
    try clear c57b0
    try clear c57b1
    try clear c58
    try clear c62
    try clear hcz10_0
    try clear hcz10_1
    try clear hcz10_2
    try clear hcz10_3
    try clear hcz10_4
    try clear hcz10_5
    try clear hcz10_6
    try clear hcz10_7
    try clear hcz10_8
    try clear hcz12_0
    try clear hcz12_1
    try clear hcz12_2
    try clear hcz12_3
    try clear hcz12_4
    try clear hcz12_5
    try clear hcz12_6
    try clear hcz12_7
    try clear hcz12_8
    try clear hcz24_0
    try clear hcz24_1
    try clear hcz24_2
    try clear hcz24_3
    try clear hcz24_4
    try clear hcz24_5
    try clear hcz24_6
    try clear hcz24_7
    try clear hcz24_8
    try clear hcz27_0
    try clear hcz27_1
    try clear hcz27_2
    try clear hcz27_3
    try clear hcz27_4
    try clear hcz27_5
    try clear hcz27_6
    try clear hcz27_7
    try clear hcz27_8
    try clear hcz33_0
    try clear hcz33_1
    try clear hcz33_2
    try clear hcz33_3
    try clear hcz33_4
    try clear hcz33_5
    try clear hcz33_6
    try clear hcz33_7
    try clear hcz33_8
    try clear hcz36_0
    try clear hcz36_1
    try clear hcz36_2
    try clear hcz36_3
    try clear hcz36_4
    try clear hcz36_5
    try clear hcz36_6
    try clear hcz36_7
    try clear hcz36_8
    try clear hcz42_0
    try clear hcz42_1
    try clear hcz42_2
    try clear hcz42_3
    try clear hcz42_4
    try clear hcz42_5
    try clear hcz42_6
    try clear hcz42_7
    try clear hcz42_8
    try clear hcz45_0
    try clear hcz45_1
    try clear hcz45_2
    try clear hcz45_3
    try clear hcz45_4
    try clear hcz45_5
    try clear hcz45_6
    try clear hcz45_7
    try clear hcz45_8
    try clear hcz51_0
    try clear hcz51_1
    try clear hcz51_2
    try clear hcz51_3
    try clear hcz51_4
    try clear hcz51_5
    try clear hcz51_6
    try clear hcz51_7
    try clear hcz51_8
    try clear hcz59_0
    try clear hcz59_1
    try clear hcz59_2
    try clear hcz59_3
    try clear hcz59_4
    try clear hcz59_5
    try clear hcz59_6
    try clear hcz59_7
    try clear hcz59_8
    try clear hcz60_0
    try clear hcz60_1
    try clear hcz60_2
    try clear hcz60_3
    try clear hcz60_4
    try clear hcz60_5
    try clear hcz60_6
    try clear hcz60_7
    try clear hcz60_8
    try clear hcz63_0
    try clear hcz63_1
    try clear hcz63_2
    try clear hcz63_3
    try clear hcz63_4
    try clear hcz63_5
    try clear hcz63_6
    try clear hcz63_7
    try clear hcz63_8
    try clear hcz64_0
    try clear hcz64_1
    try clear hcz64_2
    try clear hcz64_3
    try clear hcz64_4
    try clear hcz64_5
    try clear hcz64_6
    try clear hcz64_7
    try clear hcz64_8
    try clear hfz10_0
    try clear hfz10_1
    try clear hfz10_2
    try clear hfz10_3
    try clear hfz10_4
    try clear hfz10_5
    try clear hfz10_6
    try clear hfz10_7
    try clear hfz10_8
    try clear hfz12_0
    try clear hfz12_1
    try clear hfz12_2
    try clear hfz12_3
    try clear hfz12_4
    try clear hfz12_5
    try clear hfz12_6
    try clear hfz12_7
    try clear hfz12_8
    try clear hfz24_0
    try clear hfz24_1
    try clear hfz24_2
    try clear hfz24_3
    try clear hfz24_4
    try clear hfz24_5
    try clear hfz24_6
    try clear hfz24_7
    try clear hfz24_8
    try clear hfz27_0
    try clear hfz27_1
    try clear hfz27_2
    try clear hfz27_3
    try clear hfz27_4
    try clear hfz27_5
    try clear hfz27_6
    try clear hfz27_7
    try clear hfz27_8
    try clear hfz33_0
    try clear hfz33_1
    try clear hfz33_2
    try clear hfz33_3
    try clear hfz33_4
    try clear hfz33_5
    try clear hfz33_6
    try clear hfz33_7
    try clear hfz33_8
    try clear hfz36_0
    try clear hfz36_1
    try clear hfz36_2
    try clear hfz36_3
    try clear hfz36_4
    try clear hfz36_5
    try clear hfz36_6
    try clear hfz36_7
    try clear hfz36_8
    try clear hfz42_0
    try clear hfz42_1
    try clear hfz42_2
    try clear hfz42_3
    try clear hfz42_4
    try clear hfz42_5
    try clear hfz42_6
    try clear hfz42_7
    try clear hfz42_8
    try clear hfz45_0
    try clear hfz45_1
    try clear hfz45_2
    try clear hfz45_3
    try clear hfz45_4
    try clear hfz45_5
    try clear hfz45_6
    try clear hfz45_7
    try clear hfz45_8
    try clear hfz51_0
    try clear hfz51_1
    try clear hfz51_2
    try clear hfz51_3
    try clear hfz51_4
    try clear hfz51_5
    try clear hfz51_6
    try clear hfz51_7
    try clear hfz51_8
    try clear hfz59_0
    try clear hfz59_1
    try clear hfz59_2
    try clear hfz59_3
    try clear hfz59_4
    try clear hfz59_5
    try clear hfz59_6
    try clear hfz59_7
    try clear hfz59_8
    try clear hfz60_0
    try clear hfz60_1
    try clear hfz60_2
    try clear hfz60_3
    try clear hfz60_4
    try clear hfz60_5
    try clear hfz60_6
    try clear hfz60_7
    try clear hfz60_8
    try clear hfz63_0
    try clear hfz63_1
    try clear hfz63_2
    try clear hfz63_3
    try clear hfz63_4
    try clear hfz63_5
    try clear hfz63_6
    try clear hfz63_7
    try clear hfz63_8
    try clear hfz64_0
    try clear hfz64_1
    try clear hfz64_2
    try clear hfz64_3
    try clear hfz64_4
    try clear hfz64_5
    try clear hfz64_6
    try clear hfz64_7
    try clear hfz64_8
    try clear p2
    obtain ⟨kq, x61_52, rfl, HA, HJ52, BK691, BK692, HB⟩ := hcut
    cases kq with
    | zero => exact absurd HA.out (by simp [gambitlaw06_CardBack.j1])
    | succ kj52 =>
     have H := HA.out
     clear HA
     simp only [gambitlaw06_CardBack.j1] at H
     by_cases c66 : x61_52 = true
     ·subst c66
      have H1 : (some false) = some r := by rw [if_pos rfl] at H; exact H
      clear H
      have H := H1
      clear H1
      obtain rfl := Option.some.inj H
      go_wp2
      go_ret
      exact ⟨Ze, Zb2 GE691.out GE692.out⟩
     ·replace c66 := Bool.eq_false_iff.mpr c66
      subst c66
      have H1 : ((card_Parse.f kj52 a2).bind fun bt712 => (if bt712.2.2.2.2.2.2.2.2.2 = 0 then ((card_Print.f kj52 bt712.1 bt712.2.1 bt712.2.2.1 bt712.2.2.2.1 bt712.2.2.2.2.1 bt712.2.2.2.2.2.1 bt712.2.2.2.2.2.2.1 bt712.2.2.2.2.2.2.2.1 bt712.2.2.2.2.2.2.2.2.1).bind fun bt725 => (if bt725.2 = 0 then (if bt725.1.toList = a2.toList then ((card_Check.f kj52 bt712.1 bt712.2.1 bt712.2.2.1 bt712.2.2.2.1 bt712.2.2.2.2.1 bt712.2.2.2.2.2.1 bt712.2.2.2.2.2.2.1 bt712.2.2.2.2.2.2.2.1 bt712.2.2.2.2.2.2.2.2.1).bind fun t727 => (if t727 = 0 then ((gambitlaw06_awake.f kj52).bind fun t728 => (some t728)) else (some false))) else (some false)) else (some false))) else ((gambitlaw06_awake.f kj52).bind fun t729 => (some t729)))) = some r := by rw [if_neg (show ¬ (false = true) by decide)] at H; exact H
      clear H
      have H := H1
      clear H1
      replace H := Option.bind_eq_some_iff.mp H
      obtain ⟨⟨t712, t713, t714, t715, t716, t717, t718, t719, t720, t723⟩, A670, H⟩ := H
      replace H : (if t723 = 0 then ((card_Print.f kj52 t712 t713 t714 t715 t716 t717 t718 t719 t720).bind fun bt725 => (if bt725.2 = 0 then (if bt725.1.toList = a2.toList then ((card_Check.f kj52 t712 t713 t714 t715 t716 t717 t718 t719 t720).bind fun t727 => (if t727 = 0 then ((gambitlaw06_awake.f kj52).bind fun t728 => (some t728)) else (some false))) else (some false)) else (some false))) else ((gambitlaw06_awake.f kj52).bind fun t729 => (some t729))) = some r := H
      have A67 := Aside0.mk A670
      clear A670
      by_cases c68 : t723 = 0
      ·rw [if_pos c68] at H
       have c68b0 : (t723 == 0) = true := beq_iff_eq.mpr c68
       have c68b1 : (t723 != 0) = false := bne_eq_false_iff_eq.mpr c68
       clear c68
       replace H := Option.bind_eq_some_iff.mp H
       obtain ⟨⟨t725, t726⟩, A690, H⟩ := H
       replace H : (if t726 = 0 then (if t725.toList = a2.toList then ((card_Check.f kj52 t712 t713 t714 t715 t716 t717 t718 t719 t720).bind fun t727 => (if t727 = 0 then ((gambitlaw06_awake.f kj52).bind fun t728 => (some t728)) else (some false))) else (some false)) else (some false)) = some r := H
       have A69 := Aside0.mk A690
       clear A690
       by_cases c70 : t726 = 0
       ·rw [if_pos c70] at H
        have c70b0 : (t726 == 0) = true := beq_iff_eq.mpr c70
        have c70b1 : (t726 != 0) = false := bne_eq_false_iff_eq.mpr c70
        clear c70
        by_cases c71 : t725.toList = a2.toList
        ·rw [if_pos c71] at H
         have c71b0 : (t725.toList == a2.toList) = true := beq_iff_eq.mpr c71
         have c71b1 : (t725.toList != a2.toList) = false := bne_eq_false_iff_eq.mpr c71
         clear c71
         replace H := Option.bind_eq_some_iff.mp H
         obtain ⟨t727, A720, H⟩ := H
         replace H : (if t727 = 0 then ((gambitlaw06_awake.f kj52).bind fun t728 => (some t728)) else (some false)) = some r := H
         have A72 := Aside0.mk A720
         clear A720
         by_cases c73 : t727 = 0
         ·rw [if_pos c73] at H
          have c73b0 : (t727 == 0) = true := beq_iff_eq.mpr c73
          have c73b1 : (t727 != 0) = false := bne_eq_false_iff_eq.mpr c73
          clear c73
          replace H := Option.bind_eq_some_iff.mp H
          obtain ⟨t728, A740, H⟩ := H
          replace H : (some t728) = some r := H
          have A74 := Aside0.mk A740
          clear A740
          obtain rfl := Option.some.inj H
          go_wp2_with (first | ((with_reducible refine gate_callee (f := 25) rfl ?_); refine goesL_ (some 64) rfl rfl Tryz.func25 (by kernel_rfl) rfl #[.string a2] rfl Zl ?_; (with_reducible refine (card_Parse.calls kj52 a2 t712 t713 t714 t715 t716 t717 t718 t719 t720 t723 _ ?side1 A67.out).mono ?_); (case side1 => first | (with_reducible exact HGP.out) | exact GP_below HGP.out (Zb2 GE691.out GE692.out)); rintro e w75 ⟨v721, rfl, ho0, hb⟩; refine ⟨_, rfl, ?_⟩; have HO722 := Aside0.mk (Kd.R_lower ho0 (below_size (Zb2 GE691.out GE692.out))); replace BK691 := Aside0.mk (blk_below (Zj BK691.out) hb); replace BK692 := Aside0.mk (blk_below (Zj BK692.out) hb); replace HB := Aside0.mk (below_step (Zb2 GE691.out GE692.out) hb); (try clear hb); (try clear hb2); (try clear hk); (try clear hi); (try clear ho0)) | ((with_reducible refine gate_dst (N := 13) rfl ?_); (try (refine gate_guard (by rfl) ?_; dsimp only)); refine box_event ?hg (N := 13) ?hd (cs := #[.string (⟨#[]⟩ : ByteArray), .int .u8 0, .int .u8 0, .int .i64 0, .int .i64 0, .int .i64 0, .int .u16 0, .bool false, .slice none 0 0]) (t := 28) ?hr ?_; (case hd => rfl); (case hg => rfl); (case hr => first | (go_simp; done) | (go_simp; rfl)); intro gb724 hg w76 hbox hb; replace HO722 := Aside0.mk (Kd.R_below (Zq HO722.out) hb); have BK724 := Aside0.mk (hbox); have GW724 := Aside0.mk ((by rw [hg]; exact (below_size (Zb2 GE691.out GE692.out)) : w.heap.size ≤ gb724)); have GE724 := Aside0.mk ((by rw [hg]; exact (below_size (Zb2 GE691.out GE692.out)) : w.heap.size ≤ gb724)); replace HB := Aside0.mk (below_step (Zb2 GE691.out GE692.out) hb); have NB691_724 := Aside0.mk ((by rw [hg]; exact Nat.ne_of_lt (blk_lt (Zj BK691.out)) : gb691 ≠ gb724)); have NB724_691 := Aside0.mk ((by rw [hg]; exact Nat.ne_of_gt (blk_lt (Zj BK691.out)) : gb724 ≠ gb691)); replace BK691 := Aside0.mk (blk_below (Zj BK691.out) hb); have NB692_724 := Aside0.mk ((by rw [hg]; exact Nat.ne_of_lt (blk_lt (Zj BK692.out)) : gb692 ≠ gb724)); have NB724_692 := Aside0.mk ((by rw [hg]; exact Nat.ne_of_gt (blk_lt (Zj BK692.out)) : gb724 ≠ gb692)); replace BK692 := Aside0.mk (blk_below (Zj BK692.out) hb); clear hb hbox hg; have hnb77 := NB724_691.out; have hnc77 := NB691_724.out; have hnb78 := NB724_692.out; have hnc78 := NB692_724.out; obtain ⟨hcz79_0, hcz79_1, hcz79_2, hcz79_3, hcz79_4, hcz79_5, hcz79_6, hcz79_7, hcz79_8, hfz79_0, hfz79_1, hfz79_2, hfz79_3, hfz79_4, hfz79_5, hfz79_6, hfz79_7, hfz79_8⟩ := Z9 BK724.out; obtain ⟨Ao80, co80, eo80⟩ := Kd.R_slice HO722.out; subst eo80) | ((with_reducible refine gate_callee (f := 10) rfl ?_); refine goesL_ (some 72) rfl rfl Tryz.func10 (by kernel_rfl) rfl #[.agg #[.string t712, .int .u8 t713, .int .u8 t714, .int .i64 t715, .int .i64 t716, .int .i64 t717, .int .u16 t718, .bool t719, .slice Ao80 t720.length co80]] rfl Zl ?_; (with_reducible refine (card_Print.calls kj52 t712 t713 t714 t715 t716 t717 t718 t719 _ _ t720 t725 t726 _ ?side3 ?side1 ?side2 A69.out).mono ?_); (case side1 => refine (Kd.R_reads' (e := 48) (base := w.heap.size) (ok := fun k_ => True) (n := t720.length) (c := co80) ?_).2.2; exact (by (with_reducible repeat (first | apply Kd.R_alloc | apply Kd.R_drewN | apply Kd.R_drew)); exact (Kd.R_mono (Kd.R_far (p := ⟨gb724, 8, none⟩) (Kd.R_far (p := ⟨gb724, 7, none⟩) (Kd.R_far (p := ⟨gb724, 6, none⟩) (Kd.R_far (p := ⟨gb724, 5, none⟩) (Kd.R_far (p := ⟨gb724, 4, none⟩) (Kd.R_far (p := ⟨gb724, 3, none⟩) (Kd.R_far (p := ⟨gb724, 2, none⟩) (Kd.R_far (p := ⟨gb724, 1, none⟩) (Kd.R_far (p := ⟨gb724, 0, none⟩) (Kd.R_types HO722.out BK724.out (by decide)) Zg (.string t712)) Zg (.int .u8 t713)) Zg (.int .u8 t714)) Zg (.int .i64 t715)) Zg (.int .i64 t716)) Zg (.int .i64 t717)) Zg (.int .u16 t718)) Zg (.bool t719)) Zg (.slice Ao80 t720.length co80)) (fun _ h_ => h_.1)))); (case side2 => exact (Kd.R_reads' HO722.out).2.1); (case side3 => first | (with_reducible exact HGP.out) | exact GP_below HGP.out (Zb3 GE691.out GE692.out GE724.out)); rintro e w81 ⟨rfl, hb⟩; refine ⟨_, rfl, ?_⟩; replace HO722 := Aside0.mk (Kd.R_below (by (with_reducible repeat (first | apply Kd.R_alloc | apply Kd.R_drewN | apply Kd.R_drew)); exact (Kd.R_mono (Kd.R_far (p := ⟨gb724, 8, none⟩) (Kd.R_far (p := ⟨gb724, 7, none⟩) (Kd.R_far (p := ⟨gb724, 6, none⟩) (Kd.R_far (p := ⟨gb724, 5, none⟩) (Kd.R_far (p := ⟨gb724, 4, none⟩) (Kd.R_far (p := ⟨gb724, 3, none⟩) (Kd.R_far (p := ⟨gb724, 2, none⟩) (Kd.R_far (p := ⟨gb724, 1, none⟩) (Kd.R_far (p := ⟨gb724, 0, none⟩) (Kd.R_types HO722.out BK724.out (by decide)) Zg (.string t712)) Zg (.int .u8 t713)) Zg (.int .u8 t714)) Zg (.int .i64 t715)) Zg (.int .i64 t716)) Zg (.int .i64 t717)) Zg (.int .u16 t718)) Zg (.bool t719)) Zg (.slice Ao80 t720.length co80)) (fun _ h_ => h_.1))) hb); replace BK691 := Aside0.mk (blk_below (g := gb691) (o := .cells #[.string a0_0, .int .u8 a0_1, .int .u8 a0_2, .int .i64 a0_3, .int .i64 a0_4, .int .i64 a0_5, .int .u16 a0_6, .bool a0_7, .slice A0_8 l0_8.length c0_8] 28 (0, 0)) (by (with_reducible repeat (first | apply blk_kn | apply blk_kd | apply blk_ka)); refine blk_far ?_ NB691_724.out _; (with_reducible repeat (first | apply blk_kn | apply blk_kd | apply blk_ka)); refine blk_far ?_ NB691_724.out _; (with_reducible repeat (first | apply blk_kn | apply blk_kd | apply blk_ka)); refine blk_far ?_ NB691_724.out _; (with_reducible repeat (first | apply blk_kn | apply blk_kd | apply blk_ka)); refine blk_far ?_ NB691_724.out _; (with_reducible repeat (first | apply blk_kn | apply blk_kd | apply blk_ka)); refine blk_far ?_ NB691_724.out _; (with_reducible repeat (first | apply blk_kn | apply blk_kd | apply blk_ka)); refine blk_far ?_ NB691_724.out _; (with_reducible repeat (first | apply blk_kn | apply blk_kd | apply blk_ka)); refine blk_far ?_ NB691_724.out _; (with_reducible repeat (first | apply blk_kn | apply blk_kd | apply blk_ka)); refine blk_far ?_ NB691_724.out _; (with_reducible repeat (first | apply blk_kn | apply blk_kd | apply blk_ka)); refine blk_far ?_ NB691_724.out _; exact Zk BK691.out) hb); replace BK692 := Aside0.mk (blk_below (g := gb692) (o := .cells #[.string a1_0, .int .u8 a1_1, .int .u8 a1_2, .int .i64 a1_3, .int .i64 a1_4, .int .i64 a1_5, .int .u16 a1_6, .bool a1_7, .slice A1_8 l1_8.length c1_8] 28 (0, 0)) (by (with_reducible repeat (first | apply blk_kn | apply blk_kd | apply blk_ka)); refine blk_far ?_ NB692_724.out _; (with_reducible repeat (first | apply blk_kn | apply blk_kd | apply blk_ka)); refine blk_far ?_ NB692_724.out _; (with_reducible repeat (first | apply blk_kn | apply blk_kd | apply blk_ka)); refine blk_far ?_ NB692_724.out _; (with_reducible repeat (first | apply blk_kn | apply blk_kd | apply blk_ka)); refine blk_far ?_ NB692_724.out _; (with_reducible repeat (first | apply blk_kn | apply blk_kd | apply blk_ka)); refine blk_far ?_ NB692_724.out _; (with_reducible repeat (first | apply blk_kn | apply blk_kd | apply blk_ka)); refine blk_far ?_ NB692_724.out _; (with_reducible repeat (first | apply blk_kn | apply blk_kd | apply blk_ka)); refine blk_far ?_ NB692_724.out _; (with_reducible repeat (first | apply blk_kn | apply blk_kd | apply blk_ka)); refine blk_far ?_ NB692_724.out _; (with_reducible repeat (first | apply blk_kn | apply blk_kd | apply blk_ka)); refine blk_far ?_ NB692_724.out _; exact Zk BK692.out) hb); replace BK724 := Aside0.mk (blk_below (g := gb724) (o := .cells #[.string t712, .int .u8 t713, .int .u8 t714, .int .i64 t715, .int .i64 t716, .int .i64 t717, .int .u16 t718, .bool t719, .slice Ao80 t720.length co80] 28 (0, 0)) (by (with_reducible repeat (first | apply blk_kn | apply blk_kd | apply blk_ka)); refine blk_put (cs := #[.string t712, .int .u8 t713, .int .u8 t714, .int .i64 t715, .int .i64 t716, .int .i64 t717, .int .u16 t718, .bool t719, .slice none 0 0]) ?_ 8 _ rfl; (with_reducible repeat (first | apply blk_kn | apply blk_kd | apply blk_ka)); refine blk_put (cs := #[.string t712, .int .u8 t713, .int .u8 t714, .int .i64 t715, .int .i64 t716, .int .i64 t717, .int .u16 t718, .bool false, .slice none 0 0]) ?_ 7 _ rfl; (with_reducible repeat (first | apply blk_kn | apply blk_kd | apply blk_ka)); refine blk_put (cs := #[.string t712, .int .u8 t713, .int .u8 t714, .int .i64 t715, .int .i64 t716, .int .i64 t717, .int .u16 0, .bool false, .slice none 0 0]) ?_ 6 _ rfl; (with_reducible repeat (first | apply blk_kn | apply blk_kd | apply blk_ka)); refine blk_put (cs := #[.string t712, .int .u8 t713, .int .u8 t714, .int .i64 t715, .int .i64 t716, .int .i64 0, .int .u16 0, .bool false, .slice none 0 0]) ?_ 5 _ rfl; (with_reducible repeat (first | apply blk_kn | apply blk_kd | apply blk_ka)); refine blk_put (cs := #[.string t712, .int .u8 t713, .int .u8 t714, .int .i64 t715, .int .i64 0, .int .i64 0, .int .u16 0, .bool false, .slice none 0 0]) ?_ 4 _ rfl; (with_reducible repeat (first | apply blk_kn | apply blk_kd | apply blk_ka)); refine blk_put (cs := #[.string t712, .int .u8 t713, .int .u8 t714, .int .i64 0, .int .i64 0, .int .i64 0, .int .u16 0, .bool false, .slice none 0 0]) ?_ 3 _ rfl; (with_reducible repeat (first | apply blk_kn | apply blk_kd | apply blk_ka)); refine blk_put (cs := #[.string t712, .int .u8 t713, .int .u8 0, .int .i64 0, .int .i64 0, .int .i64 0, .int .u16 0, .bool false, .slice none 0 0]) ?_ 2 _ rfl; (with_reducible repeat (first | apply blk_kn | apply blk_kd | apply blk_ka)); refine blk_put (cs := #[.string t712, .int .u8 0, .int .u8 0, .int .i64 0, .int .i64 0, .int .i64 0, .int .u16 0, .bool false, .slice none 0 0]) ?_ 1 _ rfl; (with_reducible repeat (first | apply blk_kn | apply blk_kd | apply blk_ka)); refine blk_put (cs := #[.string (⟨#[]⟩ : ByteArray), .int .u8 0, .int .u8 0, .int .i64 0, .int .i64 0, .int .i64 0, .int .u16 0, .bool false, .slice none 0 0]) ?_ 0 _ rfl; exact Zk BK724.out) hb); replace HB := Aside0.mk (below_step (Zb3 GE691.out GE692.out GE724.out) hb); (try clear hb); (try clear hb2); (try clear hk); (try clear hi); obtain ⟨hcz82_0, hcz82_1, hcz82_2, hcz82_3, hcz82_4, hcz82_5, hcz82_6, hcz82_7, hcz82_8, hfz82_0, hfz82_1, hfz82_2, hfz82_3, hfz82_4, hfz82_5, hfz82_6, hfz82_7, hfz82_8⟩ := Z9 BK724.out) | (go_at_call 9; (with_reducible refine (card_Check.calls kj52 t712 t713 t714 t715 t716 t717 t718 t719 _ _ t720 t727 _ ?side1 ?side2 A72.out).mono ?_); (case side1 => repeat (first | exact (Kd.R_reads' HO722.out).2.2 | (with_reducible refine Kd.C_alloc ?_ _) | (with_reducible refine Kd.C_drewN ?_ _) | (with_reducible refine Kd.C_drew ?_))); (case side2 => exact (Kd.R_reads' HO722.out).2.1); rintro e w83 ⟨rfl, hb⟩; replace HO722 := Aside0.mk (Kd.R_below (Zq HO722.out) hb); replace BK691 := Aside0.mk (blk_below (Zj BK691.out) hb); replace BK692 := Aside0.mk (blk_below (Zj BK692.out) hb); replace BK724 := Aside0.mk (blk_below (Zj BK724.out) hb); replace HB := Aside0.mk (below_step (Zb3 GE691.out GE692.out GE724.out) hb); (try clear hb); (try clear hb2); (try clear hk); (try clear hi)) | (go_at_call 27; (with_reducible refine (gambitlaw06_awake.calls kj52  t728 _ ?side1 A74.out).mono ?_); (case side1 => first | (with_reducible exact HGP.out) | exact GP_below HGP.out (Zb3 GE691.out GE692.out GE724.out)); rintro e w84 ⟨rfl, hb⟩; replace HO722 := Aside0.mk (Kd.R_below (Zq HO722.out) hb); replace BK691 := Aside0.mk (blk_below (Zj BK691.out) hb); replace BK692 := Aside0.mk (blk_below (Zj BK692.out) hb); replace BK724 := Aside0.mk (blk_below (Zj BK724.out) hb); replace HB := Aside0.mk (below_step (Zb3 GE691.out GE692.out GE724.out) hb); (try clear hb); (try clear hb2); (try clear hk); (try clear hi)))
          go_ret
          exact ⟨Ze, Zb3 GE691.out GE692.out GE724.out⟩
         ·rw [if_neg c73] at H
          have c73b0 : (t727 == 0) = false := beq_eq_false_iff_ne.mpr c73
          have c73b1 : (t727 != 0) = true := bne_iff_ne.mpr c73
          obtain rfl := Option.some.inj H
          go_wp2_with (first | ((with_reducible refine gate_callee (f := 25) rfl ?_); refine goesL_ (some 64) rfl rfl Tryz.func25 (by kernel_rfl) rfl #[.string a2] rfl Zl ?_; (with_reducible refine (card_Parse.calls kj52 a2 t712 t713 t714 t715 t716 t717 t718 t719 t720 t723 _ ?side1 A67.out).mono ?_); (case side1 => first | (with_reducible exact HGP.out) | exact GP_below HGP.out (Zb2 GE691.out GE692.out)); rintro e w85 ⟨v721, rfl, ho0, hb⟩; refine ⟨_, rfl, ?_⟩; have HO722 := Aside0.mk (Kd.R_lower ho0 (below_size (Zb2 GE691.out GE692.out))); replace BK691 := Aside0.mk (blk_below (Zj BK691.out) hb); replace BK692 := Aside0.mk (blk_below (Zj BK692.out) hb); replace HB := Aside0.mk (below_step (Zb2 GE691.out GE692.out) hb); (try clear hb); (try clear hb2); (try clear hk); (try clear hi); (try clear ho0)) | ((with_reducible refine gate_dst (N := 13) rfl ?_); (try (refine gate_guard (by rfl) ?_; dsimp only)); refine box_event ?hg (N := 13) ?hd (cs := #[.string (⟨#[]⟩ : ByteArray), .int .u8 0, .int .u8 0, .int .i64 0, .int .i64 0, .int .i64 0, .int .u16 0, .bool false, .slice none 0 0]) (t := 28) ?hr ?_; (case hd => rfl); (case hg => rfl); (case hr => first | (go_simp; done) | (go_simp; rfl)); intro gb724 hg w86 hbox hb; replace HO722 := Aside0.mk (Kd.R_below (Zq HO722.out) hb); have BK724 := Aside0.mk (hbox); have GW724 := Aside0.mk ((by rw [hg]; exact (below_size (Zb2 GE691.out GE692.out)) : w.heap.size ≤ gb724)); have GE724 := Aside0.mk ((by rw [hg]; exact (below_size (Zb2 GE691.out GE692.out)) : w.heap.size ≤ gb724)); replace HB := Aside0.mk (below_step (Zb2 GE691.out GE692.out) hb); have NB691_724 := Aside0.mk ((by rw [hg]; exact Nat.ne_of_lt (blk_lt (Zj BK691.out)) : gb691 ≠ gb724)); have NB724_691 := Aside0.mk ((by rw [hg]; exact Nat.ne_of_gt (blk_lt (Zj BK691.out)) : gb724 ≠ gb691)); replace BK691 := Aside0.mk (blk_below (Zj BK691.out) hb); have NB692_724 := Aside0.mk ((by rw [hg]; exact Nat.ne_of_lt (blk_lt (Zj BK692.out)) : gb692 ≠ gb724)); have NB724_692 := Aside0.mk ((by rw [hg]; exact Nat.ne_of_gt (blk_lt (Zj BK692.out)) : gb724 ≠ gb692)); replace BK692 := Aside0.mk (blk_below (Zj BK692.out) hb); clear hb hbox hg; have hnb87 := NB724_691.out; have hnc87 := NB691_724.out; have hnb88 := NB724_692.out; have hnc88 := NB692_724.out; obtain ⟨hcz89_0, hcz89_1, hcz89_2, hcz89_3, hcz89_4, hcz89_5, hcz89_6, hcz89_7, hcz89_8, hfz89_0, hfz89_1, hfz89_2, hfz89_3, hfz89_4, hfz89_5, hfz89_6, hfz89_7, hfz89_8⟩ := Z9 BK724.out; obtain ⟨Ao90, co90, eo90⟩ := Kd.R_slice HO722.out; subst eo90) | ((with_reducible refine gate_callee (f := 10) rfl ?_); refine goesL_ (some 72) rfl rfl Tryz.func10 (by kernel_rfl) rfl #[.agg #[.string t712, .int .u8 t713, .int .u8 t714, .int .i64 t715, .int .i64 t716, .int .i64 t717, .int .u16 t718, .bool t719, .slice Ao90 t720.length co90]] rfl Zl ?_; (with_reducible refine (card_Print.calls kj52 t712 t713 t714 t715 t716 t717 t718 t719 _ _ t720 t725 t726 _ ?side3 ?side1 ?side2 A69.out).mono ?_); (case side1 => refine (Kd.R_reads' (e := 48) (base := w.heap.size) (ok := fun k_ => True) (n := t720.length) (c := co90) ?_).2.2; exact (by (with_reducible repeat (first | apply Kd.R_alloc | apply Kd.R_drewN | apply Kd.R_drew)); exact (Kd.R_mono (Kd.R_far (p := ⟨gb724, 8, none⟩) (Kd.R_far (p := ⟨gb724, 7, none⟩) (Kd.R_far (p := ⟨gb724, 6, none⟩) (Kd.R_far (p := ⟨gb724, 5, none⟩) (Kd.R_far (p := ⟨gb724, 4, none⟩) (Kd.R_far (p := ⟨gb724, 3, none⟩) (Kd.R_far (p := ⟨gb724, 2, none⟩) (Kd.R_far (p := ⟨gb724, 1, none⟩) (Kd.R_far (p := ⟨gb724, 0, none⟩) (Kd.R_types HO722.out BK724.out (by decide)) Zg (.string t712)) Zg (.int .u8 t713)) Zg (.int .u8 t714)) Zg (.int .i64 t715)) Zg (.int .i64 t716)) Zg (.int .i64 t717)) Zg (.int .u16 t718)) Zg (.bool t719)) Zg (.slice Ao90 t720.length co90)) (fun _ h_ => h_.1)))); (case side2 => exact (Kd.R_reads' HO722.out).2.1); (case side3 => first | (with_reducible exact HGP.out) | exact GP_below HGP.out (Zb3 GE691.out GE692.out GE724.out)); rintro e w91 ⟨rfl, hb⟩; refine ⟨_, rfl, ?_⟩; replace HO722 := Aside0.mk (Kd.R_below (by (with_reducible repeat (first | apply Kd.R_alloc | apply Kd.R_drewN | apply Kd.R_drew)); exact (Kd.R_mono (Kd.R_far (p := ⟨gb724, 8, none⟩) (Kd.R_far (p := ⟨gb724, 7, none⟩) (Kd.R_far (p := ⟨gb724, 6, none⟩) (Kd.R_far (p := ⟨gb724, 5, none⟩) (Kd.R_far (p := ⟨gb724, 4, none⟩) (Kd.R_far (p := ⟨gb724, 3, none⟩) (Kd.R_far (p := ⟨gb724, 2, none⟩) (Kd.R_far (p := ⟨gb724, 1, none⟩) (Kd.R_far (p := ⟨gb724, 0, none⟩) (Kd.R_types HO722.out BK724.out (by decide)) Zg (.string t712)) Zg (.int .u8 t713)) Zg (.int .u8 t714)) Zg (.int .i64 t715)) Zg (.int .i64 t716)) Zg (.int .i64 t717)) Zg (.int .u16 t718)) Zg (.bool t719)) Zg (.slice Ao90 t720.length co90)) (fun _ h_ => h_.1))) hb); replace BK691 := Aside0.mk (blk_below (g := gb691) (o := .cells #[.string a0_0, .int .u8 a0_1, .int .u8 a0_2, .int .i64 a0_3, .int .i64 a0_4, .int .i64 a0_5, .int .u16 a0_6, .bool a0_7, .slice A0_8 l0_8.length c0_8] 28 (0, 0)) (by (with_reducible repeat (first | apply blk_kn | apply blk_kd | apply blk_ka)); refine blk_far ?_ NB691_724.out _; (with_reducible repeat (first | apply blk_kn | apply blk_kd | apply blk_ka)); refine blk_far ?_ NB691_724.out _; (with_reducible repeat (first | apply blk_kn | apply blk_kd | apply blk_ka)); refine blk_far ?_ NB691_724.out _; (with_reducible repeat (first | apply blk_kn | apply blk_kd | apply blk_ka)); refine blk_far ?_ NB691_724.out _; (with_reducible repeat (first | apply blk_kn | apply blk_kd | apply blk_ka)); refine blk_far ?_ NB691_724.out _; (with_reducible repeat (first | apply blk_kn | apply blk_kd | apply blk_ka)); refine blk_far ?_ NB691_724.out _; (with_reducible repeat (first | apply blk_kn | apply blk_kd | apply blk_ka)); refine blk_far ?_ NB691_724.out _; (with_reducible repeat (first | apply blk_kn | apply blk_kd | apply blk_ka)); refine blk_far ?_ NB691_724.out _; (with_reducible repeat (first | apply blk_kn | apply blk_kd | apply blk_ka)); refine blk_far ?_ NB691_724.out _; exact Zk BK691.out) hb); replace BK692 := Aside0.mk (blk_below (g := gb692) (o := .cells #[.string a1_0, .int .u8 a1_1, .int .u8 a1_2, .int .i64 a1_3, .int .i64 a1_4, .int .i64 a1_5, .int .u16 a1_6, .bool a1_7, .slice A1_8 l1_8.length c1_8] 28 (0, 0)) (by (with_reducible repeat (first | apply blk_kn | apply blk_kd | apply blk_ka)); refine blk_far ?_ NB692_724.out _; (with_reducible repeat (first | apply blk_kn | apply blk_kd | apply blk_ka)); refine blk_far ?_ NB692_724.out _; (with_reducible repeat (first | apply blk_kn | apply blk_kd | apply blk_ka)); refine blk_far ?_ NB692_724.out _; (with_reducible repeat (first | apply blk_kn | apply blk_kd | apply blk_ka)); refine blk_far ?_ NB692_724.out _; (with_reducible repeat (first | apply blk_kn | apply blk_kd | apply blk_ka)); refine blk_far ?_ NB692_724.out _; (with_reducible repeat (first | apply blk_kn | apply blk_kd | apply blk_ka)); refine blk_far ?_ NB692_724.out _; (with_reducible repeat (first | apply blk_kn | apply blk_kd | apply blk_ka)); refine blk_far ?_ NB692_724.out _; (with_reducible repeat (first | apply blk_kn | apply blk_kd | apply blk_ka)); refine blk_far ?_ NB692_724.out _; (with_reducible repeat (first | apply blk_kn | apply blk_kd | apply blk_ka)); refine blk_far ?_ NB692_724.out _; exact Zk BK692.out) hb); replace BK724 := Aside0.mk (blk_below (g := gb724) (o := .cells #[.string t712, .int .u8 t713, .int .u8 t714, .int .i64 t715, .int .i64 t716, .int .i64 t717, .int .u16 t718, .bool t719, .slice Ao90 t720.length co90] 28 (0, 0)) (by (with_reducible repeat (first | apply blk_kn | apply blk_kd | apply blk_ka)); refine blk_put (cs := #[.string t712, .int .u8 t713, .int .u8 t714, .int .i64 t715, .int .i64 t716, .int .i64 t717, .int .u16 t718, .bool t719, .slice none 0 0]) ?_ 8 _ rfl; (with_reducible repeat (first | apply blk_kn | apply blk_kd | apply blk_ka)); refine blk_put (cs := #[.string t712, .int .u8 t713, .int .u8 t714, .int .i64 t715, .int .i64 t716, .int .i64 t717, .int .u16 t718, .bool false, .slice none 0 0]) ?_ 7 _ rfl; (with_reducible repeat (first | apply blk_kn | apply blk_kd | apply blk_ka)); refine blk_put (cs := #[.string t712, .int .u8 t713, .int .u8 t714, .int .i64 t715, .int .i64 t716, .int .i64 t717, .int .u16 0, .bool false, .slice none 0 0]) ?_ 6 _ rfl; (with_reducible repeat (first | apply blk_kn | apply blk_kd | apply blk_ka)); refine blk_put (cs := #[.string t712, .int .u8 t713, .int .u8 t714, .int .i64 t715, .int .i64 t716, .int .i64 0, .int .u16 0, .bool false, .slice none 0 0]) ?_ 5 _ rfl; (with_reducible repeat (first | apply blk_kn | apply blk_kd | apply blk_ka)); refine blk_put (cs := #[.string t712, .int .u8 t713, .int .u8 t714, .int .i64 t715, .int .i64 0, .int .i64 0, .int .u16 0, .bool false, .slice none 0 0]) ?_ 4 _ rfl; (with_reducible repeat (first | apply blk_kn | apply blk_kd | apply blk_ka)); refine blk_put (cs := #[.string t712, .int .u8 t713, .int .u8 t714, .int .i64 0, .int .i64 0, .int .i64 0, .int .u16 0, .bool false, .slice none 0 0]) ?_ 3 _ rfl; (with_reducible repeat (first | apply blk_kn | apply blk_kd | apply blk_ka)); refine blk_put (cs := #[.string t712, .int .u8 t713, .int .u8 0, .int .i64 0, .int .i64 0, .int .i64 0, .int .u16 0, .bool false, .slice none 0 0]) ?_ 2 _ rfl; (with_reducible repeat (first | apply blk_kn | apply blk_kd | apply blk_ka)); refine blk_put (cs := #[.string t712, .int .u8 0, .int .u8 0, .int .i64 0, .int .i64 0, .int .i64 0, .int .u16 0, .bool false, .slice none 0 0]) ?_ 1 _ rfl; (with_reducible repeat (first | apply blk_kn | apply blk_kd | apply blk_ka)); refine blk_put (cs := #[.string (⟨#[]⟩ : ByteArray), .int .u8 0, .int .u8 0, .int .i64 0, .int .i64 0, .int .i64 0, .int .u16 0, .bool false, .slice none 0 0]) ?_ 0 _ rfl; exact Zk BK724.out) hb); replace HB := Aside0.mk (below_step (Zb3 GE691.out GE692.out GE724.out) hb); (try clear hb); (try clear hb2); (try clear hk); (try clear hi); obtain ⟨hcz92_0, hcz92_1, hcz92_2, hcz92_3, hcz92_4, hcz92_5, hcz92_6, hcz92_7, hcz92_8, hfz92_0, hfz92_1, hfz92_2, hfz92_3, hfz92_4, hfz92_5, hfz92_6, hfz92_7, hfz92_8⟩ := Z9 BK724.out) | (go_at_call 9; (with_reducible refine (card_Check.calls kj52 t712 t713 t714 t715 t716 t717 t718 t719 _ _ t720 t727 _ ?side1 ?side2 A72.out).mono ?_); (case side1 => repeat (first | exact (Kd.R_reads' HO722.out).2.2 | (with_reducible refine Kd.C_alloc ?_ _) | (with_reducible refine Kd.C_drewN ?_ _) | (with_reducible refine Kd.C_drew ?_))); (case side2 => exact (Kd.R_reads' HO722.out).2.1); rintro e w93 ⟨rfl, hb⟩; replace HO722 := Aside0.mk (Kd.R_below (Zq HO722.out) hb); replace BK691 := Aside0.mk (blk_below (Zj BK691.out) hb); replace BK692 := Aside0.mk (blk_below (Zj BK692.out) hb); replace BK724 := Aside0.mk (blk_below (Zj BK724.out) hb); replace HB := Aside0.mk (below_step (Zb3 GE691.out GE692.out GE724.out) hb); (try clear hb); (try clear hb2); (try clear hk); (try clear hi)))
          go_ret
          exact ⟨Ze, Zb3 GE691.out GE692.out GE724.out⟩
        ·rw [if_neg c71] at H
         have c71b0 : (t725.toList == a2.toList) = false := beq_eq_false_iff_ne.mpr c71
         have c71b1 : (t725.toList != a2.toList) = true := bne_iff_ne.mpr c71
         obtain rfl := Option.some.inj H
         go_wp2_with (first | ((with_reducible refine gate_callee (f := 25) rfl ?_); refine goesL_ (some 64) rfl rfl Tryz.func25 (by kernel_rfl) rfl #[.string a2] rfl Zl ?_; (with_reducible refine (card_Parse.calls kj52 a2 t712 t713 t714 t715 t716 t717 t718 t719 t720 t723 _ ?side1 A67.out).mono ?_); (case side1 => first | (with_reducible exact HGP.out) | exact GP_below HGP.out (Zb2 GE691.out GE692.out)); rintro e w94 ⟨v721, rfl, ho0, hb⟩; refine ⟨_, rfl, ?_⟩; have HO722 := Aside0.mk (Kd.R_lower ho0 (below_size (Zb2 GE691.out GE692.out))); replace BK691 := Aside0.mk (blk_below (Zj BK691.out) hb); replace BK692 := Aside0.mk (blk_below (Zj BK692.out) hb); replace HB := Aside0.mk (below_step (Zb2 GE691.out GE692.out) hb); (try clear hb); (try clear hb2); (try clear hk); (try clear hi); (try clear ho0)) | ((with_reducible refine gate_dst (N := 13) rfl ?_); (try (refine gate_guard (by rfl) ?_; dsimp only)); refine box_event ?hg (N := 13) ?hd (cs := #[.string (⟨#[]⟩ : ByteArray), .int .u8 0, .int .u8 0, .int .i64 0, .int .i64 0, .int .i64 0, .int .u16 0, .bool false, .slice none 0 0]) (t := 28) ?hr ?_; (case hd => rfl); (case hg => rfl); (case hr => first | (go_simp; done) | (go_simp; rfl)); intro gb724 hg w95 hbox hb; replace HO722 := Aside0.mk (Kd.R_below (Zq HO722.out) hb); have BK724 := Aside0.mk (hbox); have GW724 := Aside0.mk ((by rw [hg]; exact (below_size (Zb2 GE691.out GE692.out)) : w.heap.size ≤ gb724)); have GE724 := Aside0.mk ((by rw [hg]; exact (below_size (Zb2 GE691.out GE692.out)) : w.heap.size ≤ gb724)); replace HB := Aside0.mk (below_step (Zb2 GE691.out GE692.out) hb); have NB691_724 := Aside0.mk ((by rw [hg]; exact Nat.ne_of_lt (blk_lt (Zj BK691.out)) : gb691 ≠ gb724)); have NB724_691 := Aside0.mk ((by rw [hg]; exact Nat.ne_of_gt (blk_lt (Zj BK691.out)) : gb724 ≠ gb691)); replace BK691 := Aside0.mk (blk_below (Zj BK691.out) hb); have NB692_724 := Aside0.mk ((by rw [hg]; exact Nat.ne_of_lt (blk_lt (Zj BK692.out)) : gb692 ≠ gb724)); have NB724_692 := Aside0.mk ((by rw [hg]; exact Nat.ne_of_gt (blk_lt (Zj BK692.out)) : gb724 ≠ gb692)); replace BK692 := Aside0.mk (blk_below (Zj BK692.out) hb); clear hb hbox hg; have hnb96 := NB724_691.out; have hnc96 := NB691_724.out; have hnb97 := NB724_692.out; have hnc97 := NB692_724.out; obtain ⟨hcz98_0, hcz98_1, hcz98_2, hcz98_3, hcz98_4, hcz98_5, hcz98_6, hcz98_7, hcz98_8, hfz98_0, hfz98_1, hfz98_2, hfz98_3, hfz98_4, hfz98_5, hfz98_6, hfz98_7, hfz98_8⟩ := Z9 BK724.out; obtain ⟨Ao99, co99, eo99⟩ := Kd.R_slice HO722.out; subst eo99) | ((with_reducible refine gate_callee (f := 10) rfl ?_); refine goesL_ (some 72) rfl rfl Tryz.func10 (by kernel_rfl) rfl #[.agg #[.string t712, .int .u8 t713, .int .u8 t714, .int .i64 t715, .int .i64 t716, .int .i64 t717, .int .u16 t718, .bool t719, .slice Ao99 t720.length co99]] rfl Zl ?_; (with_reducible refine (card_Print.calls kj52 t712 t713 t714 t715 t716 t717 t718 t719 _ _ t720 t725 t726 _ ?side3 ?side1 ?side2 A69.out).mono ?_); (case side1 => refine (Kd.R_reads' (e := 48) (base := w.heap.size) (ok := fun k_ => True) (n := t720.length) (c := co99) ?_).2.2; exact (by (with_reducible repeat (first | apply Kd.R_alloc | apply Kd.R_drewN | apply Kd.R_drew)); exact (Kd.R_mono (Kd.R_far (p := ⟨gb724, 8, none⟩) (Kd.R_far (p := ⟨gb724, 7, none⟩) (Kd.R_far (p := ⟨gb724, 6, none⟩) (Kd.R_far (p := ⟨gb724, 5, none⟩) (Kd.R_far (p := ⟨gb724, 4, none⟩) (Kd.R_far (p := ⟨gb724, 3, none⟩) (Kd.R_far (p := ⟨gb724, 2, none⟩) (Kd.R_far (p := ⟨gb724, 1, none⟩) (Kd.R_far (p := ⟨gb724, 0, none⟩) (Kd.R_types HO722.out BK724.out (by decide)) Zg (.string t712)) Zg (.int .u8 t713)) Zg (.int .u8 t714)) Zg (.int .i64 t715)) Zg (.int .i64 t716)) Zg (.int .i64 t717)) Zg (.int .u16 t718)) Zg (.bool t719)) Zg (.slice Ao99 t720.length co99)) (fun _ h_ => h_.1)))); (case side2 => exact (Kd.R_reads' HO722.out).2.1); (case side3 => first | (with_reducible exact HGP.out) | exact GP_below HGP.out (Zb3 GE691.out GE692.out GE724.out)); rintro e w100 ⟨rfl, hb⟩; refine ⟨_, rfl, ?_⟩; replace HO722 := Aside0.mk (Kd.R_below (by (with_reducible repeat (first | apply Kd.R_alloc | apply Kd.R_drewN | apply Kd.R_drew)); exact (Kd.R_mono (Kd.R_far (p := ⟨gb724, 8, none⟩) (Kd.R_far (p := ⟨gb724, 7, none⟩) (Kd.R_far (p := ⟨gb724, 6, none⟩) (Kd.R_far (p := ⟨gb724, 5, none⟩) (Kd.R_far (p := ⟨gb724, 4, none⟩) (Kd.R_far (p := ⟨gb724, 3, none⟩) (Kd.R_far (p := ⟨gb724, 2, none⟩) (Kd.R_far (p := ⟨gb724, 1, none⟩) (Kd.R_far (p := ⟨gb724, 0, none⟩) (Kd.R_types HO722.out BK724.out (by decide)) Zg (.string t712)) Zg (.int .u8 t713)) Zg (.int .u8 t714)) Zg (.int .i64 t715)) Zg (.int .i64 t716)) Zg (.int .i64 t717)) Zg (.int .u16 t718)) Zg (.bool t719)) Zg (.slice Ao99 t720.length co99)) (fun _ h_ => h_.1))) hb); replace BK691 := Aside0.mk (blk_below (g := gb691) (o := .cells #[.string a0_0, .int .u8 a0_1, .int .u8 a0_2, .int .i64 a0_3, .int .i64 a0_4, .int .i64 a0_5, .int .u16 a0_6, .bool a0_7, .slice A0_8 l0_8.length c0_8] 28 (0, 0)) (by (with_reducible repeat (first | apply blk_kn | apply blk_kd | apply blk_ka)); refine blk_far ?_ NB691_724.out _; (with_reducible repeat (first | apply blk_kn | apply blk_kd | apply blk_ka)); refine blk_far ?_ NB691_724.out _; (with_reducible repeat (first | apply blk_kn | apply blk_kd | apply blk_ka)); refine blk_far ?_ NB691_724.out _; (with_reducible repeat (first | apply blk_kn | apply blk_kd | apply blk_ka)); refine blk_far ?_ NB691_724.out _; (with_reducible repeat (first | apply blk_kn | apply blk_kd | apply blk_ka)); refine blk_far ?_ NB691_724.out _; (with_reducible repeat (first | apply blk_kn | apply blk_kd | apply blk_ka)); refine blk_far ?_ NB691_724.out _; (with_reducible repeat (first | apply blk_kn | apply blk_kd | apply blk_ka)); refine blk_far ?_ NB691_724.out _; (with_reducible repeat (first | apply blk_kn | apply blk_kd | apply blk_ka)); refine blk_far ?_ NB691_724.out _; (with_reducible repeat (first | apply blk_kn | apply blk_kd | apply blk_ka)); refine blk_far ?_ NB691_724.out _; exact Zk BK691.out) hb); replace BK692 := Aside0.mk (blk_below (g := gb692) (o := .cells #[.string a1_0, .int .u8 a1_1, .int .u8 a1_2, .int .i64 a1_3, .int .i64 a1_4, .int .i64 a1_5, .int .u16 a1_6, .bool a1_7, .slice A1_8 l1_8.length c1_8] 28 (0, 0)) (by (with_reducible repeat (first | apply blk_kn | apply blk_kd | apply blk_ka)); refine blk_far ?_ NB692_724.out _; (with_reducible repeat (first | apply blk_kn | apply blk_kd | apply blk_ka)); refine blk_far ?_ NB692_724.out _; (with_reducible repeat (first | apply blk_kn | apply blk_kd | apply blk_ka)); refine blk_far ?_ NB692_724.out _; (with_reducible repeat (first | apply blk_kn | apply blk_kd | apply blk_ka)); refine blk_far ?_ NB692_724.out _; (with_reducible repeat (first | apply blk_kn | apply blk_kd | apply blk_ka)); refine blk_far ?_ NB692_724.out _; (with_reducible repeat (first | apply blk_kn | apply blk_kd | apply blk_ka)); refine blk_far ?_ NB692_724.out _; (with_reducible repeat (first | apply blk_kn | apply blk_kd | apply blk_ka)); refine blk_far ?_ NB692_724.out _; (with_reducible repeat (first | apply blk_kn | apply blk_kd | apply blk_ka)); refine blk_far ?_ NB692_724.out _; (with_reducible repeat (first | apply blk_kn | apply blk_kd | apply blk_ka)); refine blk_far ?_ NB692_724.out _; exact Zk BK692.out) hb); replace BK724 := Aside0.mk (blk_below (g := gb724) (o := .cells #[.string t712, .int .u8 t713, .int .u8 t714, .int .i64 t715, .int .i64 t716, .int .i64 t717, .int .u16 t718, .bool t719, .slice Ao99 t720.length co99] 28 (0, 0)) (by (with_reducible repeat (first | apply blk_kn | apply blk_kd | apply blk_ka)); refine blk_put (cs := #[.string t712, .int .u8 t713, .int .u8 t714, .int .i64 t715, .int .i64 t716, .int .i64 t717, .int .u16 t718, .bool t719, .slice none 0 0]) ?_ 8 _ rfl; (with_reducible repeat (first | apply blk_kn | apply blk_kd | apply blk_ka)); refine blk_put (cs := #[.string t712, .int .u8 t713, .int .u8 t714, .int .i64 t715, .int .i64 t716, .int .i64 t717, .int .u16 t718, .bool false, .slice none 0 0]) ?_ 7 _ rfl; (with_reducible repeat (first | apply blk_kn | apply blk_kd | apply blk_ka)); refine blk_put (cs := #[.string t712, .int .u8 t713, .int .u8 t714, .int .i64 t715, .int .i64 t716, .int .i64 t717, .int .u16 0, .bool false, .slice none 0 0]) ?_ 6 _ rfl; (with_reducible repeat (first | apply blk_kn | apply blk_kd | apply blk_ka)); refine blk_put (cs := #[.string t712, .int .u8 t713, .int .u8 t714, .int .i64 t715, .int .i64 t716, .int .i64 0, .int .u16 0, .bool false, .slice none 0 0]) ?_ 5 _ rfl; (with_reducible repeat (first | apply blk_kn | apply blk_kd | apply blk_ka)); refine blk_put (cs := #[.string t712, .int .u8 t713, .int .u8 t714, .int .i64 t715, .int .i64 0, .int .i64 0, .int .u16 0, .bool false, .slice none 0 0]) ?_ 4 _ rfl; (with_reducible repeat (first | apply blk_kn | apply blk_kd | apply blk_ka)); refine blk_put (cs := #[.string t712, .int .u8 t713, .int .u8 t714, .int .i64 0, .int .i64 0, .int .i64 0, .int .u16 0, .bool false, .slice none 0 0]) ?_ 3 _ rfl; (with_reducible repeat (first | apply blk_kn | apply blk_kd | apply blk_ka)); refine blk_put (cs := #[.string t712, .int .u8 t713, .int .u8 0, .int .i64 0, .int .i64 0, .int .i64 0, .int .u16 0, .bool false, .slice none 0 0]) ?_ 2 _ rfl; (with_reducible repeat (first | apply blk_kn | apply blk_kd | apply blk_ka)); refine blk_put (cs := #[.string t712, .int .u8 0, .int .u8 0, .int .i64 0, .int .i64 0, .int .i64 0, .int .u16 0, .bool false, .slice none 0 0]) ?_ 1 _ rfl; (with_reducible repeat (first | apply blk_kn | apply blk_kd | apply blk_ka)); refine blk_put (cs := #[.string (⟨#[]⟩ : ByteArray), .int .u8 0, .int .u8 0, .int .i64 0, .int .i64 0, .int .i64 0, .int .u16 0, .bool false, .slice none 0 0]) ?_ 0 _ rfl; exact Zk BK724.out) hb); replace HB := Aside0.mk (below_step (Zb3 GE691.out GE692.out GE724.out) hb); (try clear hb); (try clear hb2); (try clear hk); (try clear hi)))
         go_ret
         exact ⟨Ze, Zb3 GE691.out GE692.out GE724.out⟩
       ·rw [if_neg c70] at H
        have c70b0 : (t726 == 0) = false := beq_eq_false_iff_ne.mpr c70
        have c70b1 : (t726 != 0) = true := bne_iff_ne.mpr c70
        obtain rfl := Option.some.inj H
        go_wp2_with (first | ((with_reducible refine gate_callee (f := 25) rfl ?_); refine goesL_ (some 64) rfl rfl Tryz.func25 (by kernel_rfl) rfl #[.string a2] rfl Zl ?_; (with_reducible refine (card_Parse.calls kj52 a2 t712 t713 t714 t715 t716 t717 t718 t719 t720 t723 _ ?side1 A67.out).mono ?_); (case side1 => first | (with_reducible exact HGP.out) | exact GP_below HGP.out (Zb2 GE691.out GE692.out)); rintro e w101 ⟨v721, rfl, ho0, hb⟩; refine ⟨_, rfl, ?_⟩; have HO722 := Aside0.mk (Kd.R_lower ho0 (below_size (Zb2 GE691.out GE692.out))); replace BK691 := Aside0.mk (blk_below (Zj BK691.out) hb); replace BK692 := Aside0.mk (blk_below (Zj BK692.out) hb); replace HB := Aside0.mk (below_step (Zb2 GE691.out GE692.out) hb); (try clear hb); (try clear hb2); (try clear hk); (try clear hi); (try clear ho0)) | ((with_reducible refine gate_dst (N := 13) rfl ?_); (try (refine gate_guard (by rfl) ?_; dsimp only)); refine box_event ?hg (N := 13) ?hd (cs := #[.string (⟨#[]⟩ : ByteArray), .int .u8 0, .int .u8 0, .int .i64 0, .int .i64 0, .int .i64 0, .int .u16 0, .bool false, .slice none 0 0]) (t := 28) ?hr ?_; (case hd => rfl); (case hg => rfl); (case hr => first | (go_simp; done) | (go_simp; rfl)); intro gb724 hg w102 hbox hb; replace HO722 := Aside0.mk (Kd.R_below (Zq HO722.out) hb); have BK724 := Aside0.mk (hbox); have GW724 := Aside0.mk ((by rw [hg]; exact (below_size (Zb2 GE691.out GE692.out)) : w.heap.size ≤ gb724)); have GE724 := Aside0.mk ((by rw [hg]; exact (below_size (Zb2 GE691.out GE692.out)) : w.heap.size ≤ gb724)); replace HB := Aside0.mk (below_step (Zb2 GE691.out GE692.out) hb); have NB691_724 := Aside0.mk ((by rw [hg]; exact Nat.ne_of_lt (blk_lt (Zj BK691.out)) : gb691 ≠ gb724)); have NB724_691 := Aside0.mk ((by rw [hg]; exact Nat.ne_of_gt (blk_lt (Zj BK691.out)) : gb724 ≠ gb691)); replace BK691 := Aside0.mk (blk_below (Zj BK691.out) hb); have NB692_724 := Aside0.mk ((by rw [hg]; exact Nat.ne_of_lt (blk_lt (Zj BK692.out)) : gb692 ≠ gb724)); have NB724_692 := Aside0.mk ((by rw [hg]; exact Nat.ne_of_gt (blk_lt (Zj BK692.out)) : gb724 ≠ gb692)); replace BK692 := Aside0.mk (blk_below (Zj BK692.out) hb); clear hb hbox hg; have hnb103 := NB724_691.out; have hnc103 := NB691_724.out; have hnb104 := NB724_692.out; have hnc104 := NB692_724.out; obtain ⟨hcz105_0, hcz105_1, hcz105_2, hcz105_3, hcz105_4, hcz105_5, hcz105_6, hcz105_7, hcz105_8, hfz105_0, hfz105_1, hfz105_2, hfz105_3, hfz105_4, hfz105_5, hfz105_6, hfz105_7, hfz105_8⟩ := Z9 BK724.out; obtain ⟨Ao106, co106, eo106⟩ := Kd.R_slice HO722.out; subst eo106) | ((with_reducible refine gate_callee (f := 10) rfl ?_); refine goesL_ (some 72) rfl rfl Tryz.func10 (by kernel_rfl) rfl #[.agg #[.string t712, .int .u8 t713, .int .u8 t714, .int .i64 t715, .int .i64 t716, .int .i64 t717, .int .u16 t718, .bool t719, .slice Ao106 t720.length co106]] rfl Zl ?_; (with_reducible refine (card_Print.calls kj52 t712 t713 t714 t715 t716 t717 t718 t719 _ _ t720 t725 t726 _ ?side3 ?side1 ?side2 A69.out).mono ?_); (case side1 => refine (Kd.R_reads' (e := 48) (base := w.heap.size) (ok := fun k_ => True) (n := t720.length) (c := co106) ?_).2.2; exact (by (with_reducible repeat (first | apply Kd.R_alloc | apply Kd.R_drewN | apply Kd.R_drew)); exact (Kd.R_mono (Kd.R_far (p := ⟨gb724, 8, none⟩) (Kd.R_far (p := ⟨gb724, 7, none⟩) (Kd.R_far (p := ⟨gb724, 6, none⟩) (Kd.R_far (p := ⟨gb724, 5, none⟩) (Kd.R_far (p := ⟨gb724, 4, none⟩) (Kd.R_far (p := ⟨gb724, 3, none⟩) (Kd.R_far (p := ⟨gb724, 2, none⟩) (Kd.R_far (p := ⟨gb724, 1, none⟩) (Kd.R_far (p := ⟨gb724, 0, none⟩) (Kd.R_types HO722.out BK724.out (by decide)) Zg (.string t712)) Zg (.int .u8 t713)) Zg (.int .u8 t714)) Zg (.int .i64 t715)) Zg (.int .i64 t716)) Zg (.int .i64 t717)) Zg (.int .u16 t718)) Zg (.bool t719)) Zg (.slice Ao106 t720.length co106)) (fun _ h_ => h_.1)))); (case side2 => exact (Kd.R_reads' HO722.out).2.1); (case side3 => first | (with_reducible exact HGP.out) | exact GP_below HGP.out (Zb3 GE691.out GE692.out GE724.out)); rintro e w107 ⟨rfl, hb⟩; refine ⟨_, rfl, ?_⟩; replace HO722 := Aside0.mk (Kd.R_below (by (with_reducible repeat (first | apply Kd.R_alloc | apply Kd.R_drewN | apply Kd.R_drew)); exact (Kd.R_mono (Kd.R_far (p := ⟨gb724, 8, none⟩) (Kd.R_far (p := ⟨gb724, 7, none⟩) (Kd.R_far (p := ⟨gb724, 6, none⟩) (Kd.R_far (p := ⟨gb724, 5, none⟩) (Kd.R_far (p := ⟨gb724, 4, none⟩) (Kd.R_far (p := ⟨gb724, 3, none⟩) (Kd.R_far (p := ⟨gb724, 2, none⟩) (Kd.R_far (p := ⟨gb724, 1, none⟩) (Kd.R_far (p := ⟨gb724, 0, none⟩) (Kd.R_types HO722.out BK724.out (by decide)) Zg (.string t712)) Zg (.int .u8 t713)) Zg (.int .u8 t714)) Zg (.int .i64 t715)) Zg (.int .i64 t716)) Zg (.int .i64 t717)) Zg (.int .u16 t718)) Zg (.bool t719)) Zg (.slice Ao106 t720.length co106)) (fun _ h_ => h_.1))) hb); replace BK691 := Aside0.mk (blk_below (g := gb691) (o := .cells #[.string a0_0, .int .u8 a0_1, .int .u8 a0_2, .int .i64 a0_3, .int .i64 a0_4, .int .i64 a0_5, .int .u16 a0_6, .bool a0_7, .slice A0_8 l0_8.length c0_8] 28 (0, 0)) (by (with_reducible repeat (first | apply blk_kn | apply blk_kd | apply blk_ka)); refine blk_far ?_ NB691_724.out _; (with_reducible repeat (first | apply blk_kn | apply blk_kd | apply blk_ka)); refine blk_far ?_ NB691_724.out _; (with_reducible repeat (first | apply blk_kn | apply blk_kd | apply blk_ka)); refine blk_far ?_ NB691_724.out _; (with_reducible repeat (first | apply blk_kn | apply blk_kd | apply blk_ka)); refine blk_far ?_ NB691_724.out _; (with_reducible repeat (first | apply blk_kn | apply blk_kd | apply blk_ka)); refine blk_far ?_ NB691_724.out _; (with_reducible repeat (first | apply blk_kn | apply blk_kd | apply blk_ka)); refine blk_far ?_ NB691_724.out _; (with_reducible repeat (first | apply blk_kn | apply blk_kd | apply blk_ka)); refine blk_far ?_ NB691_724.out _; (with_reducible repeat (first | apply blk_kn | apply blk_kd | apply blk_ka)); refine blk_far ?_ NB691_724.out _; (with_reducible repeat (first | apply blk_kn | apply blk_kd | apply blk_ka)); refine blk_far ?_ NB691_724.out _; exact Zk BK691.out) hb); replace BK692 := Aside0.mk (blk_below (g := gb692) (o := .cells #[.string a1_0, .int .u8 a1_1, .int .u8 a1_2, .int .i64 a1_3, .int .i64 a1_4, .int .i64 a1_5, .int .u16 a1_6, .bool a1_7, .slice A1_8 l1_8.length c1_8] 28 (0, 0)) (by (with_reducible repeat (first | apply blk_kn | apply blk_kd | apply blk_ka)); refine blk_far ?_ NB692_724.out _; (with_reducible repeat (first | apply blk_kn | apply blk_kd | apply blk_ka)); refine blk_far ?_ NB692_724.out _; (with_reducible repeat (first | apply blk_kn | apply blk_kd | apply blk_ka)); refine blk_far ?_ NB692_724.out _; (with_reducible repeat (first | apply blk_kn | apply blk_kd | apply blk_ka)); refine blk_far ?_ NB692_724.out _; (with_reducible repeat (first | apply blk_kn | apply blk_kd | apply blk_ka)); refine blk_far ?_ NB692_724.out _; (with_reducible repeat (first | apply blk_kn | apply blk_kd | apply blk_ka)); refine blk_far ?_ NB692_724.out _; (with_reducible repeat (first | apply blk_kn | apply blk_kd | apply blk_ka)); refine blk_far ?_ NB692_724.out _; (with_reducible repeat (first | apply blk_kn | apply blk_kd | apply blk_ka)); refine blk_far ?_ NB692_724.out _; (with_reducible repeat (first | apply blk_kn | apply blk_kd | apply blk_ka)); refine blk_far ?_ NB692_724.out _; exact Zk BK692.out) hb); replace BK724 := Aside0.mk (blk_below (g := gb724) (o := .cells #[.string t712, .int .u8 t713, .int .u8 t714, .int .i64 t715, .int .i64 t716, .int .i64 t717, .int .u16 t718, .bool t719, .slice Ao106 t720.length co106] 28 (0, 0)) (by (with_reducible repeat (first | apply blk_kn | apply blk_kd | apply blk_ka)); refine blk_put (cs := #[.string t712, .int .u8 t713, .int .u8 t714, .int .i64 t715, .int .i64 t716, .int .i64 t717, .int .u16 t718, .bool t719, .slice none 0 0]) ?_ 8 _ rfl; (with_reducible repeat (first | apply blk_kn | apply blk_kd | apply blk_ka)); refine blk_put (cs := #[.string t712, .int .u8 t713, .int .u8 t714, .int .i64 t715, .int .i64 t716, .int .i64 t717, .int .u16 t718, .bool false, .slice none 0 0]) ?_ 7 _ rfl; (with_reducible repeat (first | apply blk_kn | apply blk_kd | apply blk_ka)); refine blk_put (cs := #[.string t712, .int .u8 t713, .int .u8 t714, .int .i64 t715, .int .i64 t716, .int .i64 t717, .int .u16 0, .bool false, .slice none 0 0]) ?_ 6 _ rfl; (with_reducible repeat (first | apply blk_kn | apply blk_kd | apply blk_ka)); refine blk_put (cs := #[.string t712, .int .u8 t713, .int .u8 t714, .int .i64 t715, .int .i64 t716, .int .i64 0, .int .u16 0, .bool false, .slice none 0 0]) ?_ 5 _ rfl; (with_reducible repeat (first | apply blk_kn | apply blk_kd | apply blk_ka)); refine blk_put (cs := #[.string t712, .int .u8 t713, .int .u8 t714, .int .i64 t715, .int .i64 0, .int .i64 0, .int .u16 0, .bool false, .slice none 0 0]) ?_ 4 _ rfl; (with_reducible repeat (first | apply blk_kn | apply blk_kd | apply blk_ka)); refine blk_put (cs := #[.string t712, .int .u8 t713, .int .u8 t714, .int .i64 0, .int .i64 0, .int .i64 0, .int .u16 0, .bool false, .slice none 0 0]) ?_ 3 _ rfl; (with_reducible repeat (first | apply blk_kn | apply blk_kd | apply blk_ka)); refine blk_put (cs := #[.string t712, .int .u8 t713, .int .u8 0, .int .i64 0, .int .i64 0, .int .i64 0, .int .u16 0, .bool false, .slice none 0 0]) ?_ 2 _ rfl; (with_reducible repeat (first | apply blk_kn | apply blk_kd | apply blk_ka)); refine blk_put (cs := #[.string t712, .int .u8 0, .int .u8 0, .int .i64 0, .int .i64 0, .int .i64 0, .int .u16 0, .bool false, .slice none 0 0]) ?_ 1 _ rfl; (with_reducible repeat (first | apply blk_kn | apply blk_kd | apply blk_ka)); refine blk_put (cs := #[.string (⟨#[]⟩ : ByteArray), .int .u8 0, .int .u8 0, .int .i64 0, .int .i64 0, .int .i64 0, .int .u16 0, .bool false, .slice none 0 0]) ?_ 0 _ rfl; exact Zk BK724.out) hb); replace HB := Aside0.mk (below_step (Zb3 GE691.out GE692.out GE724.out) hb); (try clear hb); (try clear hb2); (try clear hk); (try clear hi)))
        go_ret
        exact ⟨Ze, Zb3 GE691.out GE692.out GE724.out⟩
      ·rw [if_neg c68] at H
       have c68b0 : (t723 == 0) = false := beq_eq_false_iff_ne.mpr c68
       have c68b1 : (t723 != 0) = true := bne_iff_ne.mpr c68
       replace H := Option.bind_eq_some_iff.mp H
       obtain ⟨t729, A1080, H⟩ := H
       replace H : (some t729) = some r := H
       have A108 := Aside0.mk A1080
       clear A1080
       obtain rfl := Option.some.inj H
       go_wp2_with (first | ((with_reducible refine gate_callee (f := 25) rfl ?_); refine goesL_ (some 64) rfl rfl Tryz.func25 (by kernel_rfl) rfl #[.string a2] rfl Zl ?_; (with_reducible refine (card_Parse.calls kj52 a2 t712 t713 t714 t715 t716 t717 t718 t719 t720 t723 _ ?side1 A67.out).mono ?_); (case side1 => first | (with_reducible exact HGP.out) | exact GP_below HGP.out (Zb2 GE691.out GE692.out)); rintro e w109 ⟨v721, rfl, ho0, hb⟩; refine ⟨_, rfl, ?_⟩; have HO722 := Aside0.mk (Kd.R_lower ho0 (below_size (Zb2 GE691.out GE692.out))); replace BK691 := Aside0.mk (blk_below (Zj BK691.out) hb); replace BK692 := Aside0.mk (blk_below (Zj BK692.out) hb); replace HB := Aside0.mk (below_step (Zb2 GE691.out GE692.out) hb); (try clear hb); (try clear hb2); (try clear hk); (try clear hi); (try clear ho0)) | ((with_reducible refine gate_dst (N := 13) rfl ?_); (try (refine gate_guard (by rfl) ?_; dsimp only)); refine box_event ?hg (N := 13) ?hd (cs := #[.string (⟨#[]⟩ : ByteArray), .int .u8 0, .int .u8 0, .int .i64 0, .int .i64 0, .int .i64 0, .int .u16 0, .bool false, .slice none 0 0]) (t := 28) ?hr ?_; (case hd => rfl); (case hg => rfl); (case hr => first | (go_simp; done) | (go_simp; rfl)); intro gb724 hg w110 hbox hb; replace HO722 := Aside0.mk (Kd.R_below (Zq HO722.out) hb); have BK724 := Aside0.mk (hbox); have GW724 := Aside0.mk ((by rw [hg]; exact (below_size (Zb2 GE691.out GE692.out)) : w.heap.size ≤ gb724)); have GE724 := Aside0.mk ((by rw [hg]; exact (below_size (Zb2 GE691.out GE692.out)) : w.heap.size ≤ gb724)); replace HB := Aside0.mk (below_step (Zb2 GE691.out GE692.out) hb); have NB691_724 := Aside0.mk ((by rw [hg]; exact Nat.ne_of_lt (blk_lt (Zj BK691.out)) : gb691 ≠ gb724)); have NB724_691 := Aside0.mk ((by rw [hg]; exact Nat.ne_of_gt (blk_lt (Zj BK691.out)) : gb724 ≠ gb691)); replace BK691 := Aside0.mk (blk_below (Zj BK691.out) hb); have NB692_724 := Aside0.mk ((by rw [hg]; exact Nat.ne_of_lt (blk_lt (Zj BK692.out)) : gb692 ≠ gb724)); have NB724_692 := Aside0.mk ((by rw [hg]; exact Nat.ne_of_gt (blk_lt (Zj BK692.out)) : gb724 ≠ gb692)); replace BK692 := Aside0.mk (blk_below (Zj BK692.out) hb); clear hb hbox hg; have hnb111 := NB724_691.out; have hnc111 := NB691_724.out; have hnb112 := NB724_692.out; have hnc112 := NB692_724.out; obtain ⟨hcz113_0, hcz113_1, hcz113_2, hcz113_3, hcz113_4, hcz113_5, hcz113_6, hcz113_7, hcz113_8, hfz113_0, hfz113_1, hfz113_2, hfz113_3, hfz113_4, hfz113_5, hfz113_6, hfz113_7, hfz113_8⟩ := Z9 BK724.out; obtain ⟨Ao114, co114, eo114⟩ := Kd.R_slice HO722.out; subst eo114) | ((with_reducible refine gate_callee (f := 27) rfl ?_); refine goesL_ (some 69) rfl rfl Tryz.func27 (by kernel_rfl) rfl #[] rfl Zl ?_; (with_reducible refine (gambitlaw06_awake.calls kj52  t729 _ ?side1 A108.out).mono ?_); (case side1 => first | (with_reducible exact HGP.out) | exact GP_below HGP.out (Zb3 GE691.out GE692.out GE724.out)); rintro e w115 ⟨rfl, hb⟩; refine ⟨_, rfl, ?_⟩; replace HO722 := Aside0.mk (Kd.R_below (by (with_reducible repeat (first | apply Kd.R_alloc | apply Kd.R_drewN | apply Kd.R_drew)); exact (Kd.R_mono (Kd.R_far (p := ⟨gb724, 8, none⟩) (Kd.R_far (p := ⟨gb724, 7, none⟩) (Kd.R_far (p := ⟨gb724, 6, none⟩) (Kd.R_far (p := ⟨gb724, 5, none⟩) (Kd.R_far (p := ⟨gb724, 4, none⟩) (Kd.R_far (p := ⟨gb724, 3, none⟩) (Kd.R_far (p := ⟨gb724, 2, none⟩) (Kd.R_far (p := ⟨gb724, 1, none⟩) (Kd.R_far (p := ⟨gb724, 0, none⟩) (Kd.R_types HO722.out BK724.out (by decide)) Zg (.string t712)) Zg (.int .u8 t713)) Zg (.int .u8 t714)) Zg (.int .i64 t715)) Zg (.int .i64 t716)) Zg (.int .i64 t717)) Zg (.int .u16 t718)) Zg (.bool t719)) Zg (.slice Ao114 t720.length co114)) (fun _ h_ => h_.1))) hb); replace BK691 := Aside0.mk (blk_below (g := gb691) (o := .cells #[.string a0_0, .int .u8 a0_1, .int .u8 a0_2, .int .i64 a0_3, .int .i64 a0_4, .int .i64 a0_5, .int .u16 a0_6, .bool a0_7, .slice A0_8 l0_8.length c0_8] 28 (0, 0)) (by (with_reducible repeat (first | apply blk_kn | apply blk_kd | apply blk_ka)); refine blk_far ?_ NB691_724.out _; (with_reducible repeat (first | apply blk_kn | apply blk_kd | apply blk_ka)); refine blk_far ?_ NB691_724.out _; (with_reducible repeat (first | apply blk_kn | apply blk_kd | apply blk_ka)); refine blk_far ?_ NB691_724.out _; (with_reducible repeat (first | apply blk_kn | apply blk_kd | apply blk_ka)); refine blk_far ?_ NB691_724.out _; (with_reducible repeat (first | apply blk_kn | apply blk_kd | apply blk_ka)); refine blk_far ?_ NB691_724.out _; (with_reducible repeat (first | apply blk_kn | apply blk_kd | apply blk_ka)); refine blk_far ?_ NB691_724.out _; (with_reducible repeat (first | apply blk_kn | apply blk_kd | apply blk_ka)); refine blk_far ?_ NB691_724.out _; (with_reducible repeat (first | apply blk_kn | apply blk_kd | apply blk_ka)); refine blk_far ?_ NB691_724.out _; (with_reducible repeat (first | apply blk_kn | apply blk_kd | apply blk_ka)); refine blk_far ?_ NB691_724.out _; exact Zk BK691.out) hb); replace BK692 := Aside0.mk (blk_below (g := gb692) (o := .cells #[.string a1_0, .int .u8 a1_1, .int .u8 a1_2, .int .i64 a1_3, .int .i64 a1_4, .int .i64 a1_5, .int .u16 a1_6, .bool a1_7, .slice A1_8 l1_8.length c1_8] 28 (0, 0)) (by (with_reducible repeat (first | apply blk_kn | apply blk_kd | apply blk_ka)); refine blk_far ?_ NB692_724.out _; (with_reducible repeat (first | apply blk_kn | apply blk_kd | apply blk_ka)); refine blk_far ?_ NB692_724.out _; (with_reducible repeat (first | apply blk_kn | apply blk_kd | apply blk_ka)); refine blk_far ?_ NB692_724.out _; (with_reducible repeat (first | apply blk_kn | apply blk_kd | apply blk_ka)); refine blk_far ?_ NB692_724.out _; (with_reducible repeat (first | apply blk_kn | apply blk_kd | apply blk_ka)); refine blk_far ?_ NB692_724.out _; (with_reducible repeat (first | apply blk_kn | apply blk_kd | apply blk_ka)); refine blk_far ?_ NB692_724.out _; (with_reducible repeat (first | apply blk_kn | apply blk_kd | apply blk_ka)); refine blk_far ?_ NB692_724.out _; (with_reducible repeat (first | apply blk_kn | apply blk_kd | apply blk_ka)); refine blk_far ?_ NB692_724.out _; (with_reducible repeat (first | apply blk_kn | apply blk_kd | apply blk_ka)); refine blk_far ?_ NB692_724.out _; exact Zk BK692.out) hb); replace BK724 := Aside0.mk (blk_below (g := gb724) (o := .cells #[.string t712, .int .u8 t713, .int .u8 t714, .int .i64 t715, .int .i64 t716, .int .i64 t717, .int .u16 t718, .bool t719, .slice Ao114 t720.length co114] 28 (0, 0)) (by (with_reducible repeat (first | apply blk_kn | apply blk_kd | apply blk_ka)); refine blk_put (cs := #[.string t712, .int .u8 t713, .int .u8 t714, .int .i64 t715, .int .i64 t716, .int .i64 t717, .int .u16 t718, .bool t719, .slice none 0 0]) ?_ 8 _ rfl; (with_reducible repeat (first | apply blk_kn | apply blk_kd | apply blk_ka)); refine blk_put (cs := #[.string t712, .int .u8 t713, .int .u8 t714, .int .i64 t715, .int .i64 t716, .int .i64 t717, .int .u16 t718, .bool false, .slice none 0 0]) ?_ 7 _ rfl; (with_reducible repeat (first | apply blk_kn | apply blk_kd | apply blk_ka)); refine blk_put (cs := #[.string t712, .int .u8 t713, .int .u8 t714, .int .i64 t715, .int .i64 t716, .int .i64 t717, .int .u16 0, .bool false, .slice none 0 0]) ?_ 6 _ rfl; (with_reducible repeat (first | apply blk_kn | apply blk_kd | apply blk_ka)); refine blk_put (cs := #[.string t712, .int .u8 t713, .int .u8 t714, .int .i64 t715, .int .i64 t716, .int .i64 0, .int .u16 0, .bool false, .slice none 0 0]) ?_ 5 _ rfl; (with_reducible repeat (first | apply blk_kn | apply blk_kd | apply blk_ka)); refine blk_put (cs := #[.string t712, .int .u8 t713, .int .u8 t714, .int .i64 t715, .int .i64 0, .int .i64 0, .int .u16 0, .bool false, .slice none 0 0]) ?_ 4 _ rfl; (with_reducible repeat (first | apply blk_kn | apply blk_kd | apply blk_ka)); refine blk_put (cs := #[.string t712, .int .u8 t713, .int .u8 t714, .int .i64 0, .int .i64 0, .int .i64 0, .int .u16 0, .bool false, .slice none 0 0]) ?_ 3 _ rfl; (with_reducible repeat (first | apply blk_kn | apply blk_kd | apply blk_ka)); refine blk_put (cs := #[.string t712, .int .u8 t713, .int .u8 0, .int .i64 0, .int .i64 0, .int .i64 0, .int .u16 0, .bool false, .slice none 0 0]) ?_ 2 _ rfl; (with_reducible repeat (first | apply blk_kn | apply blk_kd | apply blk_ka)); refine blk_put (cs := #[.string t712, .int .u8 0, .int .u8 0, .int .i64 0, .int .i64 0, .int .i64 0, .int .u16 0, .bool false, .slice none 0 0]) ?_ 1 _ rfl; (with_reducible repeat (first | apply blk_kn | apply blk_kd | apply blk_ka)); refine blk_put (cs := #[.string (⟨#[]⟩ : ByteArray), .int .u8 0, .int .u8 0, .int .i64 0, .int .i64 0, .int .i64 0, .int .u16 0, .bool false, .slice none 0 0]) ?_ 0 _ rfl; exact Zk BK724.out) hb); replace HB := Aside0.mk (below_step (Zb3 GE691.out GE692.out GE724.out) hb); (try clear hb); (try clear hb2); (try clear hk); (try clear hi)))
       go_ret
       exact ⟨Ze, Zb3 GE691.out GE692.out GE724.out⟩
end Go.Proofs.YtfpcideomanbbaaGreatDoor.PA
end
section
namespace Go.Proofs.YtfpcideomanbbaaGreatDoor.PA
open Go.RowKit Go.Proofs.YtfpcideomanbbaaGreatDoorW.PrintWords Go.Proofs.YtfpcideomanbbaaGreatDoorW.PrintLast Go.Proofs.YtfpcideomanbbaaGreatDoorW.PrintMore
theorem check_zero {nm : ByteArray} {su kd co pw hp tr : Int} {tk : Bool} {L : List S48} {k0 : Nat} (h : card_Check.f k0 nm su kd co pw hp tr tk L = some 0) (K : Nat) : card_Check.f (K + 10) nm su kd co pw hp tr tk L = some 0 := by
  obtain ⟨e, h1, _⟩ := check_card nm su kd co pw hp tr tk L K
  have h2 := check_up h (K + 10)
  have h3 := check_up h1 k0
  rw [show K + 10 + k0 = k0 + (K + 10) by omega, h2] at h3
  rw [h1, ← Option.some.inj h3]
theorem print_total (nm : ByteArray) (su kd co pw hp tr : Int) (tk : Bool) (L : List S48) (k : Nat) : ∃ t e, card_Print.f (k + 30) nm su kd co pw hp tr tk L = some (t, e) ∧
    (e = 0 → Face nm su kd co pw hp tr tk L.length ∧ (∀ p ∈ L, okS p) ∧ t = textB (cardW nm su kd co pw hp tr tk L) ∧ card_Check.f (k + 30) nm su kd co pw hp tr tk L = some 0) := by
  obtain ⟨e, h1, h2⟩ := check_card nm su kd co pw hp tr tk L (k + 20)
  by_cases h0 : e = 0
  · subst h0
    obtain ⟨f, ho⟩ := h2 rfl
    exact ⟨_, _, print_card f ho k h1, fun _ => ⟨f, ho, rfl, h1⟩⟩
  · refine ⟨⟨#[]⟩, e, ?_, fun q => absurd q h0⟩
    unfold card_Print.f
    rw [show k + 30 = k + 20 + 10 by omega, h1, Option.bind_some, if_neg h0]
def Res (s : ByteArray) (r : ByteArray × Int × Int × Int × Int × Int × Int × Bool × List S48 × Int) : Prop :=
  r.2.2.2.2.2.2.2.2.2 = 0 → Face r.1 r.2.1 r.2.2.1 r.2.2.2.1 r.2.2.2.2.1 r.2.2.2.2.2.1 r.2.2.2.2.2.2.1 r.2.2.2.2.2.2.2.1 r.2.2.2.2.2.2.2.2.1.length ∧ (∀ p ∈ r.2.2.2.2.2.2.2.2.1, okS p) ∧
    textB (cardW r.1 r.2.1 r.2.2.1 r.2.2.2.1 r.2.2.2.2.1 r.2.2.2.2.2.1 r.2.2.2.2.2.2.1 r.2.2.2.2.2.2.2.1 r.2.2.2.2.2.2.2.2.1) = s ∧
    ∃ k, card_Check.f k r.1 r.2.1 r.2.2.1 r.2.2.2.1 r.2.2.2.2.1 r.2.2.2.2.2.1 r.2.2.2.2.2.2.1 r.2.2.2.2.2.2.2.1 r.2.2.2.2.2.2.2.2.1 = some 0
theorem j1_end (s rest : ByteArray) (ok : Bool) (nm : ByteArray) (su kd co pw hp tr : Int) (tk : Bool) (L : List S48) (k : Nat) : ∃ r, card_Parse.j1 (k + 31) s rest ok false nm su kd co pw hp tr tk L = some r ∧ Res s r := by
  obtain ⟨t, e, h1, h2⟩ := print_total nm su kd co pw hp tr tk L k
  rw [card_Parse.j1, if_neg (by decide), h1, Option.bind_some]
  simp only
  by_cases ho : ok = true
  · rw [if_pos ho]
    by_cases he : e = 0
    · rw [if_pos he]
      obtain ⟨f, hp', ht, hc⟩ := h2 he
      by_cases hs : t = s
      · rw [if_pos ((toList_eq_iff _ _).2 hs)]
        exact ⟨_, rfl, fun _ => ⟨f, hp', ht.symm.trans hs, _, hc⟩⟩
      · rw [if_neg (fun q => hs ((toList_eq_iff _ _).1 q))]
        exact ⟨_, rfl, fun q => by cases q⟩
    · rw [if_neg he]; exact ⟨_, rfl, fun q => by cases q⟩
  · rw [if_neg ho]; exact ⟨_, rfl, fun q => by cases q⟩
theorem l0_end (s rest : ByteArray) (more ok : Bool) (h : ok = false ∨ more = false) (nm : ByteArray) (su kd co pw hp tr : Int) (tk : Bool) (L : List S48) (k : Nat) : ∃ r, card_Parse.l0 (k + 32) s rest more ok nm su kd co pw hp tr tk L = some r ∧ Res s r := by
  rw [card_Parse.l0]
  by_cases ho : ok = true
  · rw [if_pos ho]
    obtain rfl : more = false := h.resolve_left (by rw [ho]; decide)
    exact j1_end s rest ok nm su kd co pw hp tr tk L k
  · rw [if_neg ho]
    exact j1_end s rest ok nm su kd co pw hp tr tk L k
def cutR (w : ByteArray) : ByteArray := ⟨(Lib.cut (bl w) [32, 124, 32]).1.toArray⟩
def cutS (w : ByteArray) : ByteArray := ⟨(Lib.cut (bl w) [32, 124, 32]).2.1.toArray⟩
theorem cut_eff (w : ByteArray) (h : w.size ≤ 100000) : strings_Cut.f w (⟨#[32, 124, 32]⟩ : ByteArray) = some (cutR w, cutS w, (Lib.cut (bl w) [32, 124, 32]).2.2) := by
  unfold strings_Cut.f; rw [if_pos (by omega)]; rfl
theorem parse_total (s : ByteArray) (nm : ByteArray) (su kd co pw hp tr : Int) (tk : Bool) : ∀ (n : Nat) (rest : ByteArray) (more ok : Bool) (L : List S48) (k : Nat), rest.size ≤ n → n ≤ 10000 → L.length + n ≤ 20000 →
    ∃ r, card_Parse.l0 (k + 2 * n + 40) s rest more ok nm su kd co pw hp tr tk L = some r ∧ Res s r := by
  intro n
  induction n using Nat.strongRecOn with
  | ind n ih =>
    intro rest more ok L k hr hn hL
    by_cases ho : ok = true
    · by_cases hm : more = true
      · subst ho hm
        rw [show k + 2 * n + 40 = (k + 2 * n + 38) + 2 by omega, card_Parse.l0, if_pos rfl, card_Parse.j1, if_pos rfl, cut_eff rest (by omega), Option.bind_some]
        simp only
        obtain ⟨w', v', h', c', su', tr', mk', nm', e', hpp, _⟩ := parse_any (cutR rest)
        rw [hpp, Option.bind_some]
        simp only
        have hlt : L.length < 3518437208883 := by omega
        have next : ∀ (ok' : Bool) (p : S48), ∃ r, card_Parse.l0 (k + 2 * n + 38) s (cutS rest) (Lib.cut (bl rest) [32, 124, 32]).2.2 ok' nm su kd co pw hp tr tk (L ++ [p]) = some r ∧ Res s r := by
          intro ok' p
          cases hc : (Lib.cut (bl rest) [32, 124, 32]).2.2
          · have := l0_end s (cutS rest) false ok' (.inr rfl) nm su kd co pw hp tr tk (L ++ [p]) (k + 2 * n + 6)
            rwa [show k + 2 * n + 6 + 32 = k + 2 * n + 38 by omega] at this
          · have hl := (cut_len (bl rest) [32, 124, 32]).2.2 hc
            have hsz : (cutS rest).size = (Lib.cut (bl rest) [32, 124, 32]).2.1.length := by simp [cutS, ByteArray.size]
            have hr' : (bl rest).length = rest.size := rfl
            simp only [List.length_cons, List.length_nil] at hl
            have := ih (n - 3) (by omega) (cutS rest) true ok' (L ++ [p]) (k + 4) (by omega) (by omega) (by simp; omega)
            rwa [show k + 4 + 2 * (n - 3) + 40 = k + 2 * n + 38 by omega] at this
        by_cases he : e' = 0
        · rw [if_pos he, if_pos hlt]; exact next _ _
        · rw [if_neg he, if_pos hlt]; exact next _ _
      · have := l0_end s rest more ok (.inr (by simpa using hm)) nm su kd co pw hp tr tk L (k + 2 * n + 8)
        rwa [show k + 2 * n + 8 + 32 = k + 2 * n + 40 by omega] at this
    · have := l0_end s rest more ok (.inl (by simpa using ho)) nm su kd co pw hp tr tk L (k + 2 * n + 8)
      rwa [show k + 2 * n + 8 + 32 = k + 2 * n + 40 by omega] at this
theorem cparse_any (s : ByteArray) (k : Nat) : ∃ r, card_Parse.f (k + 2200) s = some r ∧ Res s r := by
  unfold card_Parse.f
  by_cases hs : (s.size : Int) > 512
  · rw [if_pos hs]; exact ⟨_, rfl, fun q => by cases q⟩
  · have hs' : s.size ≤ 512 := by omega
    have hc := cut_len (bl s) [32, 124, 32]
    have hb : (bl s).length = s.size := rfl
    have z1 : (cutR s).size = (Lib.cut (bl s) [32, 124, 32]).1.length := by simp [cutR, ByteArray.size]
    have z2 : (cutS s).size = (Lib.cut (bl s) [32, 124, 32]).2.1.length := by simp [cutS, ByteArray.size]
    rw [if_neg hs, cut_eff s (by omega), Option.bind_some]
    simp only
    have hsp : strings_Split.f (cutR s) (⟨#[32]⟩ : ByteArray) = some (Lib.splitB ⟨#[32]⟩ 0 (Lib.countB (cutR s) ⟨#[32]⟩) (cutR s)) := by
      unfold strings_Split.f; rw [if_pos ⟨by omega, by decide⟩]
    have hl1 := Lib.splitB_length_le ⟨#[32]⟩ 0 (Lib.countB (cutR s) ⟨#[32]⟩) (cutR s)
    have hl2 := Lib.countB_le ⟨#[32]⟩ (by decide) (cutR s).size (cutR s) (Nat.le_refl _)
    have hz : ∀ w ∈ Lib.splitB ⟨#[32]⟩ 0 (Lib.countB (cutR s) ⟨#[32]⟩) (cutR s), w.size ≤ 1000 := fun w hw => by
      have := splitB_size ⟨#[32]⟩ 0 _ (cutR s) w hw; omega
    rw [hsp, Option.bind_some, show k + 2200 = (k + 1180) + 1020 by omega, read_any _ (by omega) hz (k + 1180), Option.bind_some]
    have := fun nm su kd co pw hp tr tk L ok hL => parse_total s nm su kd co pw hp tr tk 512 (cutS s) (Lib.cut (bl s) [32, 124, 32]).2.2 ok L (k + 1136) (by omega) (by omega) hL
    simp only [show k + 1136 + 2 * 512 + 40 = k + 1180 + 1020 by omega] at this
    split
    · exact this _ _ _ _ _ _ _ _ _ _ (by simp)
    · exact this _ _ _ _ _ _ _ _ _ _ (by simp)
theorem back_loop {nm : ByteArray} {su kd co pw hp tr : Int} {tk : Bool} {P : List S48} (f : Face nm su kd co pw hp tr tk P.length) (ho : ∀ p ∈ P, okS p) {k0 : Nat} (hc : card_Check.f k0 nm su kd co pw hp tr tk P = some 0) :
    ∀ (L A : List S48) (k : Nat), P = A ++ L → card_Parse.l0 (k + 2 * L.length + 32) (textB (cardW nm su kd co pw hp tr tk P)) ⟨(ahead L).toArray⟩ (!L.isEmpty) true nm su kd co pw hp tr tk A = some (nm, su, kd, co, pw, hp, tr, tk, P, 0)
  | [], A, k, e => by
    obtain rfl : P = A := by simpa using e
    rw [show k + 2 * ([] : List S48).length + 32 = (k + 30) + 2 by simp, card_Parse.l0, if_pos rfl, card_Parse.j1, if_neg (by decide), print_card f ho k (check_zero hc (k + 20)), Option.bind_some]
    simp only
    rw [if_pos trivial, if_pos trivial, if_pos trivial]
  | p :: L, A, k, e => by
    have ih := back_loop f ho hc L (A ++ [p]) k (by rw [e]; simp)
    have hq : okS p := ho p (by rw [e]; simp)
    have hlen : P.length = A.length + (L.length + 1) := by rw [e]; simp
    have h4 := f.ilen
    rw [show k + 2 * (p :: L).length + 32 = (k + 2 * L.length + 32) + 2 by simp; omega, card_Parse.l0, if_pos rfl, card_Parse.j1, if_pos (by simp)]
    have hcut : strings_Cut.f ⟨(ahead (p :: L)).toArray⟩ (⟨#[32, 124, 32]⟩ : ByteArray) = some (partT p, ⟨(ahead L).toArray⟩, !L.isEmpty) := by
      have hz : (ahead (p :: L)).length ≤ 512 := by
        have h1 := card_len f ho
        have h2 : (textB (cardW nm su kd co pw hp tr tk P)).size = (bl (textB (cardW nm su kd co pw hp tr tk P))).length := rfl
        rw [h2, card_text, e] at h1
        simp only [tailT, List.flatMap_append, List.flatMap_cons, List.length_append, List.length_cons] at h1
        simp only [ahead, tailT, List.length_append]
        omega
      unfold strings_Cut.f
      rw [if_pos (by simp [ByteArray.size]; omega)]
      have hh : Lib.cut (ahead (p :: L)) [32, 124, 32] = (bl (partT p), ahead L, !L.isEmpty) := cut_ahead (bl (partT p)) (part_nobar hq) L
      show some ((⟨(Lib.cut (ahead (p :: L)) [32, 124, 32]).1.toArray⟩ : ByteArray), (⟨(Lib.cut (ahead (p :: L)) [32, 124, 32]).2.1.toArray⟩ : ByteArray), (Lib.cut (ahead (p :: L)) [32, 124, 32]).2.2) = _
      rw [hh] <;> rfl
    rw [hcut, Option.bind_some]
    simp only
    have hpp := parse_text hq
    rw [show partT p = textB (words p.f0 p.f1 p.f2 p.f3 p.f4 p.f5 p.f6 p.f7) from rfl, hpp, Option.bind_some]
    simp only
    rw [if_pos trivial, if_pos (by omega), show decide ((A.length : Int) < 4) = true from decide_eq_true (by omega)]
    exact ih
theorem parse_card {nm : ByteArray} {su kd co pw hp tr : Int} {tk : Bool} {P : List S48} (f : Face nm su kd co pw hp tr tk P.length) (ho : ∀ p ∈ P, okS p) {k0 : Nat} (hc : card_Check.f k0 nm su kd co pw hp tr tk P = some 0) (k : Nat) :
    card_Parse.f (k + 2200) (textB (cardW nm su kd co pw hp tr tk P)) = some (nm, su, kd, co, pw, hp, tr, tk, P, 0) := by
  have hlen := card_len f ho
  have hl4 := f.ilen
  have ht := card_text nm su kd co pw hp tr tk P
  have hcut : Lib.cut (bl (textB (cardW nm su kd co pw hp tr tk P))) [32, 124, 32] = (headT nm su kd co pw hp tr tk, ahead P, !P.isEmpty) := by rw [ht]; exact cut_ahead _ (head_nobar f) P
  have hsz : (headT nm su kd co pw hp tr tk).length ≤ 512 := by
    have h2 : (textB (cardW nm su kd co pw hp tr tk P)).size = (bl (textB (cardW nm su kd co pw hp tr tk P))).length := rfl
    rw [h2, ht, List.length_append] at hlen; omega
  unfold card_Parse.f
  rw [if_neg (by omega), cut_eff _ (by omega), Option.bind_some]
  simp only
  have e1 : cutR (textB (cardW nm su kd co pw hp tr tk P)) = ⟨(headT nm su kd co pw hp tr tk).toArray⟩ := by unfold cutR; rw [hcut]
  have e2 : cutS (textB (cardW nm su kd co pw hp tr tk P)) = ⟨(ahead P).toArray⟩ := by unfold cutS; rw [hcut]
  have hsp : strings_Split.f ⟨(headT nm su kd co pw hp tr tk).toArray⟩ (⟨#[32]⟩ : ByteArray) = some (headW nm su kd co pw hp tr tk) := by
    unfold strings_Split.f
    rw [if_pos ⟨by simp [ByteArray.size]; omega, by decide⟩, head_split f]
  rw [e1, e2, hcut, hsp, Option.bind_some, show k + 2200 = (k + 1180) + 1020 by omega, read_head f, Option.bind_some]
  simp only
  have := back_loop f ho hc P [] (k + 2168 - 2 * P.length) (by simp)
  rw [show k + 2168 - 2 * P.length + 2 * P.length + 32 = k + 1180 + 1020 by omega] at this
  exact this
theorem part_same (p q : S48) : ((!(p.f0 == q.f0) || (!(p.f1 == q.f1) || (!(p.f2 == q.f2) || (!(p.f3 == q.f3) || (!(p.f4 == q.f4) || (!(p.f5 == q.f5) || (!(p.f6 == q.f6) || (!(p.f7.toList == q.f7.toList))))))))) = true) ↔ p ≠ q := by
  cases p; cases q
  simp only [ne_eq, S48.mk.injEq, Bool.or_eq_true, Bool.not_eq_true', beq_eq_false_iff_ne, toList_eq_iff, Classical.not_and_iff_not_or_not]
theorem same_loop (X Y : List S48) (hl : X.length = Y.length) (hb : X.length ≤ 1000) : ∀ (d i k : Nat), d = X.length - i → i ≤ X.length → ∃ b, gambitkit_SameParts.l0 (k + d + 1) X Y (i : Int) = some b ∧ (b = true ↔ X.drop i = Y.drop i) := by
  intro d
  induction d with
  | zero =>
    intro i k hd hi
    rw [gambitkit_SameParts.l0, if_neg (by omega), List.drop_of_length_le (by omega), List.drop_of_length_le (by omega)]
    exact ⟨true, rfl, by simp⟩
  | succ d ih =>
    intro i k hd hi
    have hx : i < X.length := by omega
    have hy : i < Y.length := by omega
    have hw : wrap64 ((i : Int) + 1) = ((i + 1 : Nat) : Int) := by rw [w64 (by omega) (by omega)]; rfl
    have dx : X.drop i = X[i] :: X.drop (i + 1) := List.drop_eq_getElem_cons hx
    have dy : Y.drop i = Y[i] :: Y.drop (i + 1) := List.drop_eq_getElem_cons hy
    rw [show k + (d + 1) + 1 = (k + d + 1) + 1 by omega, gambitkit_SameParts.l0, if_pos (by omega), if_pos (by omega), if_pos (by omega), rd48 X i hx, rd48 Y i hy, hw, dx, dy]
    by_cases he : X[i] = Y[i]
    · rw [if_neg (fun q => (part_same _ _).1 q he)]
      obtain ⟨b, h1, h2⟩ := ih (i + 1) k (by omega) (by omega)
      exact ⟨b, h1, by rw [h2]; exact ⟨fun q => by rw [he, q], fun q => (List.cons.inj q).2⟩⟩
    · rw [if_pos ((part_same _ _).2 he)]
      exact ⟨false, rfl, ⟨fun q => (by cases q), fun q => absurd (List.cons.inj q).1 he⟩⟩
theorem same_card (nm : ByteArray) (su kd co pw hp tr : Int) (tk : Bool) (L : List S48) (nm' : ByteArray) (su' kd' co' pw' hp' tr' : Int) (tk' : Bool) (L' : List S48) (hb : L.length ≤ 1000) (k : Nat) :
    ∃ b, gambitkit_SameCard.f (k + 1002) nm su kd co pw hp tr tk L nm' su' kd' co' pw' hp' tr' tk' L' = some b ∧ (b = true ↔ (nm, su, kd, co, pw, hp, tr, tk, L) = (nm', su', kd', co', pw', hp', tr', tk', L')) := by
  unfold gambitkit_SameCard.f
  simp only [Prod.mk.injEq]
  by_cases h0 : nm = nm'
  · rw [if_pos ((toList_eq_iff _ _).2 h0)]
    by_cases h1 : su = su'
    · rw [if_pos h1]
      by_cases h2 : kd = kd'
      · rw [if_pos h2]
        by_cases h3 : co = co'
        · rw [if_pos h3]
          by_cases h4 : pw = pw'
          · rw [if_pos h4]
            by_cases h5 : hp = hp'
            · rw [if_pos h5]
              by_cases h6 : tr = tr'
              · rw [if_pos h6]
                by_cases h7 : tk = tk'
                · rw [if_pos (by simpa using h7)]
                  unfold gambitkit_SameParts.f
                  by_cases h8 : L.length = L'.length
                  · rw [if_pos (by omega)]
                    obtain ⟨b, h9, h10⟩ := same_loop L L' h8 hb L.length 0 (k + 1001 - L.length) (by omega) (by omega)
                    rw [show k + 1001 - L.length + L.length + 1 = k + 1002 by omega] at h9
                    rw [show ((0 : Nat) : Int) = 0 from rfl] at h9
                    rw [h9, Option.bind_some]
                    exact ⟨b, rfl, by rw [h10]; simp [h0, h1, h2, h3, h4, h5, h6, h7]⟩
                  · rw [if_neg (by omega), Option.bind_some]
                    exact ⟨false, rfl, by simp; intros; intro q; exact h8 (by rw [q])⟩
                · rw [if_neg (by simpa using h7)]; exact ⟨false, rfl, by simp [h7]⟩
              · rw [if_neg h6]; exact ⟨false, rfl, by simp [h6]⟩
            · rw [if_neg h5]; exact ⟨false, rfl, by simp [h5]⟩
          · rw [if_neg h4]; exact ⟨false, rfl, by simp [h4]⟩
        · rw [if_neg h3]; exact ⟨false, rfl, by simp [h3]⟩
      · rw [if_neg h2]; exact ⟨false, rfl, by simp [h2]⟩
    · rw [if_neg h1]; exact ⟨false, rfl, by simp [h1]⟩
  · rw [if_neg (fun q => h0 ((toList_eq_iff _ _).1 q))]; exact ⟨false, rfl, by simp [h0]⟩
theorem awake_true : gambitlaw06_awake.f 2300 = some true := by
  have c1 : card_Check.f 30 (⟨#[114, 111, 99, 107]⟩ : ByteArray) 2 1 1 1 1 0 false ([] : List S48) = some 0 := by decide +kernel
  obtain ⟨e, h1, h2⟩ := check_card (⟨#[114, 111, 99, 107]⟩ : ByteArray) 2 1 1 1 1 0 false ([] : List S48) 20
  rw [c1] at h1
  obtain ⟨f, _⟩ := h2 (Option.some.inj h1).symm
  have c2 := check_zero c1 2290
  have p1 := print_card f (fun p hp => by cases hp) 2270 (check_zero c1 2290)
  have c3 : card_Check.f 30 (⟨#[114, 111, 99, 107]⟩ : ByteArray) 2 1 1 1 1 2 true ([] : List S48) = some 0 := by decide +kernel
  obtain ⟨e', h3, h4⟩ := check_card (⟨#[114, 111, 99, 107]⟩ : ByteArray) 2 1 1 1 1 2 true ([] : List S48) 20
  rw [c3] at h3
  obtain ⟨g, _⟩ := h4 (Option.some.inj h3).symm
  have p2 := parse_card g (fun p hp => by cases hp) c3 100
  have t2 : textB (cardW (⟨#[114, 111, 99, 107]⟩ : ByteArray) 2 1 1 1 1 2 true []) = (⟨#[114, 111, 99, 107, 32, 101, 97, 114, 116, 104, 32, 117, 110, 105, 116, 32, 49, 32, 49, 47, 49, 32, 116, 111, 107, 101, 110, 32, 43, 103, 117, 97, 114, 100]⟩ : ByteArray) := by decide +kernel
  rw [t2] at p2
  have t1 : textB (cardW (⟨#[114, 111, 99, 107]⟩ : ByteArray) 2 1 1 1 1 0 false []) = (⟨#[114, 111, 99, 107, 32, 101, 97, 114, 116, 104, 32, 117, 110, 105, 116, 32, 49, 32, 49, 47, 49]⟩ : ByteArray) := by decide +kernel
  rw [t1] at p1
  unfold gambitlaw06_awake.f
  rw [show gambitlaw06_rock.f = some ((⟨#[114, 111, 99, 107]⟩ : ByteArray), 2, 1, 1, 1, 1, 0, false, ([] : List (S48))) from rfl, Option.bind_some]
  simp only
  rw [p1, Option.bind_some, p2, Option.bind_some, c2, Option.bind_some]
  simp only
  rw [if_pos trivial, if_pos trivial, if_pos (by rw [ByteArray.toList_eq]), if_pos trivial, if_pos trivial, if_pos trivial, if_pos trivial]
  simp [ByteArray.toList_eq]
theorem cback_j1 (s : ByteArray) : gambitlaw06_CardBack.j1 2301 s false = some true := by
  obtain ⟨⟨nm, su, kd, co, pw, hp, tr, tk, L, e⟩, h1, h2⟩ := cparse_any s 100
  rw [gambitlaw06_CardBack.j1, if_neg (by decide), h1, Option.bind_some]
  simp only
  by_cases he : e = 0
  · obtain ⟨f, ho, ht, k0, hc⟩ := h2 he
    simp only at f ho ht hc
    have p := print_card f ho 2270 (check_zero hc 2290)
    rw [if_pos he, p, Option.bind_some, ht]
    simp only
    rw [if_pos trivial, if_pos trivial, check_zero hc 2290, Option.bind_some, if_pos rfl, awake_true, Option.bind_some]
  · rw [if_neg he, awake_true, Option.bind_some]
theorem law_cardback (nm : ByteArray) (su kd co pw hp tr : Int) (tk : Bool) (L : List S48) (nm' : ByteArray) (su' kd' co' pw' hp' tr' : Int) (tk' : Bool) (L' : List S48) (s : ByteArray) :
    ∃ k, gambitlaw06_CardBack.f k nm su kd co pw hp tr tk L nm' su' kd' co' pw' hp' tr' tk' L' s = some true := by
  refine ⟨2302, ?_⟩
  unfold gambitlaw06_CardBack.f
  obtain ⟨t, e, h1, h2⟩ := print_total nm su kd co pw hp tr tk L 2272
  obtain ⟨t', e', h3, h4⟩ := print_total nm' su' kd' co' pw' hp' tr' tk' L' 2272
  rw [h1, Option.bind_some, h3, Option.bind_some]
  simp only
  by_cases he : e = 0
  · obtain ⟨f, ho, ht, hc⟩ := h2 he
    subst ht
    have hp1 := parse_card f ho hc 102
    obtain ⟨b, h5, h6⟩ := same_card nm su kd co pw hp tr tk L nm su kd co pw hp tr tk L (by have := f.ilen; omega) 1300
    obtain rfl : b = true := h6.2 rfl
    have hlen := card_len f ho
    rw [if_pos he, hp1, Option.bind_some]
    simp only
    rw [if_pos trivial, h5, Option.bind_some, if_pos rfl, if_neg (by omega), gambitlaw06_CardBack.j0, if_pos he]
    by_cases he' : e' = 0
    · obtain ⟨f', ho', ht', hc'⟩ := h4 he'
      subst ht'
      have hp2 := parse_card f' ho' hc' 102
      obtain ⟨b', h7, h8⟩ := same_card nm su kd co pw hp tr tk L nm' su' kd' co' pw' hp' tr' tk' L' (by have := f.ilen; omega) 1299
      rw [if_pos he', h7, Option.bind_some]
      by_cases hT : textB (cardW nm su kd co pw hp tr tk L) = textB (cardW nm' su' kd' co' pw' hp' tr' tk' L')
      · rw [hT, hp2] at hp1
        have hb : b' = true := by
          rw [h8]
          simp only [Option.some.injEq, Prod.mk.injEq] at hp1 ⊢
          obtain ⟨a0, a1, a2, a3, a4, a5, a6, a7, a8, _⟩ := hp1
          exact ⟨a0.symm, a1.symm, a2.symm, a3.symm, a4.symm, a5.symm, a6.symm, a7.symm, a8.symm⟩
        rw [if_pos ((toList_eq_iff _ _).2 hT), hb]
        exact cback_j1 s
      · have hb : b' = false := by
          rw [← Bool.not_eq_true]
          intro q
          have := h8.1 q
          simp only [Prod.mk.injEq] at this
          obtain ⟨rfl, rfl, rfl, rfl, rfl, rfl, rfl, rfl, rfl⟩ := this
          exact hT rfl
        rw [if_neg (fun q => hT ((toList_eq_iff _ _).1 q)), hb]
        exact cback_j1 s
    · rw [if_neg he']; exact cback_j1 s
  · rw [if_neg he, gambitlaw06_CardBack.j0, if_neg he]; exact cback_j1 s
end Go.Proofs.YtfpcideomanbbaaGreatDoor.PA
end
section
namespace Go.Proofs.YtfpcideomanbbaaGreatDoor.CardBack
open Go.ChangeShapes Go.WideShapes Go.ChangeAt Go.RowKit Go.ChangeMaps Go.Deep Go.Joins Go.Proofs.YtfpcideomanbbaaGreatDoor
theorem own : ownKnob Tryz.prog.godebug = none := by kernel_rfl
theorem laidOut : laidOutB Tryz.prog = true := by kernel_rfl
set_option maxRecDepth 100000 in
theorem contract (H : Type) (enc : TypeId × Value → H) (W : World) (base : Nat) (args : Array Value) (ds gs : List (DataW H)) (before : List MemPlace)
    (hval : ∀ (j : Nat) t v, Tryz.f7.params[j]? = some t → args[j]? = some v → Value.okWide Tryz.prog W .any base t v)
    (hW : DataW.Whole enc Tryz.prog Tryz.f7.params.toList Rows.cardBackSpec.vars false W args.toList ds gs before) (hL : laidMet Tryz.prog Rows.cardBackRow.laid W) (hS : W.ShapedOpen Tryz.prog) :
    Calls Tryz.prog 7 args W fun e W' => ∃ v, e = .returned v ∧ Rows.cardBackSpec.post enc Tryz.prog Tryz.f7 false true false false W args v W' := by
  have hW' := hW
  obtain ⟨p, q, hA0, hV, rfl, hfz, hnd⟩ := hW
  have hA : DataW.TrodAll enc Tryz.prog W 0 (fun _ => true) true Tryz.f7.params.toList args.toList ds p := hA0
  rw [Tryz.params7] at hA hval
  obtain ⟨v0, vs0, d0, ds0, p0, q0, hargs, rfl, rfl, h0, r0⟩ := trodAll_cons hA
  obtain ⟨v1, vs1, d1, ds1, p1, q1, rfl, rfl, rfl, h1, r1⟩ := trodAll_cons r0
  obtain ⟨v2, vs2, d2, ds2, p2, q2, rfl, rfl, rfl, h2, r2⟩ := trodAll_cons r1
  obtain ⟨rfl, rfl, rfl⟩ := trodAll_nil r2
  obtain rfl : args = #[v0, v1, v2] := by cases args; simp_all
  obtain ⟨rfl, rfl⟩ := trodVars_none hV
  obtain ⟨a0, a1, a2, a3, a4, a5, a6, a7, A, l, c, rfl, hlA, hCA⟩ := open_card (hval 0 28 v0 rfl rfl) h0
  obtain ⟨b0, b1, b2, b3, b4, b5, b6, b7, B, m, c', rfl, hlB, hCB⟩ := open_card (hval 1 28 v1 rfl rfl) h1
  have k0 := h0
  have k1 := h1
  have lt0 : ∀ x ∈ p0, x.block < W.heap.size := by obtain ⟨m, hm⟩ := k0; exact DataW.trod_lt m _ _ _ hm
  have lt1 : ∀ x ∈ p1, x.block < W.heap.size := by obtain ⟨m, hm⟩ := k1; exact DataW.trod_lt m _ _ _ hm
  obtain ⟨s, rfl, rfl, rfl, ws⟩ := open_string Tryz.underlying9 (hval 2 9 v2 rfl rfl) h2
  clear hA0
  obtain ⟨k, hk⟩ := PA.law_cardback a0 a1 a2 a3 a4 a5 a6 a7 l b0 b1 b2 b3 b4 b5 b6 b7 m s
  refine (PA.gambitlaw06_CardBack.calls k a0 a1 a2 a3 a4 a5 a6 a7 A c l b0 b1 b2 b3 b4 b5 b6 b7 B c' m s true W (GP_of_row hL hS) hCA hlA hCB hlB hk).mono ?_
  rintro e W' ⟨rfl, bel⟩
  refine ⟨_, rfl, _, _, _, [], _, [], hW', trodAll_mk1 (shut_bool Tryz.underlying4 _), trodAll_cons_mk (Below.trod laidOut (by kernel_rfl) (of_decide_eq_true (by kernel_rfl)) k0 bel lt0) (trodAll_cons_mk (Below.trod laidOut (by kernel_rfl) (of_decide_eq_true (by kernel_rfl)) k1 bel lt1) (trodAll_cons_mk (shut_string Tryz.underlying9 ws) trodAll_mk0)), rfl, bel.frame _, fun h => by cases h⟩
def zeroCard : Value := .agg #[.string ⟨#[]⟩, .int .u8 0, .int .u8 0, .int .i64 0, .int .i64 0, .int .i64 0, .int .u16 0, .bool false, .slice none 0 0]
def zeroCardD {H : Type} : DataW H := .agg [.lit (.string []), .lit (.int .u8 0), .lit (.int .u8 0), .lit (.int .i64 0), .lit (.int .i64 0), .lit (.int .i64 0), .lit (.int .u16 0), .lit (.bool false), .nil]
theorem witness_row (os : Os) {H : Type} (enc : TypeId × Value → H) :
    (OpenSpec.ofChange Rows.cardBackSpec).preRow enc Tryz.prog Tryz.f7 Rows.cardBackRow.domain false Rows.cardBackRow.laid ((laidWorld os).forCall (fun _ _ => 0) ⟨#[], #[zeroCard, zeroCard, .string ⟨#[]⟩], []⟩).memory #[zeroCard, zeroCard, .string ⟨#[]⟩] := by
  have hw : (DataW.whole enc Tryz.prog ((laidWorld os).forCall (fun _ _ => 0) ⟨#[], #[zeroCard, zeroCard, .string ⟨#[]⟩], []⟩).memory Tryz.f7.params.toList Rows.cardBackSpec.vars false #[zeroCard, zeroCard, Value.string ⟨#[]⟩].toList 8).map (fun x => (x.1, x.2.1)) =
      some ([zeroCardD, zeroCardD, .lit (.string [])], []) := by kernel_rfl
  obtain ⟨⟨x1, x2, x3⟩, hx, hx1⟩ := Option.map_eq_some_iff.1 hw
  simp only [Prod.mk.injEq] at hx1
  obtain ⟨rfl, rfl⟩ := hx1
  exact OpenSpec.preRow_of_cond 8 hx (by kernel_rfl) (fun k hk => by cases hk) (by kernel_rfl) (laid_met os _)
set_option maxRecDepth 100000 in
theorem lifted (os : Os) (started : os.Started) (H : Type) (enc : TypeId × Value → H) (F : Stop.Interp) :
    ReturnsInHanded {} Tryz.checked os 7 .any ((OpenSpec.ofChange Rows.cardBackSpec).preRow enc Tryz.prog Tryz.f7 Rows.cardBackRow.domain false Rows.cardBackRow.laid) (((OpenSpec.ofChange Rows.cardBackSpec).at F).post enc Tryz.prog Tryz.f7 false true false false) := by
  refine returnsInHanded_of_row (C := Tryz.checked) (s := OpenSpec.ofChange Rows.cardBackSpec) own started (by kernel_rfl) Tryz.func7
    (witness_row_atRef (enc := enc) (C := Tryz.checked) false (laidWorld os) #[zeroCard, zeroCard, .string ⟨#[]⟩] rfl (by kernel_rfl) (by kernel_rfl) (by kernel_rfl) (witness_row os enc)) ?_
  intro W base args ds gs before hval hW _ _ _ hL hS _
  exact contract H enc W base args ds gs before hval hW hL hS
theorem said : Rows.CardBackSaid :=
  OpenClaim.holds_of_cond 7 Tryz.f7 rfl rfl rfl rfl rfl rfl rfl ⟨rfl, rfl, rfl, rfl, rfl⟩ rfl rfl rfl rfl rfl (by kernel_rfl) Tryz.func7 (by kernel_rfl)
    (of_decide_eq_true (by kernel_rfl)) (by unfold Func.isWrapper; first | (rw [if_pos (by decide +kernel)]; kernel_rfl) | (rw [if_neg (by decide +kernel)]; exact ⟨rfl, rfl⟩))
    (fun os started H enc _ F => by rw [OpenClaim.pre_eq_preRow]; exact lifted os started H enc F)
theorem plain (f : FuncId) (fn : Func) (hf : Tryz.pinned.checked.prog.funcNamed "gambit/gambitlaw06.CardBack" = some f) (hfn : Tryz.pinned.checked.prog.funcs[f]? = some fn) :
    true = Tryz.pinned.checked.prog.looks [] ∧ ∀ (j : Nat) t, fn.params[j]? = some t → Tryz.pinned.checked.prog.wantsStandIn t = false := by
  obtain rfl : f = 7 := Option.some.inj ((show Tryz.prog.funcNamed "gambit/gambitlaw06.CardBack" = some 7 by kernel_rfl).symm.trans hf) |>.symm
  obtain rfl : fn = Tryz.f7 := (Option.some.inj (Tryz.func7.symm.trans hfn)).symm
  refine ⟨by kernel_rfl, fun j t ht => ?_⟩
  rw [Tryz.params7] at ht
  have hm : t = 28 ∨ t = 28 ∨ t = 9 := by simpa using Array.mem_of_getElem? ht
  rcases hm with rfl | rfl | rfl
  · exact (show Tryz.prog.wantsStandIn 28 = false by kernel_rfl)
  · exact (show Tryz.prog.wantsStandIn 28 = false by kernel_rfl)
  · exact (show Tryz.prog.wantsStandIn 9 = false by kernel_rfl)
theorem card : Rows.CardBackCardSaid :=
  Claim7.holds_tied_plain_at .later [] _ _ _ _ said (fun _ h => by cases h) (by kernel_rfl) (fun _ h => by cases h) cardBack_row_tie rfl ⟨rfl, rfl⟩ (by kernel_rfl) rfl plain (by kernel_rfl)
end Go.Proofs.YtfpcideomanbbaaGreatDoor.CardBack
end
