/-
  Part 5 of a proof in 8 parts: lemmas, contracts and plain laws that its last part joins; no conditions of its own.
-/
import Derived.Test.YtfpcideomanbbaaGreatDoorKZ
import Derived.Test.YtfpcideomanbbaaGreatDoorK1
import Derived.Test.YtfpcideomanbbaaGreatDoorK2
import Derived.Test.YtfpcideomanbbaaGreatDoorK3
import Derived.Test.YtfpcideomanbbaaGreatDoorK4
set_option linter.unusedVariables false
set_option linter.unusedSimpArgs false
section
namespace Go.Proofs.YtfpcideomanbbaaGreatDoor.PA
open Go.RowKit Go.Proofs.YtfpcideomanbbaaGreatDoorW.PrintWords Go.Proofs.YtfpcideomanbbaaGreatDoorW.PrintLast Go.Proofs.YtfpcideomanbbaaGreatDoorW.PrintMore
attribute [local go_sem] max2_int min2_int max_two min_two max_three min_three max_four min_four
set_option linter.unusedVariables false
set_option linter.unusedSimpArgs false
mutual
def card_face.j0 : Nat → Bool → Bool → ByteArray → Int → Int → Int → Int → Int → Int → Bool → List (S48) → Option (Int)
 | 0, _, _, _, _, _, _, _, _, _, _, _ => none
 | k + 1, x3, x12, x376000, x376001, x376002, x376003, x376004, x376005, x376006, x376007, x376008 => if x12 = true then (some 8) else ((card_within.f x376003 10).bind fun t379 => (if t379 = true then ((card_within.f x376004 99).bind fun t380 => (if t380 = true then ((card_within.f x376005 99).bind fun t381 => (card_face.j1 k x3 (!t381) x376000 x376001 x376002 x376003 x376004 x376005 x376006 x376007 x376008)) else (card_face.j1 k x3 true x376000 x376001 x376002 x376003 x376004 x376005 x376006 x376007 x376008))) else (card_face.j1 k x3 true x376000 x376001 x376002 x376003 x376004 x376005 x376006 x376007 x376008)))
def card_face.j1 : Nat → Bool → Bool → ByteArray → Int → Int → Int → Int → Int → Int → Bool → List (S48) → Option (Int)
 | 0, _, _, _, _, _, _, _, _, _, _, _ => none
 | k + 1, x3, x23, x376000, x376001, x376002, x376003, x376004, x376005, x376006, x376007, x376008 => if x23 = true then (some 2) else (if x3 = true then (if x376005 = 0 then (card_face.j2 k true x376000 x376001 x376002 x376003 x376004 x376005 x376006 x376007 x376008) else (card_face.j2 k false x376000 x376001 x376002 x376003 x376004 x376005 x376006 x376007 x376008)) else (if x376004 = 0 then (card_face.j2 k (x376005 != 0) x376000 x376001 x376002 x376003 x376004 x376005 x376006 x376007 x376008) else (card_face.j2 k true x376000 x376001 x376002 x376003 x376004 x376005 x376006 x376007 x376008)))
def card_face.j2 : Nat → Bool → ByteArray → Int → Int → Int → Int → Int → Int → Bool → List (S48) → Option (Int)
 | 0, _, _, _, _, _, _, _, _, _, _ => none
 | k + 1, x40, x376000, x376001, x376002, x376003, x376004, x376005, x376006, x376007, x376008 => if x40 = true then (some 8) else ((trait_Check.f x376006).bind fun t382 => (if t382 = true then (if x376002 = 2 then (card_face.j3 k x376007 x376000 x376001 x376002 x376003 x376004 x376005 x376006 x376007 x376008) else (card_face.j3 k false x376000 x376001 x376002 x376003 x376004 x376005 x376006 x376007 x376008)) else (card_face.j3 k true x376000 x376001 x376002 x376003 x376004 x376005 x376006 x376007 x376008)))
def card_face.j3 : Nat → Bool → ByteArray → Int → Int → Int → Int → Int → Int → Bool → List (S48) → Option (Int)
 | 0, _, _, _, _, _, _, _, _, _, _ => none
 | k + 1, x61, x376000, x376001, x376002, x376003, x376004, x376005, x376006, x376007, x376008 => if x61 = true then (some 8) else (if (x376008.length : Int) > 4 then (some 3) else (some 0))
end
def card_face.f (k : Nat) (a0_0 : ByteArray) (a0_1 : Int) (a0_2 : Int) (a0_3 : Int) (a0_4 : Int) (a0_5 : Int) (a0_6 : Int) (a0_7 : Bool) (l0_8 : List (S48)) : Option (Int) := (card_named.f a0_0).bind fun t376 => (if t376 = true then ((suit_Name.f a0_1).bind fun t377 => (if t377.toList = ([] : List UInt8) then (card_face.j0 k (a0_2 == 1) true a0_0 a0_1 a0_2 a0_3 a0_4 a0_5 a0_6 a0_7 l0_8) else ((card_word.f a0_2).bind fun t378 => (card_face.j0 k (a0_2 == 1) (t378.toList == ([] : List UInt8)) a0_0 a0_1 a0_2 a0_3 a0_4 a0_5 a0_6 a0_7 l0_8)))) else (some 4))
theorem card_face.mono_l : ∀ k, (∀ y0 y1 y2 y3 y4 y5 y6 y7 y8 y9 y10, LeO (card_face.j0 k y0 y1 y2 y3 y4 y5 y6 y7 y8 y9 y10) (card_face.j0 (k + 1) y0 y1 y2 y3 y4 y5 y6 y7 y8 y9 y10)) ∧ (∀ y0 y1 y2 y3 y4 y5 y6 y7 y8 y9 y10, LeO (card_face.j1 k y0 y1 y2 y3 y4 y5 y6 y7 y8 y9 y10) (card_face.j1 (k + 1) y0 y1 y2 y3 y4 y5 y6 y7 y8 y9 y10)) ∧ (∀ y0 y1 y2 y3 y4 y5 y6 y7 y8 y9, LeO (card_face.j2 k y0 y1 y2 y3 y4 y5 y6 y7 y8 y9) (card_face.j2 (k + 1) y0 y1 y2 y3 y4 y5 y6 y7 y8 y9)) ∧ (∀ y0 y1 y2 y3 y4 y5 y6 y7 y8 y9, LeO (card_face.j3 k y0 y1 y2 y3 y4 y5 y6 y7 y8 y9) (card_face.j3 (k + 1) y0 y1 y2 y3 y4 y5 y6 y7 y8 y9))
 | 0 => ⟨fun _ _ _ _ _ _ _ _ _ _ _ r h => by simp [card_face.j0] at h, fun _ _ _ _ _ _ _ _ _ _ _ r h => by simp [card_face.j1] at h, fun _ _ _ _ _ _ _ _ _ _ r h => by simp [card_face.j2] at h, fun _ _ _ _ _ _ _ _ _ _ r h => by simp [card_face.j3] at h⟩
 | k + 1 => by
  obtain ⟨ih0, ih1, ih2, ih3⟩ := card_face.mono_l k
  refine ⟨?_, ?_, ?_, ?_⟩
  ·intro y0 y1 y2 y3 y4 y5 y6 y7 y8 y9 y10
   unfold card_face.j0
   repeat' first
   | (with_reducible exact ih0 _ _ _ _ _ _ _ _ _ _ _)
   | (with_reducible exact ih1 _ _ _ _ _ _ _ _ _ _ _)
   | (with_reducible exact ih2 _ _ _ _ _ _ _ _ _ _)
   | (with_reducible exact ih3 _ _ _ _ _ _ _ _ _ _)
   | (with_reducible exact LeO.refl _)
   | (with_reducible exact LeO.none _)
   | (with_reducible refine LeO.ite ?_ ?_)
   | (with_reducible refine LeO.bind ?_ (fun _ => ?_))
   | exact ih0 _ _ _ _ _ _ _ _ _ _ _
   | exact ih1 _ _ _ _ _ _ _ _ _ _ _
   | exact ih2 _ _ _ _ _ _ _ _ _ _
   | exact ih3 _ _ _ _ _ _ _ _ _ _
   | exact LeO.none _
   | refine LeO.ite ?_ ?_
   | refine LeO.bind ?_ (fun _ => ?_)
  ·intro y0 y1 y2 y3 y4 y5 y6 y7 y8 y9 y10
   unfold card_face.j1
   repeat' first
   | (with_reducible exact ih0 _ _ _ _ _ _ _ _ _ _ _)
   | (with_reducible exact ih1 _ _ _ _ _ _ _ _ _ _ _)
   | (with_reducible exact ih2 _ _ _ _ _ _ _ _ _ _)
   | (with_reducible exact ih3 _ _ _ _ _ _ _ _ _ _)
   | (with_reducible exact LeO.refl _)
   | (with_reducible exact LeO.none _)
   | (with_reducible refine LeO.ite ?_ ?_)
   | (with_reducible refine LeO.bind ?_ (fun _ => ?_))
   | exact ih0 _ _ _ _ _ _ _ _ _ _ _
   | exact ih1 _ _ _ _ _ _ _ _ _ _ _
   | exact ih2 _ _ _ _ _ _ _ _ _ _
   | exact ih3 _ _ _ _ _ _ _ _ _ _
   | exact LeO.none _
   | refine LeO.ite ?_ ?_
   | refine LeO.bind ?_ (fun _ => ?_)
  ·intro y0 y1 y2 y3 y4 y5 y6 y7 y8 y9
   unfold card_face.j2
   repeat' first
   | (with_reducible exact ih0 _ _ _ _ _ _ _ _ _ _ _)
   | (with_reducible exact ih1 _ _ _ _ _ _ _ _ _ _ _)
   | (with_reducible exact ih2 _ _ _ _ _ _ _ _ _ _)
   | (with_reducible exact ih3 _ _ _ _ _ _ _ _ _ _)
   | (with_reducible exact LeO.refl _)
   | (with_reducible exact LeO.none _)
   | (with_reducible refine LeO.ite ?_ ?_)
   | (with_reducible refine LeO.bind ?_ (fun _ => ?_))
   | exact ih0 _ _ _ _ _ _ _ _ _ _ _
   | exact ih1 _ _ _ _ _ _ _ _ _ _ _
   | exact ih2 _ _ _ _ _ _ _ _ _ _
   | exact ih3 _ _ _ _ _ _ _ _ _ _
   | exact LeO.none _
   | refine LeO.ite ?_ ?_
   | refine LeO.bind ?_ (fun _ => ?_)
  ·intro y0 y1 y2 y3 y4 y5 y6 y7 y8 y9
   unfold card_face.j3
   repeat' first
   | (with_reducible exact ih0 _ _ _ _ _ _ _ _ _ _ _)
   | (with_reducible exact ih1 _ _ _ _ _ _ _ _ _ _ _)
   | (with_reducible exact ih2 _ _ _ _ _ _ _ _ _ _)
   | (with_reducible exact ih3 _ _ _ _ _ _ _ _ _ _)
   | (with_reducible exact LeO.refl _)
   | (with_reducible exact LeO.none _)
   | (with_reducible refine LeO.ite ?_ ?_)
   | (with_reducible refine LeO.bind ?_ (fun _ => ?_))
   | exact ih0 _ _ _ _ _ _ _ _ _ _ _
   | exact ih1 _ _ _ _ _ _ _ _ _ _ _
   | exact ih2 _ _ _ _ _ _ _ _ _ _
   | exact ih3 _ _ _ _ _ _ _ _ _ _
   | exact LeO.none _
   | refine LeO.ite ?_ ?_
   | refine LeO.bind ?_ (fun _ => ?_)
theorem card_face.mono : ∀ a0 a1 a2 a3 a4 a5 a6 a7 a8 k, LeO (card_face.f k a0 a1 a2 a3 a4 a5 a6 a7 a8) (card_face.f (k + 1) a0 a1 a2 a3 a4 a5 a6 a7 a8) := by
 intro a0 a1 a2 a3 a4 a5 a6 a7 a8 k
 obtain ⟨ih0, ih1, ih2, ih3⟩ := card_face.mono_l k
 unfold card_face.f
 repeat' first
   | (with_reducible exact ih0 _ _ _ _ _ _ _ _ _ _ _)
   | (with_reducible exact ih1 _ _ _ _ _ _ _ _ _ _ _)
   | (with_reducible exact ih2 _ _ _ _ _ _ _ _ _ _)
   | (with_reducible exact ih3 _ _ _ _ _ _ _ _ _ _)
   | (with_reducible exact LeO.refl _)
   | (with_reducible exact LeO.none _)
   | (with_reducible refine LeO.ite ?_ ?_)
   | (with_reducible refine LeO.bind ?_ (fun _ => ?_))
   | exact ih0 _ _ _ _ _ _ _ _ _ _ _
   | exact ih1 _ _ _ _ _ _ _ _ _ _ _
   | exact ih2 _ _ _ _ _ _ _ _ _ _
   | exact ih3 _ _ _ _ _ _ _ _ _ _
   | exact LeO.none _
   | refine LeO.ite ?_ ?_
   | refine LeO.bind ?_ (fun _ => ?_)
set_option maxHeartbeats 8000000 in
set_option maxRecDepth 100000 in
theorem card_face.calls (k : Nat) (a0_0 : ByteArray) (a0_1 : Int) (a0_2 : Int) (a0_3 : Int) (a0_4 : Int) (a0_5 : Int) (a0_6 : Int) (a0_7 : Bool) (A0_8 : Option Addr) (c0_8 : Nat) (l0_8 : List (S48)) (r : Int) (w : World) (hr0_8 : Kd.C k48 w A0_8 l0_8.length l0_8) (hc0_8 : l0_8.length ≤ c0_8) (h : card_face.f k a0_0 a0_1 a0_2 a0_3 a0_4 a0_5 a0_6 a0_7 l0_8 = some r) :
  Calls Tryz.prog 29 #[.agg #[.string a0_0, .int .u8 a0_1, .int .u8 a0_2, .int .i64 a0_3, .int .i64 a0_4, .int .i64 a0_5, .int .u16 a0_6, .bool a0_7, .slice A0_8 l0_8.length c0_8]] w fun e w' => e = .returned (.int .i64 r) ∧ Below w.heap.size w w' := by
 have hu28 := Tryz.underlying28
 have HR0_8 := Aside0.mk hr0_8
 have HC0_8 := Aside0.mk hc0_8
 clear hr0_8 hc0_8
 have HB := Aside0.mk (Below.refl w.heap.size w)
 have H : ((card_named.f a0_0).bind fun t376 => (if t376 = true then ((suit_Name.f a0_1).bind fun t377 => (if t377.toList = ([] : List UInt8) then (card_face.j0 k (a0_2 == 1) true a0_0 a0_1 a0_2 a0_3 a0_4 a0_5 a0_6 a0_7 l0_8) else ((card_word.f a0_2).bind fun t378 => (card_face.j0 k (a0_2 == 1) (t378.toList == ([] : List UInt8)) a0_0 a0_1 a0_2 a0_3 a0_4 a0_5 a0_6 a0_7 l0_8)))) else (some 4))) = some r := h
 clear h
 replace H := Option.bind_eq_some_iff.mp H
 obtain ⟨t376, A20, H⟩ := H
 replace H : (if t376 = true then ((suit_Name.f a0_1).bind fun t377 => (if t377.toList = ([] : List UInt8) then (card_face.j0 k (a0_2 == 1) true a0_0 a0_1 a0_2 a0_3 a0_4 a0_5 a0_6 a0_7 l0_8) else ((card_word.f a0_2).bind fun t378 => (card_face.j0 k (a0_2 == 1) (t378.toList == ([] : List UInt8)) a0_0 a0_1 a0_2 a0_3 a0_4 a0_5 a0_6 a0_7 l0_8)))) else (some 4)) = some r := H
 have A2 := Aside0.mk A20
 clear A20
 by_cases c3 : t376 = true
 ·subst c3
  have H1 : ((suit_Name.f a0_1).bind fun t377 => (if t377.toList = ([] : List UInt8) then (card_face.j0 k (a0_2 == 1) true a0_0 a0_1 a0_2 a0_3 a0_4 a0_5 a0_6 a0_7 l0_8) else ((card_word.f a0_2).bind fun t378 => (card_face.j0 k (a0_2 == 1) (t378.toList == ([] : List UInt8)) a0_0 a0_1 a0_2 a0_3 a0_4 a0_5 a0_6 a0_7 l0_8)))) = some r := by rw [if_pos rfl] at H; exact H
  clear H
  have H := H1
  clear H1
  have HC4 := Aside0.mk H
  clear H
  go_enter Tryz.func29, Tryz.ntmps29
  go_upto_region 4 with (first | ((with_reducible refine gate_dst (N := 1) rfl ?_); refine box_event ?hg (N := 1) ?hd (cs := #[.string a0_0, .int .u8 a0_1, .int .u8 a0_2, .int .i64 a0_3, .int .i64 a0_4, .int .i64 a0_5, .int .u16 a0_6, .bool a0_7, .slice A0_8 l0_8.length c0_8]) (t := 28) ?hr ?_; (case hd => rfl); (case hg => rfl); (case hr => first | (go_simp; done) | (go_simp; rfl)); intro gb375 hg w5 hbox hb; have BK375 := Aside0.mk (hbox); have GW375 := Aside0.mk ((by rw [hg]; exact (below_size Zb) : w.heap.size ≤ gb375)); have GE375 := Aside0.mk ((by rw [hg]; exact (below_size Zb) : w.heap.size ≤ gb375)); replace HB := Aside0.mk (below_step Zb hb); clear hb hbox hg; obtain ⟨hcz6_0, hcz6_1, hcz6_2, hcz6_3, hcz6_4, hcz6_5, hcz6_6, hcz6_7, hcz6_8, hfz6_0, hfz6_1, hfz6_2, hfz6_3, hfz6_4, hfz6_5, hfz6_6, hfz6_7, hfz6_8⟩ := Z9 BK375.out) | ((with_reducible refine gate_callee (f := 74) rfl ?_); refine goesL_ (some 10) rfl rfl Tryz.func74 (by kernel_rfl) rfl #[.string a0_0] rfl Zl ?_; (with_reducible refine (card_named.calls a0_0 true _ A2.out).mono ?_); rintro e w7 ⟨rfl, hb⟩; refine ⟨_, rfl, ?_⟩; replace BK375 := Aside0.mk (blk_below (Zj BK375.out) hb); replace HB := Aside0.mk (below_step (Zb1 GE375.out) hb); (try clear hb); (try clear hb2); (try clear hk); (try clear hi)))
  (try simp only [Act.put, List.setIfInBounds_toArray, List.set_cons_zero, List.set_cons_succ])
  go_cut [12] (fun v12 wc => ∃ (kq : Nat) (x12_3 : Bool), v12 = .bool x12_3 ∧ Aside0 (card_face.j0 kq (a0_2 == 1) x12_3 a0_0 a0_1 a0_2 a0_3 a0_4 a0_5 a0_6 a0_7 l0_8 = some r) ∧ Aside0 (kq ≤ k) ∧ Aside0 (wc.heap[gb375]? = some (.cells #[.string a0_0, .int .u8 a0_1, .int .u8 a0_2, .int .i64 a0_3, .int .i64 a0_4, .int .i64 a0_5, .int .u16 a0_6, .bool a0_7, (.slice A0_8 l0_8.length c0_8)] 28 (0, 0))) ∧ Aside0 (Below w.heap.size w wc))
  case first =>
   have H := HC4.out
   clear HC4
   replace H := Option.bind_eq_some_iff.mp H
   obtain ⟨t377, A80, H⟩ := H
   replace H : (if t377.toList = ([] : List UInt8) then (card_face.j0 k (a0_2 == 1) true a0_0 a0_1 a0_2 a0_3 a0_4 a0_5 a0_6 a0_7 l0_8) else ((card_word.f a0_2).bind fun t378 => (card_face.j0 k (a0_2 == 1) (t378.toList == ([] : List UInt8)) a0_0 a0_1 a0_2 a0_3 a0_4 a0_5 a0_6 a0_7 l0_8))) = some r := H
   have A8 := Aside0.mk A80
   clear A80
   by_cases c9 : t377.toList = ([] : List UInt8)
   ·rw [if_pos c9] at H
    have c9b0 : (t377.toList == ([] : List UInt8)) = true := beq_iff_eq.mpr c9
    have c9b1 : (t377.toList != ([] : List UInt8)) = false := bne_eq_false_iff_eq.mpr c9
    clear c9
    (first | rw [c9b0] | (simp only [i64_w, i32_w]; rw [c9b0]) | skip)
    have H' := Aside0.mk H
    clear H
    obtain ⟨hcz10_0, hcz10_1, hcz10_2, hcz10_3, hcz10_4, hcz10_5, hcz10_6, hcz10_7, hcz10_8, hfz10_0, hfz10_1, hfz10_2, hfz10_3, hfz10_4, hfz10_5, hfz10_6, hfz10_7, hfz10_8⟩ := Z9 BK375.out
    go_wp2_with (first | ((with_reducible refine gate_callee (f := 30) rfl ?_); refine goesL_ (some 15) rfl rfl Tryz.func30 (by kernel_rfl) rfl #[.int .u8 a0_1] rfl Zl ?_; (with_reducible refine (suit_Name.calls a0_1 t377 _ A8.out).mono ?_); rintro e w' ⟨rfl, ⟨nd, rfl⟩⟩; refine ⟨_, rfl, ?_⟩))
    go_meet
    case rel => exact ⟨_, (true), Zs, H', ⟨by first | omega | exact Nat.le_refl _⟩, ⟨Zk BK375.out⟩, ⟨Zb1 GE375.out⟩⟩
   ·rw [if_neg c9] at H
    have c9b0 : (t377.toList == ([] : List UInt8)) = false := beq_eq_false_iff_ne.mpr c9
    have c9b1 : (t377.toList != ([] : List UInt8)) = true := bne_iff_ne.mpr c9
    (first | rw [c9b0] | (simp only [i64_w, i32_w]; rw [c9b0]) | skip)
    replace H := Option.bind_eq_some_iff.mp H
    obtain ⟨t378, A110, H⟩ := H
    replace H : (card_face.j0 k (a0_2 == 1) (t378.toList == ([] : List UInt8)) a0_0 a0_1 a0_2 a0_3 a0_4 a0_5 a0_6 a0_7 l0_8) = some r := H
    have A11 := Aside0.mk A110
    clear A110
    have H' := Aside0.mk H
    clear H
    obtain ⟨hcz12_0, hcz12_1, hcz12_2, hcz12_3, hcz12_4, hcz12_5, hcz12_6, hcz12_7, hcz12_8, hfz12_0, hfz12_1, hfz12_2, hfz12_3, hfz12_4, hfz12_5, hfz12_6, hfz12_7, hfz12_8⟩ := Z9 BK375.out
    go_wp2_with (first | ((with_reducible refine gate_callee (f := 30) rfl ?_); refine goesL_ (some 15) rfl rfl Tryz.func30 (by kernel_rfl) rfl #[.int .u8 a0_1] rfl Zl ?_; (with_reducible refine (suit_Name.calls a0_1 t377 _ A8.out).mono ?_); rintro e w' ⟨rfl, ⟨nd, rfl⟩⟩; refine ⟨_, rfl, ?_⟩) | (go_at_call 31; (with_reducible refine (card_word.calls a0_2 t378 _ A11.out).mono ?_); rintro e w' ⟨rfl, ⟨nd, rfl⟩⟩))
    go_meet
    case rel => exact ⟨_, ((t378.toList == ([] : List UInt8))), Zs, H', ⟨by first | omega | exact Nat.le_refl _⟩, ⟨Zk BK375.out⟩, ⟨Zb1 GE375.out⟩⟩
  case rest =>
   clear HC4
   try clear c2
   try clear p2
   try clear c3
   try clear c7
   try clear c9
   try clear c9b0
   try clear c9b1
   try clear hcz10_0
   try clear hcz10_1
   try clear hcz10_2
   try clear hcz10_3
   try clear hcz10_4
   try clear hcz10_5
   try clear hcz10_6
   try clear hcz10_7
   try clear hcz10_8
   try clear hcz12_0
   try clear hcz12_1
   try clear hcz12_2
   try clear hcz12_3
   try clear hcz12_4
   try clear hcz12_5
   try clear hcz12_6
   try clear hcz12_7
   try clear hcz12_8
   try clear hcz6_0
   try clear hcz6_1
   try clear hcz6_2
   try clear hcz6_3
   try clear hcz6_4
   try clear hcz6_5
   try clear hcz6_6
   try clear hcz6_7
   try clear hcz6_8
   try clear hfz10_0
   try clear hfz10_1
   try clear hfz10_2
   try clear hfz10_3
   try clear hfz10_4
   try clear hfz10_5
   try clear hfz10_6
   try clear hfz10_7
   try clear hfz10_8
   try clear hfz12_0
   try clear hfz12_1
   try clear hfz12_2
   try clear hfz12_3
   try clear hfz12_4
   try clear hfz12_5
   try clear hfz12_6
   try clear hfz12_7
   try clear hfz12_8
   try clear hfz6_0
   try clear hfz6_1
   try clear hfz6_2
   try clear hfz6_3
   try clear hfz6_4
   try clear hfz6_5
   try clear hfz6_6
   try clear hfz6_7
   try clear hfz6_8
   obtain ⟨kq, x12_3, rfl, HA, HJ3, BK375, HB⟩ := hcut
   cases kq with
   | zero => exact absurd HA.out (by simp [card_face.j0])
   | succ kj3 =>
    have H := HA.out
    clear HA
    simp only [card_face.j0] at H
    by_cases c13 : x12_3 = true
    ·subst c13
     have H1 : (some 8) = some r := by rw [if_pos rfl] at H; exact H
     clear H
     have H := H1
     clear H1
     obtain rfl := Option.some.inj H
     go_wp2
     go_ret
     exact ⟨Ze, Zb1 GE375.out⟩
    ·replace c13 := Bool.eq_false_iff.mpr c13
     subst c13
     have H1 : ((card_within.f a0_3 10).bind fun t379 => (if t379 = true then ((card_within.f a0_4 99).bind fun t380 => (if t380 = true then ((card_within.f a0_5 99).bind fun t381 => (card_face.j1 kj3 (a0_2 == 1) (!t381) a0_0 a0_1 a0_2 a0_3 a0_4 a0_5 a0_6 a0_7 l0_8)) else (card_face.j1 kj3 (a0_2 == 1) true a0_0 a0_1 a0_2 a0_3 a0_4 a0_5 a0_6 a0_7 l0_8))) else (card_face.j1 kj3 (a0_2 == 1) true a0_0 a0_1 a0_2 a0_3 a0_4 a0_5 a0_6 a0_7 l0_8))) = some r := by rw [if_neg (show ¬ (false = true) by decide)] at H; exact H
     clear H
     have H := H1
     clear H1
     have HC14 := Aside0.mk H
     clear H
     go_upto_region 6 with (fail)
     go_cut [23] (fun v23 wc => ∃ (kq : Nat) (x23_13 : Bool), v23 = .bool x23_13 ∧ Aside0 (card_face.j1 kq (a0_2 == 1) x23_13 a0_0 a0_1 a0_2 a0_3 a0_4 a0_5 a0_6 a0_7 l0_8 = some r) ∧ Aside0 (kq ≤ kj3) ∧ Aside0 (wc.heap[gb375]? = some (.cells #[.string a0_0, .int .u8 a0_1, .int .u8 a0_2, .int .i64 a0_3, .int .i64 a0_4, .int .i64 a0_5, .int .u16 a0_6, .bool a0_7, (.slice A0_8 l0_8.length c0_8)] 28 (0, 0))) ∧ Aside0 (Below w.heap.size w wc))
     case first =>
      have H := HC14.out
      clear HC14
      replace H := Option.bind_eq_some_iff.mp H
      obtain ⟨t379, A150, H⟩ := H
      replace H : (if t379 = true then ((card_within.f a0_4 99).bind fun t380 => (if t380 = true then ((card_within.f a0_5 99).bind fun t381 => (card_face.j1 kj3 (a0_2 == 1) (!t381) a0_0 a0_1 a0_2 a0_3 a0_4 a0_5 a0_6 a0_7 l0_8)) else (card_face.j1 kj3 (a0_2 == 1) true a0_0 a0_1 a0_2 a0_3 a0_4 a0_5 a0_6 a0_7 l0_8))) else (card_face.j1 kj3 (a0_2 == 1) true a0_0 a0_1 a0_2 a0_3 a0_4 a0_5 a0_6 a0_7 l0_8)) = some r := H
      have A15 := Aside0.mk A150
      clear A150
      by_cases c16 : t379 = true
      ·subst c16
       have H1 : ((card_within.f a0_4 99).bind fun t380 => (if t380 = true then ((card_within.f a0_5 99).bind fun t381 => (card_face.j1 kj3 (a0_2 == 1) (!t381) a0_0 a0_1 a0_2 a0_3 a0_4 a0_5 a0_6 a0_7 l0_8)) else (card_face.j1 kj3 (a0_2 == 1) true a0_0 a0_1 a0_2 a0_3 a0_4 a0_5 a0_6 a0_7 l0_8))) = some r := by rw [if_pos rfl] at H; exact H
       clear H
       have H := H1
       clear H1
       replace H := Option.bind_eq_some_iff.mp H
       obtain ⟨t380, A170, H⟩ := H
       replace H : (if t380 = true then ((card_within.f a0_5 99).bind fun t381 => (card_face.j1 kj3 (a0_2 == 1) (!t381) a0_0 a0_1 a0_2 a0_3 a0_4 a0_5 a0_6 a0_7 l0_8)) else (card_face.j1 kj3 (a0_2 == 1) true a0_0 a0_1 a0_2 a0_3 a0_4 a0_5 a0_6 a0_7 l0_8)) = some r := H
       have A17 := Aside0.mk A170
       clear A170
       by_cases c18 : t380 = true
       ·subst c18
        have H1 : ((card_within.f a0_5 99).bind fun t381 => (card_face.j1 kj3 (a0_2 == 1) (!t381) a0_0 a0_1 a0_2 a0_3 a0_4 a0_5 a0_6 a0_7 l0_8)) = some r := by rw [if_pos rfl] at H; exact H
        clear H
        have H := H1
        clear H1
        replace H := Option.bind_eq_some_iff.mp H
        obtain ⟨t381, A190, H⟩ := H
        replace H : (card_face.j1 kj3 (a0_2 == 1) (!t381) a0_0 a0_1 a0_2 a0_3 a0_4 a0_5 a0_6 a0_7 l0_8) = some r := H
        have A19 := Aside0.mk A190
        clear A190
        have H' := Aside0.mk H
        clear H
        obtain ⟨hcz20_0, hcz20_1, hcz20_2, hcz20_3, hcz20_4, hcz20_5, hcz20_6, hcz20_7, hcz20_8, hfz20_0, hfz20_1, hfz20_2, hfz20_3, hfz20_4, hfz20_5, hfz20_6, hfz20_7, hfz20_8⟩ := Z9 BK375.out
        go_wp2_with (first | ((with_reducible refine gate_callee (f := 75) rfl ?_); refine goesL_ (some 26) rfl rfl Tryz.func75 (by kernel_rfl) rfl #[.int .i64 a0_3, .int .i64 10] rfl Zl ?_; (with_reducible refine (card_within.calls a0_3 10 true _ A15.out).mono ?_); rintro e w' ⟨rfl, ⟨nd, rfl⟩⟩; refine ⟨_, rfl, ?_⟩) | (go_at_call 75; (with_reducible refine (card_within.calls a0_4 99 true _ A17.out).mono ?_); rintro e w' ⟨rfl, ⟨nd, rfl⟩⟩) | (go_at_call 75; (with_reducible refine (card_within.calls a0_5 99 t381 _ A19.out).mono ?_); rintro e w' ⟨rfl, ⟨nd, rfl⟩⟩))
        go_meet
        case rel => exact ⟨_, (!t381), Zs, H', ⟨by have := HJ3.out; first | omega | exact Nat.le_refl _⟩, ⟨Zk BK375.out⟩, ⟨Zb1 GE375.out⟩⟩
       ·replace c18 := Bool.eq_false_iff.mpr c18
        subst c18
        have H1 : (card_face.j1 kj3 (a0_2 == 1) true a0_0 a0_1 a0_2 a0_3 a0_4 a0_5 a0_6 a0_7 l0_8) = some r := by rw [if_neg (show ¬ (false = true) by decide)] at H; exact H
        clear H
        have H := H1
        clear H1
        have H' := Aside0.mk H
        clear H
        obtain ⟨hcz21_0, hcz21_1, hcz21_2, hcz21_3, hcz21_4, hcz21_5, hcz21_6, hcz21_7, hcz21_8, hfz21_0, hfz21_1, hfz21_2, hfz21_3, hfz21_4, hfz21_5, hfz21_6, hfz21_7, hfz21_8⟩ := Z9 BK375.out
        go_wp2_with (first | ((with_reducible refine gate_callee (f := 75) rfl ?_); refine goesL_ (some 26) rfl rfl Tryz.func75 (by kernel_rfl) rfl #[.int .i64 a0_3, .int .i64 10] rfl Zl ?_; (with_reducible refine (card_within.calls a0_3 10 true _ A15.out).mono ?_); rintro e w' ⟨rfl, ⟨nd, rfl⟩⟩; refine ⟨_, rfl, ?_⟩) | (go_at_call 75; (with_reducible refine (card_within.calls a0_4 99 false _ A17.out).mono ?_); rintro e w' ⟨rfl, ⟨nd, rfl⟩⟩))
        go_meet
        case rel => exact ⟨_, (true), Zs, H', ⟨by have := HJ3.out; first | omega | exact Nat.le_refl _⟩, ⟨Zk BK375.out⟩, ⟨Zb1 GE375.out⟩⟩
      ·replace c16 := Bool.eq_false_iff.mpr c16
       subst c16
       have H1 : (card_face.j1 kj3 (a0_2 == 1) true a0_0 a0_1 a0_2 a0_3 a0_4 a0_5 a0_6 a0_7 l0_8) = some r := by rw [if_neg (show ¬ (false = true) by decide)] at H; exact H
       clear H
       have H := H1
       clear H1
       have H' := Aside0.mk H
       clear H
       obtain ⟨hcz22_0, hcz22_1, hcz22_2, hcz22_3, hcz22_4, hcz22_5, hcz22_6, hcz22_7, hcz22_8, hfz22_0, hfz22_1, hfz22_2, hfz22_3, hfz22_4, hfz22_5, hfz22_6, hfz22_7, hfz22_8⟩ := Z9 BK375.out
       go_wp2_with (first | ((with_reducible refine gate_callee (f := 75) rfl ?_); refine goesL_ (some 26) rfl rfl Tryz.func75 (by kernel_rfl) rfl #[.int .i64 a0_3, .int .i64 10] rfl Zl ?_; (with_reducible refine (card_within.calls a0_3 10 false _ A15.out).mono ?_); rintro e w' ⟨rfl, ⟨nd, rfl⟩⟩; refine ⟨_, rfl, ?_⟩))
       go_meet
       case rel => exact ⟨_, (true), Zs, H', ⟨by have := HJ3.out; first | omega | exact Nat.le_refl _⟩, ⟨Zk BK375.out⟩, ⟨Zb1 GE375.out⟩⟩
     case rest =>
      clear HC14
      try clear c1
      try clear c2
      try clear p2
      try clear c3
      try clear c7
      try clear c9
      try clear c9b0
      try clear c9b1
      try clear c13
      try clear c16
      try clear c18
      try clear hcz10_0
      try clear hcz10_1
      try clear hcz10_2
      try clear hcz10_3
      try clear hcz10_4
      try clear hcz10_5
      try clear hcz10_6
      try clear hcz10_7
      try clear hcz10_8
      try clear hcz12_0
      try clear hcz12_1
      try clear hcz12_2
      try clear hcz12_3
      try clear hcz12_4
      try clear hcz12_5
      try clear hcz12_6
      try clear hcz12_7
      try clear hcz12_8
      try clear hcz20_0
      try clear hcz20_1
      try clear hcz20_2
      try clear hcz20_3
      try clear hcz20_4
      try clear hcz20_5
      try clear hcz20_6
      try clear hcz20_7
      try clear hcz20_8
      try clear hcz21_0
      try clear hcz21_1
      try clear hcz21_2
      try clear hcz21_3
      try clear hcz21_4
      try clear hcz21_5
      try clear hcz21_6
      try clear hcz21_7
      try clear hcz21_8
      try clear hcz22_0
      try clear hcz22_1
      try clear hcz22_2
      try clear hcz22_3
      try clear hcz22_4
      try clear hcz22_5
      try clear hcz22_6
      try clear hcz22_7
      try clear hcz22_8
      try clear hcz6_0
      try clear hcz6_1
      try clear hcz6_2
      try clear hcz6_3
      try clear hcz6_4
      try clear hcz6_5
      try clear hcz6_6
      try clear hcz6_7
      try clear hcz6_8
      try clear hfz10_0
      try clear hfz10_1
      try clear hfz10_2
      try clear hfz10_3
      try clear hfz10_4
      try clear hfz10_5
      try clear hfz10_6
      try clear hfz10_7
      try clear hfz10_8
      try clear hfz12_0
      try clear hfz12_1
      try clear hfz12_2
      try clear hfz12_3
      try clear hfz12_4
      try clear hfz12_5
      try clear hfz12_6
      try clear hfz12_7
      try clear hfz12_8
      try clear hfz20_0
      try clear hfz20_1
      try clear hfz20_2
      try clear hfz20_3
      try clear hfz20_4
      try clear hfz20_5
      try clear hfz20_6
      try clear hfz20_7
      try clear hfz20_8
      try clear hfz21_0
      try clear hfz21_1
      try clear hfz21_2
      try clear hfz21_3
      try clear hfz21_4
      try clear hfz21_5
      try clear hfz21_6
      try clear hfz21_7
      try clear hfz21_8
      try clear hfz22_0
      try clear hfz22_1
      try clear hfz22_2
      try clear hfz22_3
      try clear hfz22_4
      try clear hfz22_5
      try clear hfz22_6
      try clear hfz22_7
      try clear hfz22_8
      try clear hfz6_0
      try clear hfz6_1
      try clear hfz6_2
      try clear hfz6_3
      try clear hfz6_4
      try clear hfz6_5
      try clear hfz6_6
      try clear hfz6_7
      try clear hfz6_8
      try clear p2
      obtain ⟨kq, x23_13, rfl, HA, HJ13, BK375, HB⟩ := hcut
      cases kq with
      | zero => exact absurd HA.out (by simp [card_face.j1])
      | succ kj13 =>
       have H := HA.out
       clear HA
       simp only [card_face.j1] at H
       by_cases c23 : x23_13 = true
       ·subst c23
        have H1 : (some 2) = some r := by rw [if_pos rfl] at H; exact H
        clear H
        have H := H1
        clear H1
        obtain rfl := Option.some.inj H
        go_wp2
        go_ret
        exact ⟨Ze, Zb1 GE375.out⟩
       ·replace c23 := Bool.eq_false_iff.mpr c23
        subst c23
        have H1 : (if (a0_2 == 1) = true then (if a0_5 = 0 then (card_face.j2 kj13 true a0_0 a0_1 a0_2 a0_3 a0_4 a0_5 a0_6 a0_7 l0_8) else (card_face.j2 kj13 false a0_0 a0_1 a0_2 a0_3 a0_4 a0_5 a0_6 a0_7 l0_8)) else (if a0_4 = 0 then (card_face.j2 kj13 (a0_5 != 0) a0_0 a0_1 a0_2 a0_3 a0_4 a0_5 a0_6 a0_7 l0_8) else (card_face.j2 kj13 true a0_0 a0_1 a0_2 a0_3 a0_4 a0_5 a0_6 a0_7 l0_8))) = some r := by rw [if_neg (show ¬ (false = true) by decide)] at H; exact H
        clear H
        have H := H1
        clear H1
        have HC24 := Aside0.mk H
        clear H
        go_upto_region 8 with (fail)
        go_cut [40] (fun v40 wc => ∃ (kq : Nat) (x40_23 : Bool), v40 = .bool x40_23 ∧ Aside0 (card_face.j2 kq x40_23 a0_0 a0_1 a0_2 a0_3 a0_4 a0_5 a0_6 a0_7 l0_8 = some r) ∧ Aside0 (kq ≤ kj13) ∧ Aside0 (wc.heap[gb375]? = some (.cells #[.string a0_0, .int .u8 a0_1, .int .u8 a0_2, .int .i64 a0_3, .int .i64 a0_4, .int .i64 a0_5, .int .u16 a0_6, .bool a0_7, (.slice A0_8 l0_8.length c0_8)] 28 (0, 0))) ∧ Aside0 (Below w.heap.size w wc))
        case first =>
         have H := HC24.out
         clear HC24
         by_cases c25 : (a0_2 == 1) = true
         ·rw [if_pos c25] at H
          have c25b0 : (a0_2 == 1) = true := c25
          (try (have c25b1 : decide (a0_2 = 1) = true := by simpa using c25))
          (try (have c25b2 : (a0_2 == 1) = true := by simpa using c25))
          clear c25
          (first | rw [c25b0] | (simp only [i64_w, i32_w]; rw [c25b0]) | skip)
          by_cases c26 : a0_5 = 0
          ·rw [if_pos c26] at H
           have c26b0 : (a0_5 == 0) = true := beq_iff_eq.mpr c26
           have c26b1 : (a0_5 != 0) = false := bne_eq_false_iff_eq.mpr c26
           clear c26
           have H' := Aside0.mk H
           clear H
           obtain ⟨hcz27_0, hcz27_1, hcz27_2, hcz27_3, hcz27_4, hcz27_5, hcz27_6, hcz27_7, hcz27_8, hfz27_0, hfz27_1, hfz27_2, hfz27_3, hfz27_4, hfz27_5, hfz27_6, hfz27_7, hfz27_8⟩ := Z9 BK375.out
           go_wp2
           (first | go_meet | (refine Met.intro ?_; go_step; (repeat apply Exists.intro); refine ⟨?rel, ?eqn⟩; (case eqn => rw [c25b0])))
           case rel => exact ⟨_, (true), Zs, H', ⟨by have := HJ3.out; have := HJ13.out; first | omega | exact Nat.le_refl _⟩, ⟨Zk BK375.out⟩, ⟨Zb1 GE375.out⟩⟩
          ·rw [if_neg c26] at H
           have c26b0 : (a0_5 == 0) = false := beq_eq_false_iff_ne.mpr c26
           have c26b1 : (a0_5 != 0) = true := bne_iff_ne.mpr c26
           have H' := Aside0.mk H
           clear H
           obtain ⟨hcz28_0, hcz28_1, hcz28_2, hcz28_3, hcz28_4, hcz28_5, hcz28_6, hcz28_7, hcz28_8, hfz28_0, hfz28_1, hfz28_2, hfz28_3, hfz28_4, hfz28_5, hfz28_6, hfz28_7, hfz28_8⟩ := Z9 BK375.out
           go_wp2
           (first | go_meet | (refine Met.intro ?_; go_step; (repeat apply Exists.intro); refine ⟨?rel, ?eqn⟩; (case eqn => rw [c25b0])))
           case rel => exact ⟨_, (false), Zs, H', ⟨by have := HJ3.out; have := HJ13.out; first | omega | exact Nat.le_refl _⟩, ⟨Zk BK375.out⟩, ⟨Zb1 GE375.out⟩⟩
         ·rw [if_neg c25] at H
          have c25b0 : (a0_2 == 1) = false := by simpa using c25
          (try (have c25b1 : decide (a0_2 = 1) = false := by simpa using c25))
          (try (have c25b2 : (a0_2 == 1) = false := by simpa using c25))
          (try (have c25b3 : ¬ (a0_2 = 1) := by simpa using c25))
          clear c25
          (first | rw [c25b0] | (simp only [i64_w, i32_w]; rw [c25b0]) | skip)
          by_cases c29 : a0_4 = 0
          ·rw [if_pos c29] at H
           have c29b0 : (a0_4 == 0) = true := beq_iff_eq.mpr c29
           have c29b1 : (a0_4 != 0) = false := bne_eq_false_iff_eq.mpr c29
           clear c29
           have H' := Aside0.mk H
           clear H
           obtain ⟨hcz30_0, hcz30_1, hcz30_2, hcz30_3, hcz30_4, hcz30_5, hcz30_6, hcz30_7, hcz30_8, hfz30_0, hfz30_1, hfz30_2, hfz30_3, hfz30_4, hfz30_5, hfz30_6, hfz30_7, hfz30_8⟩ := Z9 BK375.out
           go_wp2
           (first | go_meet | (refine Met.intro ?_; go_step; (repeat apply Exists.intro); refine ⟨?rel, ?eqn⟩; (case eqn => rw [c25b0])))
           case rel => exact ⟨_, ((a0_5 != 0)), Zs, H', ⟨by have := HJ3.out; have := HJ13.out; first | omega | exact Nat.le_refl _⟩, ⟨Zk BK375.out⟩, ⟨Zb1 GE375.out⟩⟩
          ·rw [if_neg c29] at H
           have c29b0 : (a0_4 == 0) = false := beq_eq_false_iff_ne.mpr c29
           have c29b1 : (a0_4 != 0) = true := bne_iff_ne.mpr c29
           have H' := Aside0.mk H
           clear H
           obtain ⟨hcz31_0, hcz31_1, hcz31_2, hcz31_3, hcz31_4, hcz31_5, hcz31_6, hcz31_7, hcz31_8, hfz31_0, hfz31_1, hfz31_2, hfz31_3, hfz31_4, hfz31_5, hfz31_6, hfz31_7, hfz31_8⟩ := Z9 BK375.out
           go_wp2
           (first | go_meet | (refine Met.intro ?_; go_step; (repeat apply Exists.intro); refine ⟨?rel, ?eqn⟩; (case eqn => rw [c25b0])))
           case rel => exact ⟨_, (true), Zs, H', ⟨by have := HJ3.out; have := HJ13.out; first | omega | exact Nat.le_refl _⟩, ⟨Zk BK375.out⟩, ⟨Zb1 GE375.out⟩⟩
        case rest =>
         clear HC24
         try clear c1
         try clear c2
         try clear p2
         try clear c3
         try clear c7
         try clear c9
         try clear c9b0
         try clear c9b1
         try clear c13
         try clear c16
         try clear c18
         try clear c23
         try clear c25
         try clear c25b0
         try clear c25b1
         try clear c25b2
         try clear c26
         try clear c26b0
         try clear c26b1
         try clear c29
         try clear c29b0
         try clear c29b1
         try clear c30
         try clear hcz10_0
         try clear hcz10_1
         try clear hcz10_2
         try clear hcz10_3
         try clear hcz10_4
         try clear hcz10_5
         try clear hcz10_6
         try clear hcz10_7
         try clear hcz10_8
         try clear hcz12_0
         try clear hcz12_1
         try clear hcz12_2
         try clear hcz12_3
         try clear hcz12_4
         try clear hcz12_5
         try clear hcz12_6
         try clear hcz12_7
         try clear hcz12_8
         try clear hcz20_0
         try clear hcz20_1
         try clear hcz20_2
         try clear hcz20_3
         try clear hcz20_4
         try clear hcz20_5
         try clear hcz20_6
         try clear hcz20_7
         try clear hcz20_8
         try clear hcz21_0
         try clear hcz21_1
         try clear hcz21_2
         try clear hcz21_3
         try clear hcz21_4
         try clear hcz21_5
         try clear hcz21_6
         try clear hcz21_7
         try clear hcz21_8
         try clear hcz22_0
         try clear hcz22_1
         try clear hcz22_2
         try clear hcz22_3
         try clear hcz22_4
         try clear hcz22_5
         try clear hcz22_6
         try clear hcz22_7
         try clear hcz22_8
         try clear hcz27_0
         try clear hcz27_1
         try clear hcz27_2
         try clear hcz27_3
         try clear hcz27_4
         try clear hcz27_5
         try clear hcz27_6
         try clear hcz27_7
         try clear hcz27_8
         try clear hcz28_0
         try clear hcz28_1
         try clear hcz28_2
         try clear hcz28_3
         try clear hcz28_4
         try clear hcz28_5
         try clear hcz28_6
         try clear hcz28_7
         try clear hcz28_8
         try clear hcz30_0
         try clear hcz30_1
         try clear hcz30_2
         try clear hcz30_3
         try clear hcz30_4
         try clear hcz30_5
         try clear hcz30_6
         try clear hcz30_7
         try clear hcz30_8
         try clear hcz31_0
         try clear hcz31_1
         try clear hcz31_2
         try clear hcz31_3
         try clear hcz31_4
         try clear hcz31_5
         try clear hcz31_6
         try clear hcz31_7
         try clear hcz31_8
         try clear hcz6_0
         try clear hcz6_1
         try clear hcz6_2
         try clear hcz6_3
         try clear hcz6_4
         try clear hcz6_5
         try clear hcz6_6
         try clear hcz6_7
         try clear hcz6_8
         try clear hfz10_0
         try clear hfz10_1
         try clear hfz10_2
         try clear hfz10_3
         try clear hfz10_4
         try clear hfz10_5
         try clear hfz10_6
         try clear hfz10_7
         try clear hfz10_8
         try clear hfz12_0
         try clear hfz12_1
         try clear hfz12_2
         try clear hfz12_3
         try clear hfz12_4
         try clear hfz12_5
         try clear hfz12_6
         try clear hfz12_7
         try clear hfz12_8
         try clear hfz20_0
         try clear hfz20_1
         try clear hfz20_2
         try clear hfz20_3
         try clear hfz20_4
         try clear hfz20_5
         try clear hfz20_6
         try clear hfz20_7
         try clear hfz20_8
         try clear hfz21_0
         try clear hfz21_1
         try clear hfz21_2
         try clear hfz21_3
         try clear hfz21_4
         try clear hfz21_5
         try clear hfz21_6
         try clear hfz21_7
         try clear hfz21_8
         try clear hfz22_0
         try clear hfz22_1
         try clear hfz22_2
         try clear hfz22_3
         try clear hfz22_4
         try clear hfz22_5
         try clear hfz22_6
         try clear hfz22_7
         try clear hfz22_8
         try clear hfz27_0
         try clear hfz27_1
         try clear hfz27_2
         try clear hfz27_3
         try clear hfz27_4
         try clear hfz27_5
         try clear hfz27_6
         try clear hfz27_7
         try clear hfz27_8
         try clear hfz28_0
         try clear hfz28_1
         try clear hfz28_2
         try clear hfz28_3
         try clear hfz28_4
         try clear hfz28_5
         try clear hfz28_6
         try clear hfz28_7
         try clear hfz28_8
         try clear hfz30_0
         try clear hfz30_1
         try clear hfz30_2
         try clear hfz30_3
         try clear hfz30_4
         try clear hfz30_5
         try clear hfz30_6
         try clear hfz30_7
         try clear hfz30_8
         try clear hfz31_0
         try clear hfz31_1
         try clear hfz31_2
         try clear hfz31_3
         try clear hfz31_4
         try clear hfz31_5
         try clear hfz31_6
         try clear hfz31_7
         try clear hfz31_8
         try clear hfz6_0
         try clear hfz6_1
         try clear hfz6_2
         try clear hfz6_3
         try clear hfz6_4
         try clear hfz6_5
         try clear hfz6_6
         try clear hfz6_7
         try clear hfz6_8
         try clear p2
         obtain ⟨kq, x40_23, rfl, HA, HJ23, BK375, HB⟩ := hcut
         cases kq with
         | zero => exact absurd HA.out (by simp [card_face.j2])
         | succ kj23 =>
          have H := HA.out
          clear HA
          simp only [card_face.j2] at H
          by_cases c32 : x40_23 = true
          ·subst c32
           have H1 : (some 8) = some r := by rw [if_pos rfl] at H; exact H
           clear H
           have H := H1
           clear H1
           obtain rfl := Option.some.inj H
           go_wp2
           go_ret
           exact ⟨Ze, Zb1 GE375.out⟩
          ·replace c32 := Bool.eq_false_iff.mpr c32
           subst c32
           have H1 : ((trait_Check.f a0_6).bind fun t382 => (if t382 = true then (if a0_2 = 2 then (card_face.j3 kj23 a0_7 a0_0 a0_1 a0_2 a0_3 a0_4 a0_5 a0_6 a0_7 l0_8) else (card_face.j3 kj23 false a0_0 a0_1 a0_2 a0_3 a0_4 a0_5 a0_6 a0_7 l0_8)) else (card_face.j3 kj23 true a0_0 a0_1 a0_2 a0_3 a0_4 a0_5 a0_6 a0_7 l0_8))) = some r := by rw [if_neg (show ¬ (false = true) by decide)] at H; exact H
           clear H
           have H := H1
           clear H1
           have HC33 := Aside0.mk H
           clear H
           go_upto_region 10 with (fail)
           go_cut [61] (fun v61 wc => ∃ (kq : Nat) (x61_32 : Bool), v61 = .bool x61_32 ∧ Aside0 (card_face.j3 kq x61_32 a0_0 a0_1 a0_2 a0_3 a0_4 a0_5 a0_6 a0_7 l0_8 = some r) ∧ Aside0 (kq ≤ kj23) ∧ Aside0 (wc.heap[gb375]? = some (.cells #[.string a0_0, .int .u8 a0_1, .int .u8 a0_2, .int .i64 a0_3, .int .i64 a0_4, .int .i64 a0_5, .int .u16 a0_6, .bool a0_7, (.slice A0_8 l0_8.length c0_8)] 28 (0, 0))) ∧ Aside0 (Below w.heap.size w wc))
           case first =>
            have H := HC33.out
            clear HC33
            replace H := Option.bind_eq_some_iff.mp H
            obtain ⟨t382, A340, H⟩ := H
            replace H : (if t382 = true then (if a0_2 = 2 then (card_face.j3 kj23 a0_7 a0_0 a0_1 a0_2 a0_3 a0_4 a0_5 a0_6 a0_7 l0_8) else (card_face.j3 kj23 false a0_0 a0_1 a0_2 a0_3 a0_4 a0_5 a0_6 a0_7 l0_8)) else (card_face.j3 kj23 true a0_0 a0_1 a0_2 a0_3 a0_4 a0_5 a0_6 a0_7 l0_8)) = some r := H
            have A34 := Aside0.mk A340
            clear A340
            by_cases c35 : t382 = true
            ·subst c35
             have H1 : (if a0_2 = 2 then (card_face.j3 kj23 a0_7 a0_0 a0_1 a0_2 a0_3 a0_4 a0_5 a0_6 a0_7 l0_8) else (card_face.j3 kj23 false a0_0 a0_1 a0_2 a0_3 a0_4 a0_5 a0_6 a0_7 l0_8)) = some r := by rw [if_pos rfl] at H; exact H
             clear H
             have H := H1
             clear H1
             by_cases c36 : a0_2 = 2
             ·rw [if_pos c36] at H
              have c36b0 : (a0_2 == 2) = true := beq_iff_eq.mpr c36
              have c36b1 : (a0_2 != 2) = false := bne_eq_false_iff_eq.mpr c36
              clear c36
              (first | rw [c36b0] | (simp only [i64_w, i32_w]; rw [c36b0]) | skip)
              have H' := Aside0.mk H
              clear H
              obtain ⟨hcz37_0, hcz37_1, hcz37_2, hcz37_3, hcz37_4, hcz37_5, hcz37_6, hcz37_7, hcz37_8, hfz37_0, hfz37_1, hfz37_2, hfz37_3, hfz37_4, hfz37_5, hfz37_6, hfz37_7, hfz37_8⟩ := Z9 BK375.out
              go_wp2_with (first | ((with_reducible refine gate_callee (f := 76) rfl ?_); refine goesL_ (some 64) rfl rfl Tryz.func76 (by kernel_rfl) rfl #[.int .u16 a0_6] rfl Zl ?_; (with_reducible refine (trait_Check.calls a0_6 true _ A34.out).mono ?_); rintro e w' ⟨rfl, ⟨nd, rfl⟩⟩; refine ⟨_, rfl, ?_⟩))
              go_meet
              case rel => exact ⟨_, (a0_7), Zs, H', ⟨by have := HJ3.out; have := HJ13.out; have := HJ23.out; first | omega | exact Nat.le_refl _⟩, ⟨Zk BK375.out⟩, ⟨Zb1 GE375.out⟩⟩
             ·rw [if_neg c36] at H
              have c36b0 : (a0_2 == 2) = false := beq_eq_false_iff_ne.mpr c36
              have c36b1 : (a0_2 != 2) = true := bne_iff_ne.mpr c36
              (first | rw [c36b0] | (simp only [i64_w, i32_w]; rw [c36b0]) | skip)
              have H' := Aside0.mk H
              clear H
              obtain ⟨hcz38_0, hcz38_1, hcz38_2, hcz38_3, hcz38_4, hcz38_5, hcz38_6, hcz38_7, hcz38_8, hfz38_0, hfz38_1, hfz38_2, hfz38_3, hfz38_4, hfz38_5, hfz38_6, hfz38_7, hfz38_8⟩ := Z9 BK375.out
              go_wp2_with (first | ((with_reducible refine gate_callee (f := 76) rfl ?_); refine goesL_ (some 64) rfl rfl Tryz.func76 (by kernel_rfl) rfl #[.int .u16 a0_6] rfl Zl ?_; (with_reducible refine (trait_Check.calls a0_6 true _ A34.out).mono ?_); rintro e w' ⟨rfl, ⟨nd, rfl⟩⟩; refine ⟨_, rfl, ?_⟩))
              go_meet
              case rel => exact ⟨_, (false), Zs, H', ⟨by have := HJ3.out; have := HJ13.out; have := HJ23.out; first | omega | exact Nat.le_refl _⟩, ⟨Zk BK375.out⟩, ⟨Zb1 GE375.out⟩⟩
            ·replace c35 := Bool.eq_false_iff.mpr c35
             subst c35
             have H1 : (card_face.j3 kj23 true a0_0 a0_1 a0_2 a0_3 a0_4 a0_5 a0_6 a0_7 l0_8) = some r := by rw [if_neg (show ¬ (false = true) by decide)] at H; exact H
             clear H
             have H := H1
             clear H1
             have H' := Aside0.mk H
             clear H
             obtain ⟨hcz39_0, hcz39_1, hcz39_2, hcz39_3, hcz39_4, hcz39_5, hcz39_6, hcz39_7, hcz39_8, hfz39_0, hfz39_1, hfz39_2, hfz39_3, hfz39_4, hfz39_5, hfz39_6, hfz39_7, hfz39_8⟩ := Z9 BK375.out
             go_wp2_with (first | ((with_reducible refine gate_callee (f := 76) rfl ?_); refine goesL_ (some 64) rfl rfl Tryz.func76 (by kernel_rfl) rfl #[.int .u16 a0_6] rfl Zl ?_; (with_reducible refine (trait_Check.calls a0_6 false _ A34.out).mono ?_); rintro e w' ⟨rfl, ⟨nd, rfl⟩⟩; refine ⟨_, rfl, ?_⟩))
             go_meet
             case rel => exact ⟨_, (true), Zs, H', ⟨by have := HJ3.out; have := HJ13.out; have := HJ23.out; first | omega | exact Nat.le_refl _⟩, ⟨Zk BK375.out⟩, ⟨Zb1 GE375.out⟩⟩
           case rest =>
            clear HC33
            try clear c1
            try clear c2
            try clear p2
            try clear c3
            try clear c7
            try clear c9
            try clear c9b0
            try clear c9b1
            try clear c13
            try clear c16
            try clear c18
            try clear c23
            try clear c25
            try clear c25b0
            try clear c25b1
            try clear c25b2
            try clear c26
            try clear c26b0
            try clear c26b1
            try clear c29
            try clear c29b0
            try clear c29b1
            try clear c30
            try clear c32
            try clear c35
            try clear c36
            try clear c36b0
            try clear c36b1
            try clear hcz10_0
            try clear hcz10_1
            try clear hcz10_2
            try clear hcz10_3
            try clear hcz10_4
            try clear hcz10_5
            try clear hcz10_6
            try clear hcz10_7
            try clear hcz10_8
            try clear hcz12_0
            try clear hcz12_1
            try clear hcz12_2
            try clear hcz12_3
            try clear hcz12_4
            try clear hcz12_5
            try clear hcz12_6
            try clear hcz12_7
            try clear hcz12_8
            try clear hcz20_0
            try clear hcz20_1
            try clear hcz20_2
            try clear hcz20_3
            try clear hcz20_4
            try clear hcz20_5
            try clear hcz20_6
            try clear hcz20_7
            try clear hcz20_8
            try clear hcz21_0
            try clear hcz21_1
            try clear hcz21_2
            try clear hcz21_3
            try clear hcz21_4
            try clear hcz21_5
            try clear hcz21_6
            try clear hcz21_7
            try clear hcz21_8
            try clear hcz22_0
            try clear hcz22_1
            try clear hcz22_2
            try clear hcz22_3
            try clear hcz22_4
            try clear hcz22_5
            try clear hcz22_6
            try clear hcz22_7
            try clear hcz22_8
            try clear hcz27_0
            try clear hcz27_1
            try clear hcz27_2
            try clear hcz27_3
            try clear hcz27_4
            try clear hcz27_5
            try clear hcz27_6
            try clear hcz27_7
            try clear hcz27_8
            try clear hcz28_0
            try clear hcz28_1
            try clear hcz28_2
            try clear hcz28_3
            try clear hcz28_4
            try clear hcz28_5
            try clear hcz28_6
            try clear hcz28_7
            try clear hcz28_8
            try clear hcz30_0
            try clear hcz30_1
            try clear hcz30_2
            try clear hcz30_3
            try clear hcz30_4
            try clear hcz30_5
            try clear hcz30_6
            try clear hcz30_7
            try clear hcz30_8
            try clear hcz31_0
            try clear hcz31_1
            try clear hcz31_2
            try clear hcz31_3
            try clear hcz31_4
            try clear hcz31_5
            try clear hcz31_6
            try clear hcz31_7
            try clear hcz31_8
            try clear hcz37_0
            try clear hcz37_1
            try clear hcz37_2
            try clear hcz37_3
            try clear hcz37_4
            try clear hcz37_5
            try clear hcz37_6
            try clear hcz37_7
            try clear hcz37_8
            try clear hcz38_0
            try clear hcz38_1
            try clear hcz38_2
            try clear hcz38_3
            try clear hcz38_4
            try clear hcz38_5
            try clear hcz38_6
            try clear hcz38_7
            try clear hcz38_8
            try clear hcz39_0
            try clear hcz39_1
            try clear hcz39_2
            try clear hcz39_3
            try clear hcz39_4
            try clear hcz39_5
            try clear hcz39_6
            try clear hcz39_7
            try clear hcz39_8
            try clear hcz6_0
            try clear hcz6_1
            try clear hcz6_2
            try clear hcz6_3
            try clear hcz6_4
            try clear hcz6_5
            try clear hcz6_6
            try clear hcz6_7
            try clear hcz6_8
            try clear hfz10_0
            try clear hfz10_1
            try clear hfz10_2
            try clear hfz10_3
            try clear hfz10_4
            try clear hfz10_5
            try clear hfz10_6
            try clear hfz10_7
            try clear hfz10_8
            try clear hfz12_0
            try clear hfz12_1
            try clear hfz12_2
            try clear hfz12_3
            try clear hfz12_4
            try clear hfz12_5
            try clear hfz12_6
            try clear hfz12_7
            try clear hfz12_8
            try clear hfz20_0
            try clear hfz20_1
            try clear hfz20_2
            try clear hfz20_3
            try clear hfz20_4
            try clear hfz20_5
            try clear hfz20_6
            try clear hfz20_7
            try clear hfz20_8
            try clear hfz21_0
            try clear hfz21_1
            try clear hfz21_2
            try clear hfz21_3
            try clear hfz21_4
            try clear hfz21_5
            try clear hfz21_6
            try clear hfz21_7
            try clear hfz21_8
            try clear hfz22_0
            try clear hfz22_1
            try clear hfz22_2
            try clear hfz22_3
            try clear hfz22_4
            try clear hfz22_5
            try clear hfz22_6
            try clear hfz22_7
            try clear hfz22_8
            try clear hfz27_0
            try clear hfz27_1
            try clear hfz27_2
            try clear hfz27_3
            try clear hfz27_4
            try clear hfz27_5
            try clear hfz27_6
            try clear hfz27_7
            try clear hfz27_8
            try clear hfz28_0
            try clear hfz28_1
            try clear hfz28_2
            try clear hfz28_3
            try clear hfz28_4
            try clear hfz28_5
            try clear hfz28_6
            try clear hfz28_7
            try clear hfz28_8
            try clear hfz30_0
            try clear hfz30_1
            try clear hfz30_2
            try clear hfz30_3
            try clear hfz30_4
            try clear hfz30_5
            try clear hfz30_6
            try clear hfz30_7
            try clear hfz30_8
            try clear hfz31_0
            try clear hfz31_1
            try clear hfz31_2
            try clear hfz31_3
            try clear hfz31_4
            try clear hfz31_5
            try clear hfz31_6
            try clear hfz31_7
            try clear hfz31_8
            try clear hfz37_0
            try clear hfz37_1
            try clear hfz37_2
            try clear hfz37_3
            try clear hfz37_4
            try clear hfz37_5
            try clear hfz37_6
            try clear hfz37_7
            try clear hfz37_8
            try clear hfz38_0
            try clear hfz38_1
            try clear hfz38_2
            try clear hfz38_3
            try clear hfz38_4
            try clear hfz38_5
            try clear hfz38_6
            try clear hfz38_7
            try clear hfz38_8
            try clear hfz39_0
            try clear hfz39_1
            try clear hfz39_2
            try clear hfz39_3
            try clear hfz39_4
            try clear hfz39_5
            try clear hfz39_6
            try clear hfz39_7
            try clear hfz39_8
            try clear hfz6_0
            try clear hfz6_1
            try clear hfz6_2
            try clear hfz6_3
            try clear hfz6_4
            try clear hfz6_5
            try clear hfz6_6
            try clear hfz6_7
            try clear hfz6_8
            try clear p2
            obtain ⟨kq, x61_32, rfl, HA, HJ32, BK375, HB⟩ := hcut
            cases kq with
            | zero => exact absurd HA.out (by simp [card_face.j3])
            | succ kj32 =>
             have H := HA.out
             clear HA
             simp only [card_face.j3] at H
             by_cases c40 : x61_32 = true
             ·subst c40
              have H1 : (some 8) = some r := by rw [if_pos rfl] at H; exact H
              clear H
              have H := H1
              clear H1
              obtain rfl := Option.some.inj H
              go_wp2
              go_ret
              exact ⟨Ze, Zb1 GE375.out⟩
             ·replace c40 := Bool.eq_false_iff.mpr c40
              subst c40
              have H1 : (if (l0_8.length : Int) > 4 then (some 3) else (some 0)) = some r := by rw [if_neg (show ¬ (false = true) by decide)] at H; exact H
              clear H
              have H := H1
              clear H1
              by_cases c41 : (l0_8.length : Int) > 4
              ·rw [if_pos c41] at H
               have c41b0 : decide (4 < (l0_8.length : Int)) = true := decide_eq_true c41
               have c41b1 : decide (4 < l0_8.length) = true := decide_eq_true (by omega)
               clear c41
               obtain rfl := Option.some.inj H
               obtain ⟨hcz42_0, hcz42_1, hcz42_2, hcz42_3, hcz42_4, hcz42_5, hcz42_6, hcz42_7, hcz42_8, hfz42_0, hfz42_1, hfz42_2, hfz42_3, hfz42_4, hfz42_5, hfz42_6, hfz42_7, hfz42_8⟩ := Z9 BK375.out
               go_wp2
               go_ret
               exact ⟨Ze, Zb1 GE375.out⟩
              ·rw [if_neg c41] at H
               have c41b0 : decide (4 < (l0_8.length : Int)) = false := decide_eq_false c41
               have c41b1 : decide (4 < l0_8.length) = false := decide_eq_false (by omega)
               clear c41
               obtain rfl := Option.some.inj H
               obtain ⟨hcz43_0, hcz43_1, hcz43_2, hcz43_3, hcz43_4, hcz43_5, hcz43_6, hcz43_7, hcz43_8, hfz43_0, hfz43_1, hfz43_2, hfz43_3, hfz43_4, hfz43_5, hfz43_6, hfz43_7, hfz43_8⟩ := Z9 BK375.out
               go_wp2
               go_ret
               exact ⟨Ze, Zb1 GE375.out⟩
 ·replace c3 := Bool.eq_false_iff.mpr c3
  subst c3
  have H1 : (some 4) = some r := by rw [if_neg (show ¬ (false = true) by decide)] at H; exact H
  clear H
  have H := H1
  clear H1
  obtain rfl := Option.some.inj H
  go_enter Tryz.func29, Tryz.ntmps29
  go_wp2_with (first | ((with_reducible refine gate_dst (N := 1) rfl ?_); refine box_event ?hg (N := 1) ?hd (cs := #[.string a0_0, .int .u8 a0_1, .int .u8 a0_2, .int .i64 a0_3, .int .i64 a0_4, .int .i64 a0_5, .int .u16 a0_6, .bool a0_7, .slice A0_8 l0_8.length c0_8]) (t := 28) ?hr ?_; (case hd => rfl); (case hg => rfl); (case hr => first | (go_simp; done) | (go_simp; rfl)); intro gb375 hg w44 hbox hb; have BK375 := Aside0.mk (hbox); have GW375 := Aside0.mk ((by rw [hg]; exact (below_size Zb) : w.heap.size ≤ gb375)); have GE375 := Aside0.mk ((by rw [hg]; exact (below_size Zb) : w.heap.size ≤ gb375)); replace HB := Aside0.mk (below_step Zb hb); clear hb hbox hg; obtain ⟨hcz45_0, hcz45_1, hcz45_2, hcz45_3, hcz45_4, hcz45_5, hcz45_6, hcz45_7, hcz45_8, hfz45_0, hfz45_1, hfz45_2, hfz45_3, hfz45_4, hfz45_5, hfz45_6, hfz45_7, hfz45_8⟩ := Z9 BK375.out) | ((with_reducible refine gate_callee (f := 74) rfl ?_); refine goesL_ (some 10) rfl rfl Tryz.func74 (by kernel_rfl) rfl #[.string a0_0] rfl Zl ?_; (with_reducible refine (card_named.calls a0_0 false _ A2.out).mono ?_); rintro e w46 ⟨rfl, hb⟩; refine ⟨_, rfl, ?_⟩; replace BK375 := Aside0.mk (blk_below (Zj BK375.out) hb); replace HB := Aside0.mk (below_step (Zb1 GE375.out) hb); (try clear hb); (try clear hb2); (try clear hk); (try clear hi)))
  go_ret
  exact ⟨Ze, Zb1 GE375.out⟩
def card_Check.l0 : Nat → List (S48) → Int → Int → ByteArray → Int → Int → Int → Int → Int → Int → Bool → List (S48) → Option (Int)
 | 0, _, _, _, _, _, _, _, _, _, _, _, _ => none
 | k + 1, x13, x14, x15, x384000, x384001, x384002, x384003, x384004, x384005, x384006, x384007, x384008 => if x15 < x14 then (if 0 ≤ x15 then (if x15 < (x13.length : Int) then ((effect_Check.f k ((rd_T48 x13 x15).f0) ((rd_T48 x13 x15).f1) ((rd_T48 x13 x15).f2) ((rd_T48 x13 x15).f3) ((rd_T48 x13 x15).f4) ((rd_T48 x13 x15).f5) ((rd_T48 x13 x15).f6) ((rd_T48 x13 x15).f7)).bind fun t387 => (if t387 = 0 then (if x384002 = 2 then (if ((rd_T48 x13 x15).f0) = 1 then (if x384002 = 3 then (if ((rd_T48 x13 x15).f0) = 4 then (some 8) else (card_Check.l0 k x13 x14 (wrap64 (x15 + 1)) x384000 x384001 x384002 x384003 x384004 x384005 x384006 x384007 x384008)) else (card_Check.l0 k x13 x14 (wrap64 (x15 + 1)) x384000 x384001 x384002 x384003 x384004 x384005 x384006 x384007 x384008)) else (some 8)) else (if x384002 = 3 then (if ((rd_T48 x13 x15).f0) = 4 then (some 8) else (card_Check.l0 k x13 x14 (wrap64 (x15 + 1)) x384000 x384001 x384002 x384003 x384004 x384005 x384006 x384007 x384008)) else (card_Check.l0 k x13 x14 (wrap64 (x15 + 1)) x384000 x384001 x384002 x384003 x384004 x384005 x384006 x384007 x384008))) else (some t387))) else (none)) else (none)) else (some 0)
def card_Check.f (k : Nat) (a0_0 : ByteArray) (a0_1 : Int) (a0_2 : Int) (a0_3 : Int) (a0_4 : Int) (a0_5 : Int) (a0_6 : Int) (a0_7 : Bool) (l0_8 : List (S48)) : Option (Int) := (card_face.f k a0_0 a0_1 a0_2 a0_3 a0_4 a0_5 a0_6 a0_7 l0_8).bind fun t384 => (if t384 = 0 then (card_Check.l0 k l0_8 (l0_8.length : Int) 0 a0_0 a0_1 a0_2 a0_3 a0_4 a0_5 a0_6 a0_7 l0_8) else (some t384))
theorem card_Check.mono_l : ∀ k, (∀ y0 y1 y2 y3 y4 y5 y6 y7 y8 y9 y10 y11, LeO (card_Check.l0 k y0 y1 y2 y3 y4 y5 y6 y7 y8 y9 y10 y11) (card_Check.l0 (k + 1) y0 y1 y2 y3 y4 y5 y6 y7 y8 y9 y10 y11))
 | 0 => fun _ _ _ _ _ _ _ _ _ _ _ _ r h => by simp [card_Check.l0] at h
 | k + 1 => by
  have ih0 := card_Check.mono_l k
  ·intro y0 y1 y2 y3 y4 y5 y6 y7 y8 y9 y10 y11
   unfold card_Check.l0
   repeat' first
   | (with_reducible exact ih0 _ _ _ _ _ _ _ _ _ _ _ _)
   | (with_reducible exact card_face.mono _ _ _ _ _ _ _ _ _ _)
   | (with_reducible exact effect_Check.mono _ _ _ _ _ _ _ _ _)
   | (with_reducible exact LeO.refl _)
   | (with_reducible exact LeO.none _)
   | (with_reducible refine LeO.ite ?_ ?_)
   | (with_reducible refine LeO.bind ?_ (fun _ => ?_))
   | exact ih0 _ _ _ _ _ _ _ _ _ _ _ _
   | exact card_face.mono _ _ _ _ _ _ _ _ _ _
   | exact effect_Check.mono _ _ _ _ _ _ _ _ _
   | exact LeO.none _
   | refine LeO.ite ?_ ?_
   | refine LeO.bind ?_ (fun _ => ?_)
theorem card_Check.mono : ∀ a0 a1 a2 a3 a4 a5 a6 a7 a8 k, LeO (card_Check.f k a0 a1 a2 a3 a4 a5 a6 a7 a8) (card_Check.f (k + 1) a0 a1 a2 a3 a4 a5 a6 a7 a8) := by
 intro a0 a1 a2 a3 a4 a5 a6 a7 a8 k
 have ih0 := card_Check.mono_l k
 unfold card_Check.f
 repeat' first
   | (with_reducible exact ih0 _ _ _ _ _ _ _ _ _ _ _ _)
   | (with_reducible exact card_face.mono _ _ _ _ _ _ _ _ _ _)
   | (with_reducible exact effect_Check.mono _ _ _ _ _ _ _ _ _)
   | (with_reducible exact LeO.refl _)
   | (with_reducible exact LeO.none _)
   | (with_reducible refine LeO.ite ?_ ?_)
   | (with_reducible refine LeO.bind ?_ (fun _ => ?_))
   | exact ih0 _ _ _ _ _ _ _ _ _ _ _ _
   | exact card_face.mono _ _ _ _ _ _ _ _ _ _
   | exact effect_Check.mono _ _ _ _ _ _ _ _ _
   | exact LeO.none _
   | refine LeO.ite ?_ ?_
   | refine LeO.bind ?_ (fun _ => ?_)
set_option maxHeartbeats 8000000 in
set_option maxRecDepth 100000 in
theorem card_Check.calls (k : Nat) (a0_0 : ByteArray) (a0_1 : Int) (a0_2 : Int) (a0_3 : Int) (a0_4 : Int) (a0_5 : Int) (a0_6 : Int) (a0_7 : Bool) (A0_8 : Option Addr) (c0_8 : Nat) (l0_8 : List (S48)) (r : Int) (w : World) (hr0_8 : Kd.C k48 w A0_8 l0_8.length l0_8) (hc0_8 : l0_8.length ≤ c0_8) (h : card_Check.f k a0_0 a0_1 a0_2 a0_3 a0_4 a0_5 a0_6 a0_7 l0_8 = some r) :
  Calls Tryz.prog 9 #[.agg #[.string a0_0, .int .u8 a0_1, .int .u8 a0_2, .int .i64 a0_3, .int .i64 a0_4, .int .i64 a0_5, .int .u16 a0_6, .bool a0_7, .slice A0_8 l0_8.length c0_8]] w fun e w' => e = .returned (.int .i64 r) ∧ Below w.heap.size w w' := by
 have hu28 := Tryz.underlying28
 have hu48 := Tryz.underlying48
 have HR0_8 := Aside0.mk hr0_8
 have HC0_8 := Aside0.mk hc0_8
 clear hr0_8 hc0_8
 have HB := Aside0.mk (Below.refl w.heap.size w)
 have H : ((card_face.f k a0_0 a0_1 a0_2 a0_3 a0_4 a0_5 a0_6 a0_7 l0_8).bind fun t384 => (if t384 = 0 then (card_Check.l0 k l0_8 (l0_8.length : Int) 0 a0_0 a0_1 a0_2 a0_3 a0_4 a0_5 a0_6 a0_7 l0_8) else (some t384))) = some r := h
 clear h
 replace H := Option.bind_eq_some_iff.mp H
 obtain ⟨t384, A20, H⟩ := H
 replace H : (if t384 = 0 then (card_Check.l0 k l0_8 (l0_8.length : Int) 0 a0_0 a0_1 a0_2 a0_3 a0_4 a0_5 a0_6 a0_7 l0_8) else (some t384)) = some r := H
 have A2 := Aside0.mk A20
 clear A20
 by_cases c3 : t384 = 0
 ·rw [if_pos c3] at H
  have c3b0 : (t384 == 0) = true := beq_iff_eq.mpr c3
  have c3b1 : (t384 != 0) = false := bne_eq_false_iff_eq.mpr c3
  clear c3
  have H' := Aside0.mk H
  clear H
  go_enter Tryz.func9, Tryz.ntmps9
  go_wp2_with (first | ((with_reducible refine gate_dst (N := 1) rfl ?_); refine box_event ?hg (N := 1) ?hd (cs := #[.string a0_0, .int .u8 a0_1, .int .u8 a0_2, .int .i64 a0_3, .int .i64 a0_4, .int .i64 a0_5, .int .u16 a0_6, .bool a0_7, .slice A0_8 l0_8.length c0_8]) (t := 28) ?hr ?_; (case hd => rfl); (case hg => rfl); (case hr => first | (go_simp; done) | (go_simp; rfl)); intro gb383 hg w4 hbox hb; have BK383 := Aside0.mk (hbox); have GW383 := Aside0.mk ((by rw [hg]; exact (below_size Zb) : w.heap.size ≤ gb383)); have GE383 := Aside0.mk ((by rw [hg]; exact (below_size Zb) : w.heap.size ≤ gb383)); replace HB := Aside0.mk (below_step Zb hb); clear hb hbox hg; obtain ⟨hcz5_0, hcz5_1, hcz5_2, hcz5_3, hcz5_4, hcz5_5, hcz5_6, hcz5_7, hcz5_8, hfz5_0, hfz5_1, hfz5_2, hfz5_3, hfz5_4, hfz5_5, hfz5_6, hfz5_7, hfz5_8⟩ := Z9 BK383.out) | ((with_reducible refine gate_callee (f := 29) rfl ?_); refine goesL_ (some 8) rfl rfl Tryz.func29 (by kernel_rfl) rfl #[.agg #[.string a0_0, .int .u8 a0_1, .int .u8 a0_2, .int .i64 a0_3, .int .i64 a0_4, .int .i64 a0_5, .int .u16 a0_6, .bool a0_7, .slice A0_8 l0_8.length c0_8]] rfl Zl ?_; (with_reducible refine (card_face.calls k a0_0 a0_1 a0_2 a0_3 a0_4 a0_5 a0_6 a0_7 _ _ l0_8 t384 _ ?side1 ?side2 A2.out).mono ?_); (case side1 => repeat (first | exact (Kd.C_below HR0_8.out HB.out) | (with_reducible refine Kd.C_alloc ?_ _) | (with_reducible refine Kd.C_drewN ?_ _) | (with_reducible refine Kd.C_drew ?_))); (case side2 => exact HC0_8.out); rintro e w6 ⟨rfl, hb⟩; refine ⟨_, rfl, ?_⟩; replace BK383 := Aside0.mk (blk_below (Zj BK383.out) hb); replace HB := Aside0.mk (below_step (Zb1 GE383.out) hb); (try clear hb); (try clear hb2); (try clear hk); (try clear hi); obtain ⟨hcz7_0, hcz7_1, hcz7_2, hcz7_3, hcz7_4, hcz7_5, hcz7_6, hcz7_7, hcz7_8, hfz7_0, hfz7_1, hfz7_2, hfz7_3, hfz7_4, hfz7_5, hfz7_6, hfz7_7, hfz7_8⟩ := Z9 BK383.out))
  go_loopg [15] k (fun kq v15 w' => ∃ (x15_1 : Int), v15 = .int .i64 x15_1 ∧ Aside0 (card_Check.l0 kq l0_8 (l0_8.length : Int) x15_1 a0_0 a0_1 a0_2 a0_3 a0_4 a0_5 a0_6 a0_7 l0_8 = some r) ∧ Aside0 (kq ≤ k) ∧ Aside0 (w'.heap[gb383]? = some (.cells #[.string a0_0, .int .u8 a0_1, .int .u8 a0_2, .int .i64 a0_3, .int .i64 a0_4, .int .i64 a0_5, .int .u16 a0_6, .bool a0_7, (.slice A0_8 l0_8.length c0_8)] 28 (0, 0))) ∧ Aside0 (Below w.heap.size w w'))
  case atStart => exact ⟨(0), Zs, H', ⟨Nat.le_refl _⟩, ⟨Zk BK383.out⟩, ⟨Zb1 GE383.out⟩⟩
  case round =>
   clear H'
   try clear c2
   try clear p2
   try clear c3
   try clear c3b0
   try clear c3b1
   try clear hcz5_0
   try clear hcz5_1
   try clear hcz5_2
   try clear hcz5_3
   try clear hcz5_4
   try clear hcz5_5
   try clear hcz5_6
   try clear hcz5_7
   try clear hcz5_8
   try clear hcz7_0
   try clear hcz7_1
   try clear hcz7_2
   try clear hcz7_3
   try clear hcz7_4
   try clear hcz7_5
   try clear hcz7_6
   try clear hcz7_7
   try clear hcz7_8
   try clear hfz5_0
   try clear hfz5_1
   try clear hfz5_2
   try clear hfz5_3
   try clear hfz5_4
   try clear hfz5_5
   try clear hfz5_6
   try clear hfz5_7
   try clear hfz5_8
   try clear hfz7_0
   try clear hfz7_1
   try clear hfz7_2
   try clear hfz7_3
   try clear hfz7_4
   try clear hfz7_5
   try clear hfz7_6
   try clear hfz7_7
   try clear hfz7_8
   obtain ⟨x15_1, rfl, HA, HK1, BK383, HB⟩ := hrel
   cases gk with
   | zero => exact absurd HA.out (by simp [card_Check.l0])
   | succ k1 =>
    have H := HA.out
    clear HA
    simp only [card_Check.l0] at H
    by_cases c8 : x15_1 < (l0_8.length : Int)
    ·rw [if_pos c8] at H
     have c8b0 : decide (x15_1 < (l0_8.length : Int)) = true := decide_eq_true c8
     clear c8
     by_cases c9 : 0 ≤ x15_1
     ·rw [if_pos c9] at H
      have c9b0 : decide (0 ≤ x15_1) = true := decide_eq_true c9
      clear c9
      by_cases c10 : x15_1 < (l0_8.length : Int)
      ·rw [if_pos c10] at H
       have c10b0 : decide (x15_1 < (l0_8.length : Int)) = true := decide_eq_true c10
       clear c10
       replace H := Option.bind_eq_some_iff.mp H
       obtain ⟨t387, A110, H⟩ := H
       replace H : (if t387 = 0 then (if a0_2 = 2 then (if ((rd_T48 l0_8 x15_1).f0) = 1 then (if a0_2 = 3 then (if ((rd_T48 l0_8 x15_1).f0) = 4 then (some 8) else (card_Check.l0 k1 l0_8 (l0_8.length : Int) (wrap64 (x15_1 + 1)) a0_0 a0_1 a0_2 a0_3 a0_4 a0_5 a0_6 a0_7 l0_8)) else (card_Check.l0 k1 l0_8 (l0_8.length : Int) (wrap64 (x15_1 + 1)) a0_0 a0_1 a0_2 a0_3 a0_4 a0_5 a0_6 a0_7 l0_8)) else (some 8)) else (if a0_2 = 3 then (if ((rd_T48 l0_8 x15_1).f0) = 4 then (some 8) else (card_Check.l0 k1 l0_8 (l0_8.length : Int) (wrap64 (x15_1 + 1)) a0_0 a0_1 a0_2 a0_3 a0_4 a0_5 a0_6 a0_7 l0_8)) else (card_Check.l0 k1 l0_8 (l0_8.length : Int) (wrap64 (x15_1 + 1)) a0_0 a0_1 a0_2 a0_3 a0_4 a0_5 a0_6 a0_7 l0_8))) else (some t387)) = some r := H
       have A11 := Aside0.mk A110
       clear A110
       by_cases c12 : t387 = 0
       ·rw [if_pos c12] at H
        have c12b0 : (t387 == 0) = true := beq_iff_eq.mpr c12
        have c12b1 : (t387 != 0) = false := bne_eq_false_iff_eq.mpr c12
        clear c12
        by_cases c13 : a0_2 = 2
        ·rw [if_pos c13] at H
         have c13b0 : (a0_2 == 2) = true := beq_iff_eq.mpr c13
         have c13b1 : (a0_2 != 2) = false := bne_eq_false_iff_eq.mpr c13
         clear c13
         by_cases c14 : ((rd_T48 l0_8 x15_1).f0) = 1
         ·rw [if_pos c14] at H
          have c14b0 : (((rd_T48 l0_8 x15_1).f0) == 1) = true := beq_iff_eq.mpr c14
          have c14b1 : (((rd_T48 l0_8 x15_1).f0) != 1) = false := bne_eq_false_iff_eq.mpr c14
          clear c14
          by_cases c15 : a0_2 = 3
          ·rw [if_pos c15] at H
           have c15b0 : (a0_2 == 3) = true := beq_iff_eq.mpr c15
           have c15b1 : (a0_2 != 3) = false := bne_eq_false_iff_eq.mpr c15
           clear c15
           by_cases c16 : ((rd_T48 l0_8 x15_1).f0) = 4
           ·rw [if_pos c16] at H
            have c16b0 : (((rd_T48 l0_8 x15_1).f0) == 4) = true := beq_iff_eq.mpr c16
            have c16b1 : (((rd_T48 l0_8 x15_1).f0) != 4) = false := bne_eq_false_iff_eq.mpr c16
            clear c16
            obtain rfl := Option.some.inj H
            have p385 : 0 ≤ (x15_1 : Int) := of_decide_eq_true Za
            have q385 : x15_1 < (l0_8.length : Int) := of_decide_eq_true Za
            obtain ⟨ad385, e385, hx385_0, hx385_1, hx385_2, hx385_3, hx385_4, hx385_5, hx385_6, hx385_7⟩ := at_T48 HR0_8.out x15_1 p385 q385
            cases e385
            replace hx385_0 := (HB.out.cell (World.block_lt_of_cell? w _ hx385_0)).trans hx385_0
            replace hx385_1 := (HB.out.cell (World.block_lt_of_cell? w _ hx385_1)).trans hx385_1
            replace hx385_2 := (HB.out.cell (World.block_lt_of_cell? w _ hx385_2)).trans hx385_2
            replace hx385_3 := (HB.out.cell (World.block_lt_of_cell? w _ hx385_3)).trans hx385_3
            replace hx385_4 := (HB.out.cell (World.block_lt_of_cell? w _ hx385_4)).trans hx385_4
            replace hx385_5 := (HB.out.cell (World.block_lt_of_cell? w _ hx385_5)).trans hx385_5
            replace hx385_6 := (HB.out.cell (World.block_lt_of_cell? w _ hx385_6)).trans hx385_6
            replace hx385_7 := (HB.out.cell (World.block_lt_of_cell? w _ hx385_7)).trans hx385_7
            replace p385 := eq_true p385
            replace q385 := eq_true q385
            go_wp2_with (first | ((with_reducible refine gate_dst (N := 5) rfl ?_); refine box_event ?hg (N := 5) ?hd (cs := #[.int .u8 0, .int .u8 0, .int .u8 0, .int .i64 0, .int .u8 0, .int .u8 0, .int .u8 0, .string (⟨#[]⟩ : ByteArray)]) (t := 48) ?hr ?_; (case hd => rfl); (case hg => rfl); (case hr => first | (go_simp; done) | (go_simp; rfl)); intro gb386 hg w17 hbox hb; have BK386 := Aside0.mk (hbox); have GW386 := Aside0.mk ((by rw [hg]; exact (below_size (Zb1 GE383.out)) : w.heap.size ≤ gb386)); have GE386 := Aside0.mk ((by rw [hg]; exact (below_size (Zb1 GE383.out)) : w.heap.size ≤ gb386)); replace HB := Aside0.mk (below_step (Zb1 GE383.out) hb); have NB383_386 := Aside0.mk ((by rw [hg]; exact Nat.ne_of_lt (blk_lt (Zj BK383.out)) : gb383 ≠ gb386)); have NB386_383 := Aside0.mk ((by rw [hg]; exact Nat.ne_of_gt (blk_lt (Zj BK383.out)) : gb386 ≠ gb383)); replace BK383 := Aside0.mk (blk_below (Zj BK383.out) hb); clear hb hbox hg; have hnb18 := NB386_383.out; have hnc18 := NB383_386.out; obtain ⟨hcz19_0, hcz19_1, hcz19_2, hcz19_3, hcz19_4, hcz19_5, hcz19_6, hcz19_7, hfz19_0, hfz19_1, hfz19_2, hfz19_3, hfz19_4, hfz19_5, hfz19_6, hfz19_7⟩ := Z8 BK386.out) | ((with_reducible refine gate_callee (f := 24) rfl ?_); refine goesL_ (some 20) rfl rfl Tryz.func24 (by kernel_rfl) rfl #[.agg #[.int .u8 ((rd_T48 l0_8 x15_1).f0), .int .u8 ((rd_T48 l0_8 x15_1).f1), .int .u8 ((rd_T48 l0_8 x15_1).f2), .int .i64 ((rd_T48 l0_8 x15_1).f3), .int .u8 ((rd_T48 l0_8 x15_1).f4), .int .u8 ((rd_T48 l0_8 x15_1).f5), .int .u8 ((rd_T48 l0_8 x15_1).f6), .string ((rd_T48 l0_8 x15_1).f7)]] rfl Zl ?_; (with_reducible refine (effect_Check.calls k1 ((rd_T48 l0_8 x15_1).f0) ((rd_T48 l0_8 x15_1).f1) ((rd_T48 l0_8 x15_1).f2) ((rd_T48 l0_8 x15_1).f3) ((rd_T48 l0_8 x15_1).f4) ((rd_T48 l0_8 x15_1).f5) ((rd_T48 l0_8 x15_1).f6) ((rd_T48 l0_8 x15_1).f7) t387 _ A11.out).mono ?_); rintro e w20 ⟨rfl, hb⟩; refine ⟨_, rfl, ?_⟩; replace BK383 := Aside0.mk (blk_below (g := gb383) (o := .cells #[.string a0_0, .int .u8 a0_1, .int .u8 a0_2, .int .i64 a0_3, .int .i64 a0_4, .int .i64 a0_5, .int .u16 a0_6, .bool a0_7, .slice (some ad385) l0_8.length c0_8] 28 (0, 0)) (by (with_reducible repeat (first | apply blk_kn | apply blk_kd | apply blk_ka)); refine blk_far ?_ NB383_386.out _; (with_reducible repeat (first | apply blk_kn | apply blk_kd | apply blk_ka)); refine blk_far ?_ NB383_386.out _; (with_reducible repeat (first | apply blk_kn | apply blk_kd | apply blk_ka)); refine blk_far ?_ NB383_386.out _; (with_reducible repeat (first | apply blk_kn | apply blk_kd | apply blk_ka)); refine blk_far ?_ NB383_386.out _; (with_reducible repeat (first | apply blk_kn | apply blk_kd | apply blk_ka)); refine blk_far ?_ NB383_386.out _; (with_reducible repeat (first | apply blk_kn | apply blk_kd | apply blk_ka)); refine blk_far ?_ NB383_386.out _; (with_reducible repeat (first | apply blk_kn | apply blk_kd | apply blk_ka)); refine blk_far ?_ NB383_386.out _; (with_reducible repeat (first | apply blk_kn | apply blk_kd | apply blk_ka)); refine blk_far ?_ NB383_386.out _; exact Zk BK383.out) hb); replace BK386 := Aside0.mk (blk_below (g := gb386) (o := .cells #[.int .u8 ((rd_T48 l0_8 x15_1).f0), .int .u8 ((rd_T48 l0_8 x15_1).f1), .int .u8 ((rd_T48 l0_8 x15_1).f2), .int .i64 ((rd_T48 l0_8 x15_1).f3), .int .u8 ((rd_T48 l0_8 x15_1).f4), .int .u8 ((rd_T48 l0_8 x15_1).f5), .int .u8 ((rd_T48 l0_8 x15_1).f6), .string ((rd_T48 l0_8 x15_1).f7)] 48 (0, 0)) (by (with_reducible repeat (first | apply blk_kn | apply blk_kd | apply blk_ka)); refine blk_put (cs := #[.int .u8 ((rd_T48 l0_8 x15_1).f0), .int .u8 ((rd_T48 l0_8 x15_1).f1), .int .u8 ((rd_T48 l0_8 x15_1).f2), .int .i64 ((rd_T48 l0_8 x15_1).f3), .int .u8 ((rd_T48 l0_8 x15_1).f4), .int .u8 ((rd_T48 l0_8 x15_1).f5), .int .u8 ((rd_T48 l0_8 x15_1).f6), .string (⟨#[]⟩ : ByteArray)]) ?_ 7 _ rfl; (with_reducible repeat (first | apply blk_kn | apply blk_kd | apply blk_ka)); refine blk_put (cs := #[.int .u8 ((rd_T48 l0_8 x15_1).f0), .int .u8 ((rd_T48 l0_8 x15_1).f1), .int .u8 ((rd_T48 l0_8 x15_1).f2), .int .i64 ((rd_T48 l0_8 x15_1).f3), .int .u8 ((rd_T48 l0_8 x15_1).f4), .int .u8 ((rd_T48 l0_8 x15_1).f5), .int .u8 0, .string (⟨#[]⟩ : ByteArray)]) ?_ 6 _ rfl; (with_reducible repeat (first | apply blk_kn | apply blk_kd | apply blk_ka)); refine blk_put (cs := #[.int .u8 ((rd_T48 l0_8 x15_1).f0), .int .u8 ((rd_T48 l0_8 x15_1).f1), .int .u8 ((rd_T48 l0_8 x15_1).f2), .int .i64 ((rd_T48 l0_8 x15_1).f3), .int .u8 ((rd_T48 l0_8 x15_1).f4), .int .u8 0, .int .u8 0, .string (⟨#[]⟩ : ByteArray)]) ?_ 5 _ rfl; (with_reducible repeat (first | apply blk_kn | apply blk_kd | apply blk_ka)); refine blk_put (cs := #[.int .u8 ((rd_T48 l0_8 x15_1).f0), .int .u8 ((rd_T48 l0_8 x15_1).f1), .int .u8 ((rd_T48 l0_8 x15_1).f2), .int .i64 ((rd_T48 l0_8 x15_1).f3), .int .u8 0, .int .u8 0, .int .u8 0, .string (⟨#[]⟩ : ByteArray)]) ?_ 4 _ rfl; (with_reducible repeat (first | apply blk_kn | apply blk_kd | apply blk_ka)); refine blk_put (cs := #[.int .u8 ((rd_T48 l0_8 x15_1).f0), .int .u8 ((rd_T48 l0_8 x15_1).f1), .int .u8 ((rd_T48 l0_8 x15_1).f2), .int .i64 0, .int .u8 0, .int .u8 0, .int .u8 0, .string (⟨#[]⟩ : ByteArray)]) ?_ 3 _ rfl; (with_reducible repeat (first | apply blk_kn | apply blk_kd | apply blk_ka)); refine blk_put (cs := #[.int .u8 ((rd_T48 l0_8 x15_1).f0), .int .u8 ((rd_T48 l0_8 x15_1).f1), .int .u8 0, .int .i64 0, .int .u8 0, .int .u8 0, .int .u8 0, .string (⟨#[]⟩ : ByteArray)]) ?_ 2 _ rfl; (with_reducible repeat (first | apply blk_kn | apply blk_kd | apply blk_ka)); refine blk_put (cs := #[.int .u8 ((rd_T48 l0_8 x15_1).f0), .int .u8 0, .int .u8 0, .int .i64 0, .int .u8 0, .int .u8 0, .int .u8 0, .string (⟨#[]⟩ : ByteArray)]) ?_ 1 _ rfl; (with_reducible repeat (first | apply blk_kn | apply blk_kd | apply blk_ka)); refine blk_put (cs := #[.int .u8 0, .int .u8 0, .int .u8 0, .int .i64 0, .int .u8 0, .int .u8 0, .int .u8 0, .string (⟨#[]⟩ : ByteArray)]) ?_ 0 _ rfl; exact Zk BK386.out) hb); replace HB := Aside0.mk (below_step (Zb2 GE383.out GE386.out) hb); (try clear hb); (try clear hb2); (try clear hk); (try clear hi); obtain ⟨hcz21_0, hcz21_1, hcz21_2, hcz21_3, hcz21_4, hcz21_5, hcz21_6, hcz21_7, hcz21_8, hfz21_0, hfz21_1, hfz21_2, hfz21_3, hfz21_4, hfz21_5, hfz21_6, hfz21_7, hfz21_8⟩ := Z9 BK383.out; obtain ⟨hcz22_0, hcz22_1, hcz22_2, hcz22_3, hcz22_4, hcz22_5, hcz22_6, hcz22_7, hfz22_0, hfz22_1, hfz22_2, hfz22_3, hfz22_4, hfz22_5, hfz22_6, hfz22_7⟩ := Z8 BK386.out))
            go_ret
            exact ⟨Ze, Zb2 GE383.out GE386.out⟩
           ·rw [if_neg c16] at H
            have c16b0 : (((rd_T48 l0_8 x15_1).f0) == 4) = false := beq_eq_false_iff_ne.mpr c16
            have c16b1 : (((rd_T48 l0_8 x15_1).f0) != 4) = true := bne_iff_ne.mpr c16
            have H' := Aside0.mk H
            clear H
            have p385 : 0 ≤ (x15_1 : Int) := of_decide_eq_true Za
            have q385 : x15_1 < (l0_8.length : Int) := of_decide_eq_true Za
            obtain ⟨ad385, e385, hx385_0, hx385_1, hx385_2, hx385_3, hx385_4, hx385_5, hx385_6, hx385_7⟩ := at_T48 HR0_8.out x15_1 p385 q385
            cases e385
            replace hx385_0 := (HB.out.cell (World.block_lt_of_cell? w _ hx385_0)).trans hx385_0
            replace hx385_1 := (HB.out.cell (World.block_lt_of_cell? w _ hx385_1)).trans hx385_1
            replace hx385_2 := (HB.out.cell (World.block_lt_of_cell? w _ hx385_2)).trans hx385_2
            replace hx385_3 := (HB.out.cell (World.block_lt_of_cell? w _ hx385_3)).trans hx385_3
            replace hx385_4 := (HB.out.cell (World.block_lt_of_cell? w _ hx385_4)).trans hx385_4
            replace hx385_5 := (HB.out.cell (World.block_lt_of_cell? w _ hx385_5)).trans hx385_5
            replace hx385_6 := (HB.out.cell (World.block_lt_of_cell? w _ hx385_6)).trans hx385_6
            replace hx385_7 := (HB.out.cell (World.block_lt_of_cell? w _ hx385_7)).trans hx385_7
            replace p385 := eq_true p385
            replace q385 := eq_true q385
            go_wp2_with (first | ((with_reducible refine gate_dst (N := 5) rfl ?_); refine box_event ?hg (N := 5) ?hd (cs := #[.int .u8 0, .int .u8 0, .int .u8 0, .int .i64 0, .int .u8 0, .int .u8 0, .int .u8 0, .string (⟨#[]⟩ : ByteArray)]) (t := 48) ?hr ?_; (case hd => rfl); (case hg => rfl); (case hr => first | (go_simp; done) | (go_simp; rfl)); intro gb386 hg w23 hbox hb; have BK386 := Aside0.mk (hbox); have GW386 := Aside0.mk ((by rw [hg]; exact (below_size (Zb1 GE383.out)) : w.heap.size ≤ gb386)); have GE386 := Aside0.mk ((by rw [hg]; exact (below_size (Zb1 GE383.out)) : w.heap.size ≤ gb386)); replace HB := Aside0.mk (below_step (Zb1 GE383.out) hb); have NB383_386 := Aside0.mk ((by rw [hg]; exact Nat.ne_of_lt (blk_lt (Zj BK383.out)) : gb383 ≠ gb386)); have NB386_383 := Aside0.mk ((by rw [hg]; exact Nat.ne_of_gt (blk_lt (Zj BK383.out)) : gb386 ≠ gb383)); replace BK383 := Aside0.mk (blk_below (Zj BK383.out) hb); clear hb hbox hg; have hnb24 := NB386_383.out; have hnc24 := NB383_386.out; obtain ⟨hcz25_0, hcz25_1, hcz25_2, hcz25_3, hcz25_4, hcz25_5, hcz25_6, hcz25_7, hfz25_0, hfz25_1, hfz25_2, hfz25_3, hfz25_4, hfz25_5, hfz25_6, hfz25_7⟩ := Z8 BK386.out) | ((with_reducible refine gate_callee (f := 24) rfl ?_); refine goesL_ (some 20) rfl rfl Tryz.func24 (by kernel_rfl) rfl #[.agg #[.int .u8 ((rd_T48 l0_8 x15_1).f0), .int .u8 ((rd_T48 l0_8 x15_1).f1), .int .u8 ((rd_T48 l0_8 x15_1).f2), .int .i64 ((rd_T48 l0_8 x15_1).f3), .int .u8 ((rd_T48 l0_8 x15_1).f4), .int .u8 ((rd_T48 l0_8 x15_1).f5), .int .u8 ((rd_T48 l0_8 x15_1).f6), .string ((rd_T48 l0_8 x15_1).f7)]] rfl Zl ?_; (with_reducible refine (effect_Check.calls k1 ((rd_T48 l0_8 x15_1).f0) ((rd_T48 l0_8 x15_1).f1) ((rd_T48 l0_8 x15_1).f2) ((rd_T48 l0_8 x15_1).f3) ((rd_T48 l0_8 x15_1).f4) ((rd_T48 l0_8 x15_1).f5) ((rd_T48 l0_8 x15_1).f6) ((rd_T48 l0_8 x15_1).f7) t387 _ A11.out).mono ?_); rintro e w26 ⟨rfl, hb⟩; refine ⟨_, rfl, ?_⟩; replace BK383 := Aside0.mk (blk_below (g := gb383) (o := .cells #[.string a0_0, .int .u8 a0_1, .int .u8 a0_2, .int .i64 a0_3, .int .i64 a0_4, .int .i64 a0_5, .int .u16 a0_6, .bool a0_7, .slice (some ad385) l0_8.length c0_8] 28 (0, 0)) (by (with_reducible repeat (first | apply blk_kn | apply blk_kd | apply blk_ka)); refine blk_far ?_ NB383_386.out _; (with_reducible repeat (first | apply blk_kn | apply blk_kd | apply blk_ka)); refine blk_far ?_ NB383_386.out _; (with_reducible repeat (first | apply blk_kn | apply blk_kd | apply blk_ka)); refine blk_far ?_ NB383_386.out _; (with_reducible repeat (first | apply blk_kn | apply blk_kd | apply blk_ka)); refine blk_far ?_ NB383_386.out _; (with_reducible repeat (first | apply blk_kn | apply blk_kd | apply blk_ka)); refine blk_far ?_ NB383_386.out _; (with_reducible repeat (first | apply blk_kn | apply blk_kd | apply blk_ka)); refine blk_far ?_ NB383_386.out _; (with_reducible repeat (first | apply blk_kn | apply blk_kd | apply blk_ka)); refine blk_far ?_ NB383_386.out _; (with_reducible repeat (first | apply blk_kn | apply blk_kd | apply blk_ka)); refine blk_far ?_ NB383_386.out _; exact Zk BK383.out) hb); replace BK386 := Aside0.mk (blk_below (g := gb386) (o := .cells #[.int .u8 ((rd_T48 l0_8 x15_1).f0), .int .u8 ((rd_T48 l0_8 x15_1).f1), .int .u8 ((rd_T48 l0_8 x15_1).f2), .int .i64 ((rd_T48 l0_8 x15_1).f3), .int .u8 ((rd_T48 l0_8 x15_1).f4), .int .u8 ((rd_T48 l0_8 x15_1).f5), .int .u8 ((rd_T48 l0_8 x15_1).f6), .string ((rd_T48 l0_8 x15_1).f7)] 48 (0, 0)) (by (with_reducible repeat (first | apply blk_kn | apply blk_kd | apply blk_ka)); refine blk_put (cs := #[.int .u8 ((rd_T48 l0_8 x15_1).f0), .int .u8 ((rd_T48 l0_8 x15_1).f1), .int .u8 ((rd_T48 l0_8 x15_1).f2), .int .i64 ((rd_T48 l0_8 x15_1).f3), .int .u8 ((rd_T48 l0_8 x15_1).f4), .int .u8 ((rd_T48 l0_8 x15_1).f5), .int .u8 ((rd_T48 l0_8 x15_1).f6), .string (⟨#[]⟩ : ByteArray)]) ?_ 7 _ rfl; (with_reducible repeat (first | apply blk_kn | apply blk_kd | apply blk_ka)); refine blk_put (cs := #[.int .u8 ((rd_T48 l0_8 x15_1).f0), .int .u8 ((rd_T48 l0_8 x15_1).f1), .int .u8 ((rd_T48 l0_8 x15_1).f2), .int .i64 ((rd_T48 l0_8 x15_1).f3), .int .u8 ((rd_T48 l0_8 x15_1).f4), .int .u8 ((rd_T48 l0_8 x15_1).f5), .int .u8 0, .string (⟨#[]⟩ : ByteArray)]) ?_ 6 _ rfl; (with_reducible repeat (first | apply blk_kn | apply blk_kd | apply blk_ka)); refine blk_put (cs := #[.int .u8 ((rd_T48 l0_8 x15_1).f0), .int .u8 ((rd_T48 l0_8 x15_1).f1), .int .u8 ((rd_T48 l0_8 x15_1).f2), .int .i64 ((rd_T48 l0_8 x15_1).f3), .int .u8 ((rd_T48 l0_8 x15_1).f4), .int .u8 0, .int .u8 0, .string (⟨#[]⟩ : ByteArray)]) ?_ 5 _ rfl; (with_reducible repeat (first | apply blk_kn | apply blk_kd | apply blk_ka)); refine blk_put (cs := #[.int .u8 ((rd_T48 l0_8 x15_1).f0), .int .u8 ((rd_T48 l0_8 x15_1).f1), .int .u8 ((rd_T48 l0_8 x15_1).f2), .int .i64 ((rd_T48 l0_8 x15_1).f3), .int .u8 0, .int .u8 0, .int .u8 0, .string (⟨#[]⟩ : ByteArray)]) ?_ 4 _ rfl; (with_reducible repeat (first | apply blk_kn | apply blk_kd | apply blk_ka)); refine blk_put (cs := #[.int .u8 ((rd_T48 l0_8 x15_1).f0), .int .u8 ((rd_T48 l0_8 x15_1).f1), .int .u8 ((rd_T48 l0_8 x15_1).f2), .int .i64 0, .int .u8 0, .int .u8 0, .int .u8 0, .string (⟨#[]⟩ : ByteArray)]) ?_ 3 _ rfl; (with_reducible repeat (first | apply blk_kn | apply blk_kd | apply blk_ka)); refine blk_put (cs := #[.int .u8 ((rd_T48 l0_8 x15_1).f0), .int .u8 ((rd_T48 l0_8 x15_1).f1), .int .u8 0, .int .i64 0, .int .u8 0, .int .u8 0, .int .u8 0, .string (⟨#[]⟩ : ByteArray)]) ?_ 2 _ rfl; (with_reducible repeat (first | apply blk_kn | apply blk_kd | apply blk_ka)); refine blk_put (cs := #[.int .u8 ((rd_T48 l0_8 x15_1).f0), .int .u8 0, .int .u8 0, .int .i64 0, .int .u8 0, .int .u8 0, .int .u8 0, .string (⟨#[]⟩ : ByteArray)]) ?_ 1 _ rfl; (with_reducible repeat (first | apply blk_kn | apply blk_kd | apply blk_ka)); refine blk_put (cs := #[.int .u8 0, .int .u8 0, .int .u8 0, .int .i64 0, .int .u8 0, .int .u8 0, .int .u8 0, .string (⟨#[]⟩ : ByteArray)]) ?_ 0 _ rfl; exact Zk BK386.out) hb); replace HB := Aside0.mk (below_step (Zb2 GE383.out GE386.out) hb); (try clear hb); (try clear hb2); (try clear hk); (try clear hi); obtain ⟨hcz27_0, hcz27_1, hcz27_2, hcz27_3, hcz27_4, hcz27_5, hcz27_6, hcz27_7, hcz27_8, hfz27_0, hfz27_1, hfz27_2, hfz27_3, hfz27_4, hfz27_5, hfz27_6, hfz27_7, hfz27_8⟩ := Z9 BK383.out; obtain ⟨hcz28_0, hcz28_1, hcz28_2, hcz28_3, hcz28_4, hcz28_5, hcz28_6, hcz28_7, hfz28_0, hfz28_1, hfz28_2, hfz28_3, hfz28_4, hfz28_5, hfz28_6, hfz28_7⟩ := Z8 BK386.out))
            go_roundg k1
            case measure => have := HK1.out; omega
            case rel => exact ⟨(wrap64 (x15_1 + 1)), Zs, H', ⟨by have := HK1.out; omega⟩, ⟨Zk BK383.out⟩, ⟨Zb2 GE383.out GE386.out⟩⟩
          ·rw [if_neg c15] at H
           have c15b0 : (a0_2 == 3) = false := beq_eq_false_iff_ne.mpr c15
           have c15b1 : (a0_2 != 3) = true := bne_iff_ne.mpr c15
           have H' := Aside0.mk H
           clear H
           have p385 : 0 ≤ (x15_1 : Int) := of_decide_eq_true Za
           have q385 : x15_1 < (l0_8.length : Int) := of_decide_eq_true Za
           obtain ⟨ad385, e385, hx385_0, hx385_1, hx385_2, hx385_3, hx385_4, hx385_5, hx385_6, hx385_7⟩ := at_T48 HR0_8.out x15_1 p385 q385
           cases e385
           replace hx385_0 := (HB.out.cell (World.block_lt_of_cell? w _ hx385_0)).trans hx385_0
           replace hx385_1 := (HB.out.cell (World.block_lt_of_cell? w _ hx385_1)).trans hx385_1
           replace hx385_2 := (HB.out.cell (World.block_lt_of_cell? w _ hx385_2)).trans hx385_2
           replace hx385_3 := (HB.out.cell (World.block_lt_of_cell? w _ hx385_3)).trans hx385_3
           replace hx385_4 := (HB.out.cell (World.block_lt_of_cell? w _ hx385_4)).trans hx385_4
           replace hx385_5 := (HB.out.cell (World.block_lt_of_cell? w _ hx385_5)).trans hx385_5
           replace hx385_6 := (HB.out.cell (World.block_lt_of_cell? w _ hx385_6)).trans hx385_6
           replace hx385_7 := (HB.out.cell (World.block_lt_of_cell? w _ hx385_7)).trans hx385_7
           replace p385 := eq_true p385
           replace q385 := eq_true q385
           go_wp2_with (first | ((with_reducible refine gate_dst (N := 5) rfl ?_); refine box_event ?hg (N := 5) ?hd (cs := #[.int .u8 0, .int .u8 0, .int .u8 0, .int .i64 0, .int .u8 0, .int .u8 0, .int .u8 0, .string (⟨#[]⟩ : ByteArray)]) (t := 48) ?hr ?_; (case hd => rfl); (case hg => rfl); (case hr => first | (go_simp; done) | (go_simp; rfl)); intro gb386 hg w29 hbox hb; have BK386 := Aside0.mk (hbox); have GW386 := Aside0.mk ((by rw [hg]; exact (below_size (Zb1 GE383.out)) : w.heap.size ≤ gb386)); have GE386 := Aside0.mk ((by rw [hg]; exact (below_size (Zb1 GE383.out)) : w.heap.size ≤ gb386)); replace HB := Aside0.mk (below_step (Zb1 GE383.out) hb); have NB383_386 := Aside0.mk ((by rw [hg]; exact Nat.ne_of_lt (blk_lt (Zj BK383.out)) : gb383 ≠ gb386)); have NB386_383 := Aside0.mk ((by rw [hg]; exact Nat.ne_of_gt (blk_lt (Zj BK383.out)) : gb386 ≠ gb383)); replace BK383 := Aside0.mk (blk_below (Zj BK383.out) hb); clear hb hbox hg; have hnb30 := NB386_383.out; have hnc30 := NB383_386.out; obtain ⟨hcz31_0, hcz31_1, hcz31_2, hcz31_3, hcz31_4, hcz31_5, hcz31_6, hcz31_7, hfz31_0, hfz31_1, hfz31_2, hfz31_3, hfz31_4, hfz31_5, hfz31_6, hfz31_7⟩ := Z8 BK386.out) | ((with_reducible refine gate_callee (f := 24) rfl ?_); refine goesL_ (some 20) rfl rfl Tryz.func24 (by kernel_rfl) rfl #[.agg #[.int .u8 ((rd_T48 l0_8 x15_1).f0), .int .u8 ((rd_T48 l0_8 x15_1).f1), .int .u8 ((rd_T48 l0_8 x15_1).f2), .int .i64 ((rd_T48 l0_8 x15_1).f3), .int .u8 ((rd_T48 l0_8 x15_1).f4), .int .u8 ((rd_T48 l0_8 x15_1).f5), .int .u8 ((rd_T48 l0_8 x15_1).f6), .string ((rd_T48 l0_8 x15_1).f7)]] rfl Zl ?_; (with_reducible refine (effect_Check.calls k1 ((rd_T48 l0_8 x15_1).f0) ((rd_T48 l0_8 x15_1).f1) ((rd_T48 l0_8 x15_1).f2) ((rd_T48 l0_8 x15_1).f3) ((rd_T48 l0_8 x15_1).f4) ((rd_T48 l0_8 x15_1).f5) ((rd_T48 l0_8 x15_1).f6) ((rd_T48 l0_8 x15_1).f7) t387 _ A11.out).mono ?_); rintro e w32 ⟨rfl, hb⟩; refine ⟨_, rfl, ?_⟩; replace BK383 := Aside0.mk (blk_below (g := gb383) (o := .cells #[.string a0_0, .int .u8 a0_1, .int .u8 a0_2, .int .i64 a0_3, .int .i64 a0_4, .int .i64 a0_5, .int .u16 a0_6, .bool a0_7, .slice (some ad385) l0_8.length c0_8] 28 (0, 0)) (by (with_reducible repeat (first | apply blk_kn | apply blk_kd | apply blk_ka)); refine blk_far ?_ NB383_386.out _; (with_reducible repeat (first | apply blk_kn | apply blk_kd | apply blk_ka)); refine blk_far ?_ NB383_386.out _; (with_reducible repeat (first | apply blk_kn | apply blk_kd | apply blk_ka)); refine blk_far ?_ NB383_386.out _; (with_reducible repeat (first | apply blk_kn | apply blk_kd | apply blk_ka)); refine blk_far ?_ NB383_386.out _; (with_reducible repeat (first | apply blk_kn | apply blk_kd | apply blk_ka)); refine blk_far ?_ NB383_386.out _; (with_reducible repeat (first | apply blk_kn | apply blk_kd | apply blk_ka)); refine blk_far ?_ NB383_386.out _; (with_reducible repeat (first | apply blk_kn | apply blk_kd | apply blk_ka)); refine blk_far ?_ NB383_386.out _; (with_reducible repeat (first | apply blk_kn | apply blk_kd | apply blk_ka)); refine blk_far ?_ NB383_386.out _; exact Zk BK383.out) hb); replace BK386 := Aside0.mk (blk_below (g := gb386) (o := .cells #[.int .u8 ((rd_T48 l0_8 x15_1).f0), .int .u8 ((rd_T48 l0_8 x15_1).f1), .int .u8 ((rd_T48 l0_8 x15_1).f2), .int .i64 ((rd_T48 l0_8 x15_1).f3), .int .u8 ((rd_T48 l0_8 x15_1).f4), .int .u8 ((rd_T48 l0_8 x15_1).f5), .int .u8 ((rd_T48 l0_8 x15_1).f6), .string ((rd_T48 l0_8 x15_1).f7)] 48 (0, 0)) (by (with_reducible repeat (first | apply blk_kn | apply blk_kd | apply blk_ka)); refine blk_put (cs := #[.int .u8 ((rd_T48 l0_8 x15_1).f0), .int .u8 ((rd_T48 l0_8 x15_1).f1), .int .u8 ((rd_T48 l0_8 x15_1).f2), .int .i64 ((rd_T48 l0_8 x15_1).f3), .int .u8 ((rd_T48 l0_8 x15_1).f4), .int .u8 ((rd_T48 l0_8 x15_1).f5), .int .u8 ((rd_T48 l0_8 x15_1).f6), .string (⟨#[]⟩ : ByteArray)]) ?_ 7 _ rfl; (with_reducible repeat (first | apply blk_kn | apply blk_kd | apply blk_ka)); refine blk_put (cs := #[.int .u8 ((rd_T48 l0_8 x15_1).f0), .int .u8 ((rd_T48 l0_8 x15_1).f1), .int .u8 ((rd_T48 l0_8 x15_1).f2), .int .i64 ((rd_T48 l0_8 x15_1).f3), .int .u8 ((rd_T48 l0_8 x15_1).f4), .int .u8 ((rd_T48 l0_8 x15_1).f5), .int .u8 0, .string (⟨#[]⟩ : ByteArray)]) ?_ 6 _ rfl; (with_reducible repeat (first | apply blk_kn | apply blk_kd | apply blk_ka)); refine blk_put (cs := #[.int .u8 ((rd_T48 l0_8 x15_1).f0), .int .u8 ((rd_T48 l0_8 x15_1).f1), .int .u8 ((rd_T48 l0_8 x15_1).f2), .int .i64 ((rd_T48 l0_8 x15_1).f3), .int .u8 ((rd_T48 l0_8 x15_1).f4), .int .u8 0, .int .u8 0, .string (⟨#[]⟩ : ByteArray)]) ?_ 5 _ rfl; (with_reducible repeat (first | apply blk_kn | apply blk_kd | apply blk_ka)); refine blk_put (cs := #[.int .u8 ((rd_T48 l0_8 x15_1).f0), .int .u8 ((rd_T48 l0_8 x15_1).f1), .int .u8 ((rd_T48 l0_8 x15_1).f2), .int .i64 ((rd_T48 l0_8 x15_1).f3), .int .u8 0, .int .u8 0, .int .u8 0, .string (⟨#[]⟩ : ByteArray)]) ?_ 4 _ rfl; (with_reducible repeat (first | apply blk_kn | apply blk_kd | apply blk_ka)); refine blk_put (cs := #[.int .u8 ((rd_T48 l0_8 x15_1).f0), .int .u8 ((rd_T48 l0_8 x15_1).f1), .int .u8 ((rd_T48 l0_8 x15_1).f2), .int .i64 0, .int .u8 0, .int .u8 0, .int .u8 0, .string (⟨#[]⟩ : ByteArray)]) ?_ 3 _ rfl; (with_reducible repeat (first | apply blk_kn | apply blk_kd | apply blk_ka)); refine blk_put (cs := #[.int .u8 ((rd_T48 l0_8 x15_1).f0), .int .u8 ((rd_T48 l0_8 x15_1).f1), .int .u8 0, .int .i64 0, .int .u8 0, .int .u8 0, .int .u8 0, .string (⟨#[]⟩ : ByteArray)]) ?_ 2 _ rfl; (with_reducible repeat (first | apply blk_kn | apply blk_kd | apply blk_ka)); refine blk_put (cs := #[.int .u8 ((rd_T48 l0_8 x15_1).f0), .int .u8 0, .int .u8 0, .int .i64 0, .int .u8 0, .int .u8 0, .int .u8 0, .string (⟨#[]⟩ : ByteArray)]) ?_ 1 _ rfl; (with_reducible repeat (first | apply blk_kn | apply blk_kd | apply blk_ka)); refine blk_put (cs := #[.int .u8 0, .int .u8 0, .int .u8 0, .int .i64 0, .int .u8 0, .int .u8 0, .int .u8 0, .string (⟨#[]⟩ : ByteArray)]) ?_ 0 _ rfl; exact Zk BK386.out) hb); replace HB := Aside0.mk (below_step (Zb2 GE383.out GE386.out) hb); (try clear hb); (try clear hb2); (try clear hk); (try clear hi); obtain ⟨hcz33_0, hcz33_1, hcz33_2, hcz33_3, hcz33_4, hcz33_5, hcz33_6, hcz33_7, hcz33_8, hfz33_0, hfz33_1, hfz33_2, hfz33_3, hfz33_4, hfz33_5, hfz33_6, hfz33_7, hfz33_8⟩ := Z9 BK383.out; obtain ⟨hcz34_0, hcz34_1, hcz34_2, hcz34_3, hcz34_4, hcz34_5, hcz34_6, hcz34_7, hfz34_0, hfz34_1, hfz34_2, hfz34_3, hfz34_4, hfz34_5, hfz34_6, hfz34_7⟩ := Z8 BK386.out))
           go_roundg k1
           case measure => have := HK1.out; omega
           case rel => exact ⟨(wrap64 (x15_1 + 1)), Zs, H', ⟨by have := HK1.out; omega⟩, ⟨Zk BK383.out⟩, ⟨Zb2 GE383.out GE386.out⟩⟩
         ·rw [if_neg c14] at H
          have c14b0 : (((rd_T48 l0_8 x15_1).f0) == 1) = false := beq_eq_false_iff_ne.mpr c14
          have c14b1 : (((rd_T48 l0_8 x15_1).f0) != 1) = true := bne_iff_ne.mpr c14
          obtain rfl := Option.some.inj H
          have p385 : 0 ≤ (x15_1 : Int) := of_decide_eq_true Za
          have q385 : x15_1 < (l0_8.length : Int) := of_decide_eq_true Za
          obtain ⟨ad385, e385, hx385_0, hx385_1, hx385_2, hx385_3, hx385_4, hx385_5, hx385_6, hx385_7⟩ := at_T48 HR0_8.out x15_1 p385 q385
          cases e385
          replace hx385_0 := (HB.out.cell (World.block_lt_of_cell? w _ hx385_0)).trans hx385_0
          replace hx385_1 := (HB.out.cell (World.block_lt_of_cell? w _ hx385_1)).trans hx385_1
          replace hx385_2 := (HB.out.cell (World.block_lt_of_cell? w _ hx385_2)).trans hx385_2
          replace hx385_3 := (HB.out.cell (World.block_lt_of_cell? w _ hx385_3)).trans hx385_3
          replace hx385_4 := (HB.out.cell (World.block_lt_of_cell? w _ hx385_4)).trans hx385_4
          replace hx385_5 := (HB.out.cell (World.block_lt_of_cell? w _ hx385_5)).trans hx385_5
          replace hx385_6 := (HB.out.cell (World.block_lt_of_cell? w _ hx385_6)).trans hx385_6
          replace hx385_7 := (HB.out.cell (World.block_lt_of_cell? w _ hx385_7)).trans hx385_7
          replace p385 := eq_true p385
          replace q385 := eq_true q385
          go_wp2_with (first | ((with_reducible refine gate_dst (N := 5) rfl ?_); refine box_event ?hg (N := 5) ?hd (cs := #[.int .u8 0, .int .u8 0, .int .u8 0, .int .i64 0, .int .u8 0, .int .u8 0, .int .u8 0, .string (⟨#[]⟩ : ByteArray)]) (t := 48) ?hr ?_; (case hd => rfl); (case hg => rfl); (case hr => first | (go_simp; done) | (go_simp; rfl)); intro gb386 hg w35 hbox hb; have BK386 := Aside0.mk (hbox); have GW386 := Aside0.mk ((by rw [hg]; exact (below_size (Zb1 GE383.out)) : w.heap.size ≤ gb386)); have GE386 := Aside0.mk ((by rw [hg]; exact (below_size (Zb1 GE383.out)) : w.heap.size ≤ gb386)); replace HB := Aside0.mk (below_step (Zb1 GE383.out) hb); have NB383_386 := Aside0.mk ((by rw [hg]; exact Nat.ne_of_lt (blk_lt (Zj BK383.out)) : gb383 ≠ gb386)); have NB386_383 := Aside0.mk ((by rw [hg]; exact Nat.ne_of_gt (blk_lt (Zj BK383.out)) : gb386 ≠ gb383)); replace BK383 := Aside0.mk (blk_below (Zj BK383.out) hb); clear hb hbox hg; have hnb36 := NB386_383.out; have hnc36 := NB383_386.out; obtain ⟨hcz37_0, hcz37_1, hcz37_2, hcz37_3, hcz37_4, hcz37_5, hcz37_6, hcz37_7, hfz37_0, hfz37_1, hfz37_2, hfz37_3, hfz37_4, hfz37_5, hfz37_6, hfz37_7⟩ := Z8 BK386.out) | ((with_reducible refine gate_callee (f := 24) rfl ?_); refine goesL_ (some 20) rfl rfl Tryz.func24 (by kernel_rfl) rfl #[.agg #[.int .u8 ((rd_T48 l0_8 x15_1).f0), .int .u8 ((rd_T48 l0_8 x15_1).f1), .int .u8 ((rd_T48 l0_8 x15_1).f2), .int .i64 ((rd_T48 l0_8 x15_1).f3), .int .u8 ((rd_T48 l0_8 x15_1).f4), .int .u8 ((rd_T48 l0_8 x15_1).f5), .int .u8 ((rd_T48 l0_8 x15_1).f6), .string ((rd_T48 l0_8 x15_1).f7)]] rfl Zl ?_; (with_reducible refine (effect_Check.calls k1 ((rd_T48 l0_8 x15_1).f0) ((rd_T48 l0_8 x15_1).f1) ((rd_T48 l0_8 x15_1).f2) ((rd_T48 l0_8 x15_1).f3) ((rd_T48 l0_8 x15_1).f4) ((rd_T48 l0_8 x15_1).f5) ((rd_T48 l0_8 x15_1).f6) ((rd_T48 l0_8 x15_1).f7) t387 _ A11.out).mono ?_); rintro e w38 ⟨rfl, hb⟩; refine ⟨_, rfl, ?_⟩; replace BK383 := Aside0.mk (blk_below (g := gb383) (o := .cells #[.string a0_0, .int .u8 a0_1, .int .u8 a0_2, .int .i64 a0_3, .int .i64 a0_4, .int .i64 a0_5, .int .u16 a0_6, .bool a0_7, .slice (some ad385) l0_8.length c0_8] 28 (0, 0)) (by (with_reducible repeat (first | apply blk_kn | apply blk_kd | apply blk_ka)); refine blk_far ?_ NB383_386.out _; (with_reducible repeat (first | apply blk_kn | apply blk_kd | apply blk_ka)); refine blk_far ?_ NB383_386.out _; (with_reducible repeat (first | apply blk_kn | apply blk_kd | apply blk_ka)); refine blk_far ?_ NB383_386.out _; (with_reducible repeat (first | apply blk_kn | apply blk_kd | apply blk_ka)); refine blk_far ?_ NB383_386.out _; (with_reducible repeat (first | apply blk_kn | apply blk_kd | apply blk_ka)); refine blk_far ?_ NB383_386.out _; (with_reducible repeat (first | apply blk_kn | apply blk_kd | apply blk_ka)); refine blk_far ?_ NB383_386.out _; (with_reducible repeat (first | apply blk_kn | apply blk_kd | apply blk_ka)); refine blk_far ?_ NB383_386.out _; (with_reducible repeat (first | apply blk_kn | apply blk_kd | apply blk_ka)); refine blk_far ?_ NB383_386.out _; exact Zk BK383.out) hb); replace BK386 := Aside0.mk (blk_below (g := gb386) (o := .cells #[.int .u8 ((rd_T48 l0_8 x15_1).f0), .int .u8 ((rd_T48 l0_8 x15_1).f1), .int .u8 ((rd_T48 l0_8 x15_1).f2), .int .i64 ((rd_T48 l0_8 x15_1).f3), .int .u8 ((rd_T48 l0_8 x15_1).f4), .int .u8 ((rd_T48 l0_8 x15_1).f5), .int .u8 ((rd_T48 l0_8 x15_1).f6), .string ((rd_T48 l0_8 x15_1).f7)] 48 (0, 0)) (by (with_reducible repeat (first | apply blk_kn | apply blk_kd | apply blk_ka)); refine blk_put (cs := #[.int .u8 ((rd_T48 l0_8 x15_1).f0), .int .u8 ((rd_T48 l0_8 x15_1).f1), .int .u8 ((rd_T48 l0_8 x15_1).f2), .int .i64 ((rd_T48 l0_8 x15_1).f3), .int .u8 ((rd_T48 l0_8 x15_1).f4), .int .u8 ((rd_T48 l0_8 x15_1).f5), .int .u8 ((rd_T48 l0_8 x15_1).f6), .string (⟨#[]⟩ : ByteArray)]) ?_ 7 _ rfl; (with_reducible repeat (first | apply blk_kn | apply blk_kd | apply blk_ka)); refine blk_put (cs := #[.int .u8 ((rd_T48 l0_8 x15_1).f0), .int .u8 ((rd_T48 l0_8 x15_1).f1), .int .u8 ((rd_T48 l0_8 x15_1).f2), .int .i64 ((rd_T48 l0_8 x15_1).f3), .int .u8 ((rd_T48 l0_8 x15_1).f4), .int .u8 ((rd_T48 l0_8 x15_1).f5), .int .u8 0, .string (⟨#[]⟩ : ByteArray)]) ?_ 6 _ rfl; (with_reducible repeat (first | apply blk_kn | apply blk_kd | apply blk_ka)); refine blk_put (cs := #[.int .u8 ((rd_T48 l0_8 x15_1).f0), .int .u8 ((rd_T48 l0_8 x15_1).f1), .int .u8 ((rd_T48 l0_8 x15_1).f2), .int .i64 ((rd_T48 l0_8 x15_1).f3), .int .u8 ((rd_T48 l0_8 x15_1).f4), .int .u8 0, .int .u8 0, .string (⟨#[]⟩ : ByteArray)]) ?_ 5 _ rfl; (with_reducible repeat (first | apply blk_kn | apply blk_kd | apply blk_ka)); refine blk_put (cs := #[.int .u8 ((rd_T48 l0_8 x15_1).f0), .int .u8 ((rd_T48 l0_8 x15_1).f1), .int .u8 ((rd_T48 l0_8 x15_1).f2), .int .i64 ((rd_T48 l0_8 x15_1).f3), .int .u8 0, .int .u8 0, .int .u8 0, .string (⟨#[]⟩ : ByteArray)]) ?_ 4 _ rfl; (with_reducible repeat (first | apply blk_kn | apply blk_kd | apply blk_ka)); refine blk_put (cs := #[.int .u8 ((rd_T48 l0_8 x15_1).f0), .int .u8 ((rd_T48 l0_8 x15_1).f1), .int .u8 ((rd_T48 l0_8 x15_1).f2), .int .i64 0, .int .u8 0, .int .u8 0, .int .u8 0, .string (⟨#[]⟩ : ByteArray)]) ?_ 3 _ rfl; (with_reducible repeat (first | apply blk_kn | apply blk_kd | apply blk_ka)); refine blk_put (cs := #[.int .u8 ((rd_T48 l0_8 x15_1).f0), .int .u8 ((rd_T48 l0_8 x15_1).f1), .int .u8 0, .int .i64 0, .int .u8 0, .int .u8 0, .int .u8 0, .string (⟨#[]⟩ : ByteArray)]) ?_ 2 _ rfl; (with_reducible repeat (first | apply blk_kn | apply blk_kd | apply blk_ka)); refine blk_put (cs := #[.int .u8 ((rd_T48 l0_8 x15_1).f0), .int .u8 0, .int .u8 0, .int .i64 0, .int .u8 0, .int .u8 0, .int .u8 0, .string (⟨#[]⟩ : ByteArray)]) ?_ 1 _ rfl; (with_reducible repeat (first | apply blk_kn | apply blk_kd | apply blk_ka)); refine blk_put (cs := #[.int .u8 0, .int .u8 0, .int .u8 0, .int .i64 0, .int .u8 0, .int .u8 0, .int .u8 0, .string (⟨#[]⟩ : ByteArray)]) ?_ 0 _ rfl; exact Zk BK386.out) hb); replace HB := Aside0.mk (below_step (Zb2 GE383.out GE386.out) hb); (try clear hb); (try clear hb2); (try clear hk); (try clear hi); obtain ⟨hcz39_0, hcz39_1, hcz39_2, hcz39_3, hcz39_4, hcz39_5, hcz39_6, hcz39_7, hcz39_8, hfz39_0, hfz39_1, hfz39_2, hfz39_3, hfz39_4, hfz39_5, hfz39_6, hfz39_7, hfz39_8⟩ := Z9 BK383.out; obtain ⟨hcz40_0, hcz40_1, hcz40_2, hcz40_3, hcz40_4, hcz40_5, hcz40_6, hcz40_7, hfz40_0, hfz40_1, hfz40_2, hfz40_3, hfz40_4, hfz40_5, hfz40_6, hfz40_7⟩ := Z8 BK386.out))
          go_ret
          exact ⟨Ze, Zb2 GE383.out GE386.out⟩
        ·rw [if_neg c13] at H
         have c13b0 : (a0_2 == 2) = false := beq_eq_false_iff_ne.mpr c13
         have c13b1 : (a0_2 != 2) = true := bne_iff_ne.mpr c13
         by_cases c41 : a0_2 = 3
         ·rw [if_pos c41] at H
          have c41b0 : (a0_2 == 3) = true := beq_iff_eq.mpr c41
          have c41b1 : (a0_2 != 3) = false := bne_eq_false_iff_eq.mpr c41
          clear c41
          by_cases c42 : ((rd_T48 l0_8 x15_1).f0) = 4
          ·rw [if_pos c42] at H
           have c42b0 : (((rd_T48 l0_8 x15_1).f0) == 4) = true := beq_iff_eq.mpr c42
           have c42b1 : (((rd_T48 l0_8 x15_1).f0) != 4) = false := bne_eq_false_iff_eq.mpr c42
           clear c42
           obtain rfl := Option.some.inj H
           have p385 : 0 ≤ (x15_1 : Int) := of_decide_eq_true Za
           have q385 : x15_1 < (l0_8.length : Int) := of_decide_eq_true Za
           obtain ⟨ad385, e385, hx385_0, hx385_1, hx385_2, hx385_3, hx385_4, hx385_5, hx385_6, hx385_7⟩ := at_T48 HR0_8.out x15_1 p385 q385
           cases e385
           replace hx385_0 := (HB.out.cell (World.block_lt_of_cell? w _ hx385_0)).trans hx385_0
           replace hx385_1 := (HB.out.cell (World.block_lt_of_cell? w _ hx385_1)).trans hx385_1
           replace hx385_2 := (HB.out.cell (World.block_lt_of_cell? w _ hx385_2)).trans hx385_2
           replace hx385_3 := (HB.out.cell (World.block_lt_of_cell? w _ hx385_3)).trans hx385_3
           replace hx385_4 := (HB.out.cell (World.block_lt_of_cell? w _ hx385_4)).trans hx385_4
           replace hx385_5 := (HB.out.cell (World.block_lt_of_cell? w _ hx385_5)).trans hx385_5
           replace hx385_6 := (HB.out.cell (World.block_lt_of_cell? w _ hx385_6)).trans hx385_6
           replace hx385_7 := (HB.out.cell (World.block_lt_of_cell? w _ hx385_7)).trans hx385_7
           replace p385 := eq_true p385
           replace q385 := eq_true q385
           go_wp2_with (first | ((with_reducible refine gate_dst (N := 5) rfl ?_); refine box_event ?hg (N := 5) ?hd (cs := #[.int .u8 0, .int .u8 0, .int .u8 0, .int .i64 0, .int .u8 0, .int .u8 0, .int .u8 0, .string (⟨#[]⟩ : ByteArray)]) (t := 48) ?hr ?_; (case hd => rfl); (case hg => rfl); (case hr => first | (go_simp; done) | (go_simp; rfl)); intro gb386 hg w43 hbox hb; have BK386 := Aside0.mk (hbox); have GW386 := Aside0.mk ((by rw [hg]; exact (below_size (Zb1 GE383.out)) : w.heap.size ≤ gb386)); have GE386 := Aside0.mk ((by rw [hg]; exact (below_size (Zb1 GE383.out)) : w.heap.size ≤ gb386)); replace HB := Aside0.mk (below_step (Zb1 GE383.out) hb); have NB383_386 := Aside0.mk ((by rw [hg]; exact Nat.ne_of_lt (blk_lt (Zj BK383.out)) : gb383 ≠ gb386)); have NB386_383 := Aside0.mk ((by rw [hg]; exact Nat.ne_of_gt (blk_lt (Zj BK383.out)) : gb386 ≠ gb383)); replace BK383 := Aside0.mk (blk_below (Zj BK383.out) hb); clear hb hbox hg; have hnb44 := NB386_383.out; have hnc44 := NB383_386.out; obtain ⟨hcz45_0, hcz45_1, hcz45_2, hcz45_3, hcz45_4, hcz45_5, hcz45_6, hcz45_7, hfz45_0, hfz45_1, hfz45_2, hfz45_3, hfz45_4, hfz45_5, hfz45_6, hfz45_7⟩ := Z8 BK386.out) | ((with_reducible refine gate_callee (f := 24) rfl ?_); refine goesL_ (some 20) rfl rfl Tryz.func24 (by kernel_rfl) rfl #[.agg #[.int .u8 ((rd_T48 l0_8 x15_1).f0), .int .u8 ((rd_T48 l0_8 x15_1).f1), .int .u8 ((rd_T48 l0_8 x15_1).f2), .int .i64 ((rd_T48 l0_8 x15_1).f3), .int .u8 ((rd_T48 l0_8 x15_1).f4), .int .u8 ((rd_T48 l0_8 x15_1).f5), .int .u8 ((rd_T48 l0_8 x15_1).f6), .string ((rd_T48 l0_8 x15_1).f7)]] rfl Zl ?_; (with_reducible refine (effect_Check.calls k1 ((rd_T48 l0_8 x15_1).f0) ((rd_T48 l0_8 x15_1).f1) ((rd_T48 l0_8 x15_1).f2) ((rd_T48 l0_8 x15_1).f3) ((rd_T48 l0_8 x15_1).f4) ((rd_T48 l0_8 x15_1).f5) ((rd_T48 l0_8 x15_1).f6) ((rd_T48 l0_8 x15_1).f7) t387 _ A11.out).mono ?_); rintro e w46 ⟨rfl, hb⟩; refine ⟨_, rfl, ?_⟩; replace BK383 := Aside0.mk (blk_below (g := gb383) (o := .cells #[.string a0_0, .int .u8 a0_1, .int .u8 a0_2, .int .i64 a0_3, .int .i64 a0_4, .int .i64 a0_5, .int .u16 a0_6, .bool a0_7, .slice (some ad385) l0_8.length c0_8] 28 (0, 0)) (by (with_reducible repeat (first | apply blk_kn | apply blk_kd | apply blk_ka)); refine blk_far ?_ NB383_386.out _; (with_reducible repeat (first | apply blk_kn | apply blk_kd | apply blk_ka)); refine blk_far ?_ NB383_386.out _; (with_reducible repeat (first | apply blk_kn | apply blk_kd | apply blk_ka)); refine blk_far ?_ NB383_386.out _; (with_reducible repeat (first | apply blk_kn | apply blk_kd | apply blk_ka)); refine blk_far ?_ NB383_386.out _; (with_reducible repeat (first | apply blk_kn | apply blk_kd | apply blk_ka)); refine blk_far ?_ NB383_386.out _; (with_reducible repeat (first | apply blk_kn | apply blk_kd | apply blk_ka)); refine blk_far ?_ NB383_386.out _; (with_reducible repeat (first | apply blk_kn | apply blk_kd | apply blk_ka)); refine blk_far ?_ NB383_386.out _; (with_reducible repeat (first | apply blk_kn | apply blk_kd | apply blk_ka)); refine blk_far ?_ NB383_386.out _; exact Zk BK383.out) hb); replace BK386 := Aside0.mk (blk_below (g := gb386) (o := .cells #[.int .u8 ((rd_T48 l0_8 x15_1).f0), .int .u8 ((rd_T48 l0_8 x15_1).f1), .int .u8 ((rd_T48 l0_8 x15_1).f2), .int .i64 ((rd_T48 l0_8 x15_1).f3), .int .u8 ((rd_T48 l0_8 x15_1).f4), .int .u8 ((rd_T48 l0_8 x15_1).f5), .int .u8 ((rd_T48 l0_8 x15_1).f6), .string ((rd_T48 l0_8 x15_1).f7)] 48 (0, 0)) (by (with_reducible repeat (first | apply blk_kn | apply blk_kd | apply blk_ka)); refine blk_put (cs := #[.int .u8 ((rd_T48 l0_8 x15_1).f0), .int .u8 ((rd_T48 l0_8 x15_1).f1), .int .u8 ((rd_T48 l0_8 x15_1).f2), .int .i64 ((rd_T48 l0_8 x15_1).f3), .int .u8 ((rd_T48 l0_8 x15_1).f4), .int .u8 ((rd_T48 l0_8 x15_1).f5), .int .u8 ((rd_T48 l0_8 x15_1).f6), .string (⟨#[]⟩ : ByteArray)]) ?_ 7 _ rfl; (with_reducible repeat (first | apply blk_kn | apply blk_kd | apply blk_ka)); refine blk_put (cs := #[.int .u8 ((rd_T48 l0_8 x15_1).f0), .int .u8 ((rd_T48 l0_8 x15_1).f1), .int .u8 ((rd_T48 l0_8 x15_1).f2), .int .i64 ((rd_T48 l0_8 x15_1).f3), .int .u8 ((rd_T48 l0_8 x15_1).f4), .int .u8 ((rd_T48 l0_8 x15_1).f5), .int .u8 0, .string (⟨#[]⟩ : ByteArray)]) ?_ 6 _ rfl; (with_reducible repeat (first | apply blk_kn | apply blk_kd | apply blk_ka)); refine blk_put (cs := #[.int .u8 ((rd_T48 l0_8 x15_1).f0), .int .u8 ((rd_T48 l0_8 x15_1).f1), .int .u8 ((rd_T48 l0_8 x15_1).f2), .int .i64 ((rd_T48 l0_8 x15_1).f3), .int .u8 ((rd_T48 l0_8 x15_1).f4), .int .u8 0, .int .u8 0, .string (⟨#[]⟩ : ByteArray)]) ?_ 5 _ rfl; (with_reducible repeat (first | apply blk_kn | apply blk_kd | apply blk_ka)); refine blk_put (cs := #[.int .u8 ((rd_T48 l0_8 x15_1).f0), .int .u8 ((rd_T48 l0_8 x15_1).f1), .int .u8 ((rd_T48 l0_8 x15_1).f2), .int .i64 ((rd_T48 l0_8 x15_1).f3), .int .u8 0, .int .u8 0, .int .u8 0, .string (⟨#[]⟩ : ByteArray)]) ?_ 4 _ rfl; (with_reducible repeat (first | apply blk_kn | apply blk_kd | apply blk_ka)); refine blk_put (cs := #[.int .u8 ((rd_T48 l0_8 x15_1).f0), .int .u8 ((rd_T48 l0_8 x15_1).f1), .int .u8 ((rd_T48 l0_8 x15_1).f2), .int .i64 0, .int .u8 0, .int .u8 0, .int .u8 0, .string (⟨#[]⟩ : ByteArray)]) ?_ 3 _ rfl; (with_reducible repeat (first | apply blk_kn | apply blk_kd | apply blk_ka)); refine blk_put (cs := #[.int .u8 ((rd_T48 l0_8 x15_1).f0), .int .u8 ((rd_T48 l0_8 x15_1).f1), .int .u8 0, .int .i64 0, .int .u8 0, .int .u8 0, .int .u8 0, .string (⟨#[]⟩ : ByteArray)]) ?_ 2 _ rfl; (with_reducible repeat (first | apply blk_kn | apply blk_kd | apply blk_ka)); refine blk_put (cs := #[.int .u8 ((rd_T48 l0_8 x15_1).f0), .int .u8 0, .int .u8 0, .int .i64 0, .int .u8 0, .int .u8 0, .int .u8 0, .string (⟨#[]⟩ : ByteArray)]) ?_ 1 _ rfl; (with_reducible repeat (first | apply blk_kn | apply blk_kd | apply blk_ka)); refine blk_put (cs := #[.int .u8 0, .int .u8 0, .int .u8 0, .int .i64 0, .int .u8 0, .int .u8 0, .int .u8 0, .string (⟨#[]⟩ : ByteArray)]) ?_ 0 _ rfl; exact Zk BK386.out) hb); replace HB := Aside0.mk (below_step (Zb2 GE383.out GE386.out) hb); (try clear hb); (try clear hb2); (try clear hk); (try clear hi); obtain ⟨hcz47_0, hcz47_1, hcz47_2, hcz47_3, hcz47_4, hcz47_5, hcz47_6, hcz47_7, hcz47_8, hfz47_0, hfz47_1, hfz47_2, hfz47_3, hfz47_4, hfz47_5, hfz47_6, hfz47_7, hfz47_8⟩ := Z9 BK383.out; obtain ⟨hcz48_0, hcz48_1, hcz48_2, hcz48_3, hcz48_4, hcz48_5, hcz48_6, hcz48_7, hfz48_0, hfz48_1, hfz48_2, hfz48_3, hfz48_4, hfz48_5, hfz48_6, hfz48_7⟩ := Z8 BK386.out))
           go_ret
           exact ⟨Ze, Zb2 GE383.out GE386.out⟩
          ·rw [if_neg c42] at H
           have c42b0 : (((rd_T48 l0_8 x15_1).f0) == 4) = false := beq_eq_false_iff_ne.mpr c42
           have c42b1 : (((rd_T48 l0_8 x15_1).f0) != 4) = true := bne_iff_ne.mpr c42
           have H' := Aside0.mk H
           clear H
           have p385 : 0 ≤ (x15_1 : Int) := of_decide_eq_true Za
           have q385 : x15_1 < (l0_8.length : Int) := of_decide_eq_true Za
           obtain ⟨ad385, e385, hx385_0, hx385_1, hx385_2, hx385_3, hx385_4, hx385_5, hx385_6, hx385_7⟩ := at_T48 HR0_8.out x15_1 p385 q385
           cases e385
           replace hx385_0 := (HB.out.cell (World.block_lt_of_cell? w _ hx385_0)).trans hx385_0
           replace hx385_1 := (HB.out.cell (World.block_lt_of_cell? w _ hx385_1)).trans hx385_1
           replace hx385_2 := (HB.out.cell (World.block_lt_of_cell? w _ hx385_2)).trans hx385_2
           replace hx385_3 := (HB.out.cell (World.block_lt_of_cell? w _ hx385_3)).trans hx385_3
           replace hx385_4 := (HB.out.cell (World.block_lt_of_cell? w _ hx385_4)).trans hx385_4
           replace hx385_5 := (HB.out.cell (World.block_lt_of_cell? w _ hx385_5)).trans hx385_5
           replace hx385_6 := (HB.out.cell (World.block_lt_of_cell? w _ hx385_6)).trans hx385_6
           replace hx385_7 := (HB.out.cell (World.block_lt_of_cell? w _ hx385_7)).trans hx385_7
           replace p385 := eq_true p385
           replace q385 := eq_true q385
           go_wp2_with (first | ((with_reducible refine gate_dst (N := 5) rfl ?_); refine box_event ?hg (N := 5) ?hd (cs := #[.int .u8 0, .int .u8 0, .int .u8 0, .int .i64 0, .int .u8 0, .int .u8 0, .int .u8 0, .string (⟨#[]⟩ : ByteArray)]) (t := 48) ?hr ?_; (case hd => rfl); (case hg => rfl); (case hr => first | (go_simp; done) | (go_simp; rfl)); intro gb386 hg w49 hbox hb; have BK386 := Aside0.mk (hbox); have GW386 := Aside0.mk ((by rw [hg]; exact (below_size (Zb1 GE383.out)) : w.heap.size ≤ gb386)); have GE386 := Aside0.mk ((by rw [hg]; exact (below_size (Zb1 GE383.out)) : w.heap.size ≤ gb386)); replace HB := Aside0.mk (below_step (Zb1 GE383.out) hb); have NB383_386 := Aside0.mk ((by rw [hg]; exact Nat.ne_of_lt (blk_lt (Zj BK383.out)) : gb383 ≠ gb386)); have NB386_383 := Aside0.mk ((by rw [hg]; exact Nat.ne_of_gt (blk_lt (Zj BK383.out)) : gb386 ≠ gb383)); replace BK383 := Aside0.mk (blk_below (Zj BK383.out) hb); clear hb hbox hg; have hnb50 := NB386_383.out; have hnc50 := NB383_386.out; obtain ⟨hcz51_0, hcz51_1, hcz51_2, hcz51_3, hcz51_4, hcz51_5, hcz51_6, hcz51_7, hfz51_0, hfz51_1, hfz51_2, hfz51_3, hfz51_4, hfz51_5, hfz51_6, hfz51_7⟩ := Z8 BK386.out) | ((with_reducible refine gate_callee (f := 24) rfl ?_); refine goesL_ (some 20) rfl rfl Tryz.func24 (by kernel_rfl) rfl #[.agg #[.int .u8 ((rd_T48 l0_8 x15_1).f0), .int .u8 ((rd_T48 l0_8 x15_1).f1), .int .u8 ((rd_T48 l0_8 x15_1).f2), .int .i64 ((rd_T48 l0_8 x15_1).f3), .int .u8 ((rd_T48 l0_8 x15_1).f4), .int .u8 ((rd_T48 l0_8 x15_1).f5), .int .u8 ((rd_T48 l0_8 x15_1).f6), .string ((rd_T48 l0_8 x15_1).f7)]] rfl Zl ?_; (with_reducible refine (effect_Check.calls k1 ((rd_T48 l0_8 x15_1).f0) ((rd_T48 l0_8 x15_1).f1) ((rd_T48 l0_8 x15_1).f2) ((rd_T48 l0_8 x15_1).f3) ((rd_T48 l0_8 x15_1).f4) ((rd_T48 l0_8 x15_1).f5) ((rd_T48 l0_8 x15_1).f6) ((rd_T48 l0_8 x15_1).f7) t387 _ A11.out).mono ?_); rintro e w52 ⟨rfl, hb⟩; refine ⟨_, rfl, ?_⟩; replace BK383 := Aside0.mk (blk_below (g := gb383) (o := .cells #[.string a0_0, .int .u8 a0_1, .int .u8 a0_2, .int .i64 a0_3, .int .i64 a0_4, .int .i64 a0_5, .int .u16 a0_6, .bool a0_7, .slice (some ad385) l0_8.length c0_8] 28 (0, 0)) (by (with_reducible repeat (first | apply blk_kn | apply blk_kd | apply blk_ka)); refine blk_far ?_ NB383_386.out _; (with_reducible repeat (first | apply blk_kn | apply blk_kd | apply blk_ka)); refine blk_far ?_ NB383_386.out _; (with_reducible repeat (first | apply blk_kn | apply blk_kd | apply blk_ka)); refine blk_far ?_ NB383_386.out _; (with_reducible repeat (first | apply blk_kn | apply blk_kd | apply blk_ka)); refine blk_far ?_ NB383_386.out _; (with_reducible repeat (first | apply blk_kn | apply blk_kd | apply blk_ka)); refine blk_far ?_ NB383_386.out _; (with_reducible repeat (first | apply blk_kn | apply blk_kd | apply blk_ka)); refine blk_far ?_ NB383_386.out _; (with_reducible repeat (first | apply blk_kn | apply blk_kd | apply blk_ka)); refine blk_far ?_ NB383_386.out _; (with_reducible repeat (first | apply blk_kn | apply blk_kd | apply blk_ka)); refine blk_far ?_ NB383_386.out _; exact Zk BK383.out) hb); replace BK386 := Aside0.mk (blk_below (g := gb386) (o := .cells #[.int .u8 ((rd_T48 l0_8 x15_1).f0), .int .u8 ((rd_T48 l0_8 x15_1).f1), .int .u8 ((rd_T48 l0_8 x15_1).f2), .int .i64 ((rd_T48 l0_8 x15_1).f3), .int .u8 ((rd_T48 l0_8 x15_1).f4), .int .u8 ((rd_T48 l0_8 x15_1).f5), .int .u8 ((rd_T48 l0_8 x15_1).f6), .string ((rd_T48 l0_8 x15_1).f7)] 48 (0, 0)) (by (with_reducible repeat (first | apply blk_kn | apply blk_kd | apply blk_ka)); refine blk_put (cs := #[.int .u8 ((rd_T48 l0_8 x15_1).f0), .int .u8 ((rd_T48 l0_8 x15_1).f1), .int .u8 ((rd_T48 l0_8 x15_1).f2), .int .i64 ((rd_T48 l0_8 x15_1).f3), .int .u8 ((rd_T48 l0_8 x15_1).f4), .int .u8 ((rd_T48 l0_8 x15_1).f5), .int .u8 ((rd_T48 l0_8 x15_1).f6), .string (⟨#[]⟩ : ByteArray)]) ?_ 7 _ rfl; (with_reducible repeat (first | apply blk_kn | apply blk_kd | apply blk_ka)); refine blk_put (cs := #[.int .u8 ((rd_T48 l0_8 x15_1).f0), .int .u8 ((rd_T48 l0_8 x15_1).f1), .int .u8 ((rd_T48 l0_8 x15_1).f2), .int .i64 ((rd_T48 l0_8 x15_1).f3), .int .u8 ((rd_T48 l0_8 x15_1).f4), .int .u8 ((rd_T48 l0_8 x15_1).f5), .int .u8 0, .string (⟨#[]⟩ : ByteArray)]) ?_ 6 _ rfl; (with_reducible repeat (first | apply blk_kn | apply blk_kd | apply blk_ka)); refine blk_put (cs := #[.int .u8 ((rd_T48 l0_8 x15_1).f0), .int .u8 ((rd_T48 l0_8 x15_1).f1), .int .u8 ((rd_T48 l0_8 x15_1).f2), .int .i64 ((rd_T48 l0_8 x15_1).f3), .int .u8 ((rd_T48 l0_8 x15_1).f4), .int .u8 0, .int .u8 0, .string (⟨#[]⟩ : ByteArray)]) ?_ 5 _ rfl; (with_reducible repeat (first | apply blk_kn | apply blk_kd | apply blk_ka)); refine blk_put (cs := #[.int .u8 ((rd_T48 l0_8 x15_1).f0), .int .u8 ((rd_T48 l0_8 x15_1).f1), .int .u8 ((rd_T48 l0_8 x15_1).f2), .int .i64 ((rd_T48 l0_8 x15_1).f3), .int .u8 0, .int .u8 0, .int .u8 0, .string (⟨#[]⟩ : ByteArray)]) ?_ 4 _ rfl; (with_reducible repeat (first | apply blk_kn | apply blk_kd | apply blk_ka)); refine blk_put (cs := #[.int .u8 ((rd_T48 l0_8 x15_1).f0), .int .u8 ((rd_T48 l0_8 x15_1).f1), .int .u8 ((rd_T48 l0_8 x15_1).f2), .int .i64 0, .int .u8 0, .int .u8 0, .int .u8 0, .string (⟨#[]⟩ : ByteArray)]) ?_ 3 _ rfl; (with_reducible repeat (first | apply blk_kn | apply blk_kd | apply blk_ka)); refine blk_put (cs := #[.int .u8 ((rd_T48 l0_8 x15_1).f0), .int .u8 ((rd_T48 l0_8 x15_1).f1), .int .u8 0, .int .i64 0, .int .u8 0, .int .u8 0, .int .u8 0, .string (⟨#[]⟩ : ByteArray)]) ?_ 2 _ rfl; (with_reducible repeat (first | apply blk_kn | apply blk_kd | apply blk_ka)); refine blk_put (cs := #[.int .u8 ((rd_T48 l0_8 x15_1).f0), .int .u8 0, .int .u8 0, .int .i64 0, .int .u8 0, .int .u8 0, .int .u8 0, .string (⟨#[]⟩ : ByteArray)]) ?_ 1 _ rfl; (with_reducible repeat (first | apply blk_kn | apply blk_kd | apply blk_ka)); refine blk_put (cs := #[.int .u8 0, .int .u8 0, .int .u8 0, .int .i64 0, .int .u8 0, .int .u8 0, .int .u8 0, .string (⟨#[]⟩ : ByteArray)]) ?_ 0 _ rfl; exact Zk BK386.out) hb); replace HB := Aside0.mk (below_step (Zb2 GE383.out GE386.out) hb); (try clear hb); (try clear hb2); (try clear hk); (try clear hi); obtain ⟨hcz53_0, hcz53_1, hcz53_2, hcz53_3, hcz53_4, hcz53_5, hcz53_6, hcz53_7, hcz53_8, hfz53_0, hfz53_1, hfz53_2, hfz53_3, hfz53_4, hfz53_5, hfz53_6, hfz53_7, hfz53_8⟩ := Z9 BK383.out; obtain ⟨hcz54_0, hcz54_1, hcz54_2, hcz54_3, hcz54_4, hcz54_5, hcz54_6, hcz54_7, hfz54_0, hfz54_1, hfz54_2, hfz54_3, hfz54_4, hfz54_5, hfz54_6, hfz54_7⟩ := Z8 BK386.out))
           go_roundg k1
           case measure => have := HK1.out; omega
           case rel => exact ⟨(wrap64 (x15_1 + 1)), Zs, H', ⟨by have := HK1.out; omega⟩, ⟨Zk BK383.out⟩, ⟨Zb2 GE383.out GE386.out⟩⟩
         ·rw [if_neg c41] at H
          have c41b0 : (a0_2 == 3) = false := beq_eq_false_iff_ne.mpr c41
          have c41b1 : (a0_2 != 3) = true := bne_iff_ne.mpr c41
          have H' := Aside0.mk H
          clear H
          have p385 : 0 ≤ (x15_1 : Int) := of_decide_eq_true Za
          have q385 : x15_1 < (l0_8.length : Int) := of_decide_eq_true Za
          obtain ⟨ad385, e385, hx385_0, hx385_1, hx385_2, hx385_3, hx385_4, hx385_5, hx385_6, hx385_7⟩ := at_T48 HR0_8.out x15_1 p385 q385
          cases e385
          replace hx385_0 := (HB.out.cell (World.block_lt_of_cell? w _ hx385_0)).trans hx385_0
          replace hx385_1 := (HB.out.cell (World.block_lt_of_cell? w _ hx385_1)).trans hx385_1
          replace hx385_2 := (HB.out.cell (World.block_lt_of_cell? w _ hx385_2)).trans hx385_2
          replace hx385_3 := (HB.out.cell (World.block_lt_of_cell? w _ hx385_3)).trans hx385_3
          replace hx385_4 := (HB.out.cell (World.block_lt_of_cell? w _ hx385_4)).trans hx385_4
          replace hx385_5 := (HB.out.cell (World.block_lt_of_cell? w _ hx385_5)).trans hx385_5
          replace hx385_6 := (HB.out.cell (World.block_lt_of_cell? w _ hx385_6)).trans hx385_6
          replace hx385_7 := (HB.out.cell (World.block_lt_of_cell? w _ hx385_7)).trans hx385_7
          replace p385 := eq_true p385
          replace q385 := eq_true q385
          go_wp2_with (first | ((with_reducible refine gate_dst (N := 5) rfl ?_); refine box_event ?hg (N := 5) ?hd (cs := #[.int .u8 0, .int .u8 0, .int .u8 0, .int .i64 0, .int .u8 0, .int .u8 0, .int .u8 0, .string (⟨#[]⟩ : ByteArray)]) (t := 48) ?hr ?_; (case hd => rfl); (case hg => rfl); (case hr => first | (go_simp; done) | (go_simp; rfl)); intro gb386 hg w55 hbox hb; have BK386 := Aside0.mk (hbox); have GW386 := Aside0.mk ((by rw [hg]; exact (below_size (Zb1 GE383.out)) : w.heap.size ≤ gb386)); have GE386 := Aside0.mk ((by rw [hg]; exact (below_size (Zb1 GE383.out)) : w.heap.size ≤ gb386)); replace HB := Aside0.mk (below_step (Zb1 GE383.out) hb); have NB383_386 := Aside0.mk ((by rw [hg]; exact Nat.ne_of_lt (blk_lt (Zj BK383.out)) : gb383 ≠ gb386)); have NB386_383 := Aside0.mk ((by rw [hg]; exact Nat.ne_of_gt (blk_lt (Zj BK383.out)) : gb386 ≠ gb383)); replace BK383 := Aside0.mk (blk_below (Zj BK383.out) hb); clear hb hbox hg; have hnb56 := NB386_383.out; have hnc56 := NB383_386.out; obtain ⟨hcz57_0, hcz57_1, hcz57_2, hcz57_3, hcz57_4, hcz57_5, hcz57_6, hcz57_7, hfz57_0, hfz57_1, hfz57_2, hfz57_3, hfz57_4, hfz57_5, hfz57_6, hfz57_7⟩ := Z8 BK386.out) | ((with_reducible refine gate_callee (f := 24) rfl ?_); refine goesL_ (some 20) rfl rfl Tryz.func24 (by kernel_rfl) rfl #[.agg #[.int .u8 ((rd_T48 l0_8 x15_1).f0), .int .u8 ((rd_T48 l0_8 x15_1).f1), .int .u8 ((rd_T48 l0_8 x15_1).f2), .int .i64 ((rd_T48 l0_8 x15_1).f3), .int .u8 ((rd_T48 l0_8 x15_1).f4), .int .u8 ((rd_T48 l0_8 x15_1).f5), .int .u8 ((rd_T48 l0_8 x15_1).f6), .string ((rd_T48 l0_8 x15_1).f7)]] rfl Zl ?_; (with_reducible refine (effect_Check.calls k1 ((rd_T48 l0_8 x15_1).f0) ((rd_T48 l0_8 x15_1).f1) ((rd_T48 l0_8 x15_1).f2) ((rd_T48 l0_8 x15_1).f3) ((rd_T48 l0_8 x15_1).f4) ((rd_T48 l0_8 x15_1).f5) ((rd_T48 l0_8 x15_1).f6) ((rd_T48 l0_8 x15_1).f7) t387 _ A11.out).mono ?_); rintro e w58 ⟨rfl, hb⟩; refine ⟨_, rfl, ?_⟩; replace BK383 := Aside0.mk (blk_below (g := gb383) (o := .cells #[.string a0_0, .int .u8 a0_1, .int .u8 a0_2, .int .i64 a0_3, .int .i64 a0_4, .int .i64 a0_5, .int .u16 a0_6, .bool a0_7, .slice (some ad385) l0_8.length c0_8] 28 (0, 0)) (by (with_reducible repeat (first | apply blk_kn | apply blk_kd | apply blk_ka)); refine blk_far ?_ NB383_386.out _; (with_reducible repeat (first | apply blk_kn | apply blk_kd | apply blk_ka)); refine blk_far ?_ NB383_386.out _; (with_reducible repeat (first | apply blk_kn | apply blk_kd | apply blk_ka)); refine blk_far ?_ NB383_386.out _; (with_reducible repeat (first | apply blk_kn | apply blk_kd | apply blk_ka)); refine blk_far ?_ NB383_386.out _; (with_reducible repeat (first | apply blk_kn | apply blk_kd | apply blk_ka)); refine blk_far ?_ NB383_386.out _; (with_reducible repeat (first | apply blk_kn | apply blk_kd | apply blk_ka)); refine blk_far ?_ NB383_386.out _; (with_reducible repeat (first | apply blk_kn | apply blk_kd | apply blk_ka)); refine blk_far ?_ NB383_386.out _; (with_reducible repeat (first | apply blk_kn | apply blk_kd | apply blk_ka)); refine blk_far ?_ NB383_386.out _; exact Zk BK383.out) hb); replace BK386 := Aside0.mk (blk_below (g := gb386) (o := .cells #[.int .u8 ((rd_T48 l0_8 x15_1).f0), .int .u8 ((rd_T48 l0_8 x15_1).f1), .int .u8 ((rd_T48 l0_8 x15_1).f2), .int .i64 ((rd_T48 l0_8 x15_1).f3), .int .u8 ((rd_T48 l0_8 x15_1).f4), .int .u8 ((rd_T48 l0_8 x15_1).f5), .int .u8 ((rd_T48 l0_8 x15_1).f6), .string ((rd_T48 l0_8 x15_1).f7)] 48 (0, 0)) (by (with_reducible repeat (first | apply blk_kn | apply blk_kd | apply blk_ka)); refine blk_put (cs := #[.int .u8 ((rd_T48 l0_8 x15_1).f0), .int .u8 ((rd_T48 l0_8 x15_1).f1), .int .u8 ((rd_T48 l0_8 x15_1).f2), .int .i64 ((rd_T48 l0_8 x15_1).f3), .int .u8 ((rd_T48 l0_8 x15_1).f4), .int .u8 ((rd_T48 l0_8 x15_1).f5), .int .u8 ((rd_T48 l0_8 x15_1).f6), .string (⟨#[]⟩ : ByteArray)]) ?_ 7 _ rfl; (with_reducible repeat (first | apply blk_kn | apply blk_kd | apply blk_ka)); refine blk_put (cs := #[.int .u8 ((rd_T48 l0_8 x15_1).f0), .int .u8 ((rd_T48 l0_8 x15_1).f1), .int .u8 ((rd_T48 l0_8 x15_1).f2), .int .i64 ((rd_T48 l0_8 x15_1).f3), .int .u8 ((rd_T48 l0_8 x15_1).f4), .int .u8 ((rd_T48 l0_8 x15_1).f5), .int .u8 0, .string (⟨#[]⟩ : ByteArray)]) ?_ 6 _ rfl; (with_reducible repeat (first | apply blk_kn | apply blk_kd | apply blk_ka)); refine blk_put (cs := #[.int .u8 ((rd_T48 l0_8 x15_1).f0), .int .u8 ((rd_T48 l0_8 x15_1).f1), .int .u8 ((rd_T48 l0_8 x15_1).f2), .int .i64 ((rd_T48 l0_8 x15_1).f3), .int .u8 ((rd_T48 l0_8 x15_1).f4), .int .u8 0, .int .u8 0, .string (⟨#[]⟩ : ByteArray)]) ?_ 5 _ rfl; (with_reducible repeat (first | apply blk_kn | apply blk_kd | apply blk_ka)); refine blk_put (cs := #[.int .u8 ((rd_T48 l0_8 x15_1).f0), .int .u8 ((rd_T48 l0_8 x15_1).f1), .int .u8 ((rd_T48 l0_8 x15_1).f2), .int .i64 ((rd_T48 l0_8 x15_1).f3), .int .u8 0, .int .u8 0, .int .u8 0, .string (⟨#[]⟩ : ByteArray)]) ?_ 4 _ rfl; (with_reducible repeat (first | apply blk_kn | apply blk_kd | apply blk_ka)); refine blk_put (cs := #[.int .u8 ((rd_T48 l0_8 x15_1).f0), .int .u8 ((rd_T48 l0_8 x15_1).f1), .int .u8 ((rd_T48 l0_8 x15_1).f2), .int .i64 0, .int .u8 0, .int .u8 0, .int .u8 0, .string (⟨#[]⟩ : ByteArray)]) ?_ 3 _ rfl; (with_reducible repeat (first | apply blk_kn | apply blk_kd | apply blk_ka)); refine blk_put (cs := #[.int .u8 ((rd_T48 l0_8 x15_1).f0), .int .u8 ((rd_T48 l0_8 x15_1).f1), .int .u8 0, .int .i64 0, .int .u8 0, .int .u8 0, .int .u8 0, .string (⟨#[]⟩ : ByteArray)]) ?_ 2 _ rfl; (with_reducible repeat (first | apply blk_kn | apply blk_kd | apply blk_ka)); refine blk_put (cs := #[.int .u8 ((rd_T48 l0_8 x15_1).f0), .int .u8 0, .int .u8 0, .int .i64 0, .int .u8 0, .int .u8 0, .int .u8 0, .string (⟨#[]⟩ : ByteArray)]) ?_ 1 _ rfl; (with_reducible repeat (first | apply blk_kn | apply blk_kd | apply blk_ka)); refine blk_put (cs := #[.int .u8 0, .int .u8 0, .int .u8 0, .int .i64 0, .int .u8 0, .int .u8 0, .int .u8 0, .string (⟨#[]⟩ : ByteArray)]) ?_ 0 _ rfl; exact Zk BK386.out) hb); replace HB := Aside0.mk (below_step (Zb2 GE383.out GE386.out) hb); (try clear hb); (try clear hb2); (try clear hk); (try clear hi); obtain ⟨hcz59_0, hcz59_1, hcz59_2, hcz59_3, hcz59_4, hcz59_5, hcz59_6, hcz59_7, hcz59_8, hfz59_0, hfz59_1, hfz59_2, hfz59_3, hfz59_4, hfz59_5, hfz59_6, hfz59_7, hfz59_8⟩ := Z9 BK383.out))
          go_roundg k1
          case measure => have := HK1.out; omega
          case rel => exact ⟨(wrap64 (x15_1 + 1)), Zs, H', ⟨by have := HK1.out; omega⟩, ⟨Zk BK383.out⟩, ⟨Zb2 GE383.out GE386.out⟩⟩
       ·rw [if_neg c12] at H
        have c12b0 : (t387 == 0) = false := beq_eq_false_iff_ne.mpr c12
        have c12b1 : (t387 != 0) = true := bne_iff_ne.mpr c12
        obtain rfl := Option.some.inj H
        have p385 : 0 ≤ (x15_1 : Int) := of_decide_eq_true Za
        have q385 : x15_1 < (l0_8.length : Int) := of_decide_eq_true Za
        obtain ⟨ad385, e385, hx385_0, hx385_1, hx385_2, hx385_3, hx385_4, hx385_5, hx385_6, hx385_7⟩ := at_T48 HR0_8.out x15_1 p385 q385
        cases e385
        replace hx385_0 := (HB.out.cell (World.block_lt_of_cell? w _ hx385_0)).trans hx385_0
        replace hx385_1 := (HB.out.cell (World.block_lt_of_cell? w _ hx385_1)).trans hx385_1
        replace hx385_2 := (HB.out.cell (World.block_lt_of_cell? w _ hx385_2)).trans hx385_2
        replace hx385_3 := (HB.out.cell (World.block_lt_of_cell? w _ hx385_3)).trans hx385_3
        replace hx385_4 := (HB.out.cell (World.block_lt_of_cell? w _ hx385_4)).trans hx385_4
        replace hx385_5 := (HB.out.cell (World.block_lt_of_cell? w _ hx385_5)).trans hx385_5
        replace hx385_6 := (HB.out.cell (World.block_lt_of_cell? w _ hx385_6)).trans hx385_6
        replace hx385_7 := (HB.out.cell (World.block_lt_of_cell? w _ hx385_7)).trans hx385_7
        replace p385 := eq_true p385
        replace q385 := eq_true q385
        go_wp2_with (first | ((with_reducible refine gate_dst (N := 5) rfl ?_); refine box_event ?hg (N := 5) ?hd (cs := #[.int .u8 0, .int .u8 0, .int .u8 0, .int .i64 0, .int .u8 0, .int .u8 0, .int .u8 0, .string (⟨#[]⟩ : ByteArray)]) (t := 48) ?hr ?_; (case hd => rfl); (case hg => rfl); (case hr => first | (go_simp; done) | (go_simp; rfl)); intro gb386 hg w60 hbox hb; have BK386 := Aside0.mk (hbox); have GW386 := Aside0.mk ((by rw [hg]; exact (below_size (Zb1 GE383.out)) : w.heap.size ≤ gb386)); have GE386 := Aside0.mk ((by rw [hg]; exact (below_size (Zb1 GE383.out)) : w.heap.size ≤ gb386)); replace HB := Aside0.mk (below_step (Zb1 GE383.out) hb); have NB383_386 := Aside0.mk ((by rw [hg]; exact Nat.ne_of_lt (blk_lt (Zj BK383.out)) : gb383 ≠ gb386)); have NB386_383 := Aside0.mk ((by rw [hg]; exact Nat.ne_of_gt (blk_lt (Zj BK383.out)) : gb386 ≠ gb383)); replace BK383 := Aside0.mk (blk_below (Zj BK383.out) hb); clear hb hbox hg; have hnb61 := NB386_383.out; have hnc61 := NB383_386.out; obtain ⟨hcz62_0, hcz62_1, hcz62_2, hcz62_3, hcz62_4, hcz62_5, hcz62_6, hcz62_7, hfz62_0, hfz62_1, hfz62_2, hfz62_3, hfz62_4, hfz62_5, hfz62_6, hfz62_7⟩ := Z8 BK386.out) | ((with_reducible refine gate_callee (f := 24) rfl ?_); refine goesL_ (some 20) rfl rfl Tryz.func24 (by kernel_rfl) rfl #[.agg #[.int .u8 ((rd_T48 l0_8 x15_1).f0), .int .u8 ((rd_T48 l0_8 x15_1).f1), .int .u8 ((rd_T48 l0_8 x15_1).f2), .int .i64 ((rd_T48 l0_8 x15_1).f3), .int .u8 ((rd_T48 l0_8 x15_1).f4), .int .u8 ((rd_T48 l0_8 x15_1).f5), .int .u8 ((rd_T48 l0_8 x15_1).f6), .string ((rd_T48 l0_8 x15_1).f7)]] rfl Zl ?_; (with_reducible refine (effect_Check.calls k1 ((rd_T48 l0_8 x15_1).f0) ((rd_T48 l0_8 x15_1).f1) ((rd_T48 l0_8 x15_1).f2) ((rd_T48 l0_8 x15_1).f3) ((rd_T48 l0_8 x15_1).f4) ((rd_T48 l0_8 x15_1).f5) ((rd_T48 l0_8 x15_1).f6) ((rd_T48 l0_8 x15_1).f7) t387 _ A11.out).mono ?_); rintro e w63 ⟨rfl, hb⟩; refine ⟨_, rfl, ?_⟩; replace BK383 := Aside0.mk (blk_below (g := gb383) (o := .cells #[.string a0_0, .int .u8 a0_1, .int .u8 a0_2, .int .i64 a0_3, .int .i64 a0_4, .int .i64 a0_5, .int .u16 a0_6, .bool a0_7, .slice (some ad385) l0_8.length c0_8] 28 (0, 0)) (by (with_reducible repeat (first | apply blk_kn | apply blk_kd | apply blk_ka)); refine blk_far ?_ NB383_386.out _; (with_reducible repeat (first | apply blk_kn | apply blk_kd | apply blk_ka)); refine blk_far ?_ NB383_386.out _; (with_reducible repeat (first | apply blk_kn | apply blk_kd | apply blk_ka)); refine blk_far ?_ NB383_386.out _; (with_reducible repeat (first | apply blk_kn | apply blk_kd | apply blk_ka)); refine blk_far ?_ NB383_386.out _; (with_reducible repeat (first | apply blk_kn | apply blk_kd | apply blk_ka)); refine blk_far ?_ NB383_386.out _; (with_reducible repeat (first | apply blk_kn | apply blk_kd | apply blk_ka)); refine blk_far ?_ NB383_386.out _; (with_reducible repeat (first | apply blk_kn | apply blk_kd | apply blk_ka)); refine blk_far ?_ NB383_386.out _; (with_reducible repeat (first | apply blk_kn | apply blk_kd | apply blk_ka)); refine blk_far ?_ NB383_386.out _; exact Zk BK383.out) hb); replace BK386 := Aside0.mk (blk_below (g := gb386) (o := .cells #[.int .u8 ((rd_T48 l0_8 x15_1).f0), .int .u8 ((rd_T48 l0_8 x15_1).f1), .int .u8 ((rd_T48 l0_8 x15_1).f2), .int .i64 ((rd_T48 l0_8 x15_1).f3), .int .u8 ((rd_T48 l0_8 x15_1).f4), .int .u8 ((rd_T48 l0_8 x15_1).f5), .int .u8 ((rd_T48 l0_8 x15_1).f6), .string ((rd_T48 l0_8 x15_1).f7)] 48 (0, 0)) (by (with_reducible repeat (first | apply blk_kn | apply blk_kd | apply blk_ka)); refine blk_put (cs := #[.int .u8 ((rd_T48 l0_8 x15_1).f0), .int .u8 ((rd_T48 l0_8 x15_1).f1), .int .u8 ((rd_T48 l0_8 x15_1).f2), .int .i64 ((rd_T48 l0_8 x15_1).f3), .int .u8 ((rd_T48 l0_8 x15_1).f4), .int .u8 ((rd_T48 l0_8 x15_1).f5), .int .u8 ((rd_T48 l0_8 x15_1).f6), .string (⟨#[]⟩ : ByteArray)]) ?_ 7 _ rfl; (with_reducible repeat (first | apply blk_kn | apply blk_kd | apply blk_ka)); refine blk_put (cs := #[.int .u8 ((rd_T48 l0_8 x15_1).f0), .int .u8 ((rd_T48 l0_8 x15_1).f1), .int .u8 ((rd_T48 l0_8 x15_1).f2), .int .i64 ((rd_T48 l0_8 x15_1).f3), .int .u8 ((rd_T48 l0_8 x15_1).f4), .int .u8 ((rd_T48 l0_8 x15_1).f5), .int .u8 0, .string (⟨#[]⟩ : ByteArray)]) ?_ 6 _ rfl; (with_reducible repeat (first | apply blk_kn | apply blk_kd | apply blk_ka)); refine blk_put (cs := #[.int .u8 ((rd_T48 l0_8 x15_1).f0), .int .u8 ((rd_T48 l0_8 x15_1).f1), .int .u8 ((rd_T48 l0_8 x15_1).f2), .int .i64 ((rd_T48 l0_8 x15_1).f3), .int .u8 ((rd_T48 l0_8 x15_1).f4), .int .u8 0, .int .u8 0, .string (⟨#[]⟩ : ByteArray)]) ?_ 5 _ rfl; (with_reducible repeat (first | apply blk_kn | apply blk_kd | apply blk_ka)); refine blk_put (cs := #[.int .u8 ((rd_T48 l0_8 x15_1).f0), .int .u8 ((rd_T48 l0_8 x15_1).f1), .int .u8 ((rd_T48 l0_8 x15_1).f2), .int .i64 ((rd_T48 l0_8 x15_1).f3), .int .u8 0, .int .u8 0, .int .u8 0, .string (⟨#[]⟩ : ByteArray)]) ?_ 4 _ rfl; (with_reducible repeat (first | apply blk_kn | apply blk_kd | apply blk_ka)); refine blk_put (cs := #[.int .u8 ((rd_T48 l0_8 x15_1).f0), .int .u8 ((rd_T48 l0_8 x15_1).f1), .int .u8 ((rd_T48 l0_8 x15_1).f2), .int .i64 0, .int .u8 0, .int .u8 0, .int .u8 0, .string (⟨#[]⟩ : ByteArray)]) ?_ 3 _ rfl; (with_reducible repeat (first | apply blk_kn | apply blk_kd | apply blk_ka)); refine blk_put (cs := #[.int .u8 ((rd_T48 l0_8 x15_1).f0), .int .u8 ((rd_T48 l0_8 x15_1).f1), .int .u8 0, .int .i64 0, .int .u8 0, .int .u8 0, .int .u8 0, .string (⟨#[]⟩ : ByteArray)]) ?_ 2 _ rfl; (with_reducible repeat (first | apply blk_kn | apply blk_kd | apply blk_ka)); refine blk_put (cs := #[.int .u8 ((rd_T48 l0_8 x15_1).f0), .int .u8 0, .int .u8 0, .int .i64 0, .int .u8 0, .int .u8 0, .int .u8 0, .string (⟨#[]⟩ : ByteArray)]) ?_ 1 _ rfl; (with_reducible repeat (first | apply blk_kn | apply blk_kd | apply blk_ka)); refine blk_put (cs := #[.int .u8 0, .int .u8 0, .int .u8 0, .int .i64 0, .int .u8 0, .int .u8 0, .int .u8 0, .string (⟨#[]⟩ : ByteArray)]) ?_ 0 _ rfl; exact Zk BK386.out) hb); replace HB := Aside0.mk (below_step (Zb2 GE383.out GE386.out) hb); (try clear hb); (try clear hb2); (try clear hk); (try clear hi)))
        go_ret
        exact ⟨Ze, Zb2 GE383.out GE386.out⟩
      ·rw [if_neg c10] at H
       exact absurd H (by simp)
     ·rw [if_neg c9] at H
      exact absurd H (by simp)
    ·rw [if_neg c8] at H
     have c8b0 : decide (x15_1 < (l0_8.length : Int)) = false := decide_eq_false c8
     clear c8
     obtain rfl := Option.some.inj H
     go_wp2
     go_ret
     exact ⟨Ze, Zb1 GE383.out⟩
 ·rw [if_neg c3] at H
  have c3b0 : (t384 == 0) = false := beq_eq_false_iff_ne.mpr c3
  have c3b1 : (t384 != 0) = true := bne_iff_ne.mpr c3
  obtain rfl := Option.some.inj H
  go_enter Tryz.func9, Tryz.ntmps9
  go_wp2_with (first | ((with_reducible refine gate_dst (N := 1) rfl ?_); refine box_event ?hg (N := 1) ?hd (cs := #[.string a0_0, .int .u8 a0_1, .int .u8 a0_2, .int .i64 a0_3, .int .i64 a0_4, .int .i64 a0_5, .int .u16 a0_6, .bool a0_7, .slice A0_8 l0_8.length c0_8]) (t := 28) ?hr ?_; (case hd => rfl); (case hg => rfl); (case hr => first | (go_simp; done) | (go_simp; rfl)); intro gb383 hg w64 hbox hb; have BK383 := Aside0.mk (hbox); have GW383 := Aside0.mk ((by rw [hg]; exact (below_size Zb) : w.heap.size ≤ gb383)); have GE383 := Aside0.mk ((by rw [hg]; exact (below_size Zb) : w.heap.size ≤ gb383)); replace HB := Aside0.mk (below_step Zb hb); clear hb hbox hg; obtain ⟨hcz65_0, hcz65_1, hcz65_2, hcz65_3, hcz65_4, hcz65_5, hcz65_6, hcz65_7, hcz65_8, hfz65_0, hfz65_1, hfz65_2, hfz65_3, hfz65_4, hfz65_5, hfz65_6, hfz65_7, hfz65_8⟩ := Z9 BK383.out) | ((with_reducible refine gate_callee (f := 29) rfl ?_); refine goesL_ (some 8) rfl rfl Tryz.func29 (by kernel_rfl) rfl #[.agg #[.string a0_0, .int .u8 a0_1, .int .u8 a0_2, .int .i64 a0_3, .int .i64 a0_4, .int .i64 a0_5, .int .u16 a0_6, .bool a0_7, .slice A0_8 l0_8.length c0_8]] rfl Zl ?_; (with_reducible refine (card_face.calls k a0_0 a0_1 a0_2 a0_3 a0_4 a0_5 a0_6 a0_7 _ _ l0_8 t384 _ ?side1 ?side2 A2.out).mono ?_); (case side1 => repeat (first | exact (Kd.C_below HR0_8.out HB.out) | (with_reducible refine Kd.C_alloc ?_ _) | (with_reducible refine Kd.C_drewN ?_ _) | (with_reducible refine Kd.C_drew ?_))); (case side2 => exact HC0_8.out); rintro e w66 ⟨rfl, hb⟩; refine ⟨_, rfl, ?_⟩; replace BK383 := Aside0.mk (blk_below (Zj BK383.out) hb); replace HB := Aside0.mk (below_step (Zb1 GE383.out) hb); (try clear hb); (try clear hb2); (try clear hk); (try clear hi)))
  go_ret
  exact ⟨Ze, Zb1 GE383.out⟩
mutual
def card_Print.j0 : Nat → List ByteArray → ByteArray → Int → Int → Int → Int → Int → Int → Bool → List (S48) → Option (ByteArray × Int)
 | 0, _, _, _, _, _, _, _, _, _, _ => none
 | k + 1, x5, x395000, x395001, x395002, x395003, x395004, x395005, x395006, x395007, x395008 => if x395007 = true then (if x5.length < 8796093022208 then (card_Print.j1 k (x5 ++ [(⟨#[116, 111, 107, 101, 110]⟩ : ByteArray)]) x395000 x395001 x395002 x395003 x395004 x395005 x395006 x395007 x395008) else (none)) else (card_Print.j1 k x5 x395000 x395001 x395002 x395003 x395004 x395005 x395006 x395007 x395008)
def card_Print.j1 : Nat → List ByteArray → ByteArray → Int → Int → Int → Int → Int → Int → Bool → List (S48) → Option (ByteArray × Int)
 | 0, _, _, _, _, _, _, _, _, _, _ => none
 | k + 1, x5, x395000, x395001, x395002, x395003, x395004, x395005, x395006, x395007, x395008 => (trait_List.f k x395006).bind fun t410 => (card_Print.l0 k x5 t410 (t410.length : Int) 0 x395000 x395001 x395002 x395003 x395004 x395005 x395006 x395007 x395008)
def card_Print.l0 : Nat → List ByteArray → List Int → Int → Int → ByteArray → Int → Int → Int → Int → Int → Int → Bool → List (S48) → Option (ByteArray × Int)
 | 0, _, _, _, _, _, _, _, _, _, _, _, _, _ => none
 | k + 1, x5, x50, x51, x52, x395000, x395001, x395002, x395003, x395004, x395005, x395006, x395007, x395008 => if x52 < x51 then (if 0 ≤ x52 then (if x52 < (x50.length : Int) then ((trait_Name.f (rd x50 x52)).bind fun t414 => (if 1 + t414.size ≤ 9223372036854775807 then (if x5.length < 8796093022208 then (card_Print.l0 k (x5 ++ [(⟨#[43]⟩ : ByteArray) ++ t414]) x50 x51 (wrap64 (x52 + 1)) x395000 x395001 x395002 x395003 x395004 x395005 x395006 x395007 x395008) else (none)) else (none))) else (none)) else (none)) else (card_Print.l1 k x5 x395008 (x395008.length : Int) 0)
def card_Print.l1 : Nat → List ByteArray → List (S48) → Int → Int → Option (ByteArray × Int)
 | 0, _, _, _, _ => none
 | k + 1, x5, x64, x65, x66 => if x66 < x65 then (if 0 ≤ x66 then (if x66 < (x64.length : Int) then ((effect_Print.f k ((rd_T48 x64 x66).f0) ((rd_T48 x64 x66).f1) ((rd_T48 x64 x66).f2) ((rd_T48 x64 x66).f3) ((rd_T48 x64 x66).f4) ((rd_T48 x64 x66).f5) ((rd_T48 x64 x66).f6) ((rd_T48 x64 x66).f7)).bind fun bt420 => ((some (([(⟨#[124]⟩ : ByteArray), bt420.1] : List ByteArray) : List ByteArray)).bind fun y422 => (if x5.length + y422.length < 8796093022208 then (card_Print.l1 k (x5 ++ y422) x64 x65 (wrap64 (x66 + 1))) else (none)))) else (none)) else (none)) else ((strings_Join.f x5 (⟨#[32]⟩ : ByteArray)).bind fun t428 => (some (t428, 0)))
end
def card_Print.f (k : Nat) (a0_0 : ByteArray) (a0_1 : Int) (a0_2 : Int) (a0_3 : Int) (a0_4 : Int) (a0_5 : Int) (a0_6 : Int) (a0_7 : Bool) (l0_8 : List (S48)) : Option (ByteArray × Int) := (card_Check.f k a0_0 a0_1 a0_2 a0_3 a0_4 a0_5 a0_6 a0_7 l0_8).bind fun t395 => (if t395 = 0 then ((suit_Name.f a0_1).bind fun t396 => ((card_word.f a0_2).bind fun t397 => ((strconv_Itoa.f a0_3).bind fun t398 => ((some (([a0_0, t396, t397, t398] : List ByteArray) : List ByteArray)).bind fun y399 => (if a0_2 = 1 then ((strconv_Itoa.f a0_4).bind fun t402 => (if t402.size + 1 ≤ 9223372036854775807 then ((strconv_Itoa.f a0_5).bind fun t403 => (if (t402 ++ (⟨#[47]⟩ : ByteArray)).size + t403.size ≤ 9223372036854775807 then (if y399.length < 8796093022208 then (card_Print.j0 k (y399 ++ [(t402 ++ (⟨#[47]⟩ : ByteArray)) ++ t403]) a0_0 a0_1 a0_2 a0_3 a0_4 a0_5 a0_6 a0_7 l0_8) else (none)) else (none))) else (none))) else (card_Print.j0 k y399 a0_0 a0_1 a0_2 a0_3 a0_4 a0_5 a0_6 a0_7 l0_8)))))) else (some ((⟨#[]⟩ : ByteArray), t395)))
theorem card_Print.mono_l : ∀ k, (∀ y0 y1 y2 y3 y4 y5 y6 y7 y8 y9, LeO (card_Print.j0 k y0 y1 y2 y3 y4 y5 y6 y7 y8 y9) (card_Print.j0 (k + 1) y0 y1 y2 y3 y4 y5 y6 y7 y8 y9)) ∧ (∀ y0 y1 y2 y3 y4 y5 y6 y7 y8 y9, LeO (card_Print.j1 k y0 y1 y2 y3 y4 y5 y6 y7 y8 y9) (card_Print.j1 (k + 1) y0 y1 y2 y3 y4 y5 y6 y7 y8 y9)) ∧ (∀ y0 y1 y2 y3 y4 y5 y6 y7 y8 y9 y10 y11 y12, LeO (card_Print.l0 k y0 y1 y2 y3 y4 y5 y6 y7 y8 y9 y10 y11 y12) (card_Print.l0 (k + 1) y0 y1 y2 y3 y4 y5 y6 y7 y8 y9 y10 y11 y12)) ∧ (∀ y0 y1 y2 y3, LeO (card_Print.l1 k y0 y1 y2 y3) (card_Print.l1 (k + 1) y0 y1 y2 y3))
 | 0 => ⟨fun _ _ _ _ _ _ _ _ _ _ r h => by simp [card_Print.j0] at h, fun _ _ _ _ _ _ _ _ _ _ r h => by simp [card_Print.j1] at h, fun _ _ _ _ _ _ _ _ _ _ _ _ _ r h => by simp [card_Print.l0] at h, fun _ _ _ _ r h => by simp [card_Print.l1] at h⟩
 | k + 1 => by
  obtain ⟨ih0, ih1, ih2, ih3⟩ := card_Print.mono_l k
  refine ⟨?_, ?_, ?_, ?_⟩
  ·intro y0 y1 y2 y3 y4 y5 y6 y7 y8 y9
   unfold card_Print.j0
   repeat' first
   | (with_reducible exact ih0 _ _ _ _ _ _ _ _ _ _)
   | (with_reducible exact ih1 _ _ _ _ _ _ _ _ _ _)
   | (with_reducible exact ih2 _ _ _ _ _ _ _ _ _ _ _ _ _)
   | (with_reducible exact ih3 _ _ _ _)
   | (with_reducible exact card_Check.mono _ _ _ _ _ _ _ _ _ _)
   | (with_reducible exact effect_Print.mono _ _ _ _ _ _ _ _ _)
   | (with_reducible exact trait_List.mono _ _)
   | (with_reducible exact LeO.refl _)
   | (with_reducible exact LeO.none _)
   | (with_reducible refine LeO.ite ?_ ?_)
   | (with_reducible refine LeO.bind ?_ (fun _ => ?_))
   | exact ih0 _ _ _ _ _ _ _ _ _ _
   | exact ih1 _ _ _ _ _ _ _ _ _ _
   | exact ih2 _ _ _ _ _ _ _ _ _ _ _ _ _
   | exact ih3 _ _ _ _
   | exact card_Check.mono _ _ _ _ _ _ _ _ _ _
   | exact effect_Print.mono _ _ _ _ _ _ _ _ _
   | exact trait_List.mono _ _
   | exact LeO.none _
   | refine LeO.ite ?_ ?_
   | refine LeO.bind ?_ (fun _ => ?_)
  ·intro y0 y1 y2 y3 y4 y5 y6 y7 y8 y9
   unfold card_Print.j1
   repeat' first
   | (with_reducible exact ih0 _ _ _ _ _ _ _ _ _ _)
   | (with_reducible exact ih1 _ _ _ _ _ _ _ _ _ _)
   | (with_reducible exact ih2 _ _ _ _ _ _ _ _ _ _ _ _ _)
   | (with_reducible exact ih3 _ _ _ _)
   | (with_reducible exact card_Check.mono _ _ _ _ _ _ _ _ _ _)
   | (with_reducible exact effect_Print.mono _ _ _ _ _ _ _ _ _)
   | (with_reducible exact trait_List.mono _ _)
   | (with_reducible exact LeO.refl _)
   | (with_reducible exact LeO.none _)
   | (with_reducible refine LeO.ite ?_ ?_)
   | (with_reducible refine LeO.bind ?_ (fun _ => ?_))
   | exact ih0 _ _ _ _ _ _ _ _ _ _
   | exact ih1 _ _ _ _ _ _ _ _ _ _
   | exact ih2 _ _ _ _ _ _ _ _ _ _ _ _ _
   | exact ih3 _ _ _ _
   | exact card_Check.mono _ _ _ _ _ _ _ _ _ _
   | exact effect_Print.mono _ _ _ _ _ _ _ _ _
   | exact trait_List.mono _ _
   | exact LeO.none _
   | refine LeO.ite ?_ ?_
   | refine LeO.bind ?_ (fun _ => ?_)
  ·intro y0 y1 y2 y3 y4 y5 y6 y7 y8 y9 y10 y11 y12
   unfold card_Print.l0
   repeat' first
   | (with_reducible exact ih0 _ _ _ _ _ _ _ _ _ _)
   | (with_reducible exact ih1 _ _ _ _ _ _ _ _ _ _)
   | (with_reducible exact ih2 _ _ _ _ _ _ _ _ _ _ _ _ _)
   | (with_reducible exact ih3 _ _ _ _)
   | (with_reducible exact card_Check.mono _ _ _ _ _ _ _ _ _ _)
   | (with_reducible exact effect_Print.mono _ _ _ _ _ _ _ _ _)
   | (with_reducible exact trait_List.mono _ _)
   | (with_reducible exact LeO.refl _)
   | (with_reducible exact LeO.none _)
   | (with_reducible refine LeO.ite ?_ ?_)
   | (with_reducible refine LeO.bind ?_ (fun _ => ?_))
   | exact ih0 _ _ _ _ _ _ _ _ _ _
   | exact ih1 _ _ _ _ _ _ _ _ _ _
   | exact ih2 _ _ _ _ _ _ _ _ _ _ _ _ _
   | exact ih3 _ _ _ _
   | exact card_Check.mono _ _ _ _ _ _ _ _ _ _
   | exact effect_Print.mono _ _ _ _ _ _ _ _ _
   | exact trait_List.mono _ _
   | exact LeO.none _
   | refine LeO.ite ?_ ?_
   | refine LeO.bind ?_ (fun _ => ?_)
  ·intro y0 y1 y2 y3
   unfold card_Print.l1
   repeat' first
   | (with_reducible exact ih0 _ _ _ _ _ _ _ _ _ _)
   | (with_reducible exact ih1 _ _ _ _ _ _ _ _ _ _)
   | (with_reducible exact ih2 _ _ _ _ _ _ _ _ _ _ _ _ _)
   | (with_reducible exact ih3 _ _ _ _)
   | (with_reducible exact card_Check.mono _ _ _ _ _ _ _ _ _ _)
   | (with_reducible exact effect_Print.mono _ _ _ _ _ _ _ _ _)
   | (with_reducible exact trait_List.mono _ _)
   | (with_reducible exact LeO.refl _)
   | (with_reducible exact LeO.none _)
   | (with_reducible refine LeO.ite ?_ ?_)
   | (with_reducible refine LeO.bind ?_ (fun _ => ?_))
   | exact ih0 _ _ _ _ _ _ _ _ _ _
   | exact ih1 _ _ _ _ _ _ _ _ _ _
   | exact ih2 _ _ _ _ _ _ _ _ _ _ _ _ _
   | exact ih3 _ _ _ _
   | exact card_Check.mono _ _ _ _ _ _ _ _ _ _
   | exact effect_Print.mono _ _ _ _ _ _ _ _ _
   | exact trait_List.mono _ _
   | exact LeO.none _
   | refine LeO.ite ?_ ?_
   | refine LeO.bind ?_ (fun _ => ?_)
theorem card_Print.mono : ∀ a0 a1 a2 a3 a4 a5 a6 a7 a8 k, LeO (card_Print.f k a0 a1 a2 a3 a4 a5 a6 a7 a8) (card_Print.f (k + 1) a0 a1 a2 a3 a4 a5 a6 a7 a8) := by
 intro a0 a1 a2 a3 a4 a5 a6 a7 a8 k
 obtain ⟨ih0, ih1, ih2, ih3⟩ := card_Print.mono_l k
 unfold card_Print.f
 repeat' first
   | (with_reducible exact ih0 _ _ _ _ _ _ _ _ _ _)
   | (with_reducible exact ih1 _ _ _ _ _ _ _ _ _ _)
   | (with_reducible exact ih2 _ _ _ _ _ _ _ _ _ _ _ _ _)
   | (with_reducible exact ih3 _ _ _ _)
   | (with_reducible exact card_Check.mono _ _ _ _ _ _ _ _ _ _)
   | (with_reducible exact effect_Print.mono _ _ _ _ _ _ _ _ _)
   | (with_reducible exact trait_List.mono _ _)
   | (with_reducible exact LeO.refl _)
   | (with_reducible exact LeO.none _)
   | (with_reducible refine LeO.ite ?_ ?_)
   | (with_reducible refine LeO.bind ?_ (fun _ => ?_))
   | exact ih0 _ _ _ _ _ _ _ _ _ _
   | exact ih1 _ _ _ _ _ _ _ _ _ _
   | exact ih2 _ _ _ _ _ _ _ _ _ _ _ _ _
   | exact ih3 _ _ _ _
   | exact card_Check.mono _ _ _ _ _ _ _ _ _ _
   | exact effect_Print.mono _ _ _ _ _ _ _ _ _
   | exact trait_List.mono _ _
   | exact LeO.none _
   | refine LeO.ite ?_ ?_
   | refine LeO.bind ?_ (fun _ => ?_)
def card_Print.T4 : Bool × List (List Nat × List Nat) := (true, [([], []), ([0], [0]), ([], []), ([2], [2]), ([3], [3]), ([], []), ([5], [5]), ([6, 4], [6]), ([], []), ([8], [8]), ([9, 7], [9]), ([1, 4, 7, 10], [1, 4, 7, 10]), ([11, 10, 0, 1, 2, 3, 4, 5, 6, 7, 8, 9, 10, 11], [11])])
def card_Print.B4 : List Nat := [0, 1, 0, 4, 12, 0, 32, 124, 0, 256, 1020, 2047, 4095]
theorem card_Print.tab4 : rtab .any (opsOf Tryz.f10 4) = card_Print.T4 := by kernel_rfl
theorem card_Print.bits4 : waitsOk card_Print.T4.2 card_Print.B4 = true := by kernel_rfl
def card_Print.T6 : Bool × List (List Nat × List Nat) := (true, [([], []), ([], []), ([1], [1]), ([2], [2]), ([3], [3]), ([], []), ([5], [5]), ([6, 3], [6]), ([4, 7], [4, 7]), ([8], [8]), ([0, 9, 7], [0, 9]), ([10, 10, 0, 1, 2, 3, 4, 5, 6, 7, 8, 9, 10], [0, 10])])
def card_Print.B6 : List Nat := [0, 0, 2, 6, 14, 0, 32, 110, 254, 510, 1023, 2047]
theorem card_Print.tab6 : rtab .any (opsOf Tryz.f10 6) = card_Print.T6 := by kernel_rfl
theorem card_Print.bits6 : waitsOk card_Print.T6.2 card_Print.B6 = true := by kernel_rfl
set_option maxHeartbeats 8000000 in
set_option maxRecDepth 100000 in
theorem card_Print.calls (k : Nat) (a0_0 : ByteArray) (a0_1 : Int) (a0_2 : Int) (a0_3 : Int) (a0_4 : Int) (a0_5 : Int) (a0_6 : Int) (a0_7 : Bool) (A0_8 : Option Addr) (c0_8 : Nat) (l0_8 : List (S48)) (r1 : ByteArray) (r2 : Int) (w : World) (hG_ : GP w) (hr0_8 : Kd.C k48 w A0_8 l0_8.length l0_8) (hc0_8 : l0_8.length ≤ c0_8) (h : card_Print.f k a0_0 a0_1 a0_2 a0_3 a0_4 a0_5 a0_6 a0_7 l0_8 = some (r1, r2)) :
  Calls Tryz.prog 10 #[.agg #[.string a0_0, .int .u8 a0_1, .int .u8 a0_2, .int .i64 a0_3, .int .i64 a0_4, .int .i64 a0_5, .int .u16 a0_6, .bool a0_7, .slice A0_8 l0_8.length c0_8]] w fun e w' => e = .returned (.tuple #[.string r1, .int .i64 r2]) ∧ Below w.heap.size w w' := by
 have hu28 := Tryz.underlying28
 have hu48 := Tryz.underlying48
 have HR0_8 := Aside0.mk hr0_8
 have HC0_8 := Aside0.mk hc0_8
 clear hr0_8 hc0_8
 have HGP := Aside0.mk hG_
 clear hG_
 have HB := Aside0.mk (Below.refl w.heap.size w)
 have H : ((card_Check.f k a0_0 a0_1 a0_2 a0_3 a0_4 a0_5 a0_6 a0_7 l0_8).bind fun t395 => (if t395 = 0 then ((suit_Name.f a0_1).bind fun t396 => ((card_word.f a0_2).bind fun t397 => ((strconv_Itoa.f a0_3).bind fun t398 => ((some (([a0_0, t396, t397, t398] : List ByteArray) : List ByteArray)).bind fun y399 => (if a0_2 = 1 then ((strconv_Itoa.f a0_4).bind fun t402 => (if t402.size + 1 ≤ 9223372036854775807 then ((strconv_Itoa.f a0_5).bind fun t403 => (if (t402 ++ (⟨#[47]⟩ : ByteArray)).size + t403.size ≤ 9223372036854775807 then (if y399.length < 8796093022208 then (card_Print.j0 k (y399 ++ [(t402 ++ (⟨#[47]⟩ : ByteArray)) ++ t403]) a0_0 a0_1 a0_2 a0_3 a0_4 a0_5 a0_6 a0_7 l0_8) else (none)) else (none))) else (none))) else (card_Print.j0 k y399 a0_0 a0_1 a0_2 a0_3 a0_4 a0_5 a0_6 a0_7 l0_8)))))) else (some ((⟨#[]⟩ : ByteArray), t395)))) = some (r1, r2) := h
 clear h
 replace H := Option.bind_eq_some_iff.mp H
 obtain ⟨t395, A20, H⟩ := H
 replace H : (if t395 = 0 then ((suit_Name.f a0_1).bind fun t396 => ((card_word.f a0_2).bind fun t397 => ((strconv_Itoa.f a0_3).bind fun t398 => ((some (([a0_0, t396, t397, t398] : List ByteArray) : List ByteArray)).bind fun y399 => (if a0_2 = 1 then ((strconv_Itoa.f a0_4).bind fun t402 => (if t402.size + 1 ≤ 9223372036854775807 then ((strconv_Itoa.f a0_5).bind fun t403 => (if (t402 ++ (⟨#[47]⟩ : ByteArray)).size + t403.size ≤ 9223372036854775807 then (if y399.length < 8796093022208 then (card_Print.j0 k (y399 ++ [(t402 ++ (⟨#[47]⟩ : ByteArray)) ++ t403]) a0_0 a0_1 a0_2 a0_3 a0_4 a0_5 a0_6 a0_7 l0_8) else (none)) else (none))) else (none))) else (card_Print.j0 k y399 a0_0 a0_1 a0_2 a0_3 a0_4 a0_5 a0_6 a0_7 l0_8)))))) else (some ((⟨#[]⟩ : ByteArray), t395))) = some (r1, r2) := H
 have A2 := Aside0.mk A20
 clear A20
 by_cases c3 : t395 = 0
 ·rw [if_pos c3] at H
  have c3b0 : (t395 == 0) = true := beq_iff_eq.mpr c3
  have c3b1 : (t395 != 0) = false := bne_eq_false_iff_eq.mpr c3
  clear c3
  replace H := Option.bind_eq_some_iff.mp H
  obtain ⟨t396, A40, H⟩ := H
  replace H : ((card_word.f a0_2).bind fun t397 => ((strconv_Itoa.f a0_3).bind fun t398 => ((some (([a0_0, t396, t397, t398] : List ByteArray) : List ByteArray)).bind fun y399 => (if a0_2 = 1 then ((strconv_Itoa.f a0_4).bind fun t402 => (if t402.size + 1 ≤ 9223372036854775807 then ((strconv_Itoa.f a0_5).bind fun t403 => (if (t402 ++ (⟨#[47]⟩ : ByteArray)).size + t403.size ≤ 9223372036854775807 then (if y399.length < 8796093022208 then (card_Print.j0 k (y399 ++ [(t402 ++ (⟨#[47]⟩ : ByteArray)) ++ t403]) a0_0 a0_1 a0_2 a0_3 a0_4 a0_5 a0_6 a0_7 l0_8) else (none)) else (none))) else (none))) else (card_Print.j0 k y399 a0_0 a0_1 a0_2 a0_3 a0_4 a0_5 a0_6 a0_7 l0_8))))) = some (r1, r2) := H
  have A4 := Aside0.mk A40
  clear A40
  replace H := Option.bind_eq_some_iff.mp H
  obtain ⟨t397, A50, H⟩ := H
  replace H : ((strconv_Itoa.f a0_3).bind fun t398 => ((some (([a0_0, t396, t397, t398] : List ByteArray) : List ByteArray)).bind fun y399 => (if a0_2 = 1 then ((strconv_Itoa.f a0_4).bind fun t402 => (if t402.size + 1 ≤ 9223372036854775807 then ((strconv_Itoa.f a0_5).bind fun t403 => (if (t402 ++ (⟨#[47]⟩ : ByteArray)).size + t403.size ≤ 9223372036854775807 then (if y399.length < 8796093022208 then (card_Print.j0 k (y399 ++ [(t402 ++ (⟨#[47]⟩ : ByteArray)) ++ t403]) a0_0 a0_1 a0_2 a0_3 a0_4 a0_5 a0_6 a0_7 l0_8) else (none)) else (none))) else (none))) else (card_Print.j0 k y399 a0_0 a0_1 a0_2 a0_3 a0_4 a0_5 a0_6 a0_7 l0_8)))) = some (r1, r2) := H
  have A5 := Aside0.mk A50
  clear A50
  replace H := Option.bind_eq_some_iff.mp H
  obtain ⟨t398, A60, H⟩ := H
  replace H : ((some (([a0_0, t396, t397, t398] : List ByteArray) : List ByteArray)).bind fun y399 => (if a0_2 = 1 then ((strconv_Itoa.f a0_4).bind fun t402 => (if t402.size + 1 ≤ 9223372036854775807 then ((strconv_Itoa.f a0_5).bind fun t403 => (if (t402 ++ (⟨#[47]⟩ : ByteArray)).size + t403.size ≤ 9223372036854775807 then (if y399.length < 8796093022208 then (card_Print.j0 k (y399 ++ [(t402 ++ (⟨#[47]⟩ : ByteArray)) ++ t403]) a0_0 a0_1 a0_2 a0_3 a0_4 a0_5 a0_6 a0_7 l0_8) else (none)) else (none))) else (none))) else (card_Print.j0 k y399 a0_0 a0_1 a0_2 a0_3 a0_4 a0_5 a0_6 a0_7 l0_8))) = some (r1, r2) := H
  have A6 := Aside0.mk A60
  clear A60
  obtain ⟨y399, hy399⟩ : ∃ y_ : List ByteArray, y_ = (([a0_0, t396, t397, t398] : List ByteArray)) := ⟨_, rfl⟩
  replace H : (if a0_2 = 1 then ((strconv_Itoa.f a0_4).bind fun t402 => (if t402.size + 1 ≤ 9223372036854775807 then ((strconv_Itoa.f a0_5).bind fun t403 => (if (t402 ++ (⟨#[47]⟩ : ByteArray)).size + t403.size ≤ 9223372036854775807 then (if y399.length < 8796093022208 then (card_Print.j0 k (y399 ++ [(t402 ++ (⟨#[47]⟩ : ByteArray)) ++ t403]) a0_0 a0_1 a0_2 a0_3 a0_4 a0_5 a0_6 a0_7 l0_8) else (none)) else (none))) else (none))) else (card_Print.j0 k y399 a0_0 a0_1 a0_2 a0_3 a0_4 a0_5 a0_6 a0_7 l0_8)) = some (r1, r2) := by first | (rw [hy399]; with_reducible exact H) | (have H2_ := (Option.bind_some _ _).symm.trans H; rw [hy399]; with_reducible exact H2_) | (have H2_ := (Option.bind_some _ _).symm.trans H; with_reducible exact H2_) | with_reducible exact H | (rw [hy399]; exact H) | exact H
  have Ny399 := Aside0.mk hy399
  clear hy399
  have HC7 := Aside0.mk H
  clear H
  go_enter Tryz.func10, Tryz.ntmps10
  try go_wp2_with (first | ((with_reducible refine gate_dst (N := 1) rfl ?_); refine box_event ?hg (N := 1) ?hd (cs := #[.string a0_0, .int .u8 a0_1, .int .u8 a0_2, .int .i64 a0_3, .int .i64 a0_4, .int .i64 a0_5, .int .u16 a0_6, .bool a0_7, .slice A0_8 l0_8.length c0_8]) (t := 28) ?hr ?_; (case hd => rfl); (case hg => rfl); (case hr => first | (go_simp; done) | (go_simp; rfl)); intro gb394 hg w8 hbox hb; have BK394 := Aside0.mk (hbox); have GW394 := Aside0.mk ((by rw [hg]; exact (below_size Zb) : w.heap.size ≤ gb394)); have GE394 := Aside0.mk ((by rw [hg]; exact (below_size Zb) : w.heap.size ≤ gb394)); replace HB := Aside0.mk (below_step Zb hb); clear hb hbox hg; obtain ⟨hcz9_0, hcz9_1, hcz9_2, hcz9_3, hcz9_4, hcz9_5, hcz9_6, hcz9_7, hcz9_8, hfz9_0, hfz9_1, hfz9_2, hfz9_3, hfz9_4, hfz9_5, hfz9_6, hfz9_7, hfz9_8⟩ := Z9 BK394.out) | ((with_reducible refine gate_callee (f := 9) rfl ?_); refine goesL_ (some 13) rfl rfl Tryz.func9 (by kernel_rfl) rfl #[.agg #[.string a0_0, .int .u8 a0_1, .int .u8 a0_2, .int .i64 a0_3, .int .i64 a0_4, .int .i64 a0_5, .int .u16 a0_6, .bool a0_7, .slice A0_8 l0_8.length c0_8]] rfl Zl ?_; (with_reducible refine (card_Check.calls k a0_0 a0_1 a0_2 a0_3 a0_4 a0_5 a0_6 a0_7 _ _ l0_8 t395 _ ?side1 ?side2 A2.out).mono ?_); (case side1 => repeat (first | exact (Kd.C_below HR0_8.out HB.out) | (with_reducible refine Kd.C_alloc ?_ _) | (with_reducible refine Kd.C_drewN ?_ _) | (with_reducible refine Kd.C_drew ?_))); (case side2 => exact HC0_8.out); rintro e w10 ⟨rfl, hb⟩; refine ⟨_, rfl, ?_⟩; replace BK394 := Aside0.mk (blk_below (Zj BK394.out) hb); replace HB := Aside0.mk (below_step (Zb1 GE394.out) hb); (try clear hb); (try clear hb2); (try clear hk); (try clear hi)))
  have n0_ := Aside0.mk (blk_drew BK394.out)
  have n1_ := Aside0.mk (below_drew1 HB.out)
  clear BK394 HB
  have BK394 := n0_
  have HB := n1_
  clear n0_ n1_
  refine start_ (n := 13) (S := fun w' => w'.cell? ⟨gb394, 0, none⟩ = some (.string a0_0) ∧ w'.cell? ⟨gb394, 1, none⟩ = some (.int .u8 a0_1) ∧ w'.cell? ⟨gb394, 2, none⟩ = some (.int .u8 a0_2) ∧ w'.cell? ⟨gb394, 3, none⟩ = some (.int .i64 a0_3) ∧ w'.cell? ⟨gb394, 4, none⟩ = some (.int .i64 a0_4) ∧ w'.cell? ⟨gb394, 5, none⟩ = some (.int .i64 a0_5) ∧ w'.cell? ⟨gb394, 6, none⟩ = some (.int .u16 a0_6) ∧ w'.cell? ⟨gb394, 7, none⟩ = some (.bool a0_7) ∧ w'.cell? ⟨gb394, 8, none⟩ = some (.slice A0_8 l0_8.length c0_8)) (ds := []) #[false, false, false, false, false, false, false, false, false, false, false, false, false] (by kernel_rfl) rfl rfl ⟨(blk_cell BK394.out 0).trans rfl, (blk_cell BK394.out 1).trans rfl, (blk_cell BK394.out 2).trans rfl, (blk_cell BK394.out 3).trans rfl, (blk_cell BK394.out 4).trans rfl, (blk_cell BK394.out 5).trans rfl, (blk_cell BK394.out 6).trans rfl, (blk_cell BK394.out 7).trans rfl, (blk_cell BK394.out 8).trans rfl⟩ (fun hHeld => ?_); refine with_tabW card_Print.tab4 card_Print.bits4 (fun HT_ HW_ => ?_)
  generalize w10.drew = w11 at BK394 HB hHeld ⊢
  refine pure_ (i := 0) (N := some 17) (v := ?_) (a' := ?_) #[true, false, false, false, false, false, false, false, false, false, false, false, false] rfl rfl (any_of HT_.out (by kernel_rfl)) (fun _ _ _ h => h) (Or.inl ⟨by rfl, ?_⟩) ?_ ?_
  rotate_left
  ·intro w'
   go_simp
   with_reducible rfl
  rotate_left
  ·simp only [Act.put, List.setIfInBounds_toArray, List.set_cons_zero, List.set_cons_succ, i64_w, i32_w]
   rfl
  refine pure_ (i := 2) (N := some 19) (v := ?_) (a' := ?_) #[true, false, true, false, false, false, false, false, false, false, false, false, false] rfl rfl (any_of HT_.out (by kernel_rfl)) (fun _ _ _ h => h) (Or.inl ⟨by rfl, ?_⟩) ?_ ?_
  rotate_left
  ·intro w'
   go_simp
   with_reducible rfl
  rotate_left
  ·simp only [Act.put, List.setIfInBounds_toArray, List.set_cons_zero, List.set_cons_succ, i64_w, i32_w]
   rfl
  refine pure_ (i := 5) (N := some 22) (v := ?_) (a' := ?_) #[true, false, true, false, false, true, false, false, false, false, false, false, false] rfl rfl (any_of HT_.out (by kernel_rfl)) (fun _ _ _ h => h) (Or.inl ⟨by rfl, ?_⟩) ?_ ?_
  rotate_left
  ·intro w'
   go_simp
   with_reducible rfl
  rotate_left
  ·simp only [Act.put, List.setIfInBounds_toArray, List.set_cons_zero, List.set_cons_succ, i64_w, i32_w]
   rfl
  refine pure_ (i := 8) (N := some 25) (v := ?_) (a' := ?_) #[true, false, true, false, false, true, false, false, true, false, false, false, false] rfl rfl (any_of HT_.out (by kernel_rfl)) (fun _ _ _ h => h) (Or.inl ⟨by rfl, ?_⟩) ?_ ?_
  rotate_left
  ·intro w'
   go_simp
   with_reducible rfl
  rotate_left
  ·simp only [Act.put, List.setIfInBounds_toArray, List.set_cons_zero, List.set_cons_succ, i64_w, i32_w]
   rfl
  refine take_ (i := 1) (N := some 18) (v := ?_) (a' := ?_) #[true, true, true, false, false, true, false, false, true, false, false, false, false] rfl rfl (take_ofW HT_.out HW_.out (by kernel_rfl)) (fun _ _ _ h => h) (Or.inl ⟨by rfl, ?_⟩) hHeld ?_ ?_
  rotate_left
  ·rintro w' ⟨s0, s1, s2, s3, s4, s5, s6, s7, s8⟩
   go_simp
   with_reducible rfl
  rotate_left
  ·simp only [Act.put, List.setIfInBounds_toArray, List.set_cons_zero, List.set_cons_succ, i64_w, i32_w]
   rfl
  refine take_ (i := 3) (N := some 20) (v := ?_) (a' := ?_) #[true, true, true, true, false, true, false, false, true, false, false, false, false] rfl rfl (take_ofW HT_.out HW_.out (by kernel_rfl)) (fun _ _ _ h => h) (Or.inl ⟨by rfl, ?_⟩) hHeld ?_ ?_
  rotate_left
  ·rintro w' ⟨s0, s1, s2, s3, s4, s5, s6, s7, s8⟩
   go_simp
   with_reducible rfl
  rotate_left
  ·simp only [Act.put, List.setIfInBounds_toArray, List.set_cons_zero, List.set_cons_succ, i64_w, i32_w]
   rfl
  refine take_ (i := 6) (N := some 23) (v := ?_) (a' := ?_) #[true, true, true, true, false, true, true, false, true, false, false, false, false] rfl rfl (take_ofW HT_.out HW_.out (by kernel_rfl)) (fun _ _ _ h => h) (Or.inl ⟨by rfl, ?_⟩) hHeld ?_ ?_
  rotate_left
  ·rintro w' ⟨s0, s1, s2, s3, s4, s5, s6, s7, s8⟩
   go_simp
   with_reducible rfl
  rotate_left
  ·simp only [Act.put, List.setIfInBounds_toArray, List.set_cons_zero, List.set_cons_succ, i64_w, i32_w]
   rfl
  refine take_ (i := 9) (N := some 26) (v := ?_) (a' := ?_) #[true, true, true, true, false, true, true, false, true, true, false, false, false] rfl rfl (take_ofW HT_.out HW_.out (by kernel_rfl)) (fun _ _ _ h => h) (Or.inl ⟨by rfl, ?_⟩) hHeld ?_ ?_
  rotate_left
  ·rintro w' ⟨s0, s1, s2, s3, s4, s5, s6, s7, s8⟩
   go_simp
   with_reducible rfl
  rotate_left
  ·simp only [Act.put, List.setIfInBounds_toArray, List.set_cons_zero, List.set_cons_succ, i64_w, i32_w]
   rfl
  refine one_ (i := 4) (N := some 21) #[true, true, true, true, true, true, true, false, true, true, false, false, false] rfl rfl (one_of HT_.out (by kernel_rfl)) (by decide) (fun K hK => ?_)
  refine goes_ Tryz.func30 (by kernel_rfl) rfl #[.int .u8 a0_1] (by rfl) rfl rfl Zl ?_
  with_reducible refine (suit_Name.calls a0_1 t396 _ A4.out).mono ?_
  rintro e w' ⟨rfl, ⟨nd, rfl⟩⟩
  refine ⟨_, rfl, ?_⟩
  refine hK.out _ _ ⟨(blk_cell BK394.out 0).trans rfl, (blk_cell BK394.out 1).trans rfl, (blk_cell BK394.out 2).trans rfl, (blk_cell BK394.out 3).trans rfl, (blk_cell BK394.out 4).trans rfl, (blk_cell BK394.out 5).trans rfl, (blk_cell BK394.out 6).trans rfl, (blk_cell BK394.out 7).trans rfl, (blk_cell BK394.out 8).trans rfl⟩ (fun hHeld => ?_)
  clear hK K
  refine norm_ (a' := ?_) ?_ ?_
  rotate_left
  ·show Act.put _ (some 21) _ = _
   simp only [Act.put, List.setIfInBounds_toArray, List.set_cons_zero, List.set_cons_succ, i64_w, i32_w]
   rfl
  refine one_ (i := 7) (N := some 24) #[true, true, true, true, true, true, true, true, true, true, false, false, false] rfl rfl (one_of HT_.out (by kernel_rfl)) (by decide) (fun K hK => ?_)
  refine goes_ Tryz.func31 (by kernel_rfl) rfl #[.int .u8 a0_2] (by rfl) rfl rfl Zl ?_
  with_reducible refine (card_word.calls a0_2 t397 _ A5.out).mono ?_
  rintro e w' ⟨rfl, ⟨nd, rfl⟩⟩
  refine ⟨_, rfl, ?_⟩
  refine hK.out _ _ ⟨(blk_cell BK394.out 0).trans rfl, (blk_cell BK394.out 1).trans rfl, (blk_cell BK394.out 2).trans rfl, (blk_cell BK394.out 3).trans rfl, (blk_cell BK394.out 4).trans rfl, (blk_cell BK394.out 5).trans rfl, (blk_cell BK394.out 6).trans rfl, (blk_cell BK394.out 7).trans rfl, (blk_cell BK394.out 8).trans rfl⟩ (fun hHeld => ?_)
  clear hK K
  refine norm_ (a' := ?_) ?_ ?_
  rotate_left
  ·show Act.put _ (some 24) _ = _
   simp only [Act.put, List.setIfInBounds_toArray, List.set_cons_zero, List.set_cons_succ, i64_w, i32_w]
   rfl
  refine one_ (i := 10) (N := some 27) #[true, true, true, true, true, true, true, true, true, true, true, false, false] rfl rfl (one_of HT_.out (by kernel_rfl)) (by decide) (fun K hK => ?_)
  refine goes_ Tryz.func32 (by kernel_rfl) rfl #[.int .i64 a0_3] (by rfl) rfl rfl Zl ?_
  with_reducible refine (strconv_Itoa.calls a0_3 t398 _ ?side1 A6.out).mono ?_
  (case side1 => first | (with_reducible exact HGP.out) | exact GP_below HGP.out (Zb1 GE394.out))
  rintro e w12 ⟨rfl, hb⟩
  refine ⟨_, rfl, ?_⟩
  have n0_ := Aside0.mk (blk_below (Zj BK394.out) hb)
  have n1_ := Aside0.mk (below_step (Zb1 GE394.out) hb)
  clear BK394 HB
  have BK394 := n0_
  have HB := n1_
  clear n0_ n1_
  (try clear hb)
  (try clear hb2)
  (try clear hk)
  (try clear hi)
  refine hK.out _ _ ⟨(blk_cell BK394.out 0).trans rfl, (blk_cell BK394.out 1).trans rfl, (blk_cell BK394.out 2).trans rfl, (blk_cell BK394.out 3).trans rfl, (blk_cell BK394.out 4).trans rfl, (blk_cell BK394.out 5).trans rfl, (blk_cell BK394.out 6).trans rfl, (blk_cell BK394.out 7).trans rfl, (blk_cell BK394.out 8).trans rfl⟩ (fun hHeld => ?_)
  clear hK K
  refine norm_ (a' := ?_) ?_ ?_
  rotate_left
  ·show Act.put _ (some 27) _ = _
   simp only [Act.put, List.setIfInBounds_toArray, List.set_cons_zero, List.set_cons_succ, i64_w, i32_w]
   rfl
  refine one_ (i := 11) (N := some 28) #[true, true, true, true, true, true, true, true, true, true, true, true, false] rfl rfl (one_of HT_.out (by kernel_rfl)) (by decide) (fun K hK => ?_)
  refine Kd.R_lit_step Kd.string _ 9 ?hg (N := 28) ?hd (xs := ([a0_0, t396, t397, t398] : List ByteArray)) (inner := [.string a0_0, .string t396, .string t397, .string t398]) (ok := fun _ => True) (okp := fun _ => True) ?hr ?hp (fun _ hk => hk) trivial (Below.refl _ _) (Nat.le_refl _) (by simp) ?_; (case hd => rfl); (case hg => rfl); (case hr => first | (go_simp; done) | (go_simp; rfl)); (case hp => exact (Reps.one (show Kd.M Kd.string _ _ _ a0_0 [.string a0_0] from rfl) (Reps.one (show Kd.M Kd.string _ _ _ t396 [.string t396] from rfl) (Reps.one (show Kd.M Kd.string _ _ _ t397 [.string t397] from rfl) (Reps.one (show Kd.M Kd.string _ _ _ t398 [.string t398] from rfl) (Reps.none _ _))))))
  intro v400 w13 ho14 hb hg_ hnew_
  clear hg_ hnew_
  (first | rw [← Ny399.out] at ho14 | (simp only [Int.reduceToNat] at ho14; rw [← Ny399.out] at ho14))
  have n0_ := Aside0.mk (Kd.R_lower ho14 (below_size (Zb1 GE394.out)))
  have n1_ := Aside0.mk (blk_below (Zj BK394.out) hb)
  have n2_ := Aside0.mk (below_step (Zb1 GE394.out) hb)
  clear BK394 HB
  have HO401 := n0_
  have BK394 := n1_
  have HB := n2_
  clear n0_ n1_ n2_
  clear hb ho14
  refine hK.out _ _ ⟨(blk_cell BK394.out 0).trans rfl, (blk_cell BK394.out 1).trans rfl, (blk_cell BK394.out 2).trans rfl, (blk_cell BK394.out 3).trans rfl, (blk_cell BK394.out 4).trans rfl, (blk_cell BK394.out 5).trans rfl, (blk_cell BK394.out 6).trans rfl, (blk_cell BK394.out 7).trans rfl, (blk_cell BK394.out 8).trans rfl⟩ (fun hHeld => ?_)
  clear hK K
  refine norm_ (a' := ?_) ?_ ?_
  rotate_left
  ·show Act.put _ (some 28) _ = _
   simp only [Act.put, List.setIfInBounds_toArray, List.set_cons_zero, List.set_cons_succ, i64_w, i32_w]
   rfl
  refine pure_ (i := 12) (N := some 5) (v := ?_) (a' := ?_) #[true, true, true, true, true, true, true, true, true, true, true, true, true] rfl rfl (any_of HT_.out (by kernel_rfl)) (fun _ _ _ h => h) (Or.inl ⟨by rfl, ?_⟩) ?_ ?_
  rotate_left
  ·intro w'
   go_simp
   with_reducible rfl
  rotate_left
  ·simp only [Act.put, List.setIfInBounds_toArray, List.set_cons_zero, List.set_cons_succ, i64_w, i32_w]
   rfl
  refine done_ (done_of HT_.out (by kernel_rfl)) ?_
  obtain ⟨hcz15_0, hcz15_1, hcz15_2, hcz15_3, hcz15_4, hcz15_5, hcz15_6, hcz15_7, hcz15_8, hfz15_0, hfz15_1, hfz15_2, hfz15_3, hfz15_4, hfz15_5, hfz15_6, hfz15_7, hfz15_8⟩ := Z9 BK394.out
  go_upto_if 31 with (fail)
  go_cut [5] (fun v5 wc => ∃ (kq : Nat) (x5_6 : List ByteArray), Aside0 (card_Print.j0 kq x5_6 a0_0 a0_1 a0_2 a0_3 a0_4 a0_5 a0_6 a0_7 l0_8 = some (r1, r2)) ∧ Aside0 (kq ≤ k) ∧ Aside0 (Kd.R Kd.string 9 wc w.heap.size (fun _ => True) v5 x5_6) ∧ Aside0 (wc.heap[gb394]? = some (.cells #[.string a0_0, .int .u8 a0_1, .int .u8 a0_2, .int .i64 a0_3, .int .i64 a0_4, .int .i64 a0_5, .int .u16 a0_6, .bool a0_7, (.slice A0_8 l0_8.length c0_8)] 28 (0, 0))) ∧ Aside0 (Below w.heap.size w wc))
  case first =>
   have H := HC7.out
   clear HC7
   by_cases c16 : a0_2 = 1
   ·rw [if_pos c16] at H
    have c16b0 : (a0_2 == 1) = true := beq_iff_eq.mpr c16
    have c16b1 : (a0_2 != 1) = false := bne_eq_false_iff_eq.mpr c16
    clear c16
    (first | rw [c16b0] | (simp only [i64_w, i32_w]; rw [c16b0]) | skip)
    replace H := Option.bind_eq_some_iff.mp H
    obtain ⟨t402, A170, H⟩ := H
    replace H : (if t402.size + 1 ≤ 9223372036854775807 then ((strconv_Itoa.f a0_5).bind fun t403 => (if (t402 ++ (⟨#[47]⟩ : ByteArray)).size + t403.size ≤ 9223372036854775807 then (if y399.length < 8796093022208 then (card_Print.j0 k (y399 ++ [(t402 ++ (⟨#[47]⟩ : ByteArray)) ++ t403]) a0_0 a0_1 a0_2 a0_3 a0_4 a0_5 a0_6 a0_7 l0_8) else (none)) else (none))) else (none)) = some (r1, r2) := H
    have A17 := Aside0.mk A170
    clear A170
    by_cases c18 : t402.size + 1 ≤ 9223372036854775807
    ·rw [if_pos c18] at H
     have c18b0 := eq_true c18
     have c18b1 : decide (t402.size + 1 ≤ 9223372036854775807) = true := decide_eq_true c18
     try have c18b2 : (9223372036854775807 < t402.size + 1) = False := eq_false (Nat.not_lt.2 c18)
     replace H := Option.bind_eq_some_iff.mp H
     obtain ⟨t403, A190, H⟩ := H
     replace H : (if (t402 ++ (⟨#[47]⟩ : ByteArray)).size + t403.size ≤ 9223372036854775807 then (if y399.length < 8796093022208 then (card_Print.j0 k (y399 ++ [(t402 ++ (⟨#[47]⟩ : ByteArray)) ++ t403]) a0_0 a0_1 a0_2 a0_3 a0_4 a0_5 a0_6 a0_7 l0_8) else (none)) else (none)) = some (r1, r2) := H
     have A19 := Aside0.mk A190
     clear A190
     by_cases c20 : (t402 ++ (⟨#[47]⟩ : ByteArray)).size + t403.size ≤ 9223372036854775807
     ·rw [if_pos c20] at H
      have c20b0 := eq_true c20
      have c20b1 : decide ((t402 ++ (⟨#[47]⟩ : ByteArray)).size + t403.size ≤ 9223372036854775807) = true := decide_eq_true c20
      try have c20b2 : (9223372036854775807 < (t402 ++ (⟨#[47]⟩ : ByteArray)).size + t403.size) = False := eq_false (Nat.not_lt.2 c20)
      (try (have c20s : (t402).size + 1 + (t403).size ≤ 9223372036854775807 := by have h_ := c20; simp only [ByteArray.size_append] at h_; exact h_))
      (try (have c20t : ((t402).size + 1 + (t403).size ≤ 9223372036854775807) = True := eq_true c20s))
      (try (have c20u : (9223372036854775807 < (t402).size + 1 + (t403).size) = False := eq_false (Nat.not_lt.2 c20s)))
      by_cases c21 : y399.length < 8796093022208
      ·rw [if_pos c21] at H
       have LMc21 := Aside0.mk c21
       clear c21
       obtain ⟨y404, hy404⟩ : ∃ y_ : List ByteArray, y_ = (y399 ++ [(t402 ++ (⟨#[47]⟩ : ByteArray)) ++ t403]) := ⟨_, rfl⟩
       replace H : (card_Print.j0 k y404 a0_0 a0_1 a0_2 a0_3 a0_4 a0_5 a0_6 a0_7 l0_8) = some (r1, r2) := by first | (rw [hy404]; with_reducible exact H) | (have H2_ := (Option.bind_some _ _).symm.trans H; rw [hy404]; with_reducible exact H2_) | (have H2_ := (Option.bind_some _ _).symm.trans H; with_reducible exact H2_) | with_reducible exact H | (rw [hy404]; exact H) | exact H
       have Ny404 := Aside0.mk hy404
       clear hy404
       have H' := Aside0.mk H
       clear H
       try go_wp2
       have n0_ := Aside0.mk (Kd.R_drew HO401.out)
       have n1_ := Aside0.mk (blk_drew BK394.out)
       have n2_ := Aside0.mk (below_drew1 HB.out)
       clear HO401 BK394 HB
       have HO401 := n0_
       have BK394 := n1_
       have HB := n2_
       clear n0_ n1_ n2_
       refine start_ (n := 12) (S := fun w' => w'.cell? ⟨gb394, 0, none⟩ = some (.string a0_0) ∧ w'.cell? ⟨gb394, 1, none⟩ = some (.int .u8 a0_1) ∧ w'.cell? ⟨gb394, 2, none⟩ = some (.int .u8 a0_2) ∧ w'.cell? ⟨gb394, 3, none⟩ = some (.int .i64 a0_3) ∧ w'.cell? ⟨gb394, 4, none⟩ = some (.int .i64 a0_4) ∧ w'.cell? ⟨gb394, 5, none⟩ = some (.int .i64 a0_5) ∧ w'.cell? ⟨gb394, 6, none⟩ = some (.int .u16 a0_6) ∧ w'.cell? ⟨gb394, 7, none⟩ = some (.bool a0_7) ∧ w'.cell? ⟨gb394, 8, none⟩ = some (.slice A0_8 l0_8.length c0_8)) (ds := []) #[false, false, false, false, false, false, false, false, false, false, false, false] (by kernel_rfl) rfl rfl ⟨(blk_cell BK394.out 0).trans rfl, (blk_cell BK394.out 1).trans rfl, (blk_cell BK394.out 2).trans rfl, (blk_cell BK394.out 3).trans rfl, (blk_cell BK394.out 4).trans rfl, (blk_cell BK394.out 5).trans rfl, (blk_cell BK394.out 6).trans rfl, (blk_cell BK394.out 7).trans rfl, (blk_cell BK394.out 8).trans rfl⟩ (fun hHeld => ?_); refine with_tabW card_Print.tab6 card_Print.bits6 (fun HT_ HW_ => ?_)
       generalize w13.drew = w22 at HO401 BK394 HB hHeld ⊢
       refine pure_ (i := 0) (N := some 32) (v := ?_) (a' := ?_) #[true, false, false, false, false, false, false, false, false, false, false, false] rfl rfl (any_of HT_.out (by kernel_rfl)) (fun _ _ _ h => h) (Or.inl ⟨by rfl, ?_⟩) ?_ ?_
       rotate_left
       ·intro w'
        go_simp
        with_reducible rfl
       rotate_left
       ·simp only [Act.put, List.setIfInBounds_toArray, List.set_cons_zero, List.set_cons_succ, i64_w, i32_w]
        rfl
       refine pure_ (i := 1) (N := some 33) (v := ?_) (a' := ?_) #[true, true, false, false, false, false, false, false, false, false, false, false] rfl rfl (any_of HT_.out (by kernel_rfl)) (fun _ _ _ h => h) (Or.inl ⟨by rfl, ?_⟩) ?_ ?_
       rotate_left
       ·intro w'
        go_simp
        with_reducible rfl
       rotate_left
       ·simp only [Act.put, List.setIfInBounds_toArray, List.set_cons_zero, List.set_cons_succ, i64_w, i32_w]
        rfl
       refine pure_ (i := 5) (N := some 37) (v := ?_) (a' := ?_) #[true, true, false, false, false, true, false, false, false, false, false, false] rfl rfl (any_of HT_.out (by kernel_rfl)) (fun _ _ _ h => h) (Or.inl ⟨by rfl, ?_⟩) ?_ ?_
       rotate_left
       ·intro w'
        go_simp
        with_reducible rfl
       rotate_left
       ·simp only [Act.put, List.setIfInBounds_toArray, List.set_cons_zero, List.set_cons_succ, i64_w, i32_w]
        rfl
       refine take_ (i := 2) (N := some 34) (v := ?_) (a' := ?_) #[true, true, true, false, false, true, false, false, false, false, false, false] rfl rfl (take_ofW HT_.out HW_.out (by kernel_rfl)) (fun _ _ _ h => h) (Or.inl ⟨by rfl, ?_⟩) hHeld ?_ ?_
       rotate_left
       ·rintro w' ⟨s0, s1, s2, s3, s4, s5, s6, s7, s8⟩
        go_simp
        with_reducible rfl
       rotate_left
       ·simp only [Act.put, List.setIfInBounds_toArray, List.set_cons_zero, List.set_cons_succ, i64_w, i32_w]
        rfl
       refine take_ (i := 6) (N := some 38) (v := ?_) (a' := ?_) #[true, true, true, false, false, true, true, false, false, false, false, false] rfl rfl (take_ofW HT_.out HW_.out (by kernel_rfl)) (fun _ _ _ h => h) (Or.inl ⟨by rfl, ?_⟩) hHeld ?_ ?_
       rotate_left
       ·rintro w' ⟨s0, s1, s2, s3, s4, s5, s6, s7, s8⟩
        go_simp
        with_reducible rfl
       rotate_left
       ·simp only [Act.put, List.setIfInBounds_toArray, List.set_cons_zero, List.set_cons_succ, i64_w, i32_w]
        rfl
       refine one_ (i := 3) (N := some 35) #[true, true, true, true, false, true, true, false, false, false, false, false] rfl rfl (one_of HT_.out (by kernel_rfl)) (by decide) (fun K hK => ?_)
       refine goes_ Tryz.func32 (by kernel_rfl) rfl #[.int .i64 a0_4] (by rfl) rfl rfl Zl ?_
       with_reducible refine (strconv_Itoa.calls a0_4 t402 _ ?side1 A17.out).mono ?_
       (case side1 => first | (with_reducible exact HGP.out) | exact GP_below HGP.out (Zb1 GE394.out))
       rintro e w23 ⟨rfl, hb⟩
       refine ⟨_, rfl, ?_⟩
       have n0_ := Aside0.mk (Kd.R_below (Zq HO401.out) hb)
       have n1_ := Aside0.mk (blk_below (Zj BK394.out) hb)
       have n2_ := Aside0.mk (below_step (Zb1 GE394.out) hb)
       clear HO401 BK394 HB
       have HO401 := n0_
       have BK394 := n1_
       have HB := n2_
       clear n0_ n1_ n2_
       (try clear hb)
       (try clear hb2)
       (try clear hk)
       (try clear hi)
       refine hK.out _ _ ⟨(blk_cell BK394.out 0).trans rfl, (blk_cell BK394.out 1).trans rfl, (blk_cell BK394.out 2).trans rfl, (blk_cell BK394.out 3).trans rfl, (blk_cell BK394.out 4).trans rfl, (blk_cell BK394.out 5).trans rfl, (blk_cell BK394.out 6).trans rfl, (blk_cell BK394.out 7).trans rfl, (blk_cell BK394.out 8).trans rfl⟩ (fun hHeld => ?_)
       clear hK K
       refine norm_ (a' := ?_) ?_ ?_
       rotate_left
       ·show Act.put _ (some 35) _ = _
        simp only [Act.put, List.setIfInBounds_toArray, List.set_cons_zero, List.set_cons_succ, i64_w, i32_w]
        rfl
       refine pure_ (i := 4) (N := some 36) (v := ?_) (a' := ?_) #[true, true, true, true, true, true, true, false, false, false, false, false] rfl rfl (any_of HT_.out (by kernel_rfl)) (fun _ _ _ h => h) (Or.inl ⟨by rfl, ?_⟩) ?_ ?_
       rotate_left
       ·intro w'
        go_simp
        with_reducible rfl
       rotate_left
       ·simp only [Act.put, List.setIfInBounds_toArray, List.set_cons_zero, List.set_cons_succ, i64_w, i32_w]
        rfl
       refine one_ (i := 7) (N := some 39) #[true, true, true, true, true, true, true, true, false, false, false, false] rfl rfl (one_of HT_.out (by kernel_rfl)) (by decide) (fun K hK => ?_)
       refine goes_ Tryz.func32 (by kernel_rfl) rfl #[.int .i64 a0_5] (by rfl) rfl rfl Zl ?_
       with_reducible refine (strconv_Itoa.calls a0_5 t403 _ ?side1 A19.out).mono ?_
       (case side1 => first | (with_reducible exact HGP.out) | exact GP_below HGP.out (Zb1 GE394.out))
       rintro e w24 ⟨rfl, hb⟩
       refine ⟨_, rfl, ?_⟩
       have n0_ := Aside0.mk (Kd.R_below (Zq HO401.out) hb)
       have n1_ := Aside0.mk (blk_below (Zj BK394.out) hb)
       have n2_ := Aside0.mk (below_step (Zb1 GE394.out) hb)
       clear HO401 BK394 HB
       have HO401 := n0_
       have BK394 := n1_
       have HB := n2_
       clear n0_ n1_ n2_
       (try clear hb)
       (try clear hb2)
       (try clear hk)
       (try clear hi)
       refine hK.out _ _ ⟨(blk_cell BK394.out 0).trans rfl, (blk_cell BK394.out 1).trans rfl, (blk_cell BK394.out 2).trans rfl, (blk_cell BK394.out 3).trans rfl, (blk_cell BK394.out 4).trans rfl, (blk_cell BK394.out 5).trans rfl, (blk_cell BK394.out 6).trans rfl, (blk_cell BK394.out 7).trans rfl, (blk_cell BK394.out 8).trans rfl⟩ (fun hHeld => ?_)
       clear hK K
       refine norm_ (a' := ?_) ?_ ?_
       rotate_left
       ·show Act.put _ (some 39) _ = _
        simp only [Act.put, List.setIfInBounds_toArray, List.set_cons_zero, List.set_cons_succ, i64_w, i32_w]
        rfl
       refine pure_ (i := 8) (N := some 40) (v := ?_) (a' := ?_) #[true, true, true, true, true, true, true, true, true, false, false, false] rfl rfl (any_of HT_.out (by kernel_rfl)) (fun _ _ _ h => h) (Or.inl ⟨by rfl, ?_⟩) ?_ ?_
       rotate_left
       ·intro w'
        go_simp
        with_reducible rfl
       rotate_left
       ·simp only [Act.put, List.setIfInBounds_toArray, List.set_cons_zero, List.set_cons_succ, i64_w, i32_w]
        rfl
       refine one_ (i := 9) (N := some 41) #[true, true, true, true, true, true, true, true, true, true, false, false] rfl rfl (one_of HT_.out (by kernel_rfl)) (by decide) (fun K hK => ?_)
       refine value_ (w1 := ?_) (v := ?_) (by rfl) rfl ?_ ?_
       rotate_left 2
       ·go_simp
        constructor
        ·rfl
        ·rfl
       refine hK.out _ _ ⟨(blk_cell (blk_alloc BK394.out _) 0).trans rfl, (blk_cell (blk_alloc BK394.out _) 1).trans rfl, (blk_cell (blk_alloc BK394.out _) 2).trans rfl, (blk_cell (blk_alloc BK394.out _) 3).trans rfl, (blk_cell (blk_alloc BK394.out _) 4).trans rfl, (blk_cell (blk_alloc BK394.out _) 5).trans rfl, (blk_cell (blk_alloc BK394.out _) 6).trans rfl, (blk_cell (blk_alloc BK394.out _) 7).trans rfl, (blk_cell (blk_alloc BK394.out _) 8).trans rfl⟩ (fun hHeld => ?_)
       clear hK K
       refine norm_ (a' := ?_) ?_ ?_
       rotate_left
       ·show Act.put _ (some 41) _ = _
        simp only [Act.put, List.setIfInBounds_toArray, List.set_cons_zero, List.set_cons_succ, i64_w, i32_w]
        rfl
       refine one_ (i := 10) (N := some 42) #[true, true, true, true, true, true, true, true, true, true, true, false] rfl rfl (one_of HT_.out (by kernel_rfl)) (by decide) (fun K hK => ?_)
       refine Kd.R_append_step Kd.string (w0 := w) w.heap.size (by rfl) (.tmp 32) (.tmp 41) 63 9 (.string ⟨#[]⟩) 16 rfl Tryz.underlying63 info9 rfl (by decide) (by omega) v400 y399 ((t402 ++ (⟨#[47]⟩ : ByteArray)) ++ t403) [.string ((t402 ++ (⟨#[47]⟩ : ByteArray)) ++ t403)] (fun _ => True) (fun _ => False) rfl rfl ?aP (fun _ hk => hk.elim) ?aF ?aO ?aB ?aS ?aL ?_
       (case aP => exact rfl)
       (case aB => exact (Zb1 GE394.out))
       (case aF => exact (fun _ _ => trivial))
       (case aO => exact (Zq HO401.out))
       (case aS => exact (below_size (Zb1 GE394.out)))
       (case aL => have := LMc21.out; omega)
       intro v405 w25 ho hb hg hat
       rw [← Ny404.out] at ho
       have n0_ := Aside0.mk (blk_grown (Zj BK394.out) hg (Kd.R_ne HO401.out BK394.out (by decide)))
       have n1_ := Aside0.mk (hb)
       have n2_ := Aside0.mk (ho)
       clear BK394 HB HO401
       have BK394 := n0_
       have HB := n1_
       have HO406 := n2_
       clear n0_ n1_ n2_
       clear ho hb hg hat
       refine hK.out _ _ ⟨(blk_cell BK394.out 0).trans rfl, (blk_cell BK394.out 1).trans rfl, (blk_cell BK394.out 2).trans rfl, (blk_cell BK394.out 3).trans rfl, (blk_cell BK394.out 4).trans rfl, (blk_cell BK394.out 5).trans rfl, (blk_cell BK394.out 6).trans rfl, (blk_cell BK394.out 7).trans rfl, (blk_cell BK394.out 8).trans rfl⟩ (fun hHeld => ?_)
       clear hK K
       refine norm_ (a' := ?_) ?_ ?_
       rotate_left
       ·show Act.put _ (some 42) _ = _
        simp only [Act.put, List.setIfInBounds_toArray, List.set_cons_zero, List.set_cons_succ, i64_w, i32_w]
        rfl
       refine pure_ (i := 11) (N := some 5) (v := ?_) (a' := ?_) #[true, true, true, true, true, true, true, true, true, true, true, true] rfl rfl (any_of HT_.out (by kernel_rfl)) (fun _ _ _ h => h) (Or.inl ⟨by rfl, ?_⟩) ?_ ?_
       rotate_left
       ·intro w'
        go_simp
        with_reducible rfl
       rotate_left
       ·simp only [Act.put, List.setIfInBounds_toArray, List.set_cons_zero, List.set_cons_succ, i64_w, i32_w]
        rfl
       refine done_ (done_of HT_.out (by kernel_rfl)) ?_
       try go_wp2
       go_meet
       case rel => exact ⟨_, (y404), H', ⟨by first | omega | exact Nat.le_refl _⟩, ⟨Zr HO406.out⟩, ⟨Zk BK394.out⟩, ⟨Zb1 GE394.out⟩⟩
      ·rw [if_neg c21] at H
       exact absurd H (by simp)
     ·rw [if_neg c20] at H
      exact absurd H (by simp)
    ·rw [if_neg c18] at H
     exact absurd H (by simp)
   ·rw [if_neg c16] at H
    have c16b0 : (a0_2 == 1) = false := beq_eq_false_iff_ne.mpr c16
    have c16b1 : (a0_2 != 1) = true := bne_iff_ne.mpr c16
    (first | rw [c16b0] | (simp only [i64_w, i32_w]; rw [c16b0]) | skip)
    have H' := Aside0.mk H
    clear H
    go_wp2
    go_meet
    case rel => exact ⟨_, (y399), H', ⟨by first | omega | exact Nat.le_refl _⟩, ⟨Zr HO401.out⟩, ⟨Zk BK394.out⟩, ⟨Zb1 GE394.out⟩⟩
  case rest =>
   clear HC7
   try clear c1
   try clear c2
   try clear p2
   try clear c3
   try clear c3b0
   try clear c3b1
   try clear c9
   try clear c10
   try clear c16
   try clear c16b0
   try clear c16b1
   try clear c18
   try clear c18b0
   try clear c18b1
   try clear c18b2
   try clear c20
   try clear c20b0
   try clear c20b1
   try clear c20b2
   try clear c21
   try clear hcz15_0
   try clear hcz15_1
   try clear hcz15_2
   try clear hcz15_3
   try clear hcz15_4
   try clear hcz15_5
   try clear hcz15_6
   try clear hcz15_7
   try clear hcz15_8
   try clear hcz9_0
   try clear hcz9_1
   try clear hcz9_2
   try clear hcz9_3
   try clear hcz9_4
   try clear hcz9_5
   try clear hcz9_6
   try clear hcz9_7
   try clear hcz9_8
   try clear hfz15_0
   try clear hfz15_1
   try clear hfz15_2
   try clear hfz15_3
   try clear hfz15_4
   try clear hfz15_5
   try clear hfz15_6
   try clear hfz15_7
   try clear hfz15_8
   try clear hfz9_0
   try clear hfz9_1
   try clear hfz9_2
   try clear hfz9_3
   try clear hfz9_4
   try clear hfz9_5
   try clear hfz9_6
   try clear hfz9_7
   try clear hfz9_8
   obtain ⟨kq, x5_6, HA, HJ6, HO_5, BK394, HB⟩ := hcut
   cases kq with
   | zero => exact absurd HA.out (by simp [card_Print.j0])
   | succ kj6 =>
    have H := HA.out
    clear HA
    simp only [card_Print.j0] at H
    have HC26 := Aside0.mk H
    clear H
    obtain ⟨hcz27_0, hcz27_1, hcz27_2, hcz27_3, hcz27_4, hcz27_5, hcz27_6, hcz27_7, hcz27_8, hfz27_0, hfz27_1, hfz27_2, hfz27_3, hfz27_4, hfz27_5, hfz27_6, hfz27_7, hfz27_8⟩ := Z9 BK394.out
    go_upto_if 44 with (fail)
    go_cut [5] (fun v5 wc => ∃ (kq : Nat) (x5_25 : List ByteArray), Aside0 (card_Print.j1 kq x5_25 a0_0 a0_1 a0_2 a0_3 a0_4 a0_5 a0_6 a0_7 l0_8 = some (r1, r2)) ∧ Aside0 (kq ≤ kj6) ∧ Aside0 (Kd.R Kd.string 9 wc w.heap.size (fun _ => True) v5 x5_25) ∧ Aside0 (wc.heap[gb394]? = some (.cells #[.string a0_0, .int .u8 a0_1, .int .u8 a0_2, .int .i64 a0_3, .int .i64 a0_4, .int .i64 a0_5, .int .u16 a0_6, .bool a0_7, (.slice A0_8 l0_8.length c0_8)] 28 (0, 0))) ∧ Aside0 (Below w.heap.size w wc))
    case first =>
     have H := HC26.out
     clear HC26
     by_cases c28 : a0_7 = true
     ·subst c28
      have H1 : (if x5_6.length < 8796093022208 then (card_Print.j1 kj6 (x5_6 ++ [(⟨#[116, 111, 107, 101, 110]⟩ : ByteArray)]) a0_0 a0_1 a0_2 a0_3 a0_4 a0_5 a0_6 true l0_8) else (none)) = some (r1, r2) := by rw [if_pos rfl] at H; exact H
      clear H
      have H := H1
      clear H1
      by_cases c29 : x5_6.length < 8796093022208
      ·rw [if_pos c29] at H
       have LMc29 := Aside0.mk c29
       clear c29
       obtain ⟨y407, hy407⟩ : ∃ y_ : List ByteArray, y_ = (x5_6 ++ [(⟨#[116, 111, 107, 101, 110]⟩ : ByteArray)]) := ⟨_, rfl⟩
       replace H : (card_Print.j1 kj6 y407 a0_0 a0_1 a0_2 a0_3 a0_4 a0_5 a0_6 true l0_8) = some (r1, r2) := by first | (rw [hy407]; with_reducible exact H) | (have H2_ := (Option.bind_some _ _).symm.trans H; rw [hy407]; with_reducible exact H2_) | (have H2_ := (Option.bind_some _ _).symm.trans H; with_reducible exact H2_) | with_reducible exact H | (rw [hy407]; exact H) | exact H
       have Ny407 := Aside0.mk hy407
       clear hy407
       have H' := Aside0.mk H
       clear H
       go_wp2_with (first | ((with_reducible refine gate_builtin (b := .append) (xs := #[.tmp 45, .tmp 46]) rfl ?_); at_builtin; refine Kd.R_append Kd.string (w0 := w) w.heap.size rfl (.tmp 45) (.tmp 46) 63 9 (.string ⟨#[]⟩) 16 rfl Tryz.underlying63 info9 rfl (by decide) (by omega) u5 x5_6 (⟨#[116, 111, 107, 101, 110]⟩ : ByteArray) [.string (⟨#[116, 111, 107, 101, 110]⟩ : ByteArray)] (fun _ => True) (fun _ => False) rfl rfl ?aP (fun _ hk => hk.elim) ?aF ?aO ?aB ?aS ?aL ?_; (case aP => exact rfl); (case aB => exact (Zb1 GE394.out)); (case aF => exact (fun _ _ => trivial)); (case aO => exact (Zr HO_5.out)); (case aS => exact (below_size (Zb1 GE394.out))); (case aL => have := LMc29.out; omega); intro v408 w30 ho hb hg hat; rw [← Ny407.out] at ho; replace BK394 := Aside0.mk (blk_grown (Zj BK394.out) hg (Kd.R_ne HO_5.out BK394.out (by decide))); replace HB := Aside0.mk (hb); have HO409 := Aside0.mk (ho); clear HO_5 ho hb hg hat))
       go_meet
       case rel => exact ⟨_, (y407), H', ⟨by have := HJ6.out; first | omega | exact Nat.le_refl _⟩, ⟨Zr HO409.out⟩, ⟨Zk BK394.out⟩, ⟨Zb1 GE394.out⟩⟩
      ·rw [if_neg c29] at H
       exact absurd H (by simp)
     ·replace c28 := Bool.eq_false_iff.mpr c28
      subst c28
      have H1 : (card_Print.j1 kj6 x5_6 a0_0 a0_1 a0_2 a0_3 a0_4 a0_5 a0_6 false l0_8) = some (r1, r2) := by rw [if_neg (show ¬ (false = true) by decide)] at H; exact H
      clear H
      have H := H1
      clear H1
      have H' := Aside0.mk H
      clear H
      go_wp2
      go_meet
      case rel => exact ⟨_, (x5_6), H', ⟨by have := HJ6.out; first | omega | exact Nat.le_refl _⟩, ⟨Zr HO_5.out⟩, ⟨Zk BK394.out⟩, ⟨Zb1 GE394.out⟩⟩
    case rest =>
     clear HC26
     try clear c1
     try clear c2
     try clear p2
     try clear c3
     try clear c3b0
     try clear c3b1
     try clear c9
     try clear c10
     try clear c16
     try clear c16b0
     try clear c16b1
     try clear c18
     try clear c18b0
     try clear c18b1
     try clear c18b2
     try clear c20
     try clear c20b0
     try clear c20b1
     try clear c20b2
     try clear c21
     try clear c28
     try clear c29
     try clear c30
     try clear hcz15_0
     try clear hcz15_1
     try clear hcz15_2
     try clear hcz15_3
     try clear hcz15_4
     try clear hcz15_5
     try clear hcz15_6
     try clear hcz15_7
     try clear hcz15_8
     try clear hcz27_0
     try clear hcz27_1
     try clear hcz27_2
     try clear hcz27_3
     try clear hcz27_4
     try clear hcz27_5
     try clear hcz27_6
     try clear hcz27_7
     try clear hcz27_8
     try clear hcz9_0
     try clear hcz9_1
     try clear hcz9_2
     try clear hcz9_3
     try clear hcz9_4
     try clear hcz9_5
     try clear hcz9_6
     try clear hcz9_7
     try clear hcz9_8
     try clear hfz15_0
     try clear hfz15_1
     try clear hfz15_2
     try clear hfz15_3
     try clear hfz15_4
     try clear hfz15_5
     try clear hfz15_6
     try clear hfz15_7
     try clear hfz15_8
     try clear hfz27_0
     try clear hfz27_1
     try clear hfz27_2
     try clear hfz27_3
     try clear hfz27_4
     try clear hfz27_5
     try clear hfz27_6
     try clear hfz27_7
     try clear hfz27_8
     try clear hfz9_0
     try clear hfz9_1
     try clear hfz9_2
     try clear hfz9_3
     try clear hfz9_4
     try clear hfz9_5
     try clear hfz9_6
     try clear hfz9_7
     try clear hfz9_8
     try clear p2
     obtain ⟨kq, x5_25, HA, HJ25, HO_5, BK394, HB⟩ := hcut
     cases kq with
     | zero => exact absurd HA.out (by simp [card_Print.j1])
     | succ kj25 =>
      have H := HA.out
      clear HA
      simp only [card_Print.j1] at H
      replace H := Option.bind_eq_some_iff.mp H
      obtain ⟨t410, A310, H⟩ := H
      replace H : (card_Print.l0 kj25 x5_25 t410 (t410.length : Int) 0 a0_0 a0_1 a0_2 a0_3 a0_4 a0_5 a0_6 a0_7 l0_8) = some (r1, r2) := H
      have A31 := Aside0.mk A310
      clear A310
      have H' := Aside0.mk H
      clear H
      obtain ⟨hcz32_0, hcz32_1, hcz32_2, hcz32_3, hcz32_4, hcz32_5, hcz32_6, hcz32_7, hcz32_8, hfz32_0, hfz32_1, hfz32_2, hfz32_3, hfz32_4, hfz32_5, hfz32_6, hfz32_7, hfz32_8⟩ := Z9 BK394.out
      go_wp2_with (first | ((with_reducible refine gate_callee (f := 33) rfl ?_); refine goesL_ (some 50) rfl rfl Tryz.func33 (by kernel_rfl) rfl #[.int .u16 a0_6] rfl Zl ?_; (with_reducible refine (trait_List.calls kj25 a0_6 t410 _ A31.out).mono ?_); rintro e w33 ⟨v411, rfl, ho0, hb⟩; refine ⟨_, rfl, ?_⟩; replace HO_5 := Aside0.mk (Kd.R_below (Zr HO_5.out) hb); have HO412 := Aside0.mk (Kd.R_lower ho0 (below_size (Zb1 GE394.out))); replace BK394 := Aside0.mk (blk_below (Zj BK394.out) hb); replace HB := Aside0.mk (below_step (Zb1 GE394.out) hb); (try clear hb); (try clear hb2); (try clear hk); (try clear hi); (try clear ho0); obtain ⟨Ao34, co34, eo34⟩ := Kd.R_slice HO412.out; subst eo34))
      go_loopg [5, 52] kj25 (fun kq v5 v52 w' => ∃ (x5_3 : List ByteArray) (x52_3 : Int), v52 = .int .i64 x52_3 ∧ Aside0 (card_Print.l0 kq x5_3 t410 (t410.length : Int) x52_3 a0_0 a0_1 a0_2 a0_3 a0_4 a0_5 a0_6 a0_7 l0_8 = some (r1, r2)) ∧ Aside0 (kq ≤ kj25) ∧ Aside0 (Kd.R Kd.string 9 w' w.heap.size (fun _ => True) v5 x5_3) ∧ Aside0 (Kd.R (Kd.int .u8) 45 w' w.heap.size (fun _ => True) (.slice Ao34 t410.length co34) t410) ∧ Aside0 (w'.heap[gb394]? = some (.cells #[.string a0_0, .int .u8 a0_1, .int .u8 a0_2, .int .i64 a0_3, .int .i64 a0_4, .int .i64 a0_5, .int .u16 a0_6, .bool a0_7, (.slice A0_8 l0_8.length c0_8)] 28 (0, 0))) ∧ Aside0 (Below w.heap.size w w'))
      case atStart => exact ⟨(x5_25), (0), Zs, H', ⟨Nat.le_refl _⟩, ⟨Zr HO_5.out⟩, ⟨Zr HO412.out⟩, ⟨Zk BK394.out⟩, ⟨Zb1 GE394.out⟩⟩
      case round =>
       clear H'
       try clear c1
       try clear c2
       try clear p2
       try clear c3
       try clear c3b0
       try clear c3b1
       try clear c9
       try clear c10
       try clear c16
       try clear c16b0
       try clear c16b1
       try clear c18
       try clear c18b0
       try clear c18b1
       try clear c18b2
       try clear c20
       try clear c20b0
       try clear c20b1
       try clear c20b2
       try clear c21
       try clear c28
       try clear c29
       try clear c30
       try clear c31
       try clear c32
       try clear c33
       try clear hcz15_0
       try clear hcz15_1
       try clear hcz15_2
       try clear hcz15_3
       try clear hcz15_4
       try clear hcz15_5
       try clear hcz15_6
       try clear hcz15_7
       try clear hcz15_8
       try clear hcz27_0
       try clear hcz27_1
       try clear hcz27_2
       try clear hcz27_3
       try clear hcz27_4
       try clear hcz27_5
       try clear hcz27_6
       try clear hcz27_7
       try clear hcz27_8
       try clear hcz32_0
       try clear hcz32_1
       try clear hcz32_2
       try clear hcz32_3
       try clear hcz32_4
       try clear hcz32_5
       try clear hcz32_6
       try clear hcz32_7
       try clear hcz32_8
       try clear hcz9_0
       try clear hcz9_1
       try clear hcz9_2
       try clear hcz9_3
       try clear hcz9_4
       try clear hcz9_5
       try clear hcz9_6
       try clear hcz9_7
       try clear hcz9_8
       try clear hfz15_0
       try clear hfz15_1
       try clear hfz15_2
       try clear hfz15_3
       try clear hfz15_4
       try clear hfz15_5
       try clear hfz15_6
       try clear hfz15_7
       try clear hfz15_8
       try clear hfz27_0
       try clear hfz27_1
       try clear hfz27_2
       try clear hfz27_3
       try clear hfz27_4
       try clear hfz27_5
       try clear hfz27_6
       try clear hfz27_7
       try clear hfz27_8
       try clear hfz32_0
       try clear hfz32_1
       try clear hfz32_2
       try clear hfz32_3
       try clear hfz32_4
       try clear hfz32_5
       try clear hfz32_6
       try clear hfz32_7
       try clear hfz32_8
       try clear hfz9_0
       try clear hfz9_1
       try clear hfz9_2
       try clear hfz9_3
       try clear hfz9_4
       try clear hfz9_5
       try clear hfz9_6
       try clear hfz9_7
       try clear hfz9_8
       try clear p2
       obtain ⟨x5_3, x52_3, rfl, HA, HK3, HO_5, HO_50, BK394, HB⟩ := hrel
       cases gk with
       | zero => exact absurd HA.out (by simp [card_Print.l0])
       | succ k3 =>
        have H := HA.out
        clear HA
        simp only [card_Print.l0] at H
        by_cases c35 : x52_3 < (t410.length : Int)
        ·rw [if_pos c35] at H
         have c35b0 : decide (x52_3 < (t410.length : Int)) = true := decide_eq_true c35
         clear c35
         by_cases c36 : 0 ≤ x52_3
         ·rw [if_pos c36] at H
          have c36b0 : decide (0 ≤ x52_3) = true := decide_eq_true c36
          clear c36
          by_cases c37 : x52_3 < (t410.length : Int)
          ·rw [if_pos c37] at H
           have c37b0 : decide (x52_3 < (t410.length : Int)) = true := decide_eq_true c37
           clear c37
           replace H := Option.bind_eq_some_iff.mp H
           obtain ⟨t414, A380, H⟩ := H
           replace H : (if 1 + t414.size ≤ 9223372036854775807 then (if x5_3.length < 8796093022208 then (card_Print.l0 k3 (x5_3 ++ [(⟨#[43]⟩ : ByteArray) ++ t414]) t410 (t410.length : Int) (wrap64 (x52_3 + 1)) a0_0 a0_1 a0_2 a0_3 a0_4 a0_5 a0_6 a0_7 l0_8) else (none)) else (none)) = some (r1, r2) := H
           have A38 := Aside0.mk A380
           clear A380
           by_cases c39 : 1 + t414.size ≤ 9223372036854775807
           ·rw [if_pos c39] at H
            have c39b0 := eq_true c39
            have c39b1 : decide (1 + t414.size ≤ 9223372036854775807) = true := decide_eq_true c39
            try have c39b2 : (9223372036854775807 < 1 + t414.size) = False := eq_false (Nat.not_lt.2 c39)
            by_cases c40 : x5_3.length < 8796093022208
            ·rw [if_pos c40] at H
             have LMc40 := Aside0.mk c40
             clear c40
             obtain ⟨y415, hy415⟩ : ∃ y_ : List ByteArray, y_ = (x5_3 ++ [(⟨#[43]⟩ : ByteArray) ++ t414]) := ⟨_, rfl⟩
             replace H : (card_Print.l0 k3 y415 t410 (t410.length : Int) (wrap64 (x52_3 + 1)) a0_0 a0_1 a0_2 a0_3 a0_4 a0_5 a0_6 a0_7 l0_8) = some (r1, r2) := by first | (rw [hy415]; with_reducible exact H) | (have H2_ := (Option.bind_some _ _).symm.trans H; rw [hy415]; with_reducible exact H2_) | (have H2_ := (Option.bind_some _ _).symm.trans H; with_reducible exact H2_) | with_reducible exact H | (rw [hy415]; exact H) | exact H
             have Ny415 := Aside0.mk hy415
             clear hy415
             have H' := Aside0.mk H
             clear H
             have p413 : 0 ≤ (x52_3 : Int) := of_decide_eq_true Za
             have q413 : x52_3 < (t410.length : Int) := of_decide_eq_true Za
             obtain ⟨ad413, e413, hx413_0⟩ := Kd.at_int (Kd.R_reads' HO_50.out).2.2 x52_3 p413 q413
             cases e413
             replace p413 := eq_true p413
             replace q413 := eq_true q413
             go_wp2_with (first | ((with_reducible refine gate_callee (f := 34) rfl ?_); refine goesL_ (some 58) rfl rfl Tryz.func34 (by kernel_rfl) rfl #[.int .u8 (rd t410 x52_3)] rfl Zl ?_; (with_reducible refine (trait_Name.calls (rd t410 x52_3) t414 _ ?side1 A38.out).mono ?_); (case side1 => first | (with_reducible exact HGP.out) | exact GP_below HGP.out (Zb1 GE394.out)); rintro e w' ⟨rfl, ⟨nd, rfl⟩⟩; refine ⟨_, rfl, ?_⟩) | ((with_reducible refine gate_builtin (b := .append) (xs := #[.tmp 56, .tmp 60]) rfl ?_); at_builtin; refine Kd.R_append Kd.string (w0 := w) w.heap.size rfl (.tmp 56) (.tmp 60) 63 9 (.string ⟨#[]⟩) 16 rfl Tryz.underlying63 info9 rfl (by decide) (by omega) u5 x5_3 ((⟨#[43]⟩ : ByteArray) ++ t414) [.string ((⟨#[43]⟩ : ByteArray) ++ t414)] (fun _ => True) (fun _ => False) rfl rfl ?aP (fun _ hk => hk.elim) ?aF ?aO ?aB ?aS ?aL ?_; (case aP => exact rfl); (case aB => exact (Zb1 GE394.out)); (case aF => exact (fun _ _ => trivial)); (case aO => exact (Zr HO_5.out)); (case aS => exact (below_size (Zb1 GE394.out))); (case aL => have := LMc40.out; omega); intro v416 w41 ho hb hg hat; rw [← Ny415.out] at ho; replace HO_50 := Aside0.mk (Kd.R_over' (Zr HO_50.out) (Kd.R_typed (Zr HO_5.out)) (by decide) hg); replace BK394 := Aside0.mk (blk_grown (Zj BK394.out) hg (Kd.R_ne HO_5.out BK394.out (by decide))); replace HB := Aside0.mk (hb); have HO417 := Aside0.mk (ho); clear HO_5 ho hb hg hat))
             go_roundg k3
             case measure => have := HJ6.out; have := HJ25.out; have := HK3.out; omega
             case rel => exact ⟨(y415), (wrap64 (x52_3 + 1)), Zs, H', ⟨by have := HJ6.out; have := HJ25.out; have := HK3.out; omega⟩, ⟨Zr HO417.out⟩, ⟨Zr HO_50.out⟩, ⟨Zk BK394.out⟩, ⟨Zb1 GE394.out⟩⟩
            ·rw [if_neg c40] at H
             exact absurd H (by simp)
           ·rw [if_neg c39] at H
            exact absurd H (by simp)
          ·rw [if_neg c37] at H
           exact absurd H (by simp)
         ·rw [if_neg c36] at H
          exact absurd H (by simp)
        ·rw [if_neg c35] at H
         have c35b0 : decide (x52_3 < (t410.length : Int)) = false := decide_eq_false c35
         clear c35
         have H' := Aside0.mk H
         clear H
         obtain ⟨hcz42_0, hcz42_1, hcz42_2, hcz42_3, hcz42_4, hcz42_5, hcz42_6, hcz42_7, hcz42_8, hfz42_0, hfz42_1, hfz42_2, hfz42_3, hfz42_4, hfz42_5, hfz42_6, hfz42_7, hfz42_8⟩ := Z9 BK394.out
         go_wp2
         go_loopg [5, 66] k3 (fun kq v5 v66 w' => ∃ (x5_4 : List ByteArray) (x66_4 : Int), v66 = .int .i64 x66_4 ∧ Aside0 (card_Print.l1 kq x5_4 l0_8 (l0_8.length : Int) x66_4 = some (r1, r2)) ∧ Aside0 (kq ≤ k3) ∧ Aside0 (Kd.R Kd.string 9 w' w.heap.size (fun _ => True) v5 x5_4) ∧ Aside0 (w'.heap[gb394]? = some (.cells #[.string a0_0, .int .u8 a0_1, .int .u8 a0_2, .int .i64 a0_3, .int .i64 a0_4, .int .i64 a0_5, .int .u16 a0_6, .bool a0_7, (.slice A0_8 l0_8.length c0_8)] 28 (0, 0))) ∧ Aside0 (Below w.heap.size w w'))
         case atStart => exact ⟨(x5_3), (0), Zs, H', ⟨Nat.le_refl _⟩, ⟨Zr HO_5.out⟩, ⟨Zk BK394.out⟩, ⟨Zb1 GE394.out⟩⟩
         case round =>
          clear H'
          try clear c1
          try clear c2
          try clear p2
          try clear c3
          try clear c3b0
          try clear c3b1
          try clear c4
          try clear p4
          try clear q4
          try clear hx4
          try clear p6
          try clear c9
          try clear c10
          try clear c16
          try clear c16b0
          try clear c16b1
          try clear c18
          try clear c18b0
          try clear c18b1
          try clear c18b2
          try clear c20
          try clear c20b0
          try clear c20b1
          try clear c20b2
          try clear c21
          try clear c28
          try clear c29
          try clear c30
          try clear c31
          try clear c32
          try clear c33
          try clear c34
          try clear c35
          try clear c35b0
          try clear c36
          try clear c36b0
          try clear c37
          try clear c37b0
          try clear c39
          try clear c39b0
          try clear c39b1
          try clear c39b2
          try clear c40
          try clear p41
          try clear q41
          try clear hx41
          try clear hcz15_0
          try clear hcz15_1
          try clear hcz15_2
          try clear hcz15_3
          try clear hcz15_4
          try clear hcz15_5
          try clear hcz15_6
          try clear hcz15_7
          try clear hcz15_8
          try clear hcz27_0
          try clear hcz27_1
          try clear hcz27_2
          try clear hcz27_3
          try clear hcz27_4
          try clear hcz27_5
          try clear hcz27_6
          try clear hcz27_7
          try clear hcz27_8
          try clear hcz32_0
          try clear hcz32_1
          try clear hcz32_2
          try clear hcz32_3
          try clear hcz32_4
          try clear hcz32_5
          try clear hcz32_6
          try clear hcz32_7
          try clear hcz32_8
          try clear hcz42_0
          try clear hcz42_1
          try clear hcz42_2
          try clear hcz42_3
          try clear hcz42_4
          try clear hcz42_5
          try clear hcz42_6
          try clear hcz42_7
          try clear hcz42_8
          try clear hcz9_0
          try clear hcz9_1
          try clear hcz9_2
          try clear hcz9_3
          try clear hcz9_4
          try clear hcz9_5
          try clear hcz9_6
          try clear hcz9_7
          try clear hcz9_8
          try clear hfz15_0
          try clear hfz15_1
          try clear hfz15_2
          try clear hfz15_3
          try clear hfz15_4
          try clear hfz15_5
          try clear hfz15_6
          try clear hfz15_7
          try clear hfz15_8
          try clear hfz27_0
          try clear hfz27_1
          try clear hfz27_2
          try clear hfz27_3
          try clear hfz27_4
          try clear hfz27_5
          try clear hfz27_6
          try clear hfz27_7
          try clear hfz27_8
          try clear hfz32_0
          try clear hfz32_1
          try clear hfz32_2
          try clear hfz32_3
          try clear hfz32_4
          try clear hfz32_5
          try clear hfz32_6
          try clear hfz32_7
          try clear hfz32_8
          try clear hfz42_0
          try clear hfz42_1
          try clear hfz42_2
          try clear hfz42_3
          try clear hfz42_4
          try clear hfz42_5
          try clear hfz42_6
          try clear hfz42_7
          try clear hfz42_8
          try clear hfz9_0
          try clear hfz9_1
          try clear hfz9_2
          try clear hfz9_3
          try clear hfz9_4
          try clear hfz9_5
          try clear hfz9_6
          try clear hfz9_7
          try clear hfz9_8
          try clear hx413_0
          try clear p2
          try clear p413
          try clear q413
          obtain ⟨x5_4, x66_4, rfl, HA, HK4, HO_5, BK394, HB⟩ := hrel
          cases gk with
          | zero => exact absurd HA.out (by simp [card_Print.l1])
          | succ k4 =>
           have H := HA.out
           clear HA
           simp only [card_Print.l1] at H
           by_cases c43 : x66_4 < (l0_8.length : Int)
           ·rw [if_pos c43] at H
            have c43b0 : decide (x66_4 < (l0_8.length : Int)) = true := decide_eq_true c43
            clear c43
            by_cases c44 : 0 ≤ x66_4
            ·rw [if_pos c44] at H
             have c44b0 : decide (0 ≤ x66_4) = true := decide_eq_true c44
             clear c44
             by_cases c45 : x66_4 < (l0_8.length : Int)
             ·rw [if_pos c45] at H
              have c45b0 : decide (x66_4 < (l0_8.length : Int)) = true := decide_eq_true c45
              clear c45
              replace H := Option.bind_eq_some_iff.mp H
              obtain ⟨⟨t420, t421⟩, A460, H⟩ := H
              replace H : ((some (([(⟨#[124]⟩ : ByteArray), t420] : List ByteArray) : List ByteArray)).bind fun y422 => (if x5_4.length + y422.length < 8796093022208 then (card_Print.l1 k4 (x5_4 ++ y422) l0_8 (l0_8.length : Int) (wrap64 (x66_4 + 1))) else (none))) = some (r1, r2) := H
              have A46 := Aside0.mk A460
              clear A460
              obtain ⟨y422, hy422⟩ : ∃ y_ : List ByteArray, y_ = (([(⟨#[124]⟩ : ByteArray), t420] : List ByteArray)) := ⟨_, rfl⟩
              replace H : (if x5_4.length + y422.length < 8796093022208 then (card_Print.l1 k4 (x5_4 ++ y422) l0_8 (l0_8.length : Int) (wrap64 (x66_4 + 1))) else (none)) = some (r1, r2) := by first | (rw [hy422]; with_reducible exact H) | (have H2_ := (Option.bind_some _ _).symm.trans H; rw [hy422]; with_reducible exact H2_) | (have H2_ := (Option.bind_some _ _).symm.trans H; with_reducible exact H2_) | with_reducible exact H | (rw [hy422]; exact H) | exact H
              have Ny422 := Aside0.mk hy422
              clear hy422
              by_cases c47 : x5_4.length + y422.length < 8796093022208
              ·rw [if_pos c47] at H
               have LMc47 := Aside0.mk c47
               clear c47
               obtain ⟨y425, hy425⟩ : ∃ y_ : List ByteArray, y_ = (x5_4 ++ y422) := ⟨_, rfl⟩
               replace H : (card_Print.l1 k4 y425 l0_8 (l0_8.length : Int) (wrap64 (x66_4 + 1))) = some (r1, r2) := by first | (rw [hy425]; with_reducible exact H) | (have H2_ := (Option.bind_some _ _).symm.trans H; rw [hy425]; with_reducible exact H2_) | (have H2_ := (Option.bind_some _ _).symm.trans H; with_reducible exact H2_) | with_reducible exact H | (rw [hy425]; exact H) | exact H
               have Ny425 := Aside0.mk hy425
               clear hy425
               have H' := Aside0.mk H
               clear H
               have p418 : 0 ≤ (x66_4 : Int) := of_decide_eq_true Za
               have q418 : x66_4 < (l0_8.length : Int) := of_decide_eq_true Za
               obtain ⟨ad418, e418, hx418_0, hx418_1, hx418_2, hx418_3, hx418_4, hx418_5, hx418_6, hx418_7⟩ := at_T48 HR0_8.out x66_4 p418 q418
               cases e418
               replace hx418_0 := (HB.out.cell (World.block_lt_of_cell? w _ hx418_0)).trans hx418_0
               replace hx418_1 := (HB.out.cell (World.block_lt_of_cell? w _ hx418_1)).trans hx418_1
               replace hx418_2 := (HB.out.cell (World.block_lt_of_cell? w _ hx418_2)).trans hx418_2
               replace hx418_3 := (HB.out.cell (World.block_lt_of_cell? w _ hx418_3)).trans hx418_3
               replace hx418_4 := (HB.out.cell (World.block_lt_of_cell? w _ hx418_4)).trans hx418_4
               replace hx418_5 := (HB.out.cell (World.block_lt_of_cell? w _ hx418_5)).trans hx418_5
               replace hx418_6 := (HB.out.cell (World.block_lt_of_cell? w _ hx418_6)).trans hx418_6
               replace hx418_7 := (HB.out.cell (World.block_lt_of_cell? w _ hx418_7)).trans hx418_7
               replace p418 := eq_true p418
               replace q418 := eq_true q418
               go_wp2_with (first | ((with_reducible refine gate_dst (N := 9) rfl ?_); refine box_event ?hg (N := 9) ?hd (cs := #[.int .u8 0, .int .u8 0, .int .u8 0, .int .i64 0, .int .u8 0, .int .u8 0, .int .u8 0, .string (⟨#[]⟩ : ByteArray)]) (t := 48) ?hr ?_; (case hd => rfl); (case hg => rfl); (case hr => first | (go_simp; done) | (go_simp; rfl)); intro gb419 hg w48 hbox hb; replace HO_5 := Aside0.mk (Kd.R_below (Zr HO_5.out) hb); have BK419 := Aside0.mk (hbox); have GW419 := Aside0.mk ((by rw [hg]; exact (below_size (Zb1 GE394.out)) : w.heap.size ≤ gb419)); have GE419 := Aside0.mk ((by rw [hg]; exact (below_size (Zb1 GE394.out)) : w.heap.size ≤ gb419)); replace HB := Aside0.mk (below_step (Zb1 GE394.out) hb); have NB394_419 := Aside0.mk ((by rw [hg]; exact Nat.ne_of_lt (blk_lt (Zj BK394.out)) : gb394 ≠ gb419)); have NB419_394 := Aside0.mk ((by rw [hg]; exact Nat.ne_of_gt (blk_lt (Zj BK394.out)) : gb419 ≠ gb394)); replace BK394 := Aside0.mk (blk_below (Zj BK394.out) hb); clear hb hbox hg; have hnb49 := NB419_394.out; have hnc49 := NB394_419.out; obtain ⟨hcz50_0, hcz50_1, hcz50_2, hcz50_3, hcz50_4, hcz50_5, hcz50_6, hcz50_7, hfz50_0, hfz50_1, hfz50_2, hfz50_3, hfz50_4, hfz50_5, hfz50_6, hfz50_7⟩ := Z8 BK419.out) | ((with_reducible refine gate_callee (f := 23) rfl ?_); refine goesL_ (some 72) rfl rfl Tryz.func23 (by kernel_rfl) rfl #[.agg #[.int .u8 ((rd_T48 l0_8 x66_4).f0), .int .u8 ((rd_T48 l0_8 x66_4).f1), .int .u8 ((rd_T48 l0_8 x66_4).f2), .int .i64 ((rd_T48 l0_8 x66_4).f3), .int .u8 ((rd_T48 l0_8 x66_4).f4), .int .u8 ((rd_T48 l0_8 x66_4).f5), .int .u8 ((rd_T48 l0_8 x66_4).f6), .string ((rd_T48 l0_8 x66_4).f7)]] rfl Zl ?_; (with_reducible refine (effect_Print.calls k4 ((rd_T48 l0_8 x66_4).f0) ((rd_T48 l0_8 x66_4).f1) ((rd_T48 l0_8 x66_4).f2) ((rd_T48 l0_8 x66_4).f3) ((rd_T48 l0_8 x66_4).f4) ((rd_T48 l0_8 x66_4).f5) ((rd_T48 l0_8 x66_4).f6) ((rd_T48 l0_8 x66_4).f7) t420 t421 _ ?side1 A46.out).mono ?_); (case side1 => first | (with_reducible exact HGP.out) | exact GP_below HGP.out (Zb2 GE394.out GE419.out)); rintro e w51 ⟨rfl, hb⟩; refine ⟨_, rfl, ?_⟩; replace HO_5 := Aside0.mk (Kd.R_below (by (with_reducible repeat (first | apply Kd.R_alloc | apply Kd.R_drewN | apply Kd.R_drew)); exact (Kd.R_mono (Kd.R_far (p := ⟨gb419, 7, none⟩) (Kd.R_far (p := ⟨gb419, 6, none⟩) (Kd.R_far (p := ⟨gb419, 5, none⟩) (Kd.R_far (p := ⟨gb419, 4, none⟩) (Kd.R_far (p := ⟨gb419, 3, none⟩) (Kd.R_far (p := ⟨gb419, 2, none⟩) (Kd.R_far (p := ⟨gb419, 1, none⟩) (Kd.R_far (p := ⟨gb419, 0, none⟩) (Kd.R_types HO_5.out BK419.out (by decide)) Zg (.int .u8 ((rd_T48 l0_8 x66_4).f0))) Zg (.int .u8 ((rd_T48 l0_8 x66_4).f1))) Zg (.int .u8 ((rd_T48 l0_8 x66_4).f2))) Zg (.int .i64 ((rd_T48 l0_8 x66_4).f3))) Zg (.int .u8 ((rd_T48 l0_8 x66_4).f4))) Zg (.int .u8 ((rd_T48 l0_8 x66_4).f5))) Zg (.int .u8 ((rd_T48 l0_8 x66_4).f6))) Zg (.string ((rd_T48 l0_8 x66_4).f7))) (fun _ h_ => h_.1))) hb); replace BK394 := Aside0.mk (blk_below (g := gb394) (o := .cells #[.string a0_0, .int .u8 a0_1, .int .u8 a0_2, .int .i64 a0_3, .int .i64 a0_4, .int .i64 a0_5, .int .u16 a0_6, .bool a0_7, .slice (some ad418) l0_8.length c0_8] 28 (0, 0)) (by (with_reducible repeat (first | apply blk_kn | apply blk_kd | apply blk_ka)); refine blk_far ?_ NB394_419.out _; (with_reducible repeat (first | apply blk_kn | apply blk_kd | apply blk_ka)); refine blk_far ?_ NB394_419.out _; (with_reducible repeat (first | apply blk_kn | apply blk_kd | apply blk_ka)); refine blk_far ?_ NB394_419.out _; (with_reducible repeat (first | apply blk_kn | apply blk_kd | apply blk_ka)); refine blk_far ?_ NB394_419.out _; (with_reducible repeat (first | apply blk_kn | apply blk_kd | apply blk_ka)); refine blk_far ?_ NB394_419.out _; (with_reducible repeat (first | apply blk_kn | apply blk_kd | apply blk_ka)); refine blk_far ?_ NB394_419.out _; (with_reducible repeat (first | apply blk_kn | apply blk_kd | apply blk_ka)); refine blk_far ?_ NB394_419.out _; (with_reducible repeat (first | apply blk_kn | apply blk_kd | apply blk_ka)); refine blk_far ?_ NB394_419.out _; exact Zk BK394.out) hb); replace BK419 := Aside0.mk (blk_below (g := gb419) (o := .cells #[.int .u8 ((rd_T48 l0_8 x66_4).f0), .int .u8 ((rd_T48 l0_8 x66_4).f1), .int .u8 ((rd_T48 l0_8 x66_4).f2), .int .i64 ((rd_T48 l0_8 x66_4).f3), .int .u8 ((rd_T48 l0_8 x66_4).f4), .int .u8 ((rd_T48 l0_8 x66_4).f5), .int .u8 ((rd_T48 l0_8 x66_4).f6), .string ((rd_T48 l0_8 x66_4).f7)] 48 (0, 0)) (by (with_reducible repeat (first | apply blk_kn | apply blk_kd | apply blk_ka)); refine blk_put (cs := #[.int .u8 ((rd_T48 l0_8 x66_4).f0), .int .u8 ((rd_T48 l0_8 x66_4).f1), .int .u8 ((rd_T48 l0_8 x66_4).f2), .int .i64 ((rd_T48 l0_8 x66_4).f3), .int .u8 ((rd_T48 l0_8 x66_4).f4), .int .u8 ((rd_T48 l0_8 x66_4).f5), .int .u8 ((rd_T48 l0_8 x66_4).f6), .string (⟨#[]⟩ : ByteArray)]) ?_ 7 _ rfl; (with_reducible repeat (first | apply blk_kn | apply blk_kd | apply blk_ka)); refine blk_put (cs := #[.int .u8 ((rd_T48 l0_8 x66_4).f0), .int .u8 ((rd_T48 l0_8 x66_4).f1), .int .u8 ((rd_T48 l0_8 x66_4).f2), .int .i64 ((rd_T48 l0_8 x66_4).f3), .int .u8 ((rd_T48 l0_8 x66_4).f4), .int .u8 ((rd_T48 l0_8 x66_4).f5), .int .u8 0, .string (⟨#[]⟩ : ByteArray)]) ?_ 6 _ rfl; (with_reducible repeat (first | apply blk_kn | apply blk_kd | apply blk_ka)); refine blk_put (cs := #[.int .u8 ((rd_T48 l0_8 x66_4).f0), .int .u8 ((rd_T48 l0_8 x66_4).f1), .int .u8 ((rd_T48 l0_8 x66_4).f2), .int .i64 ((rd_T48 l0_8 x66_4).f3), .int .u8 ((rd_T48 l0_8 x66_4).f4), .int .u8 0, .int .u8 0, .string (⟨#[]⟩ : ByteArray)]) ?_ 5 _ rfl; (with_reducible repeat (first | apply blk_kn | apply blk_kd | apply blk_ka)); refine blk_put (cs := #[.int .u8 ((rd_T48 l0_8 x66_4).f0), .int .u8 ((rd_T48 l0_8 x66_4).f1), .int .u8 ((rd_T48 l0_8 x66_4).f2), .int .i64 ((rd_T48 l0_8 x66_4).f3), .int .u8 0, .int .u8 0, .int .u8 0, .string (⟨#[]⟩ : ByteArray)]) ?_ 4 _ rfl; (with_reducible repeat (first | apply blk_kn | apply blk_kd | apply blk_ka)); refine blk_put (cs := #[.int .u8 ((rd_T48 l0_8 x66_4).f0), .int .u8 ((rd_T48 l0_8 x66_4).f1), .int .u8 ((rd_T48 l0_8 x66_4).f2), .int .i64 0, .int .u8 0, .int .u8 0, .int .u8 0, .string (⟨#[]⟩ : ByteArray)]) ?_ 3 _ rfl; (with_reducible repeat (first | apply blk_kn | apply blk_kd | apply blk_ka)); refine blk_put (cs := #[.int .u8 ((rd_T48 l0_8 x66_4).f0), .int .u8 ((rd_T48 l0_8 x66_4).f1), .int .u8 0, .int .i64 0, .int .u8 0, .int .u8 0, .int .u8 0, .string (⟨#[]⟩ : ByteArray)]) ?_ 2 _ rfl; (with_reducible repeat (first | apply blk_kn | apply blk_kd | apply blk_ka)); refine blk_put (cs := #[.int .u8 ((rd_T48 l0_8 x66_4).f0), .int .u8 0, .int .u8 0, .int .i64 0, .int .u8 0, .int .u8 0, .int .u8 0, .string (⟨#[]⟩ : ByteArray)]) ?_ 1 _ rfl; (with_reducible repeat (first | apply blk_kn | apply blk_kd | apply blk_ka)); refine blk_put (cs := #[.int .u8 0, .int .u8 0, .int .u8 0, .int .i64 0, .int .u8 0, .int .u8 0, .int .u8 0, .string (⟨#[]⟩ : ByteArray)]) ?_ 0 _ rfl; exact Zk BK419.out) hb); replace HB := Aside0.mk (below_step (Zb2 GE394.out GE419.out) hb); (try clear hb); (try clear hb2); (try clear hk); (try clear hi)) | ((with_reducible refine gate_dst (N := 77) rfl ?_); refine Kd.R_lit Kd.string _ 9 ?hg (N := 77) ?hd (xs := ([(⟨#[124]⟩ : ByteArray), t420] : List ByteArray)) (inner := [.string (⟨#[124]⟩ : ByteArray), .string t420]) (ok := fun _ => True) (okp := fun _ => True) ?hr ?hp (fun _ hk => hk) trivial (Below.refl _ _) (Nat.le_refl _) (by simp) ?_; (case hd => rfl); (case hg => rfl); (case hr => first | (go_simp; done) | (go_simp; rfl)); (case hp => exact (Reps.one (show Kd.M Kd.string _ _ _ (⟨#[124]⟩ : ByteArray) [.string (⟨#[124]⟩ : ByteArray)] from rfl) (Reps.one (show Kd.M Kd.string _ _ _ t420 [.string t420] from rfl) (Reps.none _ _)))); intro v423 w52 ho53 hb hg_ hnew_; clear hg_ hnew_; (first | rw [← Ny422.out] at ho53 | (simp only [Int.reduceToNat] at ho53; rw [← Ny422.out] at ho53)); have HO424 := Aside0.mk (Kd.R_lower (Kd.R_new' ho53 (Kd.R_lt (Zr HO_5.out))) (below_size (Zb2 GE394.out GE419.out))); replace HO_5 := Aside0.mk (Kd.R_elder' (Zr HO_5.out) (Kd.R_base ho53) hb); replace BK394 := Aside0.mk (blk_below (Zj BK394.out) hb); replace BK419 := Aside0.mk (blk_below (Zj BK419.out) hb); replace HB := Aside0.mk (below_step (Zb2 GE394.out GE419.out) hb); clear hb ho53; obtain ⟨Ao55, co55, eo55⟩ := Kd.R_slice HO424.out; subst eo55) | ((with_reducible refine gate_builtin (b := .append) (xs := #[.tmp 75, .tmp 77]) rfl ?_); at_builtin; refine Kd.R_append_rows Kd.string (w0 := w) w.heap.size rfl (.tmp 75) (.tmp 77) 63 9 (.string ⟨#[]⟩) 16 rfl Tryz.underlying63 info9 rfl (by decide) (by omega) u5 x5_4 y422 _ _ _ (fun k_ => some k_ ≠ (.slice Ao55 y422.length co55 : Value).ownBlock) (fun _ => False) rfl rfl ?aO ?aR (fun _ _ h => h) (fun _ h => h.elim) ?aF ?aB ?aS ?aL ?_; (case aR => repeat (first | exact (Kd.R_reads' HO424.out).2.2 | (with_reducible refine Kd.C_alloc ?_ _) | (with_reducible refine Kd.C_drewN ?_ _) | (with_reducible refine Kd.C_drew ?_))); (case aB => exact (Zb2 GE394.out GE419.out)); (case aF => exact (fun k_ hk => Kd.fresh' (Kd.R_lt (Zq HO424.out)) k_ hk)); (case aO => exact (by (with_reducible repeat (first | apply Kd.R_alloc | apply Kd.R_drewN | apply Kd.R_drew)); exact Kd.R_mono HO_5.out Zg)); (case aS => exact (below_size (Zb2 GE394.out GE419.out))); (case aL => have := LMc47.out; omega); intro v426 w54 ho hb hg hat; rw [← Ny425.out] at ho; replace BK394 := Aside0.mk (blk_grown (Zj BK394.out) hg (Kd.R_ne HO_5.out BK394.out (by decide))); replace BK419 := Aside0.mk (blk_grown (Zj BK419.out) hg (Kd.R_ne HO_5.out BK419.out (by decide))); replace HO424 := Aside0.mk (Kd.R_after (ok := (fun _ => True)) (Zq HO424.out) hg hat); replace HB := Aside0.mk (hb); have HO427 := Aside0.mk (ho); clear HO_5 ho hb hg hat))
               go_roundg k4
               case measure => have := HJ6.out; have := HJ25.out; have := HK3.out; have := HK4.out; omega
               case rel => exact ⟨(y425), (wrap64 (x66_4 + 1)), Zs, H', ⟨by have := HJ6.out; have := HJ25.out; have := HK3.out; have := HK4.out; omega⟩, ⟨by (with_reducible repeat (first | apply Kd.R_alloc | apply Kd.R_drewN | apply Kd.R_drew)); exact Kd.R_mono HO427.out (fun _ hk => trivial)⟩, ⟨Zk BK394.out⟩, ⟨Zb2 GE394.out GE419.out⟩⟩
              ·rw [if_neg c47] at H
               exact absurd H (by simp)
             ·rw [if_neg c45] at H
              exact absurd H (by simp)
            ·rw [if_neg c44] at H
             exact absurd H (by simp)
           ·rw [if_neg c43] at H
            have c43b0 : decide (x66_4 < (l0_8.length : Int)) = false := decide_eq_false c43
            clear c43
            replace H := Option.bind_eq_some_iff.mp H
            obtain ⟨t428, A560, H⟩ := H
            replace H : (some (t428, 0)) = some (r1, r2) := H
            have A56 := Aside0.mk A560
            clear A560
            simp only [Option.some.injEq, Prod.mk.injEq] at H
            obtain ⟨rfl, rfl⟩ := H
            obtain ⟨Ao57, co57, eo57⟩ := Kd.R_slice HO_5.out
            subst eo57
            go_wp2_with (first | ((with_reducible refine gate_callee (f := 35) rfl ?_); refine goesL_ (some 81) rfl rfl Tryz.func35 (by kernel_rfl) rfl #[.slice Ao57 x5_4.length co57, .string (⟨#[32]⟩ : ByteArray)] rfl Zl ?_; (with_reducible refine (strings_Join.calls _ _ x5_4 (⟨#[32]⟩ : ByteArray) t428 _ ?side1 ?side2 A56.out).mono ?_); (case side1 => repeat (first | exact (Kd.R_reads' HO_5.out).2.2 | (with_reducible refine Kd.C_alloc ?_ _) | (with_reducible refine Kd.C_drewN ?_ _) | (with_reducible refine Kd.C_drew ?_))); (case side2 => exact (Kd.R_reads' HO_5.out).2.1); rintro e w58 ⟨rfl, hb⟩; refine ⟨_, rfl, ?_⟩; replace HO_5 := Aside0.mk (Kd.R_below (Zr HO_5.out) hb); replace BK394 := Aside0.mk (blk_below (Zj BK394.out) hb); replace HB := Aside0.mk (below_step (Zb1 GE394.out) hb); (try clear hb); (try clear hb2); (try clear hk); (try clear hi)))
            go_ret2
            exact ⟨Ze, Zb1 GE394.out⟩
 ·rw [if_neg c3] at H
  have c3b0 : (t395 == 0) = false := beq_eq_false_iff_ne.mpr c3
  have c3b1 : (t395 != 0) = true := bne_iff_ne.mpr c3
  simp only [Option.some.injEq, Prod.mk.injEq] at H
  obtain ⟨rfl, rfl⟩ := H
  go_enter Tryz.func10, Tryz.ntmps10
  go_wp2_with (first | ((with_reducible refine gate_dst (N := 1) rfl ?_); refine box_event ?hg (N := 1) ?hd (cs := #[.string a0_0, .int .u8 a0_1, .int .u8 a0_2, .int .i64 a0_3, .int .i64 a0_4, .int .i64 a0_5, .int .u16 a0_6, .bool a0_7, .slice A0_8 l0_8.length c0_8]) (t := 28) ?hr ?_; (case hd => rfl); (case hg => rfl); (case hr => first | (go_simp; done) | (go_simp; rfl)); intro gb394 hg w59 hbox hb; have BK394 := Aside0.mk (hbox); have GW394 := Aside0.mk ((by rw [hg]; exact (below_size Zb) : w.heap.size ≤ gb394)); have GE394 := Aside0.mk ((by rw [hg]; exact (below_size Zb) : w.heap.size ≤ gb394)); replace HB := Aside0.mk (below_step Zb hb); clear hb hbox hg; obtain ⟨hcz60_0, hcz60_1, hcz60_2, hcz60_3, hcz60_4, hcz60_5, hcz60_6, hcz60_7, hcz60_8, hfz60_0, hfz60_1, hfz60_2, hfz60_3, hfz60_4, hfz60_5, hfz60_6, hfz60_7, hfz60_8⟩ := Z9 BK394.out) | ((with_reducible refine gate_callee (f := 9) rfl ?_); refine goesL_ (some 13) rfl rfl Tryz.func9 (by kernel_rfl) rfl #[.agg #[.string a0_0, .int .u8 a0_1, .int .u8 a0_2, .int .i64 a0_3, .int .i64 a0_4, .int .i64 a0_5, .int .u16 a0_6, .bool a0_7, .slice A0_8 l0_8.length c0_8]] rfl Zl ?_; (with_reducible refine (card_Check.calls k a0_0 a0_1 a0_2 a0_3 a0_4 a0_5 a0_6 a0_7 _ _ l0_8 t395 _ ?side1 ?side2 A2.out).mono ?_); (case side1 => repeat (first | exact (Kd.C_below HR0_8.out HB.out) | (with_reducible refine Kd.C_alloc ?_ _) | (with_reducible refine Kd.C_drewN ?_ _) | (with_reducible refine Kd.C_drew ?_))); (case side2 => exact HC0_8.out); rintro e w61 ⟨rfl, hb⟩; refine ⟨_, rfl, ?_⟩; replace BK394 := Aside0.mk (blk_below (Zj BK394.out) hb); replace HB := Aside0.mk (below_step (Zb1 GE394.out) hb); (try clear hb); (try clear hb2); (try clear hk); (try clear hi)))
  go_ret2
  exact ⟨Ze, Zb1 GE394.out⟩
end Go.Proofs.YtfpcideomanbbaaGreatDoor.PA
end
section
namespace Go.Proofs.YtfpcideomanbbaaGreatDoor.PA
open Go.RowKit Go.Proofs.YtfpcideomanbbaaGreatDoorW.PrintWords Go.Proofs.YtfpcideomanbbaaGreatDoorW.PrintLast Go.Proofs.YtfpcideomanbbaaGreatDoorW.PrintMore
theorem named_ok (s : ByteArray) : card_named.f s = some (nameB s) := by
  rw [← name_effect]
  unfold card_named.f effect_name.f
  by_cases h : (s.size : Int) > 0
  · rw [if_pos h, if_pos (show (s.size : Int) ≥ 1 by omega)]
  · rw [if_neg h, if_neg (show ¬ (s.size : Int) ≥ 1 by omega)]
theorem within_card (n m : Int) : card_within.f n m = some (decide (0 ≤ n ∧ n ≤ m)) := by
  unfold card_within.f
  by_cases h : n ≥ 0
  · rw [if_pos h]; simp [show 0 ≤ n from h]
  · rw [if_neg h]; simp [show ¬ 0 ≤ n from h]
theorem suitW_some {x : Int} (h : suitW x ≠ ⟨#[]⟩) : 1 ≤ x ∧ x ≤ 6 := by
  by_cases h1 : 1 ≤ x
  · by_cases h2 : x ≤ 6
    · exact ⟨h1, h2⟩
    · exfalso; apply h; unfold suitW gambitref03_Name.f
      repeat' split
      all_goals first | omega | rfl
  · exfalso; apply h; unfold suitW gambitref03_Name.f
    repeat' split
    all_goals first | omega | rfl
def kindW (x : Int) : ByteArray := (card_word.f x).getD ⟨#[]⟩
theorem kindW_eff (x : Int) : card_word.f x = some (kindW x) := by
  unfold kindW card_word.f; repeat' split
  all_goals rfl
theorem kindW_some {x : Int} (h : kindW x ≠ ⟨#[]⟩) : x = 1 ∨ x = 2 ∨ x = 3 := by
  by_cases h1 : x = 1
  · exact .inl h1
  · by_cases h2 : x = 2
    · exact .inr (.inl h2)
    · by_cases h3 : x = 3
      · exact .inr (.inr h3)
      · exfalso; apply h; unfold kindW card_word.f; rw [if_neg h1, if_neg h2, if_neg h3]; rfl
theorem empty_iff (s : ByteArray) : (s.toList = ([] : List UInt8)) ↔ s = ⟨#[]⟩ := by
  rw [ByteArray.toList_eq]
  constructor
  · intro h; exact bytes_eq h
  · rintro rfl; rfl
structure Face (nm : ByteArray) (su kd co pw hp tr : Int) (tk : Bool) (n : Nat) : Prop where
  inm : nameB nm = true
  isu : 1 ≤ su ∧ su ≤ 6
  ikd : kd = 1 ∨ kd = 2 ∨ kd = 3
  ico : 0 ≤ co ∧ co ≤ 10
  ipw : 0 ≤ pw ∧ pw ≤ 99
  ihp : 0 ≤ hp ∧ hp ≤ 99
  inon : kd ≠ 1 → pw = 0 ∧ hp = 0
  itr : 0 ≤ tr ∧ tr ≤ 255
  ilen : n ≤ 4
theorem face_j3 (b : Bool) (nm : ByteArray) (su kd co pw hp tr : Int) (tk : Bool) (L : List S48) (k : Nat) : ∃ e, card_face.j3 (k + 1) b nm su kd co pw hp tr tk L = some e ∧ (e = 0 → L.length ≤ 4) := by
  rw [card_face.j3]
  cases b
  · rw [if_neg (by decide)]
    by_cases h : (L.length : Int) > 4
    · rw [if_pos h]; exact ⟨_, rfl, fun e => by cases e⟩
    · rw [if_neg h]; exact ⟨_, rfl, fun _ => by omega⟩
  · rw [if_pos rfl]; exact ⟨_, rfl, fun e => by cases e⟩
theorem face_j2 (b : Bool) (nm : ByteArray) (su kd co pw hp tr : Int) (tk : Bool) (L : List S48) (k : Nat) : ∃ e, card_face.j2 (k + 2) b nm su kd co pw hp tr tk L = some e ∧ (e = 0 → b = false ∧ (0 ≤ tr ∧ tr ≤ 255) ∧ L.length ≤ 4) := by
  rw [card_face.j2]
  cases b
  · rw [if_neg (by decide)]
    rw [show trait_Check.f tr = some (tr / 256 == 0) from rfl, Option.bind_some]
    by_cases h : tr / 256 = 0
    · rw [if_pos (by simpa using h)]
      have ht : 0 ≤ tr ∧ tr ≤ 255 := by omega
      by_cases h2 : kd = 2
      · rw [if_pos h2]; obtain ⟨e, h3, h4⟩ := face_j3 tk nm su kd co pw hp tr tk L k; exact ⟨e, h3, fun he => ⟨rfl, ht, h4 he⟩⟩
      · rw [if_neg h2]; obtain ⟨e, h3, h4⟩ := face_j3 false nm su kd co pw hp tr tk L k; exact ⟨e, h3, fun he => ⟨rfl, ht, h4 he⟩⟩
    · rw [if_neg (by simpa using h)]
      have h3 : card_face.j3 (k + 1) true nm su kd co pw hp tr tk L = some 8 := by rw [card_face.j3, if_pos rfl]
      exact ⟨8, h3, fun e => by cases e⟩
  · rw [if_pos rfl]; exact ⟨_, rfl, fun e => by cases e⟩
theorem face_j1 (b : Bool) (nm : ByteArray) (su kd co pw hp tr : Int) (tk : Bool) (L : List S48) (k : Nat) : ∃ e, card_face.j1 (k + 3) (kd == 1) b nm su kd co pw hp tr tk L = some e ∧ (e = 0 → b = false ∧ (kd ≠ 1 → pw = 0 ∧ hp = 0) ∧ (0 ≤ tr ∧ tr ≤ 255) ∧ L.length ≤ 4) := by
  rw [card_face.j1]
  cases b
  · rw [if_neg (by decide)]
    by_cases h1 : kd = 1
    · rw [if_pos (by simpa using h1)]
      by_cases h2 : hp = 0
      · rw [if_pos h2]; obtain ⟨e, h3, h4⟩ := face_j2 true nm su kd co pw hp tr tk L k; exact ⟨e, h3, fun he => ⟨rfl, fun q => absurd h1 q, (h4 he).2⟩⟩
      · rw [if_neg h2]; obtain ⟨e, h3, h4⟩ := face_j2 false nm su kd co pw hp tr tk L k; exact ⟨e, h3, fun he => ⟨rfl, fun q => absurd h1 q, (h4 he).2⟩⟩
    · rw [if_neg (by simpa using h1)]
      by_cases h2 : pw = 0
      · rw [if_pos h2]; obtain ⟨e, h3, h4⟩ := face_j2 (hp != 0) nm su kd co pw hp tr tk L k
        exact ⟨e, h3, fun he => ⟨rfl, fun _ => ⟨h2, by simpa using (h4 he).1⟩, (h4 he).2⟩⟩
      · rw [if_neg h2]; obtain ⟨e, h3, h4⟩ := face_j2 true nm su kd co pw hp tr tk L k
        exact ⟨e, h3, fun he => by cases (h4 he).1⟩
  · rw [if_pos rfl]; exact ⟨_, rfl, fun e => by cases e⟩
theorem face_j0 (b : Bool) (nm : ByteArray) (su kd co pw hp tr : Int) (tk : Bool) (L : List S48) (k : Nat) : ∃ e, card_face.j0 (k + 4) (kd == 1) b nm su kd co pw hp tr tk L = some e ∧
    (e = 0 → b = false ∧ (0 ≤ co ∧ co ≤ 10) ∧ (0 ≤ pw ∧ pw ≤ 99) ∧ (0 ≤ hp ∧ hp ≤ 99) ∧ (kd ≠ 1 → pw = 0 ∧ hp = 0) ∧ (0 ≤ tr ∧ tr ≤ 255) ∧ L.length ≤ 4) := by
  rw [card_face.j0]
  have bad : ∃ e, card_face.j1 (k + 3) (kd == 1) true nm su kd co pw hp tr tk L = some e ∧ (e = 0 → False) := by
    obtain ⟨e, h3, h4⟩ := face_j1 true nm su kd co pw hp tr tk L k; exact ⟨e, h3, fun he => by cases (h4 he).1⟩
  cases b
  · rw [if_neg (by decide), within_card, Option.bind_some]
    by_cases h1 : 0 ≤ co ∧ co ≤ 10
    · rw [if_pos (decide_eq_true h1), within_card, Option.bind_some]
      by_cases h2 : 0 ≤ pw ∧ pw ≤ 99
      · rw [if_pos (decide_eq_true h2), within_card, Option.bind_some]
        obtain ⟨e, h3, h4⟩ := face_j1 (!decide (0 ≤ hp ∧ hp ≤ 99)) nm su kd co pw hp tr tk L k
        exact ⟨e, h3, fun he => ⟨rfl, h1, h2, by simpa using (h4 he).1, (h4 he).2⟩⟩
      · rw [if_neg (by simpa using h2)]; obtain ⟨e, h3, h4⟩ := bad; exact ⟨e, h3, fun he => (h4 he).elim⟩
    · rw [if_neg (by simpa using h1)]; obtain ⟨e, h3, h4⟩ := bad; exact ⟨e, h3, fun he => (h4 he).elim⟩
  · rw [if_pos rfl]; exact ⟨_, rfl, fun e => by cases e⟩
theorem face_total (nm : ByteArray) (su kd co pw hp tr : Int) (tk : Bool) (L : List S48) (k : Nat) : ∃ e, card_face.f (k + 4) nm su kd co pw hp tr tk L = some e ∧ (e = 0 → Face nm su kd co pw hp tr tk L.length) := by
  unfold card_face.f
  rw [named_ok, Option.bind_some]
  by_cases h1 : nameB nm = true
  · rw [if_pos h1, suitW_eff, Option.bind_some]
    by_cases h2 : suitW su = ⟨#[]⟩
    · rw [if_pos ((empty_iff _).2 h2)]
      obtain ⟨e, h3, h4⟩ := face_j0 true nm su kd co pw hp tr tk L k
      exact ⟨e, h3, fun he => by cases (h4 he).1⟩
    · rw [if_neg (fun q => h2 ((empty_iff _).1 q)), kindW_eff, Option.bind_some]
      obtain ⟨e, h3, h4⟩ := face_j0 ((kindW kd).toList == ([] : List UInt8)) nm su kd co pw hp tr tk L k
      refine ⟨e, h3, fun he => ?_⟩
      obtain ⟨h5, h6, h7, h8, h9, h10, h11⟩ := h4 he
      exact ⟨h1, suitW_some h2, kindW_some (fun q => by rw [beq_eq_false_iff_ne] at h5; exact h5 ((empty_iff _).2 q)), h6, h7, h8, h9, h10, h11⟩
  · rw [if_neg h1]; exact ⟨_, rfl, fun e => by cases e⟩
def okS (p : S48) : Prop := okB p.f0 p.f1 p.f2 p.f3 p.f4 p.f5 p.f6 p.f7 = true
theorem rd48 (L : List S48) (i : Nat) (h : i < L.length) : rd_T48 L (i : Int) = L[i] := by unfold rd_T48; simp [h]
theorem check_loop (L : List S48) (hL : L.length ≤ 4) (nm : ByteArray) (su kd co pw hp tr : Int) (tk : Bool) (M : List S48) : ∀ (d i k : Nat), d = L.length - i → i ≤ L.length →
    ∃ e, card_Check.l0 (k + d + 6) L (L.length : Int) (i : Int) nm su kd co pw hp tr tk M = some e ∧ (e = 0 → ∀ p ∈ L.drop i, okS p) := by
  intro d
  induction d with
  | zero =>
    intro i k hd hi
    rw [card_Check.l0, if_neg (by omega)]
    exact ⟨_, rfl, fun _ p hp => by rw [List.drop_of_length_le (by omega)] at hp; cases hp⟩
  | succ d ih =>
    intro i k hd hi
    have hlt : i < L.length := by omega
    obtain ⟨e1, hc, hok⟩ := check_effect (L[i]).f0 (L[i]).f1 (L[i]).f2 (L[i]).f3 (L[i]).f4 (L[i]).f5 (L[i]).f6 (L[i]).f7 (k + d + 1)
    obtain ⟨e2, h2, h3⟩ := ih (i + 1) k (by omega) (by omega)
    have hw : wrap64 ((i : Int) + 1) = ((i + 1 : Nat) : Int) := by rw [w64 (by omega) (by omega)]; rfl
    have hdrop : L.drop i = L[i] :: L.drop (i + 1) := List.drop_eq_getElem_cons hlt
    rw [show k + (d + 1) + 6 = (k + d + 6) + 1 by omega, card_Check.l0, if_pos (by omega), if_pos (by omega), if_pos (by omega), rd48 L i hlt, show k + d + 6 = k + d + 1 + 5 by omega, hc, Option.bind_some, hw, show k + d + 1 + 5 = k + d + 6 by omega]
    by_cases h0 : e1 = 0
    · rw [if_pos h0]
      have good : ∀ e, e = e2 → e = 0 → ∀ p ∈ L.drop i, okS p := by
        intro e he h p hp
        rw [hdrop] at hp
        rcases List.mem_cons.1 hp with rfl | hp
        · exact hok.1 h0
        · exact h3 (he ▸ h) p hp
      split
      · split
        · split
          · split
            · exact ⟨_, rfl, fun e => by cases e⟩
            · exact ⟨_, h2, good e2 rfl⟩
          · exact ⟨_, h2, good e2 rfl⟩
        · exact ⟨_, rfl, fun e => by cases e⟩
      · split
        · split
          · exact ⟨_, rfl, fun e => by cases e⟩
          · exact ⟨_, h2, good e2 rfl⟩
        · exact ⟨_, h2, good e2 rfl⟩
    · rw [if_neg h0]; exact ⟨_, rfl, fun e => absurd e h0⟩
theorem check_card (nm : ByteArray) (su kd co pw hp tr : Int) (tk : Bool) (L : List S48) (k : Nat) : ∃ e, card_Check.f (k + 10) nm su kd co pw hp tr tk L = some e ∧ (e = 0 → Face nm su kd co pw hp tr tk L.length ∧ ∀ p ∈ L, okS p) := by
  unfold card_Check.f
  obtain ⟨e, h1, h2⟩ := face_total nm su kd co pw hp tr tk L (k + 6)
  rw [h1, Option.bind_some]
  by_cases h0 : e = 0
  · rw [if_pos h0]
    have f := h2 h0
    obtain ⟨e2, h3, h4⟩ := check_loop L f.ilen nm su kd co pw hp tr tk L L.length 0 (k + 4 - L.length) (by omega) (by omega)
    have hl := f.ilen
    refine ⟨e2, ?_, fun q => ⟨f, ?_⟩⟩
    · rw [show k + 4 - L.length + L.length + 6 = k + 10 by omega] at h3; exact h3
    · have := h4 q; simpa using this
  · rw [if_neg h0]; exact ⟨e, rfl, fun q => absurd q h0⟩
theorem leO_up {α : Type} {f : Nat → Option α} (h : ∀ k, LeO (f k) (f (k + 1))) {k : Nat} {r : α} (hr : f k = some r) : ∀ n : Nat, f (k + n) = some r
  | 0 => hr
  | n + 1 => h (k + n) r (leO_up h hr n)
theorem check_up {nm : ByteArray} {su kd co pw hp tr : Int} {tk : Bool} {L : List S48} {k : Nat} {e : Int} (h : card_Check.f k nm su kd co pw hp tr tk L = some e) (n : Nat) : card_Check.f (k + n) nm su kd co pw hp tr tk L = some e :=
  leO_up (f := fun k => card_Check.f k nm su kd co pw hp tr tk L) (fun k => card_Check.mono _ _ _ _ _ _ _ _ _ k) h n
end Go.Proofs.YtfpcideomanbbaaGreatDoor.PA
end
