/-
  Part 4 of a proof in 8 parts: lemmas, contracts and plain laws that its last part joins; no conditions of its own.
-/
import Derived.Test.YtfpcideomanbbaaGreatDoorKZ
import Derived.Test.YtfpcideomanbbaaGreatDoorK1
import Derived.Test.YtfpcideomanbbaaGreatDoorK2
import Derived.Test.YtfpcideomanbbaaGreatDoorK3
import Derived.StillTailTactics
set_option linter.unusedVariables false
set_option linter.unusedSimpArgs false
section
namespace Go.Proofs.YtfpcideomanbbaaGreatDoor.PA
open Go.RowKit Go.Proofs.YtfpcideomanbbaaGreatDoorW.PrintWords Go.Proofs.YtfpcideomanbbaaGreatDoorW.PrintLast Go.Proofs.YtfpcideomanbbaaGreatDoorW.PrintMore
attribute [local go_sem] max2_int min2_int max_two min_two max_three min_three max_four min_four
set_option linter.unusedVariables false
set_option linter.unusedSimpArgs false
mutual
def effect_Print.j0 : Nat → List ByteArray → Bool → Bool → Bool → Bool → Int → Int → Int → Int → Int → Int → Int → ByteArray → Option (ByteArray × Int)
 | 0, _, _, _, _, _, _, _, _, _, _, _, _, _ => none
 | k + 1, x6, x8, x9, x10, x11, x258000, x258001, x258002, x258003, x258004, x258005, x258006, x258007 => if x8 = true then ((suit_Name.f x258004).bind fun t284 => (if x6.length < 8796093022208 then (effect_Print.j1 k (x6 ++ [t284]) x9 x10 x11 x258000 x258001 x258002 x258003 x258004 x258005 x258006 x258007) else (none))) else (effect_Print.j1 k x6 x9 x10 x11 x258000 x258001 x258002 x258003 x258004 x258005 x258006 x258007)
def effect_Print.j1 : Nat → List ByteArray → Bool → Bool → Bool → Int → Int → Int → Int → Int → Int → Int → ByteArray → Option (ByteArray × Int)
 | 0, _, _, _, _, _, _, _, _, _, _, _, _ => none
 | k + 1, x6, x9, x10, x11, x258000, x258001, x258002, x258003, x258004, x258005, x258006, x258007 => if x9 = true then ((trait_Name.f x258005).bind fun t288 => (if x6.length < 8796093022208 then (effect_Print.j2 k (x6 ++ [t288]) x10 x11 x258000 x258001 x258002 x258003 x258004 x258005 x258006 x258007) else (none))) else (effect_Print.j2 k x6 x10 x11 x258000 x258001 x258002 x258003 x258004 x258005 x258006 x258007)
def effect_Print.j2 : Nat → List ByteArray → Bool → Bool → Int → Int → Int → Int → Int → Int → Int → ByteArray → Option (ByteArray × Int)
 | 0, _, _, _, _, _, _, _, _, _, _, _ => none
 | k + 1, x6, x10, x11, x258000, x258001, x258002, x258003, x258004, x258005, x258006, x258007 => if x10 = true then ((strconv_Itoa.f (wrap64 (x258006))).bind fun t292 => (if x6.length < 8796093022208 then ((some (x6 ++ [t292] : List ByteArray)).bind fun y293 => (if x11 = true then (if y293.length < 8796093022208 then ((strings_Join.f (y293 ++ [x258007]) (⟨#[32]⟩ : ByteArray)).bind fun t299 => (some (t299, 0))) else (none)) else ((strings_Join.f y293 (⟨#[32]⟩ : ByteArray)).bind fun t300 => (some (t300, 0))))) else (none))) else (if x11 = true then (if x6.length < 8796093022208 then ((strings_Join.f (x6 ++ [x258007]) (⟨#[32]⟩ : ByteArray)).bind fun t304 => (some (t304, 0))) else (none)) else ((strings_Join.f x6 (⟨#[32]⟩ : ByteArray)).bind fun t305 => (some (t305, 0))))
end
def effect_Print.f (k : Nat) (a0_0 : Int) (a0_1 : Int) (a0_2 : Int) (a0_3 : Int) (a0_4 : Int) (a0_5 : Int) (a0_6 : Int) (a0_7 : ByteArray) : Option (ByteArray × Int) := (effect_Check.f k a0_0 a0_1 a0_2 a0_3 a0_4 a0_5 a0_6 a0_7).bind fun t258 => (if t258 = 0 then ((effect_words.f).bind fun bt259 => (if 0 ≤ ((a0_0 - 1) % 256) then (if ((a0_0 - 1) % 256) < (bt259.1.length : Int) then (if 0 ≤ ((a0_1 - 1) % 256) then (if ((a0_1 - 1) % 256) < (bt259.2.1.length : Int) then (if 0 ≤ ((a0_2 - 1) % 256) then (if ((a0_2 - 1) % 256) < (bt259.2.2.length : Int) then ((some (([rdOf ByteArray.empty bt259.1 ((a0_0 - 1) % 256), rdOf ByteArray.empty bt259.2.1 ((a0_1 - 1) % 256), rdOf ByteArray.empty bt259.2.2 ((a0_2 - 1) % 256)] : List ByteArray) : List ByteArray)).bind fun y272 => ((effect_Uses.f k a0_1 a0_2).bind fun bt275 => (if bt275.1 = true then ((strconv_Itoa.f a0_3).bind fun t280 => (if y272.length < 8796093022208 then (effect_Print.j0 k (y272 ++ [t280]) bt275.2.1 bt275.2.2.1 bt275.2.2.2.1 bt275.2.2.2.2 a0_0 a0_1 a0_2 a0_3 a0_4 a0_5 a0_6 a0_7) else (none))) else (effect_Print.j0 k y272 bt275.2.1 bt275.2.2.1 bt275.2.2.2.1 bt275.2.2.2.2 a0_0 a0_1 a0_2 a0_3 a0_4 a0_5 a0_6 a0_7)))) else (none)) else (none)) else (none)) else (none)) else (none)) else (none))) else (some ((⟨#[]⟩ : ByteArray), t258)))
theorem effect_Print.mono_l : ∀ k, (∀ y0 y1 y2 y3 y4 y5 y6 y7 y8 y9 y10 y11 y12, LeO (effect_Print.j0 k y0 y1 y2 y3 y4 y5 y6 y7 y8 y9 y10 y11 y12) (effect_Print.j0 (k + 1) y0 y1 y2 y3 y4 y5 y6 y7 y8 y9 y10 y11 y12)) ∧ (∀ y0 y1 y2 y3 y4 y5 y6 y7 y8 y9 y10 y11, LeO (effect_Print.j1 k y0 y1 y2 y3 y4 y5 y6 y7 y8 y9 y10 y11) (effect_Print.j1 (k + 1) y0 y1 y2 y3 y4 y5 y6 y7 y8 y9 y10 y11)) ∧ (∀ y0 y1 y2 y3 y4 y5 y6 y7 y8 y9 y10, LeO (effect_Print.j2 k y0 y1 y2 y3 y4 y5 y6 y7 y8 y9 y10) (effect_Print.j2 (k + 1) y0 y1 y2 y3 y4 y5 y6 y7 y8 y9 y10))
 | 0 => ⟨fun _ _ _ _ _ _ _ _ _ _ _ _ _ r h => by simp [effect_Print.j0] at h, fun _ _ _ _ _ _ _ _ _ _ _ _ r h => by simp [effect_Print.j1] at h, fun _ _ _ _ _ _ _ _ _ _ _ r h => by simp [effect_Print.j2] at h⟩
 | k + 1 => by
  obtain ⟨ih0, ih1, ih2⟩ := effect_Print.mono_l k
  refine ⟨?_, ?_, ?_⟩
  ·intro y0 y1 y2 y3 y4 y5 y6 y7 y8 y9 y10 y11 y12
   unfold effect_Print.j0
   repeat' first
   | (with_reducible exact ih0 _ _ _ _ _ _ _ _ _ _ _ _ _)
   | (with_reducible exact ih1 _ _ _ _ _ _ _ _ _ _ _ _)
   | (with_reducible exact ih2 _ _ _ _ _ _ _ _ _ _ _)
   | (with_reducible exact effect_Check.mono _ _ _ _ _ _ _ _ _)
   | (with_reducible exact effect_Uses.mono _ _ _)
   | (with_reducible exact LeO.refl _)
   | (with_reducible exact LeO.none _)
   | (with_reducible refine LeO.ite ?_ ?_)
   | (with_reducible refine LeO.bind ?_ (fun _ => ?_))
   | exact ih0 _ _ _ _ _ _ _ _ _ _ _ _ _
   | exact ih1 _ _ _ _ _ _ _ _ _ _ _ _
   | exact ih2 _ _ _ _ _ _ _ _ _ _ _
   | exact effect_Check.mono _ _ _ _ _ _ _ _ _
   | exact effect_Uses.mono _ _ _
   | exact LeO.none _
   | refine LeO.ite ?_ ?_
   | refine LeO.bind ?_ (fun _ => ?_)
  ·intro y0 y1 y2 y3 y4 y5 y6 y7 y8 y9 y10 y11
   unfold effect_Print.j1
   repeat' first
   | (with_reducible exact ih0 _ _ _ _ _ _ _ _ _ _ _ _ _)
   | (with_reducible exact ih1 _ _ _ _ _ _ _ _ _ _ _ _)
   | (with_reducible exact ih2 _ _ _ _ _ _ _ _ _ _ _)
   | (with_reducible exact effect_Check.mono _ _ _ _ _ _ _ _ _)
   | (with_reducible exact effect_Uses.mono _ _ _)
   | (with_reducible exact LeO.refl _)
   | (with_reducible exact LeO.none _)
   | (with_reducible refine LeO.ite ?_ ?_)
   | (with_reducible refine LeO.bind ?_ (fun _ => ?_))
   | exact ih0 _ _ _ _ _ _ _ _ _ _ _ _ _
   | exact ih1 _ _ _ _ _ _ _ _ _ _ _ _
   | exact ih2 _ _ _ _ _ _ _ _ _ _ _
   | exact effect_Check.mono _ _ _ _ _ _ _ _ _
   | exact effect_Uses.mono _ _ _
   | exact LeO.none _
   | refine LeO.ite ?_ ?_
   | refine LeO.bind ?_ (fun _ => ?_)
  ·intro y0 y1 y2 y3 y4 y5 y6 y7 y8 y9 y10
   unfold effect_Print.j2
   repeat' first
   | (with_reducible exact ih0 _ _ _ _ _ _ _ _ _ _ _ _ _)
   | (with_reducible exact ih1 _ _ _ _ _ _ _ _ _ _ _ _)
   | (with_reducible exact ih2 _ _ _ _ _ _ _ _ _ _ _)
   | (with_reducible exact effect_Check.mono _ _ _ _ _ _ _ _ _)
   | (with_reducible exact effect_Uses.mono _ _ _)
   | (with_reducible exact LeO.refl _)
   | (with_reducible exact LeO.none _)
   | (with_reducible refine LeO.ite ?_ ?_)
   | (with_reducible refine LeO.bind ?_ (fun _ => ?_))
   | exact ih0 _ _ _ _ _ _ _ _ _ _ _ _ _
   | exact ih1 _ _ _ _ _ _ _ _ _ _ _ _
   | exact ih2 _ _ _ _ _ _ _ _ _ _ _
   | exact effect_Check.mono _ _ _ _ _ _ _ _ _
   | exact effect_Uses.mono _ _ _
   | exact LeO.none _
   | refine LeO.ite ?_ ?_
   | refine LeO.bind ?_ (fun _ => ?_)
theorem effect_Print.mono : ∀ a0 a1 a2 a3 a4 a5 a6 a7 k, LeO (effect_Print.f k a0 a1 a2 a3 a4 a5 a6 a7) (effect_Print.f (k + 1) a0 a1 a2 a3 a4 a5 a6 a7) := by
 intro a0 a1 a2 a3 a4 a5 a6 a7 k
 obtain ⟨ih0, ih1, ih2⟩ := effect_Print.mono_l k
 unfold effect_Print.f
 repeat' first
   | (with_reducible exact ih0 _ _ _ _ _ _ _ _ _ _ _ _ _)
   | (with_reducible exact ih1 _ _ _ _ _ _ _ _ _ _ _ _)
   | (with_reducible exact ih2 _ _ _ _ _ _ _ _ _ _ _)
   | (with_reducible exact effect_Check.mono _ _ _ _ _ _ _ _ _)
   | (with_reducible exact effect_Uses.mono _ _ _)
   | (with_reducible exact LeO.refl _)
   | (with_reducible exact LeO.none _)
   | (with_reducible refine LeO.ite ?_ ?_)
   | (with_reducible refine LeO.bind ?_ (fun _ => ?_))
   | exact ih0 _ _ _ _ _ _ _ _ _ _ _ _ _
   | exact ih1 _ _ _ _ _ _ _ _ _ _ _ _
   | exact ih2 _ _ _ _ _ _ _ _ _ _ _
   | exact effect_Check.mono _ _ _ _ _ _ _ _ _
   | exact effect_Uses.mono _ _ _
   | exact LeO.none _
   | refine LeO.ite ?_ ?_
   | refine LeO.bind ?_ (fun _ => ?_)
def effect_Print.T5 : Bool × List (List Nat × List Nat) := (true, [([], []), ([0], [0]), ([], []), ([2], [2]), ([3], [3]), ([1, 4], [1, 4]), ([5], [5]), ([], []), ([7], [7]), ([], []), ([9], [9]), ([10], [10]), ([8, 11], [8, 11]), ([12], [12]), ([], []), ([14], [14]), ([], []), ([16], [16]), ([17], [17]), ([15, 18], [15, 18]), ([19], [19]), ([6, 13, 20], [6, 13, 20]), ([21, 0, 1, 2, 3, 4, 5, 6, 7, 8, 9, 10, 11, 12, 13, 14, 15, 16, 17, 18, 19, 20, 21], [21])])
def effect_Print.B5 : List Nat := [0, 1, 0, 4, 12, 31, 63, 0, 128, 0, 512, 1536, 3968, 8064, 0, 16384, 0, 65536, 196608, 507904, 1032192, 2097151, 4194303]
theorem effect_Print.tab5 : rtab .any (opsOf Tryz.f23 5) = effect_Print.T5 := by kernel_rfl
theorem effect_Print.bits5 : waitsOk effect_Print.T5.2 effect_Print.B5 = true := by kernel_rfl
set_option maxHeartbeats 8000000 in
set_option maxRecDepth 100000 in
theorem effect_Print.calls (k : Nat) (a0_0 : Int) (a0_1 : Int) (a0_2 : Int) (a0_3 : Int) (a0_4 : Int) (a0_5 : Int) (a0_6 : Int) (a0_7 : ByteArray) (r1 : ByteArray) (r2 : Int) (w : World) (hG_ : GP w) (h : effect_Print.f k a0_0 a0_1 a0_2 a0_3 a0_4 a0_5 a0_6 a0_7 = some (r1, r2)) :
  Calls Tryz.prog 23 #[.agg #[.int .u8 a0_0, .int .u8 a0_1, .int .u8 a0_2, .int .i64 a0_3, .int .u8 a0_4, .int .u8 a0_5, .int .u8 a0_6, .string a0_7]] w fun e w' => e = .returned (.tuple #[.string r1, .int .i64 r2]) ∧ Below w.heap.size w w' := by
 have hu48 := Tryz.underlying48
 have hu74 := Tryz.underlying74
 have HGP := Aside0.mk hG_
 clear hG_
 have HB := Aside0.mk (Below.refl w.heap.size w)
 have H : ((effect_Check.f k a0_0 a0_1 a0_2 a0_3 a0_4 a0_5 a0_6 a0_7).bind fun t258 => (if t258 = 0 then ((effect_words.f).bind fun bt259 => (if 0 ≤ ((a0_0 - 1) % 256) then (if ((a0_0 - 1) % 256) < (bt259.1.length : Int) then (if 0 ≤ ((a0_1 - 1) % 256) then (if ((a0_1 - 1) % 256) < (bt259.2.1.length : Int) then (if 0 ≤ ((a0_2 - 1) % 256) then (if ((a0_2 - 1) % 256) < (bt259.2.2.length : Int) then ((some (([rdOf ByteArray.empty bt259.1 ((a0_0 - 1) % 256), rdOf ByteArray.empty bt259.2.1 ((a0_1 - 1) % 256), rdOf ByteArray.empty bt259.2.2 ((a0_2 - 1) % 256)] : List ByteArray) : List ByteArray)).bind fun y272 => ((effect_Uses.f k a0_1 a0_2).bind fun bt275 => (if bt275.1 = true then ((strconv_Itoa.f a0_3).bind fun t280 => (if y272.length < 8796093022208 then (effect_Print.j0 k (y272 ++ [t280]) bt275.2.1 bt275.2.2.1 bt275.2.2.2.1 bt275.2.2.2.2 a0_0 a0_1 a0_2 a0_3 a0_4 a0_5 a0_6 a0_7) else (none))) else (effect_Print.j0 k y272 bt275.2.1 bt275.2.2.1 bt275.2.2.2.1 bt275.2.2.2.2 a0_0 a0_1 a0_2 a0_3 a0_4 a0_5 a0_6 a0_7)))) else (none)) else (none)) else (none)) else (none)) else (none)) else (none))) else (some ((⟨#[]⟩ : ByteArray), t258)))) = some (r1, r2) := h
 clear h
 replace H := Option.bind_eq_some_iff.mp H
 obtain ⟨t258, A20, H⟩ := H
 replace H : (if t258 = 0 then ((effect_words.f).bind fun bt259 => (if 0 ≤ ((a0_0 - 1) % 256) then (if ((a0_0 - 1) % 256) < (bt259.1.length : Int) then (if 0 ≤ ((a0_1 - 1) % 256) then (if ((a0_1 - 1) % 256) < (bt259.2.1.length : Int) then (if 0 ≤ ((a0_2 - 1) % 256) then (if ((a0_2 - 1) % 256) < (bt259.2.2.length : Int) then ((some (([rdOf ByteArray.empty bt259.1 ((a0_0 - 1) % 256), rdOf ByteArray.empty bt259.2.1 ((a0_1 - 1) % 256), rdOf ByteArray.empty bt259.2.2 ((a0_2 - 1) % 256)] : List ByteArray) : List ByteArray)).bind fun y272 => ((effect_Uses.f k a0_1 a0_2).bind fun bt275 => (if bt275.1 = true then ((strconv_Itoa.f a0_3).bind fun t280 => (if y272.length < 8796093022208 then (effect_Print.j0 k (y272 ++ [t280]) bt275.2.1 bt275.2.2.1 bt275.2.2.2.1 bt275.2.2.2.2 a0_0 a0_1 a0_2 a0_3 a0_4 a0_5 a0_6 a0_7) else (none))) else (effect_Print.j0 k y272 bt275.2.1 bt275.2.2.1 bt275.2.2.2.1 bt275.2.2.2.2 a0_0 a0_1 a0_2 a0_3 a0_4 a0_5 a0_6 a0_7)))) else (none)) else (none)) else (none)) else (none)) else (none)) else (none))) else (some ((⟨#[]⟩ : ByteArray), t258))) = some (r1, r2) := H
 have A2 := Aside0.mk A20
 clear A20
 by_cases c3 : t258 = 0
 ·rw [if_pos c3] at H
  have c3b0 : (t258 == 0) = true := beq_iff_eq.mpr c3
  have c3b1 : (t258 != 0) = false := bne_eq_false_iff_eq.mpr c3
  clear c3
  replace H := Option.bind_eq_some_iff.mp H
  obtain ⟨⟨t259, t262, t265⟩, A40, H⟩ := H
  replace H : (if 0 ≤ ((a0_0 - 1) % 256) then (if ((a0_0 - 1) % 256) < (t259.length : Int) then (if 0 ≤ ((a0_1 - 1) % 256) then (if ((a0_1 - 1) % 256) < (t262.length : Int) then (if 0 ≤ ((a0_2 - 1) % 256) then (if ((a0_2 - 1) % 256) < (t265.length : Int) then ((some (([rdOf ByteArray.empty t259 ((a0_0 - 1) % 256), rdOf ByteArray.empty t262 ((a0_1 - 1) % 256), rdOf ByteArray.empty t265 ((a0_2 - 1) % 256)] : List ByteArray) : List ByteArray)).bind fun y272 => ((effect_Uses.f k a0_1 a0_2).bind fun bt275 => (if bt275.1 = true then ((strconv_Itoa.f a0_3).bind fun t280 => (if y272.length < 8796093022208 then (effect_Print.j0 k (y272 ++ [t280]) bt275.2.1 bt275.2.2.1 bt275.2.2.2.1 bt275.2.2.2.2 a0_0 a0_1 a0_2 a0_3 a0_4 a0_5 a0_6 a0_7) else (none))) else (effect_Print.j0 k y272 bt275.2.1 bt275.2.2.1 bt275.2.2.2.1 bt275.2.2.2.2 a0_0 a0_1 a0_2 a0_3 a0_4 a0_5 a0_6 a0_7)))) else (none)) else (none)) else (none)) else (none)) else (none)) else (none)) = some (r1, r2) := H
  have A4 := Aside0.mk A40
  clear A40
  obtain ⟨ji5, hji5⟩ : ∃ j_ : Int, ((a0_0 - 1) % 256) = j_ := ⟨_, rfl⟩
  replace H : (if 0 ≤ (ji5) then (if (ji5) < (t259.length : Int) then (if 0 ≤ ((a0_1 - 1) % 256) then (if ((a0_1 - 1) % 256) < (t262.length : Int) then (if 0 ≤ ((a0_2 - 1) % 256) then (if ((a0_2 - 1) % 256) < (t265.length : Int) then ((some (([rdOf ByteArray.empty t259 (ji5), rdOf ByteArray.empty t262 ((a0_1 - 1) % 256), rdOf ByteArray.empty t265 ((a0_2 - 1) % 256)] : List ByteArray) : List ByteArray)).bind fun y272 => ((effect_Uses.f k a0_1 a0_2).bind fun bt275 => (if bt275.1 = true then ((strconv_Itoa.f a0_3).bind fun t280 => (if y272.length < 8796093022208 then (effect_Print.j0 k (y272 ++ [t280]) bt275.2.1 bt275.2.2.1 bt275.2.2.2.1 bt275.2.2.2.2 a0_0 a0_1 a0_2 a0_3 a0_4 a0_5 a0_6 a0_7) else (none))) else (effect_Print.j0 k y272 bt275.2.1 bt275.2.2.1 bt275.2.2.2.1 bt275.2.2.2.2 a0_0 a0_1 a0_2 a0_3 a0_4 a0_5 a0_6 a0_7)))) else (none)) else (none)) else (none)) else (none)) else (none)) else (none)) = some (r1, r2) := by first | (rw [hji5] at H; exact H) | (simp only [hji5] at H ⊢; exact H)
  (try rw [hji5] at A2)
  (try rw [hji5] at A4)
  have hji5w : (IntKind.u8.wrap (a0_0 - 1)) = ji5 := (show IntKind.u8.wrap (a0_0 - 1) = (a0_0 - 1) % 256 from rfl).trans hji5
  by_cases c6 : 0 ≤ (ji5)
  ·rw [if_pos c6] at H
   have c6b0 : decide (0 ≤ (ji5)) = true := decide_eq_true c6
   clear c6
   by_cases c7 : (ji5) < (t259.length : Int)
   ·rw [if_pos c7] at H
    have c7b0 : decide ((ji5) < (t259.length : Int)) = true := decide_eq_true c7
    clear c7
    obtain ⟨ji8, hji8⟩ : ∃ j_ : Int, ((a0_1 - 1) % 256) = j_ := ⟨_, rfl⟩
    replace H : (if 0 ≤ (ji8) then (if (ji8) < (t262.length : Int) then (if 0 ≤ ((a0_2 - 1) % 256) then (if ((a0_2 - 1) % 256) < (t265.length : Int) then ((some (([rdOf ByteArray.empty t259 (ji5), rdOf ByteArray.empty t262 (ji8), rdOf ByteArray.empty t265 ((a0_2 - 1) % 256)] : List ByteArray) : List ByteArray)).bind fun y272 => ((effect_Uses.f k a0_1 a0_2).bind fun bt275 => (if bt275.1 = true then ((strconv_Itoa.f a0_3).bind fun t280 => (if y272.length < 8796093022208 then (effect_Print.j0 k (y272 ++ [t280]) bt275.2.1 bt275.2.2.1 bt275.2.2.2.1 bt275.2.2.2.2 a0_0 a0_1 a0_2 a0_3 a0_4 a0_5 a0_6 a0_7) else (none))) else (effect_Print.j0 k y272 bt275.2.1 bt275.2.2.1 bt275.2.2.2.1 bt275.2.2.2.2 a0_0 a0_1 a0_2 a0_3 a0_4 a0_5 a0_6 a0_7)))) else (none)) else (none)) else (none)) else (none)) = some (r1, r2) := by first | (rw [hji8] at H; exact H) | (simp only [hji8] at H ⊢; exact H)
    (try rw [hji8] at A2)
    (try rw [hji8] at A4)
    have hji8w : (IntKind.u8.wrap (a0_1 - 1)) = ji8 := (show IntKind.u8.wrap (a0_1 - 1) = (a0_1 - 1) % 256 from rfl).trans hji8
    by_cases c9 : 0 ≤ (ji8)
    ·rw [if_pos c9] at H
     have c9b0 : decide (0 ≤ (ji8)) = true := decide_eq_true c9
     clear c9
     by_cases c10 : (ji8) < (t262.length : Int)
     ·rw [if_pos c10] at H
      have c10b0 : decide ((ji8) < (t262.length : Int)) = true := decide_eq_true c10
      clear c10
      obtain ⟨ji11, hji11⟩ : ∃ j_ : Int, ((a0_2 - 1) % 256) = j_ := ⟨_, rfl⟩
      replace H : (if 0 ≤ (ji11) then (if (ji11) < (t265.length : Int) then ((some (([rdOf ByteArray.empty t259 (ji5), rdOf ByteArray.empty t262 (ji8), rdOf ByteArray.empty t265 (ji11)] : List ByteArray) : List ByteArray)).bind fun y272 => ((effect_Uses.f k a0_1 a0_2).bind fun bt275 => (if bt275.1 = true then ((strconv_Itoa.f a0_3).bind fun t280 => (if y272.length < 8796093022208 then (effect_Print.j0 k (y272 ++ [t280]) bt275.2.1 bt275.2.2.1 bt275.2.2.2.1 bt275.2.2.2.2 a0_0 a0_1 a0_2 a0_3 a0_4 a0_5 a0_6 a0_7) else (none))) else (effect_Print.j0 k y272 bt275.2.1 bt275.2.2.1 bt275.2.2.2.1 bt275.2.2.2.2 a0_0 a0_1 a0_2 a0_3 a0_4 a0_5 a0_6 a0_7)))) else (none)) else (none)) = some (r1, r2) := by first | (rw [hji11] at H; exact H) | (simp only [hji11] at H ⊢; exact H)
      (try rw [hji11] at A2)
      (try rw [hji11] at A4)
      have hji11w : (IntKind.u8.wrap (a0_2 - 1)) = ji11 := (show IntKind.u8.wrap (a0_2 - 1) = (a0_2 - 1) % 256 from rfl).trans hji11
      by_cases c12 : 0 ≤ (ji11)
      ·rw [if_pos c12] at H
       have c12b0 : decide (0 ≤ (ji11)) = true := decide_eq_true c12
       clear c12
       by_cases c13 : (ji11) < (t265.length : Int)
       ·rw [if_pos c13] at H
        have c13b0 : decide ((ji11) < (t265.length : Int)) = true := decide_eq_true c13
        clear c13
        obtain ⟨y272, hy272⟩ : ∃ y_ : List ByteArray, y_ = (([rdOf ByteArray.empty t259 (ji5), rdOf ByteArray.empty t262 (ji8), rdOf ByteArray.empty t265 (ji11)] : List ByteArray)) := ⟨_, rfl⟩
        replace H : ((effect_Uses.f k a0_1 a0_2).bind fun bt275 => (if bt275.1 = true then ((strconv_Itoa.f a0_3).bind fun t280 => (if y272.length < 8796093022208 then (effect_Print.j0 k (y272 ++ [t280]) bt275.2.1 bt275.2.2.1 bt275.2.2.2.1 bt275.2.2.2.2 a0_0 a0_1 a0_2 a0_3 a0_4 a0_5 a0_6 a0_7) else (none))) else (effect_Print.j0 k y272 bt275.2.1 bt275.2.2.1 bt275.2.2.2.1 bt275.2.2.2.2 a0_0 a0_1 a0_2 a0_3 a0_4 a0_5 a0_6 a0_7))) = some (r1, r2) := by first | (rw [hy272]; with_reducible exact H) | (have H2_ := (Option.bind_some _ _).symm.trans H; rw [hy272]; with_reducible exact H2_) | (have H2_ := (Option.bind_some _ _).symm.trans H; with_reducible exact H2_) | with_reducible exact H | (rw [hy272]; exact H) | exact H
        have Ny272 := Aside0.mk hy272
        clear hy272
        replace H := Option.bind_eq_some_iff.mp H
        obtain ⟨⟨t275, t276, t277, t278, t279⟩, A140, H⟩ := H
        replace H : (if t275 = true then ((strconv_Itoa.f a0_3).bind fun t280 => (if y272.length < 8796093022208 then (effect_Print.j0 k (y272 ++ [t280]) t276 t277 t278 t279 a0_0 a0_1 a0_2 a0_3 a0_4 a0_5 a0_6 a0_7) else (none))) else (effect_Print.j0 k y272 t276 t277 t278 t279 a0_0 a0_1 a0_2 a0_3 a0_4 a0_5 a0_6 a0_7)) = some (r1, r2) := H
        have A14 := Aside0.mk A140
        clear A140
        have HC15 := Aside0.mk H
        clear H
        go_enter Tryz.func23, Tryz.ntmps23
        try go_wp2_with (first | ((with_reducible refine gate_dst (N := 1) rfl ?_); refine box_event ?hg (N := 1) ?hd (cs := #[.int .u8 a0_0, .int .u8 a0_1, .int .u8 a0_2, .int .i64 a0_3, .int .u8 a0_4, .int .u8 a0_5, .int .u8 a0_6, .string a0_7]) (t := 48) ?hr ?_; (case hd => rfl); (case hg => rfl); (case hr => first | (go_simp; done) | (go_simp; rfl)); intro gb257 hg w16 hbox hb; have BK257 := Aside0.mk (hbox); have GW257 := Aside0.mk ((by rw [hg]; exact (below_size Zb) : w.heap.size ≤ gb257)); have GE257 := Aside0.mk ((by rw [hg]; exact (below_size Zb) : w.heap.size ≤ gb257)); replace HB := Aside0.mk (below_step Zb hb); clear hb hbox hg; obtain ⟨hcz17_0, hcz17_1, hcz17_2, hcz17_3, hcz17_4, hcz17_5, hcz17_6, hcz17_7, hfz17_0, hfz17_1, hfz17_2, hfz17_3, hfz17_4, hfz17_5, hfz17_6, hfz17_7⟩ := Z8 BK257.out) | ((with_reducible refine gate_callee (f := 24) rfl ?_); refine goesL_ (some 13) rfl rfl Tryz.func24 (by kernel_rfl) rfl #[.agg #[.int .u8 a0_0, .int .u8 a0_1, .int .u8 a0_2, .int .i64 a0_3, .int .u8 a0_4, .int .u8 a0_5, .int .u8 a0_6, .string a0_7]] rfl Zl ?_; (with_reducible refine (effect_Check.calls k a0_0 a0_1 a0_2 a0_3 a0_4 a0_5 a0_6 a0_7 t258 _ A2.out).mono ?_); rintro e w18 ⟨rfl, hb⟩; refine ⟨_, rfl, ?_⟩; replace BK257 := Aside0.mk (blk_below (Zj BK257.out) hb); replace HB := Aside0.mk (below_step (Zb1 GE257.out) hb); (try clear hb); (try clear hb2); (try clear hk); (try clear hi)) | ((with_reducible refine gate_callee (f := 51) rfl ?_); refine goesL_ (some 17) rfl rfl Tryz.func51 (by kernel_rfl) rfl #[] rfl Zl ?_; (with_reducible refine (effect_words.calls  t259 t262 t265 _ ?side1 A4.out).mono ?_); (case side1 => first | (with_reducible exact HGP.out) | exact GP_below HGP.out (Zb1 GE257.out)); rintro e w19 ⟨v260, v263, v266, rfl, ho0, ho1, ho2, hb⟩; refine ⟨_, rfl, ?_⟩; have HO261 := Aside0.mk (Kd.R_lower ho0 (below_size (Zb1 GE257.out))); have HO264 := Aside0.mk (Kd.R_lower ho1 (below_size (Zb1 GE257.out))); have HO267 := Aside0.mk (Kd.R_lower ho2 (below_size (Zb1 GE257.out))); replace BK257 := Aside0.mk (blk_below (Zj BK257.out) hb); replace HB := Aside0.mk (below_step (Zb1 GE257.out) hb); (try clear hb); (try clear hb2); (try clear hk); (try clear hi); (try clear ho0); (try clear ho1); (try clear ho2)) | ((with_reducible refine gate_dst (N := 5) rfl ?_); refine box_event ?hg (N := 5) ?hd (cs := #[.slice none 0 0, .slice none 0 0, .slice none 0 0]) (t := 74) ?hr ?_; (case hd => rfl); (case hg => rfl); (case hr => first | (go_simp; done) | (go_simp; rfl)); intro gb268 hg w20 hbox hb; replace HO261 := Aside0.mk (Kd.R_below (Zq HO261.out) hb); replace HO264 := Aside0.mk (Kd.R_below (Zq HO264.out) hb); replace HO267 := Aside0.mk (Kd.R_below (Zq HO267.out) hb); have BK268 := Aside0.mk (hbox); have GW268 := Aside0.mk ((by rw [hg]; exact (below_size (Zb1 GE257.out)) : w.heap.size ≤ gb268)); have GE268 := Aside0.mk ((by rw [hg]; exact (below_size (Zb1 GE257.out)) : w.heap.size ≤ gb268)); replace HB := Aside0.mk (below_step (Zb1 GE257.out) hb); have NB257_268 := Aside0.mk ((by rw [hg]; exact Nat.ne_of_lt (blk_lt (Zj BK257.out)) : gb257 ≠ gb268)); have NB268_257 := Aside0.mk ((by rw [hg]; exact Nat.ne_of_gt (blk_lt (Zj BK257.out)) : gb268 ≠ gb257)); replace BK257 := Aside0.mk (blk_below (Zj BK257.out) hb); clear hb hbox hg; obtain ⟨Ao21, co21, eo21⟩ := Kd.R_slice HO261.out; subst eo21; have hnb22 := NB268_257.out; have hnc22 := NB257_268.out; obtain ⟨hcz23_0, hcz23_1, hcz23_2, hfz23_0, hfz23_1, hfz23_2⟩ := Z3 BK268.out; obtain ⟨Ao24, co24, eo24⟩ := Kd.R_slice HO264.out; subst eo24; obtain ⟨Ao25, co25, eo25⟩ := Kd.R_slice HO267.out; subst eo25))
        have n0_ : Aside0 (Kd.R Kd.string 9 (((w20.setCell ⟨gb268, 0, none⟩ (.slice Ao21 t259.length co21)).setCell ⟨gb268, 1, none⟩ (.slice Ao24 t262.length co24)).setCell ⟨gb268, 2, none⟩ (.slice Ao25 t265.length co25)) w.heap.size (fun k_ => some k_ ≠ (.slice Ao24 t262.length co24 : Value).ownBlock ∧ some k_ ≠ (.slice Ao25 t265.length co25 : Value).ownBlock) (.slice Ao21 t259.length co21) t259) := ⟨by (with_reducible repeat (first | apply Kd.R_alloc | apply Kd.R_drewN | apply Kd.R_drew)); exact Kd.R_mono (Kd.R_far (p := ⟨gb268, 2, none⟩) (Kd.R_far (p := ⟨gb268, 1, none⟩) (Kd.R_far (p := ⟨gb268, 0, none⟩) (Kd.R_types HO261.out BK268.out (by decide)) Zg (.slice Ao21 t259.length co21)) Zg (.slice Ao24 t262.length co24)) Zg (.slice Ao25 t265.length co25)) (fun _ hk => ⟨hk.1.1, hk.1.2⟩)⟩
        have n1_ : Aside0 (Kd.R Kd.string 9 (((w20.setCell ⟨gb268, 0, none⟩ (.slice Ao21 t259.length co21)).setCell ⟨gb268, 1, none⟩ (.slice Ao24 t262.length co24)).setCell ⟨gb268, 2, none⟩ (.slice Ao25 t265.length co25)) w.heap.size (fun k_ => some k_ ≠ (.slice Ao21 t259.length co21 : Value).ownBlock ∧ some k_ ≠ (.slice Ao25 t265.length co25 : Value).ownBlock) (.slice Ao24 t262.length co24) t262) := ⟨by (with_reducible repeat (first | apply Kd.R_alloc | apply Kd.R_drewN | apply Kd.R_drew)); exact Kd.R_mono (Kd.R_far (p := ⟨gb268, 2, none⟩) (Kd.R_far (p := ⟨gb268, 1, none⟩) (Kd.R_far (p := ⟨gb268, 0, none⟩) (Kd.R_types HO264.out BK268.out (by decide)) Zg (.slice Ao21 t259.length co21)) Zg (.slice Ao24 t262.length co24)) Zg (.slice Ao25 t265.length co25)) (fun _ hk => ⟨hk.1.1, hk.1.2⟩)⟩
        have n2_ : Aside0 (Kd.R Kd.string 9 (((w20.setCell ⟨gb268, 0, none⟩ (.slice Ao21 t259.length co21)).setCell ⟨gb268, 1, none⟩ (.slice Ao24 t262.length co24)).setCell ⟨gb268, 2, none⟩ (.slice Ao25 t265.length co25)) w.heap.size (fun k_ => some k_ ≠ (.slice Ao21 t259.length co21 : Value).ownBlock ∧ some k_ ≠ (.slice Ao24 t262.length co24 : Value).ownBlock) (.slice Ao25 t265.length co25) t265) := ⟨by (with_reducible repeat (first | apply Kd.R_alloc | apply Kd.R_drewN | apply Kd.R_drew)); exact Kd.R_mono (Kd.R_far (p := ⟨gb268, 2, none⟩) (Kd.R_far (p := ⟨gb268, 1, none⟩) (Kd.R_far (p := ⟨gb268, 0, none⟩) (Kd.R_types HO267.out BK268.out (by decide)) Zg (.slice Ao21 t259.length co21)) Zg (.slice Ao24 t262.length co24)) Zg (.slice Ao25 t265.length co25)) (fun _ hk => ⟨hk.1.1, hk.1.2⟩)⟩
        have n3_ : Aside0 ((((w20.setCell ⟨gb268, 0, none⟩ (.slice Ao21 t259.length co21)).setCell ⟨gb268, 1, none⟩ (.slice Ao24 t262.length co24)).setCell ⟨gb268, 2, none⟩ (.slice Ao25 t265.length co25)).heap[gb257]? = some (.cells #[.int .u8 a0_0, .int .u8 a0_1, .int .u8 a0_2, .int .i64 a0_3, .int .u8 a0_4, .int .u8 a0_5, .int .u8 a0_6, .string a0_7] 48 (0, 0))) := ⟨by (with_reducible repeat (first | apply blk_kn | apply blk_kd | apply blk_ka)); refine blk_far ?_ NB257_268.out _; (with_reducible repeat (first | apply blk_kn | apply blk_kd | apply blk_ka)); refine blk_far ?_ NB257_268.out _; (with_reducible repeat (first | apply blk_kn | apply blk_kd | apply blk_ka)); refine blk_far ?_ NB257_268.out _; exact Zk BK257.out⟩
        have n4_ : Aside0 ((((w20.setCell ⟨gb268, 0, none⟩ (.slice Ao21 t259.length co21)).setCell ⟨gb268, 1, none⟩ (.slice Ao24 t262.length co24)).setCell ⟨gb268, 2, none⟩ (.slice Ao25 t265.length co25)).heap[gb268]? = some (.cells #[.slice Ao21 t259.length co21, .slice Ao24 t262.length co24, .slice Ao25 t265.length co25] 74 (0, 0))) := ⟨by (with_reducible repeat (first | apply blk_kn | apply blk_kd | apply blk_ka)); refine blk_put (cs := #[.slice Ao21 t259.length co21, .slice Ao24 t262.length co24, .slice none 0 0]) ?_ 2 _ rfl; (with_reducible repeat (first | apply blk_kn | apply blk_kd | apply blk_ka)); refine blk_put (cs := #[.slice Ao21 t259.length co21, .slice none 0 0, .slice none 0 0]) ?_ 1 _ rfl; (with_reducible repeat (first | apply blk_kn | apply blk_kd | apply blk_ka)); refine blk_put (cs := #[.slice none 0 0, .slice none 0 0, .slice none 0 0]) ?_ 0 _ rfl; exact Zk BK268.out⟩
        have n5_ : Aside0 (Below w.heap.size w (((w20.setCell ⟨gb268, 0, none⟩ (.slice Ao21 t259.length co21)).setCell ⟨gb268, 1, none⟩ (.slice Ao24 t262.length co24)).setCell ⟨gb268, 2, none⟩ (.slice Ao25 t265.length co25))) := ⟨Zb2 GE257.out GE268.out⟩
        (try clear HO261)
        (try clear HO264)
        (try clear HO267)
        (try clear BK257)
        (try clear BK268)
        (try clear HB)
        generalize (((w20.setCell ⟨gb268, 0, none⟩ (.slice Ao21 t259.length co21)).setCell ⟨gb268, 1, none⟩ (.slice Ao24 t262.length co24)).setCell ⟨gb268, 2, none⟩ (.slice Ao25 t265.length co25)) = w26 at n0_ n1_ n2_ n3_ n4_ n5_ ⊢
        have HO261 := n0_
        have HO264 := n1_
        have HO267 := n2_
        have BK257 := n3_
        have BK268 := n4_
        have HB := n5_
        clear n0_ n1_ n2_ n3_ n4_ n5_
        have n0_ := Aside0.mk (Kd.R_drew HO261.out)
        have n1_ := Aside0.mk (Kd.R_drew HO264.out)
        have n2_ := Aside0.mk (Kd.R_drew HO267.out)
        have n3_ := Aside0.mk (blk_drew BK257.out)
        have n4_ := Aside0.mk (blk_drew BK268.out)
        have n5_ := Aside0.mk (below_drew1 HB.out)
        clear HO261 HO264 HO267 BK257 BK268 HB
        have HO261 := n0_
        have HO264 := n1_
        have HO267 := n2_
        have BK257 := n3_
        have BK268 := n4_
        have HB := n5_
        clear n0_ n1_ n2_ n3_ n4_ n5_
        have p269 : 0 ≤ ((ji5) : Int) := of_decide_eq_true Za
        have q269 : (ji5) < (t259.length : Int) := of_decide_eq_true Za
        obtain ⟨ad269, e269, hx269_0⟩ := Kd.at_string (Kd.R_reads' HO261.out).2.2 (ji5) p269 q269
        cases e269
        replace p269 := eq_true p269
        replace q269 := eq_true q269
        have p270 : 0 ≤ ((ji8) : Int) := of_decide_eq_true Za
        have q270 : (ji8) < (t262.length : Int) := of_decide_eq_true Za
        obtain ⟨ad270, e270, hx270_0⟩ := Kd.at_string (Kd.R_reads' HO264.out).2.2 (ji8) p270 q270
        cases e270
        replace p270 := eq_true p270
        replace q270 := eq_true q270
        have p271 : 0 ≤ ((ji11) : Int) := of_decide_eq_true Za
        have q271 : (ji11) < (t265.length : Int) := of_decide_eq_true Za
        obtain ⟨ad271, e271, hx271_0⟩ := Kd.at_string (Kd.R_reads' HO267.out).2.2 (ji11) p271 q271
        cases e271
        replace p271 := eq_true p271
        replace q271 := eq_true q271
        refine start_ (n := 23) (S := fun w' => w'.cell? ⟨gb268, 0, none⟩ = some (.slice (some ad269) t259.length co21) ∧ w'.cell? ⟨gb268, 1, none⟩ = some (.slice (some ad270) t262.length co24) ∧ w'.cell? ⟨gb268, 2, none⟩ = some (.slice (some ad271) t265.length co25) ∧ w'.cell? ⟨gb257, 0, none⟩ = some (.int .u8 a0_0) ∧ w'.cell? ⟨gb257, 1, none⟩ = some (.int .u8 a0_1) ∧ w'.cell? ⟨gb257, 2, none⟩ = some (.int .u8 a0_2) ∧ w'.cell? ⟨gb257, 3, none⟩ = some (.int .i64 a0_3) ∧ w'.cell? ⟨gb257, 4, none⟩ = some (.int .u8 a0_4) ∧ w'.cell? ⟨gb257, 5, none⟩ = some (.int .u8 a0_5) ∧ w'.cell? ⟨gb257, 6, none⟩ = some (.int .u8 a0_6) ∧ w'.cell? ⟨gb257, 7, none⟩ = some (.string a0_7) ∧ w'.cell? (ad269.add ((ji5)).toNat) = some (.string (rdOf ByteArray.empty t259 (ji5))) ∧ w'.cell? (ad270.add ((ji8)).toNat) = some (.string (rdOf ByteArray.empty t262 (ji8))) ∧ w'.cell? (ad271.add ((ji11)).toNat) = some (.string (rdOf ByteArray.empty t265 (ji11)))) (ds := []) #[false, false, false, false, false, false, false, false, false, false, false, false, false, false, false, false, false, false, false, false, false, false, false] (by kernel_rfl) rfl rfl ⟨(blk_cell BK268.out 0).trans rfl, (blk_cell BK268.out 1).trans rfl, (blk_cell BK268.out 2).trans rfl, (blk_cell BK257.out 0).trans rfl, (blk_cell BK257.out 1).trans rfl, (blk_cell BK257.out 2).trans rfl, (blk_cell BK257.out 3).trans rfl, (blk_cell BK257.out 4).trans rfl, (blk_cell BK257.out 5).trans rfl, (blk_cell BK257.out 6).trans rfl, (blk_cell BK257.out 7).trans rfl, hx269_0, hx270_0, hx271_0⟩ (fun hHeld => ?_); refine with_tabW effect_Print.tab5 effect_Print.bits5 (fun HT_ HW_ => ?_)
        generalize w26.drew = w27 at HO261 HO264 HO267 BK257 BK268 HB hx269_0 hx270_0 hx271_0 hHeld ⊢
        refine pure_ (i := 0) (N := some 18) (v := ?_) (a' := ?_) #[true, false, false, false, false, false, false, false, false, false, false, false, false, false, false, false, false, false, false, false, false, false, false] rfl rfl (any_of HT_.out (by kernel_rfl)) (fun _ _ _ h => h) (Or.inl ⟨by rfl, ?_⟩) ?_ ?_
        rotate_left
        ·intro w'
         go_simp
         with_reducible rfl
        rotate_left
        ·simp only [Act.put, List.setIfInBounds_toArray, List.set_cons_zero, List.set_cons_succ, i64_w, i32_w]
         rfl
        refine pure_ (i := 2) (N := some 20) (v := ?_) (a' := ?_) #[true, false, true, false, false, false, false, false, false, false, false, false, false, false, false, false, false, false, false, false, false, false, false] rfl rfl (any_of HT_.out (by kernel_rfl)) (fun _ _ _ h => h) (Or.inl ⟨by rfl, ?_⟩) ?_ ?_
        rotate_left
        ·intro w'
         go_simp
         with_reducible rfl
        rotate_left
        ·simp only [Act.put, List.setIfInBounds_toArray, List.set_cons_zero, List.set_cons_succ, i64_w, i32_w]
         rfl
        refine pure_ (i := 7) (N := some 25) (v := ?_) (a' := ?_) #[true, false, true, false, false, false, false, true, false, false, false, false, false, false, false, false, false, false, false, false, false, false, false] rfl rfl (any_of HT_.out (by kernel_rfl)) (fun _ _ _ h => h) (Or.inl ⟨by rfl, ?_⟩) ?_ ?_
        rotate_left
        ·intro w'
         go_simp
         with_reducible rfl
        rotate_left
        ·simp only [Act.put, List.setIfInBounds_toArray, List.set_cons_zero, List.set_cons_succ, i64_w, i32_w]
         rfl
        refine pure_ (i := 9) (N := some 27) (v := ?_) (a' := ?_) #[true, false, true, false, false, false, false, true, false, true, false, false, false, false, false, false, false, false, false, false, false, false, false] rfl rfl (any_of HT_.out (by kernel_rfl)) (fun _ _ _ h => h) (Or.inl ⟨by rfl, ?_⟩) ?_ ?_
        rotate_left
        ·intro w'
         go_simp
         with_reducible rfl
        rotate_left
        ·simp only [Act.put, List.setIfInBounds_toArray, List.set_cons_zero, List.set_cons_succ, i64_w, i32_w]
         rfl
        refine pure_ (i := 14) (N := some 32) (v := ?_) (a' := ?_) #[true, false, true, false, false, false, false, true, false, true, false, false, false, false, true, false, false, false, false, false, false, false, false] rfl rfl (any_of HT_.out (by kernel_rfl)) (fun _ _ _ h => h) (Or.inl ⟨by rfl, ?_⟩) ?_ ?_
        rotate_left
        ·intro w'
         go_simp
         with_reducible rfl
        rotate_left
        ·simp only [Act.put, List.setIfInBounds_toArray, List.set_cons_zero, List.set_cons_succ, i64_w, i32_w]
         rfl
        refine pure_ (i := 16) (N := some 34) (v := ?_) (a' := ?_) #[true, false, true, false, false, false, false, true, false, true, false, false, false, false, true, false, true, false, false, false, false, false, false] rfl rfl (any_of HT_.out (by kernel_rfl)) (fun _ _ _ h => h) (Or.inl ⟨by rfl, ?_⟩) ?_ ?_
        rotate_left
        ·intro w'
         go_simp
         with_reducible rfl
        rotate_left
        ·simp only [Act.put, List.setIfInBounds_toArray, List.set_cons_zero, List.set_cons_succ, i64_w, i32_w]
         rfl
        refine take_ (i := 1) (N := some 19) (v := ?_) (a' := ?_) #[true, true, true, false, false, false, false, true, false, true, false, false, false, false, true, false, true, false, false, false, false, false, false] rfl rfl (take_ofW HT_.out HW_.out (by kernel_rfl)) (fun _ _ _ h => h) (Or.inl ⟨by rfl, ?_⟩) hHeld ?_ ?_
        rotate_left
        ·rintro w' ⟨s0, s1, s2, s3, s4, s5, s6, s7, s8, s9, s10, s11, s12, s13⟩
         go_simp
         with_reducible rfl
        rotate_left
        ·simp only [Act.put, List.setIfInBounds_toArray, List.set_cons_zero, List.set_cons_succ, i64_w, i32_w]
         rfl
        refine take_ (i := 3) (N := some 21) (v := ?_) (a' := ?_) #[true, true, true, true, false, false, false, true, false, true, false, false, false, false, true, false, true, false, false, false, false, false, false] rfl rfl (take_ofW HT_.out HW_.out (by kernel_rfl)) (fun _ _ _ h => h) (Or.inl ⟨by rfl, ?_⟩) hHeld ?_ ?_
        rotate_left
        ·rintro w' ⟨s0, s1, s2, s3, s4, s5, s6, s7, s8, s9, s10, s11, s12, s13⟩
         go_simp
         with_reducible rfl
        rotate_left
        ·simp only [Act.put, List.setIfInBounds_toArray, List.set_cons_zero, List.set_cons_succ, i64_w, i32_w]
         rfl
        refine pure_ (i := 4) (N := some 22) (v := ?_) (a' := ?_) #[true, true, true, true, true, false, false, true, false, true, false, false, false, false, true, false, true, false, false, false, false, false, false] rfl rfl (any_of HT_.out (by kernel_rfl)) (fun _ _ _ h => h) (Or.inl ⟨by rfl, ?_⟩) ?_ ?_
        rotate_left
        ·intro w'
         go_simp
         with_reducible rfl
        rotate_left
        ·simp only [Act.put, List.setIfInBounds_toArray, List.set_cons_zero, List.set_cons_succ, i64_w, i32_w]
         rfl
        refine pure_ (i := 5) (N := some 23) (v := ?_) (a' := ?_) #[true, true, true, true, true, true, false, true, false, true, false, false, false, false, true, false, true, false, false, false, false, false, false] rfl rfl (any_of HT_.out (by kernel_rfl)) (fun _ _ _ h => h) (Or.inl ⟨by rfl, ?_⟩) ?_ ?_
        rotate_left
        ·intro w'
         go_simp
         with_reducible rfl
        rotate_left
        ·simp only [Act.put, List.setIfInBounds_toArray, List.set_cons_zero, List.set_cons_succ, i64_w, i32_w]
         rfl
        refine take_ (i := 6) (N := some 24) (v := ?_) (a' := ?_) #[true, true, true, true, true, true, true, true, false, true, false, false, false, false, true, false, true, false, false, false, false, false, false] rfl rfl (take_ofW HT_.out HW_.out (by kernel_rfl)) (fun _ _ _ h => h) (Or.inl ⟨by rfl, ?_⟩) hHeld ?_ ?_
        rotate_left
        ·rintro w' ⟨s0, s1, s2, s3, s4, s5, s6, s7, s8, s9, s10, s11, s12, s13⟩
         go_simp
         with_reducible rfl
        rotate_left
        ·simp only [Act.put, List.setIfInBounds_toArray, List.set_cons_zero, List.set_cons_succ, i64_w, i32_w]
         rfl
        refine take_ (i := 8) (N := some 26) (v := ?_) (a' := ?_) #[true, true, true, true, true, true, true, true, true, true, false, false, false, false, true, false, true, false, false, false, false, false, false] rfl rfl (take_ofW HT_.out HW_.out (by kernel_rfl)) (fun _ _ _ h => h) (Or.inl ⟨by rfl, ?_⟩) hHeld ?_ ?_
        rotate_left
        ·rintro w' ⟨s0, s1, s2, s3, s4, s5, s6, s7, s8, s9, s10, s11, s12, s13⟩
         go_simp
         with_reducible rfl
        rotate_left
        ·simp only [Act.put, List.setIfInBounds_toArray, List.set_cons_zero, List.set_cons_succ, i64_w, i32_w]
         rfl
        refine take_ (i := 10) (N := some 28) (v := ?_) (a' := ?_) #[true, true, true, true, true, true, true, true, true, true, true, false, false, false, true, false, true, false, false, false, false, false, false] rfl rfl (take_ofW HT_.out HW_.out (by kernel_rfl)) (fun _ _ _ h => h) (Or.inl ⟨by rfl, ?_⟩) hHeld ?_ ?_
        rotate_left
        ·rintro w' ⟨s0, s1, s2, s3, s4, s5, s6, s7, s8, s9, s10, s11, s12, s13⟩
         go_simp
         with_reducible rfl
        rotate_left
        ·simp only [Act.put, List.setIfInBounds_toArray, List.set_cons_zero, List.set_cons_succ, i64_w, i32_w]
         rfl
        refine pure_ (i := 11) (N := some 29) (v := ?_) (a' := ?_) #[true, true, true, true, true, true, true, true, true, true, true, true, false, false, true, false, true, false, false, false, false, false, false] rfl rfl (any_of HT_.out (by kernel_rfl)) (fun _ _ _ h => h) (Or.inl ⟨by rfl, ?_⟩) ?_ ?_
        rotate_left
        ·intro w'
         go_simp
         with_reducible rfl
        rotate_left
        ·simp only [Act.put, List.setIfInBounds_toArray, List.set_cons_zero, List.set_cons_succ, i64_w, i32_w]
         rfl
        refine pure_ (i := 12) (N := some 30) (v := ?_) (a' := ?_) #[true, true, true, true, true, true, true, true, true, true, true, true, true, false, true, false, true, false, false, false, false, false, false] rfl rfl (any_of HT_.out (by kernel_rfl)) (fun _ _ _ h => h) (Or.inl ⟨by rfl, ?_⟩) ?_ ?_
        rotate_left
        ·intro w'
         go_simp
         with_reducible rfl
        rotate_left
        ·simp only [Act.put, List.setIfInBounds_toArray, List.set_cons_zero, List.set_cons_succ, i64_w, i32_w]
         rfl
        refine take_ (i := 13) (N := some 31) (v := ?_) (a' := ?_) #[true, true, true, true, true, true, true, true, true, true, true, true, true, true, true, false, true, false, false, false, false, false, false] rfl rfl (take_ofW HT_.out HW_.out (by kernel_rfl)) (fun _ _ _ h => h) (Or.inl ⟨by rfl, ?_⟩) hHeld ?_ ?_
        rotate_left
        ·rintro w' ⟨s0, s1, s2, s3, s4, s5, s6, s7, s8, s9, s10, s11, s12, s13⟩
         go_simp
         with_reducible rfl
        rotate_left
        ·simp only [Act.put, List.setIfInBounds_toArray, List.set_cons_zero, List.set_cons_succ, i64_w, i32_w]
         rfl
        refine take_ (i := 15) (N := some 33) (v := ?_) (a' := ?_) #[true, true, true, true, true, true, true, true, true, true, true, true, true, true, true, true, true, false, false, false, false, false, false] rfl rfl (take_ofW HT_.out HW_.out (by kernel_rfl)) (fun _ _ _ h => h) (Or.inl ⟨by rfl, ?_⟩) hHeld ?_ ?_
        rotate_left
        ·rintro w' ⟨s0, s1, s2, s3, s4, s5, s6, s7, s8, s9, s10, s11, s12, s13⟩
         go_simp
         with_reducible rfl
        rotate_left
        ·simp only [Act.put, List.setIfInBounds_toArray, List.set_cons_zero, List.set_cons_succ, i64_w, i32_w]
         rfl
        refine take_ (i := 17) (N := some 35) (v := ?_) (a' := ?_) #[true, true, true, true, true, true, true, true, true, true, true, true, true, true, true, true, true, true, false, false, false, false, false] rfl rfl (take_ofW HT_.out HW_.out (by kernel_rfl)) (fun _ _ _ h => h) (Or.inl ⟨by rfl, ?_⟩) hHeld ?_ ?_
        rotate_left
        ·rintro w' ⟨s0, s1, s2, s3, s4, s5, s6, s7, s8, s9, s10, s11, s12, s13⟩
         go_simp
         with_reducible rfl
        rotate_left
        ·simp only [Act.put, List.setIfInBounds_toArray, List.set_cons_zero, List.set_cons_succ, i64_w, i32_w]
         rfl
        refine pure_ (i := 18) (N := some 36) (v := ?_) (a' := ?_) #[true, true, true, true, true, true, true, true, true, true, true, true, true, true, true, true, true, true, true, false, false, false, false] rfl rfl (any_of HT_.out (by kernel_rfl)) (fun _ _ _ h => h) (Or.inl ⟨by rfl, ?_⟩) ?_ ?_
        rotate_left
        ·intro w'
         go_simp
         with_reducible rfl
        rotate_left
        ·simp only [Act.put, List.setIfInBounds_toArray, List.set_cons_zero, List.set_cons_succ, i64_w, i32_w]
         rfl
        refine pure_ (i := 19) (N := some 37) (v := ?_) (a' := ?_) #[true, true, true, true, true, true, true, true, true, true, true, true, true, true, true, true, true, true, true, true, false, false, false] rfl rfl (any_of HT_.out (by kernel_rfl)) (fun _ _ _ h => h) (Or.inl ⟨by rfl, ?_⟩) ?_ ?_
        rotate_left
        ·intro w'
         go_simp
         with_reducible rfl
        rotate_left
        ·simp only [Act.put, List.setIfInBounds_toArray, List.set_cons_zero, List.set_cons_succ, i64_w, i32_w]
         rfl
        refine take_ (i := 20) (N := some 38) (v := ?_) (a' := ?_) #[true, true, true, true, true, true, true, true, true, true, true, true, true, true, true, true, true, true, true, true, true, false, false] rfl rfl (take_ofW HT_.out HW_.out (by kernel_rfl)) (fun _ _ _ h => h) (Or.inl ⟨by rfl, ?_⟩) hHeld ?_ ?_
        rotate_left
        ·rintro w' ⟨s0, s1, s2, s3, s4, s5, s6, s7, s8, s9, s10, s11, s12, s13⟩
         go_simp
         with_reducible rfl
        rotate_left
        ·simp only [Act.put, List.setIfInBounds_toArray, List.set_cons_zero, List.set_cons_succ, i64_w, i32_w]
         rfl
        refine one_ (i := 21) (N := some 39) #[true, true, true, true, true, true, true, true, true, true, true, true, true, true, true, true, true, true, true, true, true, true, false] rfl rfl (one_of HT_.out (by kernel_rfl)) (by decide) (fun K hK => ?_)
        refine Kd.R_lit_step Kd.string _ 9 ?hg (N := 39) ?hd (xs := ([rdOf ByteArray.empty t259 (ji5), rdOf ByteArray.empty t262 (ji8), rdOf ByteArray.empty t265 (ji11)] : List ByteArray)) (inner := [.string (rdOf ByteArray.empty t259 (ji5)), .string (rdOf ByteArray.empty t262 (ji8)), .string (rdOf ByteArray.empty t265 (ji11))]) (ok := fun _ => True) (okp := fun _ => True) ?hr ?hp (fun _ hk => hk) trivial (Below.refl _ _) (Nat.le_refl _) (by simp) ?_; (case hd => rfl); (case hg => rfl); (case hr => first | (go_simp; done) | (go_simp; rfl)); (case hp => exact (Reps.one (show Kd.M Kd.string _ _ _ (rdOf ByteArray.empty t259 (ji5)) [.string (rdOf ByteArray.empty t259 (ji5))] from rfl) (Reps.one (show Kd.M Kd.string _ _ _ (rdOf ByteArray.empty t262 (ji8)) [.string (rdOf ByteArray.empty t262 (ji8))] from rfl) (Reps.one (show Kd.M Kd.string _ _ _ (rdOf ByteArray.empty t265 (ji11)) [.string (rdOf ByteArray.empty t265 (ji11))] from rfl) (Reps.none _ _)))))
        intro v273 w28 ho29 hb hg_ hnew_
        have HS11_ := (hb.cell (World.block_lt_of_cell? _ _ (hHeld.2.2.2.2.2.2.2.2.2.2.2.1))).trans (hHeld.2.2.2.2.2.2.2.2.2.2.2.1)
        have HS12_ := (hb.cell (World.block_lt_of_cell? _ _ (hHeld.2.2.2.2.2.2.2.2.2.2.2.2.1))).trans (hHeld.2.2.2.2.2.2.2.2.2.2.2.2.1)
        have HS13_ := (hb.cell (World.block_lt_of_cell? _ _ (hHeld.2.2.2.2.2.2.2.2.2.2.2.2.2))).trans (hHeld.2.2.2.2.2.2.2.2.2.2.2.2.2)
        clear hg_ hnew_
        (first | rw [← Ny272.out] at ho29 | (simp only [Int.reduceToNat] at ho29; rw [← Ny272.out] at ho29))
        have n0_ := Aside0.mk (Kd.R_elder' (Zq HO261.out) (Kd.R_base ho29) hb)
        have n1_ := Aside0.mk (Kd.R_elder' (Zq HO264.out) (Kd.R_base ho29) hb)
        have n2_ := Aside0.mk (Kd.R_elder' (Zq HO267.out) (Kd.R_base ho29) hb)
        have n3_ := Aside0.mk (Kd.R_lower (Kd.R_new' (Kd.R_new' (Kd.R_new' ho29 (Kd.R_lt (Zq HO261.out))) (Kd.R_lt (Zq HO264.out))) (Kd.R_lt (Zq HO267.out))) (below_size (Zb2 GE257.out GE268.out)))
        have n4_ := Aside0.mk (blk_below (Zj BK257.out) hb)
        have n5_ := Aside0.mk (blk_below (Zj BK268.out) hb)
        have n6_ := Aside0.mk (below_step (Zb2 GE257.out GE268.out) hb)
        clear HO261 HO264 HO267 BK257 BK268 HB
        have HO261 := n0_
        have HO264 := n1_
        have HO267 := n2_
        have HO274 := n3_
        have BK257 := n4_
        have BK268 := n5_
        have HB := n6_
        clear n0_ n1_ n2_ n3_ n4_ n5_ n6_
        clear hb ho29
        refine hK.out _ _ ⟨(blk_cell BK268.out 0).trans rfl, (blk_cell BK268.out 1).trans rfl, (blk_cell BK268.out 2).trans rfl, (blk_cell BK257.out 0).trans rfl, (blk_cell BK257.out 1).trans rfl, (blk_cell BK257.out 2).trans rfl, (blk_cell BK257.out 3).trans rfl, (blk_cell BK257.out 4).trans rfl, (blk_cell BK257.out 5).trans rfl, (blk_cell BK257.out 6).trans rfl, (blk_cell BK257.out 7).trans rfl, HS11_, HS12_, HS13_⟩ (fun hHeld => ?_)
        clear hK K
        refine norm_ (a' := ?_) ?_ ?_
        rotate_left
        ·show Act.put _ (some 39) _ = _
         simp only [Act.put, List.setIfInBounds_toArray, List.set_cons_zero, List.set_cons_succ, i64_w, i32_w]
         rfl
        refine pure_ (i := 22) (N := some 6) (v := ?_) (a' := ?_) #[true, true, true, true, true, true, true, true, true, true, true, true, true, true, true, true, true, true, true, true, true, true, true] rfl rfl (any_of HT_.out (by kernel_rfl)) (fun _ _ _ h => h) (Or.inl ⟨by rfl, ?_⟩) ?_ ?_
        rotate_left
        ·intro w'
         go_simp
         with_reducible rfl
        rotate_left
        ·simp only [Act.put, List.setIfInBounds_toArray, List.set_cons_zero, List.set_cons_succ, i64_w, i32_w]
         rfl
        refine done_ (done_of HT_.out (by kernel_rfl)) ?_
        obtain ⟨hcz30_0, hcz30_1, hcz30_2, hcz30_3, hcz30_4, hcz30_5, hcz30_6, hcz30_7, hfz30_0, hfz30_1, hfz30_2, hfz30_3, hfz30_4, hfz30_5, hfz30_6, hfz30_7⟩ := Z8 BK257.out
        go_upto_if 51 with (first | ((with_reducible refine gate_callee (f := 54) rfl ?_); refine goesL_ (some 45) rfl rfl Tryz.func54 (by kernel_rfl) rfl #[.int .u8 a0_1, .int .u8 a0_2] rfl Zl ?_; (with_reducible refine (effect_Uses.calls k a0_1 a0_2 t275 t276 t277 t278 t279 _ A14.out).mono ?_); rintro e w' ⟨rfl, ⟨nd, rfl⟩⟩; refine ⟨_, rfl, ?_⟩))
        (try simp only [Act.put, List.setIfInBounds_toArray, List.set_cons_zero, List.set_cons_succ])
        go_cut [6] (fun v6 wc => ∃ (kq : Nat) (x6_14 : List ByteArray), Aside0 (effect_Print.j0 kq x6_14 t276 t277 t278 t279 a0_0 a0_1 a0_2 a0_3 a0_4 a0_5 a0_6 a0_7 = some (r1, r2)) ∧ Aside0 (kq ≤ k) ∧ Aside0 (Kd.R Kd.string 9 wc w.heap.size (fun k_ => some k_ ≠ ((.slice (some ad269) t259.length co21) : Value).ownBlock ∧ some k_ ≠ ((.slice (some ad270) t262.length co24) : Value).ownBlock ∧ some k_ ≠ ((.slice (some ad271) t265.length co25) : Value).ownBlock) v6 x6_14) ∧ Aside0 (Kd.R Kd.string 9 wc w.heap.size (fun k_ => some k_ ≠ (v6 : Value).ownBlock ∧ some k_ ≠ ((.slice (some ad270) t262.length co24) : Value).ownBlock ∧ some k_ ≠ ((.slice (some ad271) t265.length co25) : Value).ownBlock) (.slice (some ad269) t259.length co21) t259) ∧ Aside0 (Kd.R Kd.string 9 wc w.heap.size (fun k_ => some k_ ≠ (v6 : Value).ownBlock ∧ some k_ ≠ ((.slice (some ad269) t259.length co21) : Value).ownBlock ∧ some k_ ≠ ((.slice (some ad271) t265.length co25) : Value).ownBlock) (.slice (some ad270) t262.length co24) t262) ∧ Aside0 (Kd.R Kd.string 9 wc w.heap.size (fun k_ => some k_ ≠ (v6 : Value).ownBlock ∧ some k_ ≠ ((.slice (some ad269) t259.length co21) : Value).ownBlock ∧ some k_ ≠ ((.slice (some ad270) t262.length co24) : Value).ownBlock) (.slice (some ad271) t265.length co25) t265) ∧ Aside0 (wc.heap[gb257]? = some (.cells #[.int .u8 a0_0, .int .u8 a0_1, .int .u8 a0_2, .int .i64 a0_3, .int .u8 a0_4, .int .u8 a0_5, .int .u8 a0_6, .string a0_7] 48 (0, 0))) ∧ Aside0 (wc.heap[gb268]? = some (.cells #[(.slice (some ad269) t259.length co21), (.slice (some ad270) t262.length co24), (.slice (some ad271) t265.length co25)] 74 (0, 0))) ∧ Aside0 (Below w.heap.size w wc))
        case first =>
         have H := HC15.out
         clear HC15
         by_cases c31 : t275 = true
         ·subst c31
          have H1 : ((strconv_Itoa.f a0_3).bind fun t280 => (if y272.length < 8796093022208 then (effect_Print.j0 k (y272 ++ [t280]) t276 t277 t278 t279 a0_0 a0_1 a0_2 a0_3 a0_4 a0_5 a0_6 a0_7) else (none))) = some (r1, r2) := by rw [if_pos rfl] at H; exact H
          clear H
          have H := H1
          clear H1
          replace H := Option.bind_eq_some_iff.mp H
          obtain ⟨t280, A320, H⟩ := H
          replace H : (if y272.length < 8796093022208 then (effect_Print.j0 k (y272 ++ [t280]) t276 t277 t278 t279 a0_0 a0_1 a0_2 a0_3 a0_4 a0_5 a0_6 a0_7) else (none)) = some (r1, r2) := H
          have A32 := Aside0.mk A320
          clear A320
          by_cases c33 : y272.length < 8796093022208
          ·rw [if_pos c33] at H
           have LMc33 := Aside0.mk c33
           clear c33
           obtain ⟨y281, hy281⟩ : ∃ y_ : List ByteArray, y_ = (y272 ++ [t280]) := ⟨_, rfl⟩
           replace H : (effect_Print.j0 k y281 t276 t277 t278 t279 a0_0 a0_1 a0_2 a0_3 a0_4 a0_5 a0_6 a0_7) = some (r1, r2) := by first | (rw [hy281]; with_reducible exact H) | (have H2_ := (Option.bind_some _ _).symm.trans H; rw [hy281]; with_reducible exact H2_) | (have H2_ := (Option.bind_some _ _).symm.trans H; with_reducible exact H2_) | with_reducible exact H | (rw [hy281]; exact H) | exact H
           have Ny281 := Aside0.mk hy281
           clear hy281
           have H' := Aside0.mk H
           clear H
           have hnb34 := NB257_268.out
           have hnc34 := NB268_257.out
           obtain ⟨hcz35_0, hcz35_1, hcz35_2, hcz35_3, hcz35_4, hcz35_5, hcz35_6, hcz35_7, hfz35_0, hfz35_1, hfz35_2, hfz35_3, hfz35_4, hfz35_5, hfz35_6, hfz35_7⟩ := Z8 BK257.out
           go_wp2_with (first | ((with_reducible refine gate_callee (f := 32) rfl ?_); refine goesL_ (some 55) rfl rfl Tryz.func32 (by kernel_rfl) rfl #[.int .i64 a0_3] rfl Zl ?_; (with_reducible refine (strconv_Itoa.calls a0_3 t280 _ ?side1 A32.out).mono ?_); (case side1 => first | (with_reducible exact HGP.out) | exact GP_below HGP.out (Zb2 GE257.out GE268.out)); rintro e w36 ⟨rfl, hb⟩; refine ⟨_, rfl, ?_⟩; replace HO261 := Aside0.mk (Kd.R_below (Zq HO261.out) hb); replace HO264 := Aside0.mk (Kd.R_below (Zq HO264.out) hb); replace HO267 := Aside0.mk (Kd.R_below (Zq HO267.out) hb); replace HO274 := Aside0.mk (Kd.R_below (Zq HO274.out) hb); replace BK257 := Aside0.mk (blk_below (Zj BK257.out) hb); replace BK268 := Aside0.mk (blk_below (Zj BK268.out) hb); replace HB := Aside0.mk (below_step (Zb2 GE257.out GE268.out) hb); (try clear hb); (try clear hb2); (try clear hk); (try clear hi)) | ((with_reducible refine gate_builtin (b := .append) (xs := #[.tmp 52, .tmp 56]) rfl ?_); at_builtin; refine Kd.R_append Kd.string (w0 := w) w.heap.size rfl (.tmp 52) (.tmp 56) 63 9 (.string ⟨#[]⟩) 16 rfl Tryz.underlying63 info9 rfl (by decide) (by omega) v273 y272 t280 [.string t280] (fun k_ => some k_ ≠ (.slice (some ad269) t259.length co21 : Value).ownBlock ∧ some k_ ≠ (.slice (some ad270) t262.length co24 : Value).ownBlock ∧ some k_ ≠ (.slice (some ad271) t265.length co25 : Value).ownBlock) (fun _ => False) rfl rfl ?aP (fun _ hk => hk.elim) ?aF ?aO ?aB ?aS ?aL ?_; (case aP => exact rfl); (case aB => exact (Zb2 GE257.out GE268.out)); (case aF => exact (fun k_ hk => ⟨Kd.fresh' (Kd.R_lt (Zq HO261.out)) k_ hk, Kd.fresh' (Kd.R_lt (Zq HO264.out)) k_ hk, Kd.fresh' (Kd.R_lt (Zq HO267.out)) k_ hk⟩)); (case aO => exact (by (with_reducible repeat (first | apply Kd.R_alloc | apply Kd.R_drewN | apply Kd.R_drew)); exact Kd.R_mono HO274.out (fun _ hk => ⟨hk.1.1.2, ⟨hk.1.2, hk.2⟩⟩))); (case aS => exact (below_size (Zb2 GE257.out GE268.out))); (case aL => have := LMc33.out; omega); intro v282 w37 ho hb hg hat; rw [← Ny281.out] at ho; replace BK257 := Aside0.mk (blk_grown (Zj BK257.out) hg (Kd.R_ne HO274.out BK257.out (by decide))); replace HO261 := Aside0.mk (Kd.R_after (ok := (fun k_ => some k_ ≠ (.slice (some ad270) t262.length co24 : Value).ownBlock ∧ some k_ ≠ (.slice (some ad271) t265.length co25 : Value).ownBlock)) (Zq HO261.out) hg hat); replace HO264 := Aside0.mk (Kd.R_after (ok := (fun k_ => some k_ ≠ (.slice (some ad269) t259.length co21 : Value).ownBlock ∧ some k_ ≠ (.slice (some ad271) t265.length co25 : Value).ownBlock)) (Zq HO264.out) hg hat); replace HO267 := Aside0.mk (Kd.R_after (ok := (fun k_ => some k_ ≠ (.slice (some ad269) t259.length co21 : Value).ownBlock ∧ some k_ ≠ (.slice (some ad270) t262.length co24 : Value).ownBlock)) (Zq HO267.out) hg hat); replace BK268 := Aside0.mk (blk_grown (Zj BK268.out) hg (Kd.R_ne HO274.out BK268.out (by decide))); replace HB := Aside0.mk (hb); have HO283 := Aside0.mk (ho); clear HO274 ho hb hg hat))
           go_meet
           case rel => exact ⟨_, (y281), H', ⟨by first | omega | exact Nat.le_refl _⟩, ⟨Zr HO283.out⟩, ⟨by (with_reducible repeat (first | apply Kd.R_alloc | apply Kd.R_drewN | apply Kd.R_drew)); exact Kd.R_mono HO261.out (fun _ hk => ⟨hk.2, ⟨hk.1.1, hk.1.2⟩⟩)⟩, ⟨by (with_reducible repeat (first | apply Kd.R_alloc | apply Kd.R_drewN | apply Kd.R_drew)); exact Kd.R_mono HO264.out (fun _ hk => ⟨hk.2, ⟨hk.1.1, hk.1.2⟩⟩)⟩, ⟨by (with_reducible repeat (first | apply Kd.R_alloc | apply Kd.R_drewN | apply Kd.R_drew)); exact Kd.R_mono HO267.out (fun _ hk => ⟨hk.2, ⟨hk.1.1, hk.1.2⟩⟩)⟩, ⟨Zk BK257.out⟩, ⟨Zk BK268.out⟩, ⟨Zb2 GE257.out GE268.out⟩⟩
          ·rw [if_neg c33] at H
           exact absurd H (by simp)
         ·replace c31 := Bool.eq_false_iff.mpr c31
          subst c31
          have H1 : (effect_Print.j0 k y272 t276 t277 t278 t279 a0_0 a0_1 a0_2 a0_3 a0_4 a0_5 a0_6 a0_7) = some (r1, r2) := by rw [if_neg (show ¬ (false = true) by decide)] at H; exact H
          clear H
          have H := H1
          clear H1
          have H' := Aside0.mk H
          clear H
          go_wp2
          go_meet
          case rel => exact ⟨_, (y272), H', ⟨by first | omega | exact Nat.le_refl _⟩, ⟨by (with_reducible repeat (first | apply Kd.R_alloc | apply Kd.R_drewN | apply Kd.R_drew)); exact Kd.R_mono HO274.out (fun _ hk => ⟨hk.1.1.2, ⟨hk.1.2, hk.2⟩⟩)⟩, ⟨by (with_reducible repeat (first | apply Kd.R_alloc | apply Kd.R_drewN | apply Kd.R_drew)); exact Kd.R_mono HO261.out (fun _ hk => ⟨hk.2, ⟨hk.1.1, hk.1.2⟩⟩)⟩, ⟨by (with_reducible repeat (first | apply Kd.R_alloc | apply Kd.R_drewN | apply Kd.R_drew)); exact Kd.R_mono HO264.out (fun _ hk => ⟨hk.2, ⟨hk.1.1, hk.1.2⟩⟩)⟩, ⟨by (with_reducible repeat (first | apply Kd.R_alloc | apply Kd.R_drewN | apply Kd.R_drew)); exact Kd.R_mono HO267.out (fun _ hk => ⟨hk.2, ⟨hk.1.1, hk.1.2⟩⟩)⟩, ⟨Zk BK257.out⟩, ⟨Zk BK268.out⟩, ⟨Zb2 GE257.out GE268.out⟩⟩
        case rest =>
         clear HC15
         try clear c1
         try clear c2
         try clear p2
         try clear q2
         try clear hx2
         try clear c3
         try clear c3b0
         try clear c3b1
         try clear c5
         try clear c6
         try clear c6b0
         try clear c7
         try clear c7b0
         try clear c9
         try clear c9b0
         try clear c10
         try clear c10b0
         try clear c12
         try clear c12b0
         try clear c13
         try clear c13b0
         try clear c22
         try clear c23
         try clear c24
         try clear p26
         try clear q26
         try clear hx26
         try clear p27
         try clear q27
         try clear hx27
         try clear c31
         try clear c32
         try clear c33
         try clear c34
         try clear hcz17_0
         try clear hcz17_1
         try clear hcz17_2
         try clear hcz17_3
         try clear hcz17_4
         try clear hcz17_5
         try clear hcz17_6
         try clear hcz17_7
         try clear hcz23_0
         try clear hcz23_1
         try clear hcz23_2
         try clear hcz30_0
         try clear hcz30_1
         try clear hcz30_2
         try clear hcz30_3
         try clear hcz30_4
         try clear hcz30_5
         try clear hcz30_6
         try clear hcz30_7
         try clear hcz35_0
         try clear hcz35_1
         try clear hcz35_2
         try clear hcz35_3
         try clear hcz35_4
         try clear hcz35_5
         try clear hcz35_6
         try clear hcz35_7
         try clear hfz17_0
         try clear hfz17_1
         try clear hfz17_2
         try clear hfz17_3
         try clear hfz17_4
         try clear hfz17_5
         try clear hfz17_6
         try clear hfz17_7
         try clear hfz23_0
         try clear hfz23_1
         try clear hfz23_2
         try clear hfz30_0
         try clear hfz30_1
         try clear hfz30_2
         try clear hfz30_3
         try clear hfz30_4
         try clear hfz30_5
         try clear hfz30_6
         try clear hfz30_7
         try clear hfz35_0
         try clear hfz35_1
         try clear hfz35_2
         try clear hfz35_3
         try clear hfz35_4
         try clear hfz35_5
         try clear hfz35_6
         try clear hfz35_7
         try clear hx269_0
         try clear hx270_0
         try clear hx271_0
         try clear p269
         try clear p270
         try clear p271
         try clear q269
         try clear q270
         try clear q271
         obtain ⟨kq, x6_14, HA, HJ14, HO_6, HO_269000, HO_269001, HO_269002, BK257, BK268, HB⟩ := hcut
         cases kq with
         | zero => exact absurd HA.out (by simp [effect_Print.j0])
         | succ kj14 =>
          have H := HA.out
          clear HA
          simp only [effect_Print.j0] at H
          have HC38 := Aside0.mk H
          clear H
          go_upto_if 58 with (fail)
          go_cut [6] (fun v6 wc => ∃ (kq : Nat) (x6_37 : List ByteArray), Aside0 (effect_Print.j1 kq x6_37 t277 t278 t279 a0_0 a0_1 a0_2 a0_3 a0_4 a0_5 a0_6 a0_7 = some (r1, r2)) ∧ Aside0 (kq ≤ kj14) ∧ Aside0 (Kd.R Kd.string 9 wc w.heap.size (fun k_ => some k_ ≠ ((.slice (some ad269) t259.length co21) : Value).ownBlock ∧ some k_ ≠ ((.slice (some ad270) t262.length co24) : Value).ownBlock ∧ some k_ ≠ ((.slice (some ad271) t265.length co25) : Value).ownBlock) v6 x6_37) ∧ Aside0 (Kd.R Kd.string 9 wc w.heap.size (fun k_ => some k_ ≠ (v6 : Value).ownBlock ∧ some k_ ≠ ((.slice (some ad270) t262.length co24) : Value).ownBlock ∧ some k_ ≠ ((.slice (some ad271) t265.length co25) : Value).ownBlock) (.slice (some ad269) t259.length co21) t259) ∧ Aside0 (Kd.R Kd.string 9 wc w.heap.size (fun k_ => some k_ ≠ (v6 : Value).ownBlock ∧ some k_ ≠ ((.slice (some ad269) t259.length co21) : Value).ownBlock ∧ some k_ ≠ ((.slice (some ad271) t265.length co25) : Value).ownBlock) (.slice (some ad270) t262.length co24) t262) ∧ Aside0 (Kd.R Kd.string 9 wc w.heap.size (fun k_ => some k_ ≠ (v6 : Value).ownBlock ∧ some k_ ≠ ((.slice (some ad269) t259.length co21) : Value).ownBlock ∧ some k_ ≠ ((.slice (some ad270) t262.length co24) : Value).ownBlock) (.slice (some ad271) t265.length co25) t265) ∧ Aside0 (wc.heap[gb257]? = some (.cells #[.int .u8 a0_0, .int .u8 a0_1, .int .u8 a0_2, .int .i64 a0_3, .int .u8 a0_4, .int .u8 a0_5, .int .u8 a0_6, .string a0_7] 48 (0, 0))) ∧ Aside0 (wc.heap[gb268]? = some (.cells #[(.slice (some ad269) t259.length co21), (.slice (some ad270) t262.length co24), (.slice (some ad271) t265.length co25)] 74 (0, 0))) ∧ Aside0 (Below w.heap.size w wc))
          case first =>
           have H := HC38.out
           clear HC38
           by_cases c39 : t276 = true
           ·subst c39
            have H1 : ((suit_Name.f a0_4).bind fun t284 => (if x6_14.length < 8796093022208 then (effect_Print.j1 kj14 (x6_14 ++ [t284]) t277 t278 t279 a0_0 a0_1 a0_2 a0_3 a0_4 a0_5 a0_6 a0_7) else (none))) = some (r1, r2) := by rw [if_pos rfl] at H; exact H
            clear H
            have H := H1
            clear H1
            replace H := Option.bind_eq_some_iff.mp H
            obtain ⟨t284, A400, H⟩ := H
            replace H : (if x6_14.length < 8796093022208 then (effect_Print.j1 kj14 (x6_14 ++ [t284]) t277 t278 t279 a0_0 a0_1 a0_2 a0_3 a0_4 a0_5 a0_6 a0_7) else (none)) = some (r1, r2) := H
            have A40 := Aside0.mk A400
            clear A400
            by_cases c41 : x6_14.length < 8796093022208
            ·rw [if_pos c41] at H
             have LMc41 := Aside0.mk c41
             clear c41
             obtain ⟨y285, hy285⟩ : ∃ y_ : List ByteArray, y_ = (x6_14 ++ [t284]) := ⟨_, rfl⟩
             replace H : (effect_Print.j1 kj14 y285 t277 t278 t279 a0_0 a0_1 a0_2 a0_3 a0_4 a0_5 a0_6 a0_7) = some (r1, r2) := by first | (rw [hy285]; with_reducible exact H) | (have H2_ := (Option.bind_some _ _).symm.trans H; rw [hy285]; with_reducible exact H2_) | (have H2_ := (Option.bind_some _ _).symm.trans H; with_reducible exact H2_) | with_reducible exact H | (rw [hy285]; exact H) | exact H
             have Ny285 := Aside0.mk hy285
             clear hy285
             have H' := Aside0.mk H
             clear H
             have hnb42 := NB257_268.out
             have hnc42 := NB268_257.out
             obtain ⟨hcz43_0, hcz43_1, hcz43_2, hcz43_3, hcz43_4, hcz43_5, hcz43_6, hcz43_7, hfz43_0, hfz43_1, hfz43_2, hfz43_3, hfz43_4, hfz43_5, hfz43_6, hfz43_7⟩ := Z8 BK257.out
             go_wp2_with (first | ((with_reducible refine gate_callee (f := 30) rfl ?_); refine goesL_ (some 62) rfl rfl Tryz.func30 (by kernel_rfl) rfl #[.int .u8 a0_4] rfl Zl ?_; (with_reducible refine (suit_Name.calls a0_4 t284 _ A40.out).mono ?_); rintro e w' ⟨rfl, ⟨nd, rfl⟩⟩; refine ⟨_, rfl, ?_⟩) | ((with_reducible refine gate_builtin (b := .append) (xs := #[.tmp 59, .tmp 63]) rfl ?_); at_builtin; refine Kd.R_append Kd.string (w0 := w) w.heap.size rfl (.tmp 59) (.tmp 63) 63 9 (.string ⟨#[]⟩) 16 rfl Tryz.underlying63 info9 rfl (by decide) (by omega) u6 x6_14 t284 [.string t284] (fun k_ => some k_ ≠ (.slice (some ad269) t259.length co21 : Value).ownBlock ∧ some k_ ≠ (.slice (some ad270) t262.length co24 : Value).ownBlock ∧ some k_ ≠ (.slice (some ad271) t265.length co25 : Value).ownBlock) (fun _ => False) rfl rfl ?aP (fun _ hk => hk.elim) ?aF ?aO ?aB ?aS ?aL ?_; (case aP => exact rfl); (case aB => exact (Zb2 GE257.out GE268.out)); (case aF => exact (fun k_ hk => ⟨Kd.fresh' (Kd.R_lt (Zr HO_269000.out)) k_ hk, Kd.fresh' (Kd.R_lt (Zr HO_269001.out)) k_ hk, Kd.fresh' (Kd.R_lt (Zr HO_269002.out)) k_ hk⟩)); (case aO => exact (Zr HO_6.out)); (case aS => exact (below_size (Zb2 GE257.out GE268.out))); (case aL => have := LMc41.out; omega); intro v286 w44 ho hb hg hat; rw [← Ny285.out] at ho; replace HO_269000 := Aside0.mk (Kd.R_after (ok := (fun k_ => some k_ ≠ (.slice (some ad270) t262.length co24 : Value).ownBlock ∧ some k_ ≠ (.slice (some ad271) t265.length co25 : Value).ownBlock)) (by (with_reducible repeat (first | apply Kd.R_alloc | apply Kd.R_drewN | apply Kd.R_drew)); exact Kd.R_mono HO_269000.out (fun _ hk => ⟨⟨hk.2.1, hk.2.2⟩, hk.1⟩)) hg hat); replace HO_269001 := Aside0.mk (Kd.R_after (ok := (fun k_ => some k_ ≠ (.slice (some ad269) t259.length co21 : Value).ownBlock ∧ some k_ ≠ (.slice (some ad271) t265.length co25 : Value).ownBlock)) (by (with_reducible repeat (first | apply Kd.R_alloc | apply Kd.R_drewN | apply Kd.R_drew)); exact Kd.R_mono HO_269001.out (fun _ hk => ⟨⟨hk.2.1, hk.2.2⟩, hk.1⟩)) hg hat); replace HO_269002 := Aside0.mk (Kd.R_after (ok := (fun k_ => some k_ ≠ (.slice (some ad269) t259.length co21 : Value).ownBlock ∧ some k_ ≠ (.slice (some ad270) t262.length co24 : Value).ownBlock)) (by (with_reducible repeat (first | apply Kd.R_alloc | apply Kd.R_drewN | apply Kd.R_drew)); exact Kd.R_mono HO_269002.out (fun _ hk => ⟨⟨hk.2.1, hk.2.2⟩, hk.1⟩)) hg hat); replace BK257 := Aside0.mk (blk_grown (Zj BK257.out) hg (Kd.R_ne HO_6.out BK257.out (by decide))); replace BK268 := Aside0.mk (blk_grown (Zj BK268.out) hg (Kd.R_ne HO_6.out BK268.out (by decide))); replace HB := Aside0.mk (hb); have HO287 := Aside0.mk (ho); clear HO_6 ho hb hg hat))
             go_meet
             case rel => exact ⟨_, (y285), H', ⟨by have := HJ14.out; first | omega | exact Nat.le_refl _⟩, ⟨Zr HO287.out⟩, ⟨by (with_reducible repeat (first | apply Kd.R_alloc | apply Kd.R_drewN | apply Kd.R_drew)); exact Kd.R_mono HO_269000.out (fun _ hk => ⟨hk.2, ⟨hk.1.1, hk.1.2⟩⟩)⟩, ⟨by (with_reducible repeat (first | apply Kd.R_alloc | apply Kd.R_drewN | apply Kd.R_drew)); exact Kd.R_mono HO_269001.out (fun _ hk => ⟨hk.2, ⟨hk.1.1, hk.1.2⟩⟩)⟩, ⟨by (with_reducible repeat (first | apply Kd.R_alloc | apply Kd.R_drewN | apply Kd.R_drew)); exact Kd.R_mono HO_269002.out (fun _ hk => ⟨hk.2, ⟨hk.1.1, hk.1.2⟩⟩)⟩, ⟨Zk BK257.out⟩, ⟨Zk BK268.out⟩, ⟨Zb2 GE257.out GE268.out⟩⟩
            ·rw [if_neg c41] at H
             exact absurd H (by simp)
           ·replace c39 := Bool.eq_false_iff.mpr c39
            subst c39
            have H1 : (effect_Print.j1 kj14 x6_14 t277 t278 t279 a0_0 a0_1 a0_2 a0_3 a0_4 a0_5 a0_6 a0_7) = some (r1, r2) := by rw [if_neg (show ¬ (false = true) by decide)] at H; exact H
            clear H
            have H := H1
            clear H1
            have H' := Aside0.mk H
            clear H
            go_wp2
            go_meet
            case rel => exact ⟨_, (x6_14), H', ⟨by have := HJ14.out; first | omega | exact Nat.le_refl _⟩, ⟨Zr HO_6.out⟩, ⟨Zr HO_269000.out⟩, ⟨Zr HO_269001.out⟩, ⟨Zr HO_269002.out⟩, ⟨Zk BK257.out⟩, ⟨Zk BK268.out⟩, ⟨Zb2 GE257.out GE268.out⟩⟩
          case rest =>
           clear HC38
           try clear c1
           try clear c2
           try clear p2
           try clear q2
           try clear hx2
           try clear c3
           try clear c3b0
           try clear c3b1
           try clear c4
           try clear c5
           try clear c6
           try clear c6b0
           try clear c7
           try clear c7b0
           try clear c9
           try clear c9b0
           try clear c10
           try clear c10b0
           try clear c12
           try clear c12b0
           try clear c13
           try clear c13b0
           try clear c22
           try clear c23
           try clear c24
           try clear p26
           try clear q26
           try clear hx26
           try clear p27
           try clear q27
           try clear hx27
           try clear c30
           try clear c31
           try clear c32
           try clear c33
           try clear c34
           try clear c39
           try clear c41
           try clear c42
           try clear hcz17_0
           try clear hcz17_1
           try clear hcz17_2
           try clear hcz17_3
           try clear hcz17_4
           try clear hcz17_5
           try clear hcz17_6
           try clear hcz17_7
           try clear hcz23_0
           try clear hcz23_1
           try clear hcz23_2
           try clear hcz30_0
           try clear hcz30_1
           try clear hcz30_2
           try clear hcz30_3
           try clear hcz30_4
           try clear hcz30_5
           try clear hcz30_6
           try clear hcz30_7
           try clear hcz35_0
           try clear hcz35_1
           try clear hcz35_2
           try clear hcz35_3
           try clear hcz35_4
           try clear hcz35_5
           try clear hcz35_6
           try clear hcz35_7
           try clear hcz43_0
           try clear hcz43_1
           try clear hcz43_2
           try clear hcz43_3
           try clear hcz43_4
           try clear hcz43_5
           try clear hcz43_6
           try clear hcz43_7
           try clear hfz17_0
           try clear hfz17_1
           try clear hfz17_2
           try clear hfz17_3
           try clear hfz17_4
           try clear hfz17_5
           try clear hfz17_6
           try clear hfz17_7
           try clear hfz23_0
           try clear hfz23_1
           try clear hfz23_2
           try clear hfz30_0
           try clear hfz30_1
           try clear hfz30_2
           try clear hfz30_3
           try clear hfz30_4
           try clear hfz30_5
           try clear hfz30_6
           try clear hfz30_7
           try clear hfz35_0
           try clear hfz35_1
           try clear hfz35_2
           try clear hfz35_3
           try clear hfz35_4
           try clear hfz35_5
           try clear hfz35_6
           try clear hfz35_7
           try clear hfz43_0
           try clear hfz43_1
           try clear hfz43_2
           try clear hfz43_3
           try clear hfz43_4
           try clear hfz43_5
           try clear hfz43_6
           try clear hfz43_7
           try clear hx269_0
           try clear hx270_0
           try clear hx271_0
           try clear p2
           try clear p26
           try clear p269
           try clear p27
           try clear p270
           try clear p271
           try clear q2
           try clear q26
           try clear q269
           try clear q27
           try clear q270
           try clear q271
           obtain ⟨kq, x6_37, HA, HJ37, HO_6, HO_269000, HO_269001, HO_269002, BK257, BK268, HB⟩ := hcut
           cases kq with
           | zero => exact absurd HA.out (by simp [effect_Print.j1])
           | succ kj37 =>
            have H := HA.out
            clear HA
            simp only [effect_Print.j1] at H
            have HC45 := Aside0.mk H
            clear H
            go_upto_if 65 with (fail)
            go_cut [6] (fun v6 wc => ∃ (kq : Nat) (x6_44 : List ByteArray), Aside0 (effect_Print.j2 kq x6_44 t278 t279 a0_0 a0_1 a0_2 a0_3 a0_4 a0_5 a0_6 a0_7 = some (r1, r2)) ∧ Aside0 (kq ≤ kj37) ∧ Aside0 (Kd.R Kd.string 9 wc w.heap.size (fun k_ => some k_ ≠ ((.slice (some ad269) t259.length co21) : Value).ownBlock ∧ some k_ ≠ ((.slice (some ad270) t262.length co24) : Value).ownBlock ∧ some k_ ≠ ((.slice (some ad271) t265.length co25) : Value).ownBlock) v6 x6_44) ∧ Aside0 (Kd.R Kd.string 9 wc w.heap.size (fun k_ => some k_ ≠ (v6 : Value).ownBlock ∧ some k_ ≠ ((.slice (some ad270) t262.length co24) : Value).ownBlock ∧ some k_ ≠ ((.slice (some ad271) t265.length co25) : Value).ownBlock) (.slice (some ad269) t259.length co21) t259) ∧ Aside0 (Kd.R Kd.string 9 wc w.heap.size (fun k_ => some k_ ≠ (v6 : Value).ownBlock ∧ some k_ ≠ ((.slice (some ad269) t259.length co21) : Value).ownBlock ∧ some k_ ≠ ((.slice (some ad271) t265.length co25) : Value).ownBlock) (.slice (some ad270) t262.length co24) t262) ∧ Aside0 (Kd.R Kd.string 9 wc w.heap.size (fun k_ => some k_ ≠ (v6 : Value).ownBlock ∧ some k_ ≠ ((.slice (some ad269) t259.length co21) : Value).ownBlock ∧ some k_ ≠ ((.slice (some ad270) t262.length co24) : Value).ownBlock) (.slice (some ad271) t265.length co25) t265) ∧ Aside0 (wc.heap[gb257]? = some (.cells #[.int .u8 a0_0, .int .u8 a0_1, .int .u8 a0_2, .int .i64 a0_3, .int .u8 a0_4, .int .u8 a0_5, .int .u8 a0_6, .string a0_7] 48 (0, 0))) ∧ Aside0 (wc.heap[gb268]? = some (.cells #[(.slice (some ad269) t259.length co21), (.slice (some ad270) t262.length co24), (.slice (some ad271) t265.length co25)] 74 (0, 0))) ∧ Aside0 (Below w.heap.size w wc))
            case first =>
             have H := HC45.out
             clear HC45
             by_cases c46 : t277 = true
             ·subst c46
              have H1 : ((trait_Name.f a0_5).bind fun t288 => (if x6_37.length < 8796093022208 then (effect_Print.j2 kj37 (x6_37 ++ [t288]) t278 t279 a0_0 a0_1 a0_2 a0_3 a0_4 a0_5 a0_6 a0_7) else (none))) = some (r1, r2) := by rw [if_pos rfl] at H; exact H
              clear H
              have H := H1
              clear H1
              replace H := Option.bind_eq_some_iff.mp H
              obtain ⟨t288, A470, H⟩ := H
              replace H : (if x6_37.length < 8796093022208 then (effect_Print.j2 kj37 (x6_37 ++ [t288]) t278 t279 a0_0 a0_1 a0_2 a0_3 a0_4 a0_5 a0_6 a0_7) else (none)) = some (r1, r2) := H
              have A47 := Aside0.mk A470
              clear A470
              by_cases c48 : x6_37.length < 8796093022208
              ·rw [if_pos c48] at H
               have LMc48 := Aside0.mk c48
               clear c48
               obtain ⟨y289, hy289⟩ : ∃ y_ : List ByteArray, y_ = (x6_37 ++ [t288]) := ⟨_, rfl⟩
               replace H : (effect_Print.j2 kj37 y289 t278 t279 a0_0 a0_1 a0_2 a0_3 a0_4 a0_5 a0_6 a0_7) = some (r1, r2) := by first | (rw [hy289]; with_reducible exact H) | (have H2_ := (Option.bind_some _ _).symm.trans H; rw [hy289]; with_reducible exact H2_) | (have H2_ := (Option.bind_some _ _).symm.trans H; with_reducible exact H2_) | with_reducible exact H | (rw [hy289]; exact H) | exact H
               have Ny289 := Aside0.mk hy289
               clear hy289
               have H' := Aside0.mk H
               clear H
               have hnb49 := NB257_268.out
               have hnc49 := NB268_257.out
               obtain ⟨hcz50_0, hcz50_1, hcz50_2, hcz50_3, hcz50_4, hcz50_5, hcz50_6, hcz50_7, hfz50_0, hfz50_1, hfz50_2, hfz50_3, hfz50_4, hfz50_5, hfz50_6, hfz50_7⟩ := Z8 BK257.out
               go_wp2_with (first | ((with_reducible refine gate_callee (f := 34) rfl ?_); refine goesL_ (some 69) rfl rfl Tryz.func34 (by kernel_rfl) rfl #[.int .u8 a0_5] rfl Zl ?_; (with_reducible refine (trait_Name.calls a0_5 t288 _ ?side1 A47.out).mono ?_); (case side1 => first | (with_reducible exact HGP.out) | exact GP_below HGP.out (Zb2 GE257.out GE268.out)); rintro e w' ⟨rfl, ⟨nd, rfl⟩⟩; refine ⟨_, rfl, ?_⟩) | ((with_reducible refine gate_builtin (b := .append) (xs := #[.tmp 66, .tmp 70]) rfl ?_); at_builtin; refine Kd.R_append Kd.string (w0 := w) w.heap.size rfl (.tmp 66) (.tmp 70) 63 9 (.string ⟨#[]⟩) 16 rfl Tryz.underlying63 info9 rfl (by decide) (by omega) u6 x6_37 t288 [.string t288] (fun k_ => some k_ ≠ (.slice (some ad269) t259.length co21 : Value).ownBlock ∧ some k_ ≠ (.slice (some ad270) t262.length co24 : Value).ownBlock ∧ some k_ ≠ (.slice (some ad271) t265.length co25 : Value).ownBlock) (fun _ => False) rfl rfl ?aP (fun _ hk => hk.elim) ?aF ?aO ?aB ?aS ?aL ?_; (case aP => exact rfl); (case aB => exact (Zb2 GE257.out GE268.out)); (case aF => exact (fun k_ hk => ⟨Kd.fresh' (Kd.R_lt (Zr HO_269000.out)) k_ hk, Kd.fresh' (Kd.R_lt (Zr HO_269001.out)) k_ hk, Kd.fresh' (Kd.R_lt (Zr HO_269002.out)) k_ hk⟩)); (case aO => exact (Zr HO_6.out)); (case aS => exact (below_size (Zb2 GE257.out GE268.out))); (case aL => have := LMc48.out; omega); intro v290 w51 ho hb hg hat; rw [← Ny289.out] at ho; replace HO_269000 := Aside0.mk (Kd.R_after (ok := (fun k_ => some k_ ≠ (.slice (some ad270) t262.length co24 : Value).ownBlock ∧ some k_ ≠ (.slice (some ad271) t265.length co25 : Value).ownBlock)) (by (with_reducible repeat (first | apply Kd.R_alloc | apply Kd.R_drewN | apply Kd.R_drew)); exact Kd.R_mono HO_269000.out (fun _ hk => ⟨⟨hk.2.1, hk.2.2⟩, hk.1⟩)) hg hat); replace HO_269001 := Aside0.mk (Kd.R_after (ok := (fun k_ => some k_ ≠ (.slice (some ad269) t259.length co21 : Value).ownBlock ∧ some k_ ≠ (.slice (some ad271) t265.length co25 : Value).ownBlock)) (by (with_reducible repeat (first | apply Kd.R_alloc | apply Kd.R_drewN | apply Kd.R_drew)); exact Kd.R_mono HO_269001.out (fun _ hk => ⟨⟨hk.2.1, hk.2.2⟩, hk.1⟩)) hg hat); replace HO_269002 := Aside0.mk (Kd.R_after (ok := (fun k_ => some k_ ≠ (.slice (some ad269) t259.length co21 : Value).ownBlock ∧ some k_ ≠ (.slice (some ad270) t262.length co24 : Value).ownBlock)) (by (with_reducible repeat (first | apply Kd.R_alloc | apply Kd.R_drewN | apply Kd.R_drew)); exact Kd.R_mono HO_269002.out (fun _ hk => ⟨⟨hk.2.1, hk.2.2⟩, hk.1⟩)) hg hat); replace BK257 := Aside0.mk (blk_grown (Zj BK257.out) hg (Kd.R_ne HO_6.out BK257.out (by decide))); replace BK268 := Aside0.mk (blk_grown (Zj BK268.out) hg (Kd.R_ne HO_6.out BK268.out (by decide))); replace HB := Aside0.mk (hb); have HO291 := Aside0.mk (ho); clear HO_6 ho hb hg hat))
               go_meet
               case rel => exact ⟨_, (y289), H', ⟨by have := HJ14.out; have := HJ37.out; first | omega | exact Nat.le_refl _⟩, ⟨Zr HO291.out⟩, ⟨by (with_reducible repeat (first | apply Kd.R_alloc | apply Kd.R_drewN | apply Kd.R_drew)); exact Kd.R_mono HO_269000.out (fun _ hk => ⟨hk.2, ⟨hk.1.1, hk.1.2⟩⟩)⟩, ⟨by (with_reducible repeat (first | apply Kd.R_alloc | apply Kd.R_drewN | apply Kd.R_drew)); exact Kd.R_mono HO_269001.out (fun _ hk => ⟨hk.2, ⟨hk.1.1, hk.1.2⟩⟩)⟩, ⟨by (with_reducible repeat (first | apply Kd.R_alloc | apply Kd.R_drewN | apply Kd.R_drew)); exact Kd.R_mono HO_269002.out (fun _ hk => ⟨hk.2, ⟨hk.1.1, hk.1.2⟩⟩)⟩, ⟨Zk BK257.out⟩, ⟨Zk BK268.out⟩, ⟨Zb2 GE257.out GE268.out⟩⟩
              ·rw [if_neg c48] at H
               exact absurd H (by simp)
             ·replace c46 := Bool.eq_false_iff.mpr c46
              subst c46
              have H1 : (effect_Print.j2 kj37 x6_37 t278 t279 a0_0 a0_1 a0_2 a0_3 a0_4 a0_5 a0_6 a0_7) = some (r1, r2) := by rw [if_neg (show ¬ (false = true) by decide)] at H; exact H
              clear H
              have H := H1
              clear H1
              have H' := Aside0.mk H
              clear H
              go_wp2
              go_meet
              case rel => exact ⟨_, (x6_37), H', ⟨by have := HJ14.out; have := HJ37.out; first | omega | exact Nat.le_refl _⟩, ⟨Zr HO_6.out⟩, ⟨Zr HO_269000.out⟩, ⟨Zr HO_269001.out⟩, ⟨Zr HO_269002.out⟩, ⟨Zk BK257.out⟩, ⟨Zk BK268.out⟩, ⟨Zb2 GE257.out GE268.out⟩⟩
            case rest =>
             clear HC45
             try clear c1
             try clear c2
             try clear p2
             try clear q2
             try clear hx2
             try clear c3
             try clear c3b0
             try clear c3b1
             try clear c4
             try clear c5
             try clear c6
             try clear c6b0
             try clear c7
             try clear c7b0
             try clear c9
             try clear c9b0
             try clear c10
             try clear c10b0
             try clear c12
             try clear c12b0
             try clear c13
             try clear c13b0
             try clear c22
             try clear c23
             try clear c24
             try clear p26
             try clear q26
             try clear hx26
             try clear p27
             try clear q27
             try clear hx27
             try clear c30
             try clear c31
             try clear c32
             try clear c33
             try clear c34
             try clear c39
             try clear c41
             try clear c42
             try clear c46
             try clear c48
             try clear c49
             try clear hcz17_0
             try clear hcz17_1
             try clear hcz17_2
             try clear hcz17_3
             try clear hcz17_4
             try clear hcz17_5
             try clear hcz17_6
             try clear hcz17_7
             try clear hcz23_0
             try clear hcz23_1
             try clear hcz23_2
             try clear hcz30_0
             try clear hcz30_1
             try clear hcz30_2
             try clear hcz30_3
             try clear hcz30_4
             try clear hcz30_5
             try clear hcz30_6
             try clear hcz30_7
             try clear hcz35_0
             try clear hcz35_1
             try clear hcz35_2
             try clear hcz35_3
             try clear hcz35_4
             try clear hcz35_5
             try clear hcz35_6
             try clear hcz35_7
             try clear hcz43_0
             try clear hcz43_1
             try clear hcz43_2
             try clear hcz43_3
             try clear hcz43_4
             try clear hcz43_5
             try clear hcz43_6
             try clear hcz43_7
             try clear hcz50_0
             try clear hcz50_1
             try clear hcz50_2
             try clear hcz50_3
             try clear hcz50_4
             try clear hcz50_5
             try clear hcz50_6
             try clear hcz50_7
             try clear hfz17_0
             try clear hfz17_1
             try clear hfz17_2
             try clear hfz17_3
             try clear hfz17_4
             try clear hfz17_5
             try clear hfz17_6
             try clear hfz17_7
             try clear hfz23_0
             try clear hfz23_1
             try clear hfz23_2
             try clear hfz30_0
             try clear hfz30_1
             try clear hfz30_2
             try clear hfz30_3
             try clear hfz30_4
             try clear hfz30_5
             try clear hfz30_6
             try clear hfz30_7
             try clear hfz35_0
             try clear hfz35_1
             try clear hfz35_2
             try clear hfz35_3
             try clear hfz35_4
             try clear hfz35_5
             try clear hfz35_6
             try clear hfz35_7
             try clear hfz43_0
             try clear hfz43_1
             try clear hfz43_2
             try clear hfz43_3
             try clear hfz43_4
             try clear hfz43_5
             try clear hfz43_6
             try clear hfz43_7
             try clear hfz50_0
             try clear hfz50_1
             try clear hfz50_2
             try clear hfz50_3
             try clear hfz50_4
             try clear hfz50_5
             try clear hfz50_6
             try clear hfz50_7
             try clear hx269_0
             try clear hx270_0
             try clear hx271_0
             try clear p2
             try clear p26
             try clear p269
             try clear p27
             try clear p270
             try clear p271
             try clear q2
             try clear q26
             try clear q269
             try clear q27
             try clear q270
             try clear q271
             obtain ⟨kq, x6_44, HA, HJ44, HO_6, HO_269000, HO_269001, HO_269002, BK257, BK268, HB⟩ := hcut
             cases kq with
             | zero => exact absurd HA.out (by simp [effect_Print.j2])
             | succ kj44 =>
              have H := HA.out
              clear HA
              simp only [effect_Print.j2] at H
              by_cases c52 : t278 = true
              ·subst c52
               have H1 : ((strconv_Itoa.f (wrap64 (a0_6))).bind fun t292 => (if x6_44.length < 8796093022208 then ((some (x6_44 ++ [t292] : List ByteArray)).bind fun y293 => (if t279 = true then (if y293.length < 8796093022208 then ((strings_Join.f (y293 ++ [a0_7]) (⟨#[32]⟩ : ByteArray)).bind fun t299 => (some (t299, 0))) else (none)) else ((strings_Join.f y293 (⟨#[32]⟩ : ByteArray)).bind fun t300 => (some (t300, 0))))) else (none))) = some (r1, r2) := by rw [if_pos rfl] at H; exact H
               clear H
               have H := H1
               clear H1
               replace H := Option.bind_eq_some_iff.mp H
               obtain ⟨t292, A530, H⟩ := H
               replace H : (if x6_44.length < 8796093022208 then ((some (x6_44 ++ [t292] : List ByteArray)).bind fun y293 => (if t279 = true then (if y293.length < 8796093022208 then ((strings_Join.f (y293 ++ [a0_7]) (⟨#[32]⟩ : ByteArray)).bind fun t299 => (some (t299, 0))) else (none)) else ((strings_Join.f y293 (⟨#[32]⟩ : ByteArray)).bind fun t300 => (some (t300, 0))))) else (none)) = some (r1, r2) := H
               have A53 := Aside0.mk A530
               clear A530
               by_cases c54 : x6_44.length < 8796093022208
               ·rw [if_pos c54] at H
                have LMc54 := Aside0.mk c54
                clear c54
                obtain ⟨y293, hy293⟩ : ∃ y_ : List ByteArray, y_ = (x6_44 ++ [t292]) := ⟨_, rfl⟩
                replace H : (if t279 = true then (if y293.length < 8796093022208 then ((strings_Join.f (y293 ++ [a0_7]) (⟨#[32]⟩ : ByteArray)).bind fun t299 => (some (t299, 0))) else (none)) else ((strings_Join.f y293 (⟨#[32]⟩ : ByteArray)).bind fun t300 => (some (t300, 0)))) = some (r1, r2) := by first | (rw [hy293]; with_reducible exact H) | (have H2_ := (Option.bind_some _ _).symm.trans H; rw [hy293]; with_reducible exact H2_) | (have H2_ := (Option.bind_some _ _).symm.trans H; with_reducible exact H2_) | with_reducible exact H | (rw [hy293]; exact H) | exact H
                have Ny293 := Aside0.mk hy293
                clear hy293
                by_cases c55 : t279 = true
                ·subst c55
                 have H1 : (if y293.length < 8796093022208 then ((strings_Join.f (y293 ++ [a0_7]) (⟨#[32]⟩ : ByteArray)).bind fun t299 => (some (t299, 0))) else (none)) = some (r1, r2) := by rw [if_pos rfl] at H; exact H
                 clear H
                 have H := H1
                 clear H1
                 by_cases c56 : y293.length < 8796093022208
                 ·rw [if_pos c56] at H
                  have LMc56 := Aside0.mk c56
                  clear c56
                  obtain ⟨y296, hy296⟩ : ∃ y_ : List ByteArray, y_ = (y293 ++ [a0_7]) := ⟨_, rfl⟩
                  replace H : ((strings_Join.f y296 (⟨#[32]⟩ : ByteArray)).bind fun t299 => (some (t299, 0))) = some (r1, r2) := by first | (rw [hy296]; with_reducible exact H) | (have H2_ := (Option.bind_some _ _).symm.trans H; rw [hy296]; with_reducible exact H2_) | (have H2_ := (Option.bind_some _ _).symm.trans H; with_reducible exact H2_) | with_reducible exact H | (rw [hy296]; exact H) | exact H
                  have Ny296 := Aside0.mk hy296
                  clear hy296
                  replace H := Option.bind_eq_some_iff.mp H
                  obtain ⟨t299, A570, H⟩ := H
                  replace H : (some (t299, 0)) = some (r1, r2) := H
                  have A57 := Aside0.mk A570
                  clear A570
                  simp only [Option.some.injEq, Prod.mk.injEq] at H
                  obtain ⟨rfl, rfl⟩ := H
                  have hnb58 := NB257_268.out
                  have hnc58 := NB268_257.out
                  obtain ⟨hcz59_0, hcz59_1, hcz59_2, hcz59_3, hcz59_4, hcz59_5, hcz59_6, hcz59_7, hfz59_0, hfz59_1, hfz59_2, hfz59_3, hfz59_4, hfz59_5, hfz59_6, hfz59_7⟩ := Z8 BK257.out
                  go_wp2_with (first | ((with_reducible refine gate_callee (f := 32) rfl ?_); refine goesL_ (some 77) rfl rfl Tryz.func32 (by kernel_rfl) rfl #[.int .i64 (wrap64 (a0_6))] rfl Zl ?_; (with_reducible refine (strconv_Itoa.calls (wrap64 (a0_6)) t292 _ ?side1 A53.out).mono ?_); (case side1 => first | (with_reducible exact HGP.out) | exact GP_below HGP.out (Zb2 GE257.out GE268.out)); rintro e w60 ⟨rfl, hb⟩; refine ⟨_, rfl, ?_⟩; replace HO_6 := Aside0.mk (Kd.R_below (Zr HO_6.out) hb); replace HO_269000 := Aside0.mk (Kd.R_below (Zr HO_269000.out) hb); replace HO_269001 := Aside0.mk (Kd.R_below (Zr HO_269001.out) hb); replace HO_269002 := Aside0.mk (Kd.R_below (Zr HO_269002.out) hb); replace BK257 := Aside0.mk (blk_below (Zj BK257.out) hb); replace BK268 := Aside0.mk (blk_below (Zj BK268.out) hb); replace HB := Aside0.mk (below_step (Zb2 GE257.out GE268.out) hb); (try clear hb); (try clear hb2); (try clear hk); (try clear hi)) | ((with_reducible refine gate_builtin (b := .append) (xs := #[.tmp 73, .tmp 78]) rfl ?_); at_builtin; refine Kd.R_append Kd.string (w0 := w) w.heap.size rfl (.tmp 73) (.tmp 78) 63 9 (.string ⟨#[]⟩) 16 rfl Tryz.underlying63 info9 rfl (by decide) (by omega) u6 x6_44 t292 [.string t292] (fun k_ => some k_ ≠ (.slice (some ad269) t259.length co21 : Value).ownBlock ∧ some k_ ≠ (.slice (some ad270) t262.length co24 : Value).ownBlock ∧ some k_ ≠ (.slice (some ad271) t265.length co25 : Value).ownBlock) (fun _ => False) rfl rfl ?aP (fun _ hk => hk.elim) ?aF ?aO ?aB ?aS ?aL ?_; (case aP => exact rfl); (case aB => exact (Zb2 GE257.out GE268.out)); (case aF => exact (fun k_ hk => ⟨Kd.fresh' (Kd.R_lt (Zr HO_269000.out)) k_ hk, Kd.fresh' (Kd.R_lt (Zr HO_269001.out)) k_ hk, Kd.fresh' (Kd.R_lt (Zr HO_269002.out)) k_ hk⟩)); (case aO => exact (Zr HO_6.out)); (case aS => exact (below_size (Zb2 GE257.out GE268.out))); (case aL => have := LMc54.out; omega); intro v294 w61 ho hb hg hat; rw [← Ny293.out] at ho; replace HO_269000 := Aside0.mk (Kd.R_after (ok := (fun k_ => some k_ ≠ (.slice (some ad270) t262.length co24 : Value).ownBlock ∧ some k_ ≠ (.slice (some ad271) t265.length co25 : Value).ownBlock)) (by (with_reducible repeat (first | apply Kd.R_alloc | apply Kd.R_drewN | apply Kd.R_drew)); exact Kd.R_mono HO_269000.out (fun _ hk => ⟨⟨hk.2.1, hk.2.2⟩, hk.1⟩)) hg hat); replace HO_269001 := Aside0.mk (Kd.R_after (ok := (fun k_ => some k_ ≠ (.slice (some ad269) t259.length co21 : Value).ownBlock ∧ some k_ ≠ (.slice (some ad271) t265.length co25 : Value).ownBlock)) (by (with_reducible repeat (first | apply Kd.R_alloc | apply Kd.R_drewN | apply Kd.R_drew)); exact Kd.R_mono HO_269001.out (fun _ hk => ⟨⟨hk.2.1, hk.2.2⟩, hk.1⟩)) hg hat); replace HO_269002 := Aside0.mk (Kd.R_after (ok := (fun k_ => some k_ ≠ (.slice (some ad269) t259.length co21 : Value).ownBlock ∧ some k_ ≠ (.slice (some ad270) t262.length co24 : Value).ownBlock)) (by (with_reducible repeat (first | apply Kd.R_alloc | apply Kd.R_drewN | apply Kd.R_drew)); exact Kd.R_mono HO_269002.out (fun _ hk => ⟨⟨hk.2.1, hk.2.2⟩, hk.1⟩)) hg hat); replace BK257 := Aside0.mk (blk_grown (Zj BK257.out) hg (Kd.R_ne HO_6.out BK257.out (by decide))); replace BK268 := Aside0.mk (blk_grown (Zj BK268.out) hg (Kd.R_ne HO_6.out BK268.out (by decide))); replace HB := Aside0.mk (hb); have HO295 := Aside0.mk (ho); clear HO_6 ho hb hg hat; obtain ⟨hcz62_0, hcz62_1, hcz62_2, hcz62_3, hcz62_4, hcz62_5, hcz62_6, hcz62_7, hfz62_0, hfz62_1, hfz62_2, hfz62_3, hfz62_4, hfz62_5, hfz62_6, hfz62_7⟩ := Z8 BK257.out) | ((with_reducible refine gate_builtin (b := .append) (xs := #[.tmp 81, .tmp 84]) rfl ?_); at_builtin; refine Kd.R_append Kd.string (w0 := w) w.heap.size rfl (.tmp 81) (.tmp 84) 63 9 (.string ⟨#[]⟩) 16 rfl Tryz.underlying63 info9 rfl (by decide) (by omega) v294 y293 a0_7 [.string a0_7] (fun k_ => some k_ ≠ (.slice (some ad269) t259.length co21 : Value).ownBlock ∧ some k_ ≠ (.slice (some ad270) t262.length co24 : Value).ownBlock ∧ some k_ ≠ (.slice (some ad271) t265.length co25 : Value).ownBlock) (fun _ => False) rfl rfl ?aP (fun _ hk => hk.elim) ?aF ?aO ?aB ?aS ?aL ?_; (case aP => exact rfl); (case aB => exact (Zb2 GE257.out GE268.out)); (case aF => exact (fun k_ hk => ⟨Kd.fresh' (Kd.R_lt (Zr HO_269000.out)) k_ hk, Kd.fresh' (Kd.R_lt (Zr HO_269001.out)) k_ hk, Kd.fresh' (Kd.R_lt (Zr HO_269002.out)) k_ hk⟩)); (case aO => exact (Zq HO295.out)); (case aS => exact (below_size (Zb2 GE257.out GE268.out))); (case aL => have := LMc56.out; omega); intro v297 w63 ho hb hg hat; rw [← Ny296.out] at ho; replace HO_269000 := Aside0.mk (Kd.R_after (ok := (fun k_ => some k_ ≠ (.slice (some ad270) t262.length co24 : Value).ownBlock ∧ some k_ ≠ (.slice (some ad271) t265.length co25 : Value).ownBlock)) (Zr HO_269000.out) hg hat); replace HO_269001 := Aside0.mk (Kd.R_after (ok := (fun k_ => some k_ ≠ (.slice (some ad269) t259.length co21 : Value).ownBlock ∧ some k_ ≠ (.slice (some ad271) t265.length co25 : Value).ownBlock)) (Zr HO_269001.out) hg hat); replace HO_269002 := Aside0.mk (Kd.R_after (ok := (fun k_ => some k_ ≠ (.slice (some ad269) t259.length co21 : Value).ownBlock ∧ some k_ ≠ (.slice (some ad270) t262.length co24 : Value).ownBlock)) (Zr HO_269002.out) hg hat); replace BK257 := Aside0.mk (blk_grown (Zj BK257.out) hg (Kd.R_ne HO295.out BK257.out (by decide))); replace BK268 := Aside0.mk (blk_grown (Zj BK268.out) hg (Kd.R_ne HO295.out BK268.out (by decide))); replace HB := Aside0.mk (hb); have HO298 := Aside0.mk (ho); clear HO295 ho hb hg hat; obtain ⟨Ao64, co64, eo64⟩ := Kd.R_slice HO298.out; subst eo64) | ((with_reducible refine gate_callee (f := 35) rfl ?_); refine goesL_ (some 87) rfl rfl Tryz.func35 (by kernel_rfl) rfl #[.slice Ao64 y296.length co64, .string (⟨#[32]⟩ : ByteArray)] rfl Zl ?_; (with_reducible refine (strings_Join.calls _ _ y296 (⟨#[32]⟩ : ByteArray) t299 _ ?side1 ?side2 A57.out).mono ?_); (case side1 => repeat (first | exact (Kd.R_reads' HO298.out).2.2 | (with_reducible refine Kd.C_alloc ?_ _) | (with_reducible refine Kd.C_drewN ?_ _) | (with_reducible refine Kd.C_drew ?_))); (case side2 => exact (Kd.R_reads' HO298.out).2.1); rintro e w65 ⟨rfl, hb⟩; refine ⟨_, rfl, ?_⟩; replace HO_269000 := Aside0.mk (Kd.R_below (Zr HO_269000.out) hb); replace HO_269001 := Aside0.mk (Kd.R_below (Zr HO_269001.out) hb); replace HO_269002 := Aside0.mk (Kd.R_below (Zr HO_269002.out) hb); replace HO298 := Aside0.mk (Kd.R_below (Zq HO298.out) hb); replace BK257 := Aside0.mk (blk_below (Zj BK257.out) hb); replace BK268 := Aside0.mk (blk_below (Zj BK268.out) hb); replace HB := Aside0.mk (below_step (Zb2 GE257.out GE268.out) hb); (try clear hb); (try clear hb2); (try clear hk); (try clear hi)))
                  go_ret2
                  exact ⟨by first | rfl | (simp [errW_none, errW_some] <;> rfl) | (simp only [← hji5, ← hji8, ← hji11]; first | rfl | (simp [errW_none, errW_some] <;> rfl)) | (simp [*, errW_none, errW_some] <;> rfl), Zb2 GE257.out GE268.out⟩
                 ·rw [if_neg c56] at H
                  exact absurd H (by simp)
                ·replace c55 := Bool.eq_false_iff.mpr c55
                 subst c55
                 have H1 : ((strings_Join.f y293 (⟨#[32]⟩ : ByteArray)).bind fun t300 => (some (t300, 0))) = some (r1, r2) := by rw [if_neg (show ¬ (false = true) by decide)] at H; exact H
                 clear H
                 have H := H1
                 clear H1
                 replace H := Option.bind_eq_some_iff.mp H
                 obtain ⟨t300, A660, H⟩ := H
                 replace H : (some (t300, 0)) = some (r1, r2) := H
                 have A66 := Aside0.mk A660
                 clear A660
                 simp only [Option.some.injEq, Prod.mk.injEq] at H
                 obtain ⟨rfl, rfl⟩ := H
                 have hnb67 := NB257_268.out
                 have hnc67 := NB268_257.out
                 obtain ⟨hcz68_0, hcz68_1, hcz68_2, hcz68_3, hcz68_4, hcz68_5, hcz68_6, hcz68_7, hfz68_0, hfz68_1, hfz68_2, hfz68_3, hfz68_4, hfz68_5, hfz68_6, hfz68_7⟩ := Z8 BK257.out
                 go_wp2_with (first | ((with_reducible refine gate_callee (f := 32) rfl ?_); refine goesL_ (some 77) rfl rfl Tryz.func32 (by kernel_rfl) rfl #[.int .i64 (wrap64 (a0_6))] rfl Zl ?_; (with_reducible refine (strconv_Itoa.calls (wrap64 (a0_6)) t292 _ ?side1 A53.out).mono ?_); (case side1 => first | (with_reducible exact HGP.out) | exact GP_below HGP.out (Zb2 GE257.out GE268.out)); rintro e w69 ⟨rfl, hb⟩; refine ⟨_, rfl, ?_⟩; replace HO_6 := Aside0.mk (Kd.R_below (Zr HO_6.out) hb); replace HO_269000 := Aside0.mk (Kd.R_below (Zr HO_269000.out) hb); replace HO_269001 := Aside0.mk (Kd.R_below (Zr HO_269001.out) hb); replace HO_269002 := Aside0.mk (Kd.R_below (Zr HO_269002.out) hb); replace BK257 := Aside0.mk (blk_below (Zj BK257.out) hb); replace BK268 := Aside0.mk (blk_below (Zj BK268.out) hb); replace HB := Aside0.mk (below_step (Zb2 GE257.out GE268.out) hb); (try clear hb); (try clear hb2); (try clear hk); (try clear hi)) | ((with_reducible refine gate_builtin (b := .append) (xs := #[.tmp 73, .tmp 78]) rfl ?_); at_builtin; refine Kd.R_append Kd.string (w0 := w) w.heap.size rfl (.tmp 73) (.tmp 78) 63 9 (.string ⟨#[]⟩) 16 rfl Tryz.underlying63 info9 rfl (by decide) (by omega) u6 x6_44 t292 [.string t292] (fun k_ => some k_ ≠ (.slice (some ad269) t259.length co21 : Value).ownBlock ∧ some k_ ≠ (.slice (some ad270) t262.length co24 : Value).ownBlock ∧ some k_ ≠ (.slice (some ad271) t265.length co25 : Value).ownBlock) (fun _ => False) rfl rfl ?aP (fun _ hk => hk.elim) ?aF ?aO ?aB ?aS ?aL ?_; (case aP => exact rfl); (case aB => exact (Zb2 GE257.out GE268.out)); (case aF => exact (fun k_ hk => ⟨Kd.fresh' (Kd.R_lt (Zr HO_269000.out)) k_ hk, Kd.fresh' (Kd.R_lt (Zr HO_269001.out)) k_ hk, Kd.fresh' (Kd.R_lt (Zr HO_269002.out)) k_ hk⟩)); (case aO => exact (Zr HO_6.out)); (case aS => exact (below_size (Zb2 GE257.out GE268.out))); (case aL => have := LMc54.out; omega); intro v294 w70 ho hb hg hat; rw [← Ny293.out] at ho; replace HO_269000 := Aside0.mk (Kd.R_after (ok := (fun k_ => some k_ ≠ (.slice (some ad270) t262.length co24 : Value).ownBlock ∧ some k_ ≠ (.slice (some ad271) t265.length co25 : Value).ownBlock)) (by (with_reducible repeat (first | apply Kd.R_alloc | apply Kd.R_drewN | apply Kd.R_drew)); exact Kd.R_mono HO_269000.out (fun _ hk => ⟨⟨hk.2.1, hk.2.2⟩, hk.1⟩)) hg hat); replace HO_269001 := Aside0.mk (Kd.R_after (ok := (fun k_ => some k_ ≠ (.slice (some ad269) t259.length co21 : Value).ownBlock ∧ some k_ ≠ (.slice (some ad271) t265.length co25 : Value).ownBlock)) (by (with_reducible repeat (first | apply Kd.R_alloc | apply Kd.R_drewN | apply Kd.R_drew)); exact Kd.R_mono HO_269001.out (fun _ hk => ⟨⟨hk.2.1, hk.2.2⟩, hk.1⟩)) hg hat); replace HO_269002 := Aside0.mk (Kd.R_after (ok := (fun k_ => some k_ ≠ (.slice (some ad269) t259.length co21 : Value).ownBlock ∧ some k_ ≠ (.slice (some ad270) t262.length co24 : Value).ownBlock)) (by (with_reducible repeat (first | apply Kd.R_alloc | apply Kd.R_drewN | apply Kd.R_drew)); exact Kd.R_mono HO_269002.out (fun _ hk => ⟨⟨hk.2.1, hk.2.2⟩, hk.1⟩)) hg hat); replace BK257 := Aside0.mk (blk_grown (Zj BK257.out) hg (Kd.R_ne HO_6.out BK257.out (by decide))); replace BK268 := Aside0.mk (blk_grown (Zj BK268.out) hg (Kd.R_ne HO_6.out BK268.out (by decide))); replace HB := Aside0.mk (hb); have HO295 := Aside0.mk (ho); clear HO_6 ho hb hg hat; obtain ⟨Ao71, co71, eo71⟩ := Kd.R_slice HO295.out; subst eo71) | ((with_reducible refine gate_callee (f := 35) rfl ?_); refine goesL_ (some 87) rfl rfl Tryz.func35 (by kernel_rfl) rfl #[.slice Ao71 y293.length co71, .string (⟨#[32]⟩ : ByteArray)] rfl Zl ?_; (with_reducible refine (strings_Join.calls _ _ y293 (⟨#[32]⟩ : ByteArray) t300 _ ?side1 ?side2 A66.out).mono ?_); (case side1 => repeat (first | exact (Kd.R_reads' HO295.out).2.2 | (with_reducible refine Kd.C_alloc ?_ _) | (with_reducible refine Kd.C_drewN ?_ _) | (with_reducible refine Kd.C_drew ?_))); (case side2 => exact (Kd.R_reads' HO295.out).2.1); rintro e w72 ⟨rfl, hb⟩; refine ⟨_, rfl, ?_⟩; replace HO_269000 := Aside0.mk (Kd.R_below (Zr HO_269000.out) hb); replace HO_269001 := Aside0.mk (Kd.R_below (Zr HO_269001.out) hb); replace HO_269002 := Aside0.mk (Kd.R_below (Zr HO_269002.out) hb); replace HO295 := Aside0.mk (Kd.R_below (Zq HO295.out) hb); replace BK257 := Aside0.mk (blk_below (Zj BK257.out) hb); replace BK268 := Aside0.mk (blk_below (Zj BK268.out) hb); replace HB := Aside0.mk (below_step (Zb2 GE257.out GE268.out) hb); (try clear hb); (try clear hb2); (try clear hk); (try clear hi)))
                 go_ret2
                 exact ⟨by first | rfl | (simp [errW_none, errW_some] <;> rfl) | (simp only [← hji5, ← hji8, ← hji11]; first | rfl | (simp [errW_none, errW_some] <;> rfl)) | (simp [*, errW_none, errW_some] <;> rfl), Zb2 GE257.out GE268.out⟩
               ·rw [if_neg c54] at H
                exact absurd H (by simp)
              ·replace c52 := Bool.eq_false_iff.mpr c52
               subst c52
               have H1 : (if t279 = true then (if x6_44.length < 8796093022208 then ((strings_Join.f (x6_44 ++ [a0_7]) (⟨#[32]⟩ : ByteArray)).bind fun t304 => (some (t304, 0))) else (none)) else ((strings_Join.f x6_44 (⟨#[32]⟩ : ByteArray)).bind fun t305 => (some (t305, 0)))) = some (r1, r2) := by rw [if_neg (show ¬ (false = true) by decide)] at H; exact H
               clear H
               have H := H1
               clear H1
               by_cases c73 : t279 = true
               ·subst c73
                have H1 : (if x6_44.length < 8796093022208 then ((strings_Join.f (x6_44 ++ [a0_7]) (⟨#[32]⟩ : ByteArray)).bind fun t304 => (some (t304, 0))) else (none)) = some (r1, r2) := by rw [if_pos rfl] at H; exact H
                clear H
                have H := H1
                clear H1
                by_cases c74 : x6_44.length < 8796093022208
                ·rw [if_pos c74] at H
                 have LMc74 := Aside0.mk c74
                 clear c74
                 obtain ⟨y301, hy301⟩ : ∃ y_ : List ByteArray, y_ = (x6_44 ++ [a0_7]) := ⟨_, rfl⟩
                 replace H : ((strings_Join.f y301 (⟨#[32]⟩ : ByteArray)).bind fun t304 => (some (t304, 0))) = some (r1, r2) := by first | (rw [hy301]; with_reducible exact H) | (have H2_ := (Option.bind_some _ _).symm.trans H; rw [hy301]; with_reducible exact H2_) | (have H2_ := (Option.bind_some _ _).symm.trans H; with_reducible exact H2_) | with_reducible exact H | (rw [hy301]; exact H) | exact H
                 have Ny301 := Aside0.mk hy301
                 clear hy301
                 replace H := Option.bind_eq_some_iff.mp H
                 obtain ⟨t304, A750, H⟩ := H
                 replace H : (some (t304, 0)) = some (r1, r2) := H
                 have A75 := Aside0.mk A750
                 clear A750
                 simp only [Option.some.injEq, Prod.mk.injEq] at H
                 obtain ⟨rfl, rfl⟩ := H
                 have hnb76 := NB257_268.out
                 have hnc76 := NB268_257.out
                 obtain ⟨hcz77_0, hcz77_1, hcz77_2, hcz77_3, hcz77_4, hcz77_5, hcz77_6, hcz77_7, hfz77_0, hfz77_1, hfz77_2, hfz77_3, hfz77_4, hfz77_5, hfz77_6, hfz77_7⟩ := Z8 BK257.out
                 go_wp2_with (first | ((with_reducible refine gate_builtin (b := .append) (xs := #[.tmp 81, .tmp 84]) rfl ?_); at_builtin; refine Kd.R_append Kd.string (w0 := w) w.heap.size rfl (.tmp 81) (.tmp 84) 63 9 (.string ⟨#[]⟩) 16 rfl Tryz.underlying63 info9 rfl (by decide) (by omega) u6 x6_44 a0_7 [.string a0_7] (fun k_ => some k_ ≠ (.slice (some ad269) t259.length co21 : Value).ownBlock ∧ some k_ ≠ (.slice (some ad270) t262.length co24 : Value).ownBlock ∧ some k_ ≠ (.slice (some ad271) t265.length co25 : Value).ownBlock) (fun _ => False) rfl rfl ?aP (fun _ hk => hk.elim) ?aF ?aO ?aB ?aS ?aL ?_; (case aP => exact rfl); (case aB => exact (Zb2 GE257.out GE268.out)); (case aF => exact (fun k_ hk => ⟨Kd.fresh' (Kd.R_lt (Zr HO_269000.out)) k_ hk, Kd.fresh' (Kd.R_lt (Zr HO_269001.out)) k_ hk, Kd.fresh' (Kd.R_lt (Zr HO_269002.out)) k_ hk⟩)); (case aO => exact (Zr HO_6.out)); (case aS => exact (below_size (Zb2 GE257.out GE268.out))); (case aL => have := LMc74.out; omega); intro v302 w78 ho hb hg hat; rw [← Ny301.out] at ho; replace HO_269000 := Aside0.mk (Kd.R_after (ok := (fun k_ => some k_ ≠ (.slice (some ad270) t262.length co24 : Value).ownBlock ∧ some k_ ≠ (.slice (some ad271) t265.length co25 : Value).ownBlock)) (by (with_reducible repeat (first | apply Kd.R_alloc | apply Kd.R_drewN | apply Kd.R_drew)); exact Kd.R_mono HO_269000.out (fun _ hk => ⟨⟨hk.2.1, hk.2.2⟩, hk.1⟩)) hg hat); replace HO_269001 := Aside0.mk (Kd.R_after (ok := (fun k_ => some k_ ≠ (.slice (some ad269) t259.length co21 : Value).ownBlock ∧ some k_ ≠ (.slice (some ad271) t265.length co25 : Value).ownBlock)) (by (with_reducible repeat (first | apply Kd.R_alloc | apply Kd.R_drewN | apply Kd.R_drew)); exact Kd.R_mono HO_269001.out (fun _ hk => ⟨⟨hk.2.1, hk.2.2⟩, hk.1⟩)) hg hat); replace HO_269002 := Aside0.mk (Kd.R_after (ok := (fun k_ => some k_ ≠ (.slice (some ad269) t259.length co21 : Value).ownBlock ∧ some k_ ≠ (.slice (some ad270) t262.length co24 : Value).ownBlock)) (by (with_reducible repeat (first | apply Kd.R_alloc | apply Kd.R_drewN | apply Kd.R_drew)); exact Kd.R_mono HO_269002.out (fun _ hk => ⟨⟨hk.2.1, hk.2.2⟩, hk.1⟩)) hg hat); replace BK257 := Aside0.mk (blk_grown (Zj BK257.out) hg (Kd.R_ne HO_6.out BK257.out (by decide))); replace BK268 := Aside0.mk (blk_grown (Zj BK268.out) hg (Kd.R_ne HO_6.out BK268.out (by decide))); replace HB := Aside0.mk (hb); have HO303 := Aside0.mk (ho); clear HO_6 ho hb hg hat; obtain ⟨Ao79, co79, eo79⟩ := Kd.R_slice HO303.out; subst eo79) | ((with_reducible refine gate_callee (f := 35) rfl ?_); refine goesL_ (some 87) rfl rfl Tryz.func35 (by kernel_rfl) rfl #[.slice Ao79 y301.length co79, .string (⟨#[32]⟩ : ByteArray)] rfl Zl ?_; (with_reducible refine (strings_Join.calls _ _ y301 (⟨#[32]⟩ : ByteArray) t304 _ ?side1 ?side2 A75.out).mono ?_); (case side1 => repeat (first | exact (Kd.R_reads' HO303.out).2.2 | (with_reducible refine Kd.C_alloc ?_ _) | (with_reducible refine Kd.C_drewN ?_ _) | (with_reducible refine Kd.C_drew ?_))); (case side2 => exact (Kd.R_reads' HO303.out).2.1); rintro e w80 ⟨rfl, hb⟩; refine ⟨_, rfl, ?_⟩; replace HO_269000 := Aside0.mk (Kd.R_below (Zr HO_269000.out) hb); replace HO_269001 := Aside0.mk (Kd.R_below (Zr HO_269001.out) hb); replace HO_269002 := Aside0.mk (Kd.R_below (Zr HO_269002.out) hb); replace HO303 := Aside0.mk (Kd.R_below (Zq HO303.out) hb); replace BK257 := Aside0.mk (blk_below (Zj BK257.out) hb); replace BK268 := Aside0.mk (blk_below (Zj BK268.out) hb); replace HB := Aside0.mk (below_step (Zb2 GE257.out GE268.out) hb); (try clear hb); (try clear hb2); (try clear hk); (try clear hi)))
                 go_ret2
                 exact ⟨by first | rfl | (simp [errW_none, errW_some] <;> rfl) | (simp only [← hji5, ← hji8, ← hji11]; first | rfl | (simp [errW_none, errW_some] <;> rfl)) | (simp [*, errW_none, errW_some] <;> rfl), Zb2 GE257.out GE268.out⟩
                ·rw [if_neg c74] at H
                 exact absurd H (by simp)
               ·replace c73 := Bool.eq_false_iff.mpr c73
                subst c73
                have H1 : ((strings_Join.f x6_44 (⟨#[32]⟩ : ByteArray)).bind fun t305 => (some (t305, 0))) = some (r1, r2) := by rw [if_neg (show ¬ (false = true) by decide)] at H; exact H
                clear H
                have H := H1
                clear H1
                replace H := Option.bind_eq_some_iff.mp H
                obtain ⟨t305, A810, H⟩ := H
                replace H : (some (t305, 0)) = some (r1, r2) := H
                have A81 := Aside0.mk A810
                clear A810
                simp only [Option.some.injEq, Prod.mk.injEq] at H
                obtain ⟨rfl, rfl⟩ := H
                obtain ⟨Ao82, co82, eo82⟩ := Kd.R_slice HO_6.out
                subst eo82
                go_wp2_with (first | ((with_reducible refine gate_callee (f := 35) rfl ?_); refine goesL_ (some 87) rfl rfl Tryz.func35 (by kernel_rfl) rfl #[.slice Ao82 x6_44.length co82, .string (⟨#[32]⟩ : ByteArray)] rfl Zl ?_; (with_reducible refine (strings_Join.calls _ _ x6_44 (⟨#[32]⟩ : ByteArray) t305 _ ?side1 ?side2 A81.out).mono ?_); (case side1 => repeat (first | exact (Kd.R_reads' HO_6.out).2.2 | (with_reducible refine Kd.C_alloc ?_ _) | (with_reducible refine Kd.C_drewN ?_ _) | (with_reducible refine Kd.C_drew ?_))); (case side2 => exact (Kd.R_reads' HO_6.out).2.1); rintro e w83 ⟨rfl, hb⟩; refine ⟨_, rfl, ?_⟩; replace HO_6 := Aside0.mk (Kd.R_below (Zr HO_6.out) hb); replace HO_269000 := Aside0.mk (Kd.R_below (Zr HO_269000.out) hb); replace HO_269001 := Aside0.mk (Kd.R_below (Zr HO_269001.out) hb); replace HO_269002 := Aside0.mk (Kd.R_below (Zr HO_269002.out) hb); replace BK257 := Aside0.mk (blk_below (Zj BK257.out) hb); replace BK268 := Aside0.mk (blk_below (Zj BK268.out) hb); replace HB := Aside0.mk (below_step (Zb2 GE257.out GE268.out) hb); (try clear hb); (try clear hb2); (try clear hk); (try clear hi)))
                go_ret2
                exact ⟨by first | rfl | (simp [errW_none, errW_some] <;> rfl) | (simp only [← hji5, ← hji8, ← hji11]; first | rfl | (simp [errW_none, errW_some] <;> rfl)) | (simp [*, errW_none, errW_some] <;> rfl), Zb2 GE257.out GE268.out⟩
       ·rw [if_neg c13] at H
        exact absurd H (by simp)
      ·rw [if_neg c12] at H
       exact absurd H (by simp)
     ·rw [if_neg c10] at H
      exact absurd H (by simp)
    ·rw [if_neg c9] at H
     exact absurd H (by simp)
   ·rw [if_neg c7] at H
    exact absurd H (by simp)
  ·rw [if_neg c6] at H
   exact absurd H (by simp)
 ·rw [if_neg c3] at H
  have c3b0 : (t258 == 0) = false := beq_eq_false_iff_ne.mpr c3
  have c3b1 : (t258 != 0) = true := bne_iff_ne.mpr c3
  simp only [Option.some.injEq, Prod.mk.injEq] at H
  obtain ⟨rfl, rfl⟩ := H
  go_enter Tryz.func23, Tryz.ntmps23
  go_wp2_with (first | ((with_reducible refine gate_dst (N := 1) rfl ?_); refine box_event ?hg (N := 1) ?hd (cs := #[.int .u8 a0_0, .int .u8 a0_1, .int .u8 a0_2, .int .i64 a0_3, .int .u8 a0_4, .int .u8 a0_5, .int .u8 a0_6, .string a0_7]) (t := 48) ?hr ?_; (case hd => rfl); (case hg => rfl); (case hr => first | (go_simp; done) | (go_simp; rfl)); intro gb257 hg w84 hbox hb; have BK257 := Aside0.mk (hbox); have GW257 := Aside0.mk ((by rw [hg]; exact (below_size Zb) : w.heap.size ≤ gb257)); have GE257 := Aside0.mk ((by rw [hg]; exact (below_size Zb) : w.heap.size ≤ gb257)); replace HB := Aside0.mk (below_step Zb hb); clear hb hbox hg; obtain ⟨hcz85_0, hcz85_1, hcz85_2, hcz85_3, hcz85_4, hcz85_5, hcz85_6, hcz85_7, hfz85_0, hfz85_1, hfz85_2, hfz85_3, hfz85_4, hfz85_5, hfz85_6, hfz85_7⟩ := Z8 BK257.out) | ((with_reducible refine gate_callee (f := 24) rfl ?_); refine goesL_ (some 13) rfl rfl Tryz.func24 (by kernel_rfl) rfl #[.agg #[.int .u8 a0_0, .int .u8 a0_1, .int .u8 a0_2, .int .i64 a0_3, .int .u8 a0_4, .int .u8 a0_5, .int .u8 a0_6, .string a0_7]] rfl Zl ?_; (with_reducible refine (effect_Check.calls k a0_0 a0_1 a0_2 a0_3 a0_4 a0_5 a0_6 a0_7 t258 _ A2.out).mono ?_); rintro e w86 ⟨rfl, hb⟩; refine ⟨_, rfl, ?_⟩; replace BK257 := Aside0.mk (blk_below (Zj BK257.out) hb); replace HB := Aside0.mk (below_step (Zb1 GE257.out) hb); (try clear hb); (try clear hb2); (try clear hk); (try clear hi)))
  go_ret2
  exact ⟨Ze, Zb1 GE257.out⟩
end Go.Proofs.YtfpcideomanbbaaGreatDoor.PA
end
section
namespace Go.Proofs.YtfpcideomanbbaaGreatDoor.PA
open Go.RowKit Go.Proofs.YtfpcideomanbbaaGreatDoorW.PrintWords Go.Proofs.YtfpcideomanbbaaGreatDoorW.PrintLast Go.Proofs.YtfpcideomanbbaaGreatDoorW.PrintMore
def atoiVal (s : ByteArray) : Int := match Lib.atoiAll s.data.toList with
  | .ok v => v
  | .range => Lib.atoiSat s.data.toList
  | _ => 0
theorem atoi_calls (s : ByteArray) (w : World) (hG : GP w) (hs : s.size ≤ 281474976710656) :
    Calls Tryz.prog 55 #[.string s] w fun e w' => ∃ v : Value, e = .returned (.tuple #[.int .i64 (atoiVal s), v]) ∧ Below w.heap.size w w' := by
  cases h : Lib.atoiAll s.data.toList with
  | ok v =>
    refine (Tryz.strconv_Atoi_ok s (by omega) v h w).mono ?_
    rintro e w' ⟨rfl, hw⟩
    refine ⟨_, by unfold atoiVal; rw [h], ?_⟩
    rcases hw with rfl | ⟨t, rfl⟩
    · exact Below.refl _ _
    · exact Lib.bytesWorld_below _ _ _
  | range =>
    obtain ⟨ev, hv, hev⟩ := hG.errRange
    refine (Tryz.strconv_Atoi_range s hs h ev w hv hev).mono ?_
    rintro e w' ⟨N, rfl, _, _, hb⟩
    exact ⟨_, by unfold atoiVal; rw [h], hb⟩
  | _ =>
    obtain ⟨ev, hv, hev⟩ := hG.errSyntax
    refine (Any.strconv_Atoi_syntax Tryz.laysC172 s hs h ev w hv hev).mono ?_
    rintro e w' ⟨N, rfl, _, _, hb⟩
    exact ⟨_, by unfold atoiVal; rw [h], hb⟩
theorem cells_of_C {w : World} {A : Option Addr} {l : List ByteArray} (h : Kd.C Kd.string w A l.length l) (hp : 0 < l.length) :
    ∃ b off, A = some ⟨b, off, none⟩ ∧ ∀ (j : Nat) p, l[j]? = some p → w.cell? ⟨b, off + j, none⟩ = some (.string p) := by
  obtain ⟨ad, rfl, hc⟩ := h.2.2 hp
  have hcell : ∀ (j : Nat) (p : ByteArray), l[j]? = some p → w.cell? (ad.add j) = some (.string p) := fun j p hp => by
    obtain ⟨c, _, rfl, hcc⟩ := hc j p hp
    have h1 : w.cell? (ad.add (j * 1 + 0)) = some (.string p) := hcc 0 _ rfl
    simpa using h1
  obtain ⟨b, off, spot⟩ := ad
  have hspot : spot = none := by simpa [Addr.add] using World.cell?_spot (hcell 0 _ (List.getElem?_eq_getElem hp))
  subst hspot
  exact ⟨b, off, rfl, fun j p hp => by rw [← Go.WideShapes.add_plain]; exact hcell j p hp⟩
theorem index_calls (A : Option Addr) (c : Nat) (l : List ByteArray) (x : ByteArray) (w : World) (hr : Kd.C Kd.string w A l.length l) :
    Calls Tryz.prog 52 #[.slice A l.length c, .string x] w fun e w' => e = .returned (.int .i64 (Lib.idxOfS l x)) ∧ w' = w := by
  cases l with
  | nil => exact Tryz.slices_Index_string_empty A c x w
  | cons y l =>
    obtain ⟨b, off, rfl, hc⟩ := cells_of_C hr (by simp)
    have h := Tryz.slices_Index_string b off (y :: l).length c (y :: l) x w (Nat.le_refl _) (Kd.C_max hr) (fun j hj => by
      rw [List.getD_eq_getElem?_getD, List.getElem?_eq_getElem hj]; exact hc j _ (List.getElem?_eq_getElem hj))
    rw [List.take_length] at h
    exact h
theorem idxFromS_bd (x : ByteArray) : ∀ (zs : List ByteArray) (i : Nat), Lib.idxFromS zs x i = -1 ∨ ((i : Int) ≤ Lib.idxFromS zs x i ∧ Lib.idxFromS zs x i < i + zs.length)
  | [], i => .inl rfl
  | z :: zs, i => by
    unfold Lib.idxFromS
    split
    · right; simp; omega
    · rcases idxFromS_bd x zs (i + 1) with h | h
      · exact .inl h
      · right; simp at h ⊢; omega
theorem idxOfS_bd (zs : List ByteArray) (x : ByteArray) : -1 ≤ Lib.idxOfS zs x ∧ Lib.idxOfS zs x < zs.length + 1 := by
  unfold Lib.idxOfS
  rcases idxFromS_bd x zs 0 with h | h <;> (try simp at h) <;> omega
def nextWord (used : Bool) (l : List ByteArray) : ByteArray := if used then l.headD ⟨#[]⟩ else ⟨#[]⟩
def nextRest (used : Bool) (l : List ByteArray) : List ByteArray := if used then l.tail else l
set_option maxHeartbeats 1000000 in
theorem next_calls (used : Bool) (b : Nat) (A : Option Addr) (c : Nat) (l : List ByteArray) (w : World) (hb : w.heap[b]? = some (.cells #[.slice A l.length c] 63 (0, 0))) (hC : Kd.C Kd.string w A l.length l) (hc : l.length ≤ c) :
    Calls Tryz.prog 53 #[.bool used, .pointer (some ⟨b, 0, none⟩)] w fun e w' => e = .returned (.string (nextWord used l)) ∧
      (w' = w ∧ nextRest used l = l ∨ ∃ A' c', nextRest used l = l.tail ∧ (∀ ad', A' = some ad' → ∃ ad, A = some ad ∧ ad'.block = ad.block) ∧ l.tail.length ≤ c' ∧ Kd.C Kd.string w A' l.tail.length l.tail ∧ w' = w.setCell ⟨b, 0, none⟩ (.slice A' l.tail.length c')) := by
  have hcell : w.cell? ⟨b, 0, none⟩ = some (.slice A l.length c) := blk_cell hb 0
  have hfr := blk_frozen hb 0
  have hu63 := Tryz.underlying63
  cases used with
  | false =>
    go_enter Tryz.func53, Tryz.ntmps53
    go_wp2
    go_ret
    exact ⟨rfl, .inl ⟨rfl, rfl⟩⟩
  | true =>
    cases l with
    | nil =>
      go_enter Tryz.func53, Tryz.ntmps53
      go_wp2
      go_ret
      exact ⟨rfl, .inl ⟨rfl, rfl⟩⟩
    | cons x l =>
      have hx := cells_of_C hC (by simp)
      obtain ⟨b1, off, rfl, hcs⟩ := hx
      have h0 : w.cell? ⟨b1, off, none⟩ = some (.string x) := hcs 0 x rfl
      obtain ⟨i0, hi0, hz⟩ : ∃ i, Tryz.prog.info? 9 = some i ∧ i.size = 1 := by
        have := info9
        cases h : Tryz.prog.info? 9 with
        | none => simp [h] at this
        | some i => simp [h] at this; exact ⟨i, rfl, this.2.1⟩
      have hcut0 := cut_from (P := Tryz.prog) 63 9 .i64 Tryz.underlying63 hi0 1 hz (some ⟨b1, off, none⟩) (x :: l).length c 1 (by decide) (by simp; omega)
      have hdrop : Kd.C Kd.string w (if c = 1 then some (⟨b1, off, none⟩ : Addr) else (some (⟨b1, off, none⟩ : Addr)).map (·.add (1 * 1))) l.length l := Kd.C_drop (m := 1) (c := c) hC (by simp) hc
      obtain ⟨A', hA'⟩ : ∃ A', (if c = 1 then some (⟨b1, off, none⟩ : Addr) else (some (⟨b1, off, none⟩ : Addr)).map (·.add (1 * 1))) = A' := ⟨_, rfl⟩
      have hcut : ∀ W : World, (Instr.slice 63 (.slice (some ⟨b1, off, none⟩) (l.length + 1) c) (some (.int .i64 1)) none none).run Tryz.prog W = .ok (.slice A' l.length (c - 1)) W := fun W => by
        rw [← hA']; exact hcut0 W
      have HK : Hid (∀ ad', A' = some ad' → ∃ ad, some (⟨b1, off, none⟩ : Addr) = some ad ∧ ad'.block = ad.block) := Lib.hid (by
        intro ad' e
        rw [← hA'] at e
        refine ⟨_, rfl, ?_⟩
        split at e
        · cases e; rfl
        · cases e; rfl)
      rw [hA'] at hdrop
      have HD := Lib.hid hdrop
      have hc1 : l.length ≤ c - 1 := by simp at hc; omega
      replace hcell : w.cell? ⟨b, 0, none⟩ = some (.slice (some ⟨b1, off, none⟩) (l.length + 1) c) := hcell
      have hpos : ((l.length : Int) + 1 == 0) = false := by rw [beq_eq_false_iff_ne]; omega
      clear hC hcs hi0 hz hb hcut0 hdrop hA' hc
      go_enter Tryz.func53, Tryz.ntmps53
      go_wp2
      go_ret
      exact ⟨rfl, .inr ⟨A', c - 1, rfl, HK.out, hc1, HD.out, rfl⟩⟩
theorem nextWord_size {N : Nat} {l : List ByteArray} (h : ∀ x ∈ l, x.size ≤ N) (u : Bool) : (nextWord u l).size ≤ N := by
  unfold nextWord
  split
  · cases l with
    | nil => exact Nat.zero_le _
    | cons x l => exact h x (by simp)
  · exact Nat.zero_le _
theorem nextRest_mem {N : Nat} {l : List ByteArray} (h : ∀ x ∈ l, x.size ≤ N) (u : Bool) : ∀ x ∈ nextRest u l, x.size ≤ N := by
  unfold nextRest
  split
  · exact fun x hx => h x (List.mem_of_mem_tail hx)
  · exact h
def parseRest (s : ByteArray) (p0 p1 p2 : Int) (r : List ByteArray) : Option (Int × Int × Int × Int × Int × Int × Int × ByteArray × Int) :=
  (effect_Uses.f 1 p1 p2).bind fun u =>
  (suit_Of.f (nextWord u.2.1 (nextRest u.1 r))).bind fun su =>
  (trait_Of.f 20 (nextWord u.2.2.1 (nextRest u.2.1 (nextRest u.1 r)))).bind fun tr =>
  (effect_Print.f 12 p0 p1 p2 (atoiVal (nextWord u.1 r)) su.1 tr.1 (min (max (atoiVal (nextWord u.2.2.2.1 (nextRest u.2.2.1 (nextRest u.2.1 (nextRest u.1 r))))) 0) 9) (nextWord u.2.2.2.2 (nextRest u.2.2.2.1 (nextRest u.2.2.1 (nextRest u.2.1 (nextRest u.1 r)))))).bind fun te =>
  if te.2 = 0 ∧ te.1.toList = s.toList then some (p0, p1, p2, atoiVal (nextWord u.1 r), su.1, tr.1, min (max (atoiVal (nextWord u.2.2.2.1 (nextRest u.2.2.1 (nextRest u.2.1 (nextRest u.1 r))))) 0) 9, nextWord u.2.2.2.2 (nextRest u.2.2.2.1 (nextRest u.2.2.1 (nextRest u.2.1 (nextRest u.1 r)))), 0)
  else some (0, 0, 0, 0, 0, 0, 0, ⟨#[]⟩, 150)
def effect_Parse.f (a0 : ByteArray) : Option (Int × Int × Int × Int × Int × Int × Int × ByteArray × Int) :=
  if 80 < a0.size then some (0, 0, 0, 0, 0, 0, 0, ⟨#[]⟩, 3) else
  match Lib.splitB ⟨#[32]⟩ 0 (Lib.countB a0 ⟨#[32]⟩) a0 with
  | x0 :: x1 :: x2 :: r => parseRest a0 ((Lib.idxOfS wWhens x0 + 1) % 256) ((Lib.idxOfS wVerbs x1 + 1) % 256) ((Lib.idxOfS wWhoms x2 + 1) % 256) r
  | _ => some (0, 0, 0, 0, 0, 0, 0, ⟨#[]⟩, 150)
theorem part_cells {w : World} {g : Nat} {a0 a1 a2 a3 a4 a5 a6 : Int} {a7 : ByteArray} (h : w.heap[g]? = some (.cells #[.int .u8 a0, .int .u8 a1, .int .u8 a2, .int .i64 a3, .int .u8 a4, .int .u8 a5, .int .u8 a6, .string a7] 48 (0, 0))) :
    w.cell? ⟨g, 0, none⟩ = some (.int .u8 a0) ∧ w.cell? ⟨g, 1, none⟩ = some (.int .u8 a1) ∧ w.cell? ⟨g, 2, none⟩ = some (.int .u8 a2) ∧ w.cell? ⟨g, 3, none⟩ = some (.int .i64 a3) ∧ w.cell? ⟨g, 4, none⟩ = some (.int .u8 a4) ∧ w.cell? ⟨g, 5, none⟩ = some (.int .u8 a5) ∧ w.cell? ⟨g, 6, none⟩ = some (.int .u8 a6) ∧ w.cell? ⟨g, 7, none⟩ = some (.string a7) ∧ w.frozen? ⟨g, 0, none⟩ = false ∧ w.frozen? ⟨g, 1, none⟩ = false ∧ w.frozen? ⟨g, 2, none⟩ = false ∧ w.frozen? ⟨g, 3, none⟩ = false ∧ w.frozen? ⟨g, 4, none⟩ = false ∧ w.frozen? ⟨g, 5, none⟩ = false ∧ w.frozen? ⟨g, 6, none⟩ = false ∧ w.frozen? ⟨g, 7, none⟩ = false :=
  ⟨blk_cell h 0, blk_cell h 1, blk_cell h 2, blk_cell h 3, blk_cell h 4, blk_cell h 5, blk_cell h 6, blk_cell h 7, blk_frozen h 0, blk_frozen h 1, blk_frozen h 2, blk_frozen h 3, blk_frozen h 4, blk_frozen h 5, blk_frozen h 6, blk_frozen h 7⟩
theorem splitB_size (sep : ByteArray) (save : Nat) : ∀ (k : Nat) (s x : ByteArray), x ∈ Lib.splitB sep save k s → x.size ≤ s.size
  | 0, s, x, h => by
    rw [Lib.splitB_zero] at h
    simp at h; subst h; exact Nat.le_refl _
  | k + 1, s, x, h => by
    by_cases hi : Lib.indexB s sep = -1
    · rw [Lib.splitB_miss _ _ _ _ hi] at h
      simp at h; subst h; exact Nat.le_refl _
    · obtain ⟨i, hi, _⟩ := (Lib.indexB_cases s sep).resolve_left hi
      rw [Lib.splitB_hit _ _ _ _ i hi] at h
      rcases List.mem_cons.1 h with rfl | h
      · rw [ByteArray.size_extract]; omega
      · have := splitB_size sep save k _ x h
        rw [ByteArray.size_extract] at this; omega
structure PInv (w wc : World) (b4 b6 : Nat) (p : Array Value) (l : List ByteArray) : Prop where
  P6 : wc.heap[b6]? = some (.cells p 48 (0, 0))
  PZ : wc.heap[w.heap.size]? = some (.cells #[.int .u8 0, .int .u8 0, .int .u8 0, .int .i64 0, .int .u8 0, .int .u8 0, .int .u8 0, .string ⟨#[]⟩] 48 (0, 0))
  HB : Below w.heap.size w wc
  lt : w.heap.size < b4 ∧ b4 < b6
  P4 : ∃ A c, wc.heap[b4]? = some (.cells #[.slice A l.length c] 63 (0, 0)) ∧ (∀ ad, A = some ad → ad.block ≠ b6) ∧ l.length ≤ c ∧ Kd.C Kd.string wc A l.length l
theorem PInv.below {w wc w' : World} {b4 b6 : Nat} {p : Array Value} {l : List ByteArray} (h : PInv w wc b4 b6 p l) (hb : Below wc.heap.size wc w') : PInv w w' b4 b6 p l := by
  obtain ⟨A, c, h4, hA, hc, hC⟩ := h.P4
  exact ⟨blk_below h.P6 hb, blk_below h.PZ hb, h.HB.trans (hb.mono h.HB.size), h.lt, A, c, blk_below h4 hb, hA, hc, Kd.C_below hC hb⟩
theorem C_far {wc : World} {A : Option Addr} {l : List ByteArray} (h : Kd.C Kd.string wc A l.length l) {g j : Nat} {v v0 : Value} {t : TypeId} (hg : wc.heap[g]? = some (.cells #[v0] t (0, 0))) (hv : ∀ s, v0 ≠ .string s) : Kd.C Kd.string (wc.setCell ⟨g, j, none⟩ v) A l.length l := by
  refine ⟨rfl, Kd.C_max h, fun hp => ?_⟩
  obtain ⟨b, off, rfl, hc⟩ := cells_of_C h hp
  have hbg : b ≠ g := by
    rintro rfl
    have h0 := hc 0 _ (List.getElem?_eq_getElem hp)
    rw [blk_cell hg] at h0
    simp only [Nat.add_zero] at h0
    cases off with
    | zero => simp at h0; exact hv _ h0
    | succ n => simp at h0
  refine ⟨_, rfl, fun k p hk => ⟨[.string p], rfl, rfl, fun i u hu => ?_⟩⟩
  obtain ⟨rfl, rfl⟩ : i = 0 ∧ u = .string p := by
    cases i with
    | zero => simp at hu; exact ⟨rfl, hu.symm⟩
    | succ n => simp at hu
  have h1 := hc k p hk
  show (wc.setCell ⟨g, j, none⟩ v).cell? ((⟨b, off, none⟩ : Addr).add (k * 1 + 0)) = _
  rw [Nat.add_zero, Nat.mul_one, Go.WideShapes.add_plain]
  exact (World.cell?_setCell_other wc ⟨g, j, none⟩ ⟨b, off + k, none⟩ v (by intro e; injection e with e; exact hbg e.symm)).trans h1
theorem PInv.next {w wc : World} {b4 b6 : Nat} {p : Array Value} {l : List ByteArray} (h : PInv w wc b4 b6 p l) (u : Bool) :
    Calls Tryz.prog 53 #[.bool u, .pointer (some ⟨b4, 0, none⟩)] wc fun e w' => e = .returned (.string (nextWord u l)) ∧ PInv w w' b4 b6 p (nextRest u l) := by
  obtain ⟨A, c, h4, hA, hc, hC⟩ := h.P4
  refine (next_calls u b4 A c l wc h4 hC hc).mono ?_
  rintro e w' ⟨rfl, ⟨rfl, hr⟩ | ⟨A', c', hr, hA', hc', hC', rfl⟩⟩
  · rw [hr]; exact ⟨rfl, h⟩
  · rw [hr]
    have lt := h.lt
    exact ⟨rfl, blk_far h.P6 (by simp; omega) _, blk_far h.PZ (by simp; omega) _, h.HB.setCell (p := ⟨b4, 0, none⟩) (by simp; omega) _, h.lt, A', c', blk_put h4 0 _ rfl, (fun ad e => by obtain ⟨ad2, e2, e3⟩ := hA' ad e; rw [e3]; exact hA ad2 e2), hc', C_far hC' h4 (fun s => by simp)⟩
theorem C_away {wc : World} {A : Option Addr} {l : List ByteArray} (h : Kd.C Kd.string wc A l.length l) {g j : Nat} {v : Value} (hA : ∀ ad, A = some ad → ad.block ≠ g) : Kd.C Kd.string (wc.setCell ⟨g, j, none⟩ v) A l.length l := by
  refine ⟨rfl, Kd.C_max h, fun hp => ?_⟩
  obtain ⟨b, off, rfl, hc⟩ := cells_of_C h hp
  have hbg : b ≠ g := hA _ rfl
  refine ⟨_, rfl, fun k p hk => ⟨[.string p], rfl, rfl, fun i u hu => ?_⟩⟩
  obtain ⟨rfl, rfl⟩ : i = 0 ∧ u = .string p := by
    cases i with
    | zero => simp at hu; exact ⟨rfl, hu.symm⟩
    | succ n => simp at hu
  have h1 := hc k p hk
  show (wc.setCell ⟨g, j, none⟩ v).cell? ((⟨b, off, none⟩ : Addr).add (k * 1 + 0)) = _
  rw [Nat.add_zero, Nat.mul_one, Go.WideShapes.add_plain]
  exact (World.cell?_setCell_other wc ⟨g, j, none⟩ ⟨b, off + k, none⟩ v (by intro e; injection e with e; exact hbg e.symm)).trans h1
theorem PInv.put {w wc : World} {b4 b6 : Nat} {p p' : Array Value} {l : List ByteArray} (h : PInv w wc b4 b6 p l) (i : Nat) (v : Value) (e : p.setIfInBounds i v = p') : PInv w (wc.setCell ⟨b6, i, none⟩ v) b4 b6 p' l := by
  obtain ⟨A, c, h4, hA, hc, hC⟩ := h.P4
  have lt := h.lt
  exact ⟨blk_put h.P6 i v e, blk_far h.PZ (by simp; omega) _, h.HB.setCell (p := ⟨b6, i, none⟩) (by simp; omega) _, h.lt, A, c, blk_far h4 (by simp; omega) _, hA, hc, C_away hC hA⟩
theorem put8 {W : World} {g : Nat} {x0 x1 x2 x3 x4 x5 x6 x7 : Value} (h : W.heap[g]? = some (.cells #[x0, x1, x2, x3, x4, x5, x6, x7] 48 (0, 0))) (y0 y1 y2 y3 y4 y5 y6 y7 : Value) :
    ((((((((W.setCell ⟨g, 0, none⟩ y0).setCell ⟨g, 1, none⟩ y1).setCell ⟨g, 2, none⟩ y2).setCell ⟨g, 3, none⟩ y3).setCell ⟨g, 4, none⟩ y4).setCell ⟨g, 5, none⟩ y5).setCell ⟨g, 6, none⟩ y6).setCell ⟨g, 7, none⟩ y7).heap[g]? = some (.cells #[y0, y1, y2, y3, y4, y5, y6, y7] 48 (0, 0)) := (blk_put (cs' := #[y0, y1, y2, y3, y4, y5, y6, y7]) (blk_put (cs' := #[y0, y1, y2, y3, y4, y5, y6, x7]) (blk_put (cs' := #[y0, y1, y2, y3, y4, y5, x6, x7]) (blk_put (cs' := #[y0, y1, y2, y3, y4, x5, x6, x7]) (blk_put (cs' := #[y0, y1, y2, y3, x4, x5, x6, x7]) (blk_put (cs' := #[y0, y1, y2, x3, x4, x5, x6, x7]) (blk_put (cs' := #[y0, y1, x2, x3, x4, x5, x6, x7]) (blk_put (cs' := #[y0, x1, x2, x3, x4, x5, x6, x7]) h 0 y0 rfl) 1 y1 rfl) 2 y2 rfl) 3 y3 rfl) 4 y4 rfl) 5 y5 rfl) 6 y6 rfl) 7 y7 rfl)
theorem put8_below {B : Nat} {W0 W : World} {g : Nat} (hb : Below B W0 W) (hg : B ≤ g) (y0 y1 y2 y3 y4 y5 y6 y7 : Value) :
    Below B W0 ((((((((W.setCell ⟨g, 0, none⟩ y0).setCell ⟨g, 1, none⟩ y1).setCell ⟨g, 2, none⟩ y2).setCell ⟨g, 3, none⟩ y3).setCell ⟨g, 4, none⟩ y4).setCell ⟨g, 5, none⟩ y5).setCell ⟨g, 6, none⟩ y6).setCell ⟨g, 7, none⟩ y7) := (Below.setCell (p := ⟨g, 7, none⟩) (Below.setCell (p := ⟨g, 6, none⟩) (Below.setCell (p := ⟨g, 5, none⟩) (Below.setCell (p := ⟨g, 4, none⟩) (Below.setCell (p := ⟨g, 3, none⟩) (Below.setCell (p := ⟨g, 2, none⟩) (Below.setCell (p := ⟨g, 1, none⟩) (Below.setCell (p := ⟨g, 0, none⟩) hb hg _) hg _) hg _) hg _) hg _) hg _) hg _) hg _)
set_option maxHeartbeats 600000 in
set_option maxRecDepth 100000 in
theorem parse_walk (s : ByteArray) (r1 r2 r3 r4 r5 r6 r7 : Int) (r8 : ByteArray) (r9 : Int) (w : World) (hG_ : GP w) (hs : s.size ≤ 80) (h : effect_Parse.f s = some (r1, r2, r3, r4, r5, r6, r7, r8, r9)) :
    Calls Tryz.prog 20 #[.string s] w fun e w' => e = .returned (.tuple #[.agg #[.int .u8 r1, .int .u8 r2, .int .u8 r3, .int .i64 r4, .int .u8 r5, .int .u8 r6, .int .u8 r7, .string r8], .int .i64 r9]) ∧ Below w.heap.size w w' := by
  have HH := Lib.hid h
  clear h
  have HG := Lib.hid hG_
  clear hG_
  have hu48 := Tryz.underlying48
  have hu63 := Tryz.underlying63
  have hu74 := Tryz.underlying74
  go_enter Tryz.func20, Tryz.ntmps20
  go_wp2_with fail
  refine (strings_Split.calls s ⟨#[32]⟩ _ _ (GP_below HG.out ((Below.refl _ _).alloc (Nat.le_refl _) _)) (by unfold strings_Split.f; rw [if_pos ⟨by omega, by decide⟩])).mono ?_
  rintro e w1 ⟨v1, rfl, hR1, hb1⟩
  obtain ⟨A1, c1, rfl, hc1, hC1⟩ := Kd.R_reads hR1
  clear hR1
  obtain ⟨l, hl⟩ : ∃ l, Lib.splitB ⟨#[32]⟩ 0 (Lib.countB s ⟨#[32]⟩) s = l := ⟨_, rfl⟩
  rw [hl] at hC1 hc1 ⊢
  have HL := Lib.hid hl
  clear hl
  have HC1 := Lib.hid hC1
  have hB1 : Below w.heap.size w w1 := ((Below.refl _ _).alloc (Nat.le_refl _) _).trans (hb1.mono (by simp))
  have hz2 : w1.heap[w.heap.size]? = some (.cells #[.int .u8 0, .int .u8 0, .int .u8 0, .int .i64 0, .int .u8 0, .int .u8 0, .int .u8 0, .string ⟨#[]⟩] 48 (0, 0)) := blk_below (heap_alloc_new w _) hb1
  have hlt : w.heap.size < w1.heap.size := blk_lt hz2
  obtain ⟨zc0, zc1, zc2, zc3, zc4, zc5, zc6, zc7, zf0, zf1, zf2, zf3, zf4, zf5, zf6, zf7⟩ := part_cells hz2
  clear hb1 hC1
  by_cases h3 : (l.length : Int) < 3
  · have h3d : decide ((l.length : Int) < 3) = true := decide_eq_true h3
    go_wp2
    refine bodyPost_ret (results_ct rfl _ _ w.heap.size 48 #[.int .u8 0, .int .u8 0, .int .u8 0, .int .i64 0, .int .u8 0, .int .u8 0, .int .u8 0, .string ⟨#[]⟩] (0, 0) _ rfl (blk_alloc (put8 hz2 _ _ _ _ _ _ _ _) _) Tryz.underlying48 rfl (by kernel_rfl)) rfl ?_
    have h := HH.out
    unfold effect_Parse.f at h
    rw [if_neg (by omega), HL.out] at h
    have h' : some (0, 0, 0, 0, 0, 0, 0, (⟨#[]⟩ : ByteArray), 150) = some (r1, r2, r3, r4, r5, r6, r7, r8, r9) := by
      match l, h3 with
      | x0 :: x1 :: x2 :: r, h3 => exact absurd h3 (by simp only [List.length_cons]; omega)
      | [], _ => exact h
      | [_], _ => exact h
      | [_, _], _ => exact h
    injection h' with h'
    simp only [Prod.mk.injEq] at h'
    obtain ⟨rfl, rfl, rfl, rfl, rfl, rfl, rfl, rfl, rfl⟩ := h'
    exact ⟨rfl, (put8_below hB1 (Nat.le_refl _) _ _ _ _ _ _ _ _).alloc (put8_below hB1 (Nat.le_refl _) _ _ _ _ _ _ _ _).size _⟩
  · have h3d : decide ((l.length : Int) < 3) = false := decide_eq_false h3
    go_wp2_with fail
    have hB1' : Below w.heap.size w (w1.alloc (.cells #[.slice A1 l.length c1] 63)) := hB1.alloc (Nat.le_of_lt hlt) _
    refine (effect_words.calls wWhens wVerbs wWhoms _ (GP_below HG.out hB1') rfl).mono ?_
    rintro e w2 ⟨v0, v1, v2, rfl, hR0, hR1, hR2, hb2⟩
    have hB2 : Below w.heap.size w w2 := hB1'.trans (hb2.mono (by simp; omega))
    have hz2' := blk_below (blk_alloc hz2 (.cells #[.slice A1 l.length c1] 63)) hb2
    have hv2 : w2.heap[w1.heap.size]? = some (.cells #[.slice A1 l.length c1] 63 (0, 0)) := blk_below (heap_alloc_new w1 _) hb2
    have HC2 := Lib.hid (Kd.C_below (Kd.C_alloc HC1.out (.cells #[.slice A1 l.length c1] 63)) hb2)
    obtain ⟨B0, c0, rfl, hc0, hC0⟩ := Kd.R_reads hR0
    obtain ⟨B1, cb1, rfl, hcb1, hCb1⟩ := Kd.R_reads hR1
    obtain ⟨B2, cb2, rfl, hcb2, hCb2⟩ := Kd.R_reads hR2
    have HC0 := Lib.hid hC0
    have HCb1 := Lib.hid hCb1
    have HCb2 := Lib.hid hCb2
    obtain ⟨b4, hb4⟩ : ∃ b4, w1.heap.size = b4 := ⟨_, rfl⟩
    rw [hb4] at hv2 hlt ⊢
    clear zc0 zc1 zc2 zc3 zc4 zc5 zc6 zc7 zf0 zf1 zf2 zf3 zf4 zf5 zf6 zf7 HC1 hz2 hR0 hR1 hR2 hC0 hCb1 hCb2 hb2 hB1' hB1 hb4
    clear w1
    have hlt2 : b4 < w2.heap.size := blk_lt hv2
    go_wp2_with fail
    have hl6 : wWhens.length = 6 := rfl
    have hl19 : wVerbs.length = 19 := rfl
    have hl10 : wWhoms.length = 10 := rfl
    obtain ⟨x0, x1, x2, r, rfl⟩ : ∃ x0 x1 x2 r, l = x0 :: x1 :: x2 :: r := by
      match l, h3 with
      | x0 :: x1 :: x2 :: r, _ => exact ⟨x0, x1, x2, r, rfl⟩
      | [], h => exact absurd h (by simp)
      | [_], h => exact absurd h (by simp)
      | [_, _], h => exact absurd h (by simp)
    obtain ⟨bA, oA, hA, hcA⟩ := cells_of_C HC2.out (by simp)
    subst hA
    have q0 := blk_cell (heap_alloc_new w2 (.cells #[.slice B0 wWhens.length c0, .slice B1 wVerbs.length cb1, .slice B2 wWhoms.length cb2] 74)) 0
    obtain ⟨w3, hw3⟩ : ∃ w3, w2.alloc (.cells #[.slice B0 wWhens.length c0, .slice B1 wVerbs.length cb1, .slice B2 wWhoms.length cb2] 74) = w3 := ⟨_, rfl⟩
    obtain ⟨b5, hb5⟩ : ∃ b5, w2.heap.size = b5 := ⟨_, rfl⟩
    have hn := heap_alloc_new w2 (.cells #[.slice B0 wWhens.length c0, .slice B1 wVerbs.length cb1, .slice B2 wWhoms.length cb2] 74)
    have hB3 : Below w.heap.size w w3 := hw3 ▸ hB2.alloc (by omega) _
    have hz3 := blk_alloc hz2' (.cells #[.slice B0 wWhens.length c0, .slice B1 wVerbs.length cb1, .slice B2 wWhoms.length cb2] 74)
    have hv3 := blk_alloc hv2 (.cells #[.slice B0 wWhens.length c0, .slice B1 wVerbs.length cb1, .slice B2 wWhoms.length cb2] 74)
    have D0 := Kd.C_alloc HC0.out (.cells #[.slice B0 wWhens.length c0, .slice B1 wVerbs.length cb1, .slice B2 wWhoms.length cb2] 74)
    have D1 := Kd.C_alloc HCb1.out (.cells #[.slice B0 wWhens.length c0, .slice B1 wVerbs.length cb1, .slice B2 wWhoms.length cb2] 74)
    have D2 := Kd.C_alloc HCb2.out (.cells #[.slice B0 wWhens.length c0, .slice B1 wVerbs.length cb1, .slice B2 wWhoms.length cb2] 74)
    have DA := Kd.C_alloc HC2.out (.cells #[.slice B0 wWhens.length c0, .slice B1 wVerbs.length cb1, .slice B2 wWhoms.length cb2] 74)
    rw [hw3] at hn hz3 hv3 D0 D1 D2 DA ⊢
    rw [hb5] at hn hlt2 ⊢
    clear hw3 HC0 HCb1 HCb2 HC2 hz2' hv2 hB2 hcA q0
    clear hb5 w2
    obtain ⟨bA', oA', hA, hcA⟩ := cells_of_C DA (by simp)
    injection hA with hA
    injection hA with hA1 hA2
    subst hA1 hA2
    have e0 : w3.cell? ⟨bA, oA, none⟩ = some (.string x0) := hcA 0 x0 rfl
    have e1 : w3.cell? ⟨bA, oA + 1, none⟩ = some (.string x1) := hcA 1 x1 rfl
    have e2 : w3.cell? ⟨bA, oA + 2, none⟩ = some (.string x2) := hcA 2 x2 rfl
    have f0 : w3.cell? ⟨b5, 0, none⟩ = some (.slice B0 wWhens.length c0) := blk_cell hn 0
    have f1 : w3.cell? ⟨b5, 1, none⟩ = some (.slice B1 wVerbs.length cb1) := blk_cell hn 1
    have f2 : w3.cell? ⟨b5, 2, none⟩ = some (.slice B2 wWhoms.length cb2) := blk_cell hn 2
    have g0 : w3.cell? ⟨b4, 0, none⟩ = some (.slice (some ⟨bA, oA, none⟩) (x0 :: x1 :: x2 :: r).length c1) := blk_cell hv3 0
    clear hcA hl6 hl19 hl10
    have lt0 := World.block_lt_of_cell? w3 _ f0
    have lt4 := World.block_lt_of_cell? w3 _ g0
    have ltA := World.block_lt_of_cell? w3 _ e0
    have HZ3 := Lib.hid hz3
    have HV3 := Lib.hid hv3
    clear hz3 hv3 hn
    have hn3 : 3 ≤ (x0 :: x1 :: x2 :: r).length := by simp
    have HDA := Lib.hid DA
    have HLN : Hid ((x0 :: x1 :: x2 :: r).length = r.length + 3) := Lib.hid rfl
    clear DA h3 h3d
    generalize hnn : (x0 :: x1 :: x2 :: r).length = n at *
    have n0 : (0 : Int) < (n : Int) := by omega
    have n1 : (1 : Int) < (n : Int) := by omega
    have n2 : (2 : Int) < (n : Int) := by omega
    have HNN := Lib.hid hnn
    clear hnn
    have n0' : 0 < n := by omega
    have k0 : IntKind.i64.wrap (Lib.idxOfS wWhens x0 + 1) = Lib.idxOfS wWhens x0 + 1 := IntWalk.i64_in _ (by have := idxOfS_bd wWhens x0; have : wWhens.length = 6 := rfl; omega)
    have k1 : IntKind.i64.wrap (Lib.idxOfS wVerbs x1 + 1) = Lib.idxOfS wVerbs x1 + 1 := IntWalk.i64_in _ (by have := idxOfS_bd wVerbs x1; have : wVerbs.length = 19 := rfl; omega)
    have k2 : IntKind.i64.wrap (Lib.idxOfS wWhoms x2 + 1) = Lib.idxOfS wWhoms x2 + 1 := IntWalk.i64_in _ (by have := idxOfS_bd wWhoms x2; have : wWhoms.length = 10 := rfl; omega)
    go_cut [6] (fun v6 wc => ∃ b6, v6 = .pointer (some ⟨b6, 0, none⟩) ∧ Aside0 (wc.heap[b6]? = some (.cells #[.int .u8 ((Lib.idxOfS wWhens x0 + 1) % 256), .int .u8 ((Lib.idxOfS wVerbs x1 + 1) % 256), .int .u8 ((Lib.idxOfS wWhoms x2 + 1) % 256), .int .i64 0, .int .u8 0, .int .u8 0, .int .u8 0, .string ⟨#[]⟩] 48 (0, 0))) ∧ Aside0 (wc.heap[b4]? = some (.cells #[.slice (some ⟨bA, oA, none⟩) n c1] 63 (0, 0))) ∧ Aside0 (wc.heap[w.heap.size]? = some (.cells #[.int .u8 0, .int .u8 0, .int .u8 0, .int .i64 0, .int .u8 0, .int .u8 0, .int .u8 0, .string ⟨#[]⟩] 48 (0, 0))) ∧ Aside0 (Below w.heap.size w wc) ∧ Aside0 (Kd.C Kd.string wc (some ⟨bA, oA, none⟩) n (x0 :: x1 :: x2 :: r)) ∧ Aside0 (w.heap.size < b4 ∧ b4 < b6 ∧ bA < b6))
    case first =>
      go_region_held3 (fun w' => w'.cell? ⟨b5, 0, none⟩ = some (.slice B0 wWhens.length c0) ∧ w'.cell? ⟨b5, 1, none⟩ = some (.slice B1 wVerbs.length cb1) ∧ w'.cell? ⟨b5, 2, none⟩ = some (.slice B2 wWhoms.length cb2) ∧ w'.cell? ⟨b4, 0, none⟩ = some (.slice (some ⟨bA, oA, none⟩) n c1) ∧ w'.cell? ⟨bA, oA, none⟩ = some (.string x0) ∧ w'.cell? ⟨bA, oA + 1, none⟩ = some (.string x1) ∧ w'.cell? ⟨bA, oA + 2, none⟩ = some (.string x2))
        (first | go_keep)
        (first | (go_at_call 52; refine (index_calls _ _ _ _ _ ?_).mono ?_; (first | exact D0 | exact D1 | exact D2 | exact Kd.C_alloc D0 _ | exact Kd.C_alloc D1 _ | exact Kd.C_alloc D2 _); rintro e w' ⟨rfl, rfl⟩))
      all_goals go_wp2_with fail
      all_goals go_meet
      all_goals exact ⟨_, rfl, ⟨heap_alloc_new w3 _⟩, ⟨blk_alloc HV3.out _⟩, ⟨blk_alloc HZ3.out _⟩, ⟨below_drew1 (hB3.alloc (by omega) _)⟩, ⟨Kd.C_alloc HDA.out _⟩, ⟨by omega, by simpa using lt4, by simpa using ltA⟩⟩
    case rest =>
      clear k0 k1 k2 n0 n1 n2 n0' e0 e1 e2 f0 f1 f2 g0 lt0 lt4 ltA HZ3 HV3 HDA hB3 D0 D1 D2 hlt hlt2 hc0 hcb1 hcb2 hu74
      obtain ⟨b6, rfl, P6, P4, PZ, HB, HCl, Hlt⟩ := hcut
      obtain rfl : n = r.length + 3 := by rw [← HNN.out]; rfl
      obtain ⟨p0, hp0⟩ : ∃ p, (Lib.idxOfS wWhens x0 + 1) % 256 = p := ⟨_, rfl⟩
      obtain ⟨p1, hp1⟩ : ∃ p, (Lib.idxOfS wVerbs x1 + 1) % 256 = p := ⟨_, rfl⟩
      obtain ⟨p2, hp2⟩ : ∃ p, (Lib.idxOfS wWhoms x2 + 1) % 256 = p := ⟨_, rfl⟩
      rw [hp0, hp1, hp2] at P6
      have HP : Hid (parseRest s p0 p1 p2 r = some (r1, r2, r3, r4, r5, r6, r7, r8, r9)) := Lib.hid (by
        have h := HH.out
        unfold effect_Parse.f at h
        rw [if_neg (by omega), HL.out] at h
        simp only [hp0, hp1, hp2] at h
        exact h)
      clear HH hp0 hp1 hp2
      obtain ⟨i0, hi0, hz⟩ : ∃ i, Tryz.prog.info? 9 = some i ∧ i.size = 1 := by
        have := info9
        cases h : Tryz.prog.info? 9 with
        | none => simp [h] at this
        | some i => simp [h] at this; exact ⟨i, rfl, this.2.1⟩
      have hcutr := cut_from (P := Tryz.prog) 63 9 .i64 Tryz.underlying63 hi0 1 hz (some ⟨bA, oA, none⟩) (r.length + 3) c1 3 (by decide) (by omega)
      have hdrop : Kd.C Kd.string wc (if c1 = 3 then some (⟨bA, oA, none⟩ : Addr) else (some (⟨bA, oA, none⟩ : Addr)).map (·.add (3 * 1))) r.length r := Kd.C_drop (m := 3) (c := c1) (xs := x0 :: x1 :: x2 :: r) HCl.out (by simp) hc1
      obtain ⟨A3, hA3⟩ : ∃ A', (if c1 = 3 then some (⟨bA, oA, none⟩ : Addr) else (some (⟨bA, oA, none⟩ : Addr)).map (·.add (3 * 1))) = A' := ⟨_, rfl⟩
      have hcut3 : ∀ W : World, (Instr.slice 63 (.slice (some ⟨bA, oA, none⟩) (r.length + 3) c1) (some (.int .i64 3)) none none).run Tryz.prog W = .ok (.slice A3 r.length (c1 - 3)) W := fun W => by
        rw [← hA3]; exact hcutr W
      have HA3 : Hid (∀ ad, A3 = some ad → ad.block ≠ b6) := Lib.hid (by
        intro ad e
        rw [← hA3] at e
        have := Hlt.out
        split at e
        · cases e; show bA ≠ b6; omega
        · cases e; show bA ≠ b6; omega)
      rw [hA3] at hdrop
      have HD := Lib.hid hdrop
      have hc3 : r.length ≤ c1 - 3 := by omega
      have q4 : wc.cell? ⟨b4, 0, none⟩ = some (.slice (some ⟨bA, oA, none⟩) (r.length + 3) c1) := blk_cell P4.out 0
      have qf4 := blk_frozen P4.out 0
      obtain ⟨y0, y1, y2, y3, y4, y5, y6, y7, _, _, _, _, _, _, _, _⟩ := part_cells P6.out
      have hne : b4 ≠ b6 := by have := Hlt.out; omega
      have hI : PInv w (wc.setCell ⟨b4, 0, none⟩ (.slice A3 r.length (c1 - 3))) b4 b6 #[.int .u8 p0, .int .u8 p1, .int .u8 p2, .int .i64 0, .int .u8 0, .int .u8 0, .int .u8 0, .string ⟨#[]⟩] r := by
        have := Hlt.out
        exact ⟨blk_far P6.out (by simp; omega) _, blk_far PZ.out (by simp; omega) _, HB.out.setCell (p := ⟨b4, 0, none⟩) (by simp; omega) _, ⟨this.1, this.2.1⟩, A3, c1 - 3, blk_put P4.out 0 _ rfl, HA3.out, hc3, C_far HD.out P4.out (fun s => by simp)⟩
      have HI := Lib.hid hI
      clear hI hA3 hcutr hdrop hi0 hz P4 P6 PZ HB HCl hc3 HD HA3 hc1 HNN HLN
      have HW : Hid (∀ x ∈ r, x.size ≤ 80) := Lib.hid (fun x hx => by
        have hl := HL.out
        have := splitB_size ⟨#[32]⟩ 0 _ s x (by rw [hl]; simp [hx])
        omega)
      obtain ⟨⟨u1, u2, u3, u4, u5⟩, hU, hP⟩ := Option.bind_eq_some_iff.1 HP.out
      have HU := Lib.hid hU
      clear hU HP
      have HP := Lib.hid hP
      clear hP
      go_wp2_with (go_at_call 54; (refine (effect_Uses.calls 1 p1 p2 u1 u2 u3 u4 u5 _ HU.out).mono ?_); rintro e w' ⟨rfl, ⟨nd, rfl⟩⟩)
      have hI0 := HI.out.below (pw_below_drewN (Below.refl _ _) nd)
      clear HI y0 y1 y2 y3 y4 y5 y6 y7 q4 qf4 hcut3
      refine (hI0.next u1).mono ?_
      rintro e w4 ⟨rfl, hI4⟩
      clear hI0
      go_wp2_with fail
      refine (atoi_calls _ _ (GP_below HG.out hI4.HB) (by have := nextWord_size HW.out u1; omega)).mono ?_
      rintro e w5 ⟨v5, rfl, hb5⟩
      have hm := hI4.below hb5
      clear hI4 hb5
      obtain ⟨m0, m1, m2, m3, m4, m5, m6, m7, mf0, mf1, mf2, mf3, mf4, mf5, mf6, mf7⟩ := part_cells hm.P6
      go_wp2_with fail
      have hI6 := hm.put 3 (.int .i64 (atoiVal (nextWord u1 r))) rfl
      clear hm m0 m1 m2 m3 m4 m5 m6 m7 mf0 mf1 mf2 mf3 mf4 mf5 mf6 mf7
      refine (hI6.next u2).mono ?_
      rintro e w7 ⟨rfl, hI7⟩
      clear hI6
      go_wp2_with fail
      obtain ⟨⟨su, sb⟩, hS, hP⟩ := Option.bind_eq_some_iff.1 HP.out
      clear HP
      have HP := Lib.hid hP
      clear hP
      have HS := Lib.hid hS
      clear hS
      refine (suit_Of.calls _ su sb _ HS.out).mono ?_
      rintro e w8 ⟨rfl, hb8⟩
      have hn := hI7.below hb8
      clear hI7 hb8
      obtain ⟨n0, n1, n2, n3, n4, n5, n6, n7, nf0, nf1, nf2, nf3, nf4, nf5, nf6, nf7⟩ := part_cells hn.P6
      go_wp2_with fail
      have hI9 := hn.put 4 (.int .u8 su) rfl
      clear hn n0 n1 n2 n3 n4 n5 n6 n7 nf0 nf1 nf2 nf3 nf4 nf5 nf6 nf7
      refine (hI9.next u3).mono ?_
      rintro e w10 ⟨rfl, hI10⟩
      clear hI9
      go_wp2_with fail
      obtain ⟨⟨tr, tb⟩, hT, hP⟩ := Option.bind_eq_some_iff.1 HP.out
      clear HP
      have HP := Lib.hid hP
      clear hP
      have HT := Lib.hid hT
      clear hT
      refine (trait_Of.calls 20 _ tr tb _ (GP_below HG.out hI10.HB) HT.out).mono ?_
      rintro e w11 ⟨rfl, ⟨nd2, rfl⟩⟩
      have hq := hI10.below (pw_below_drewN (Below.refl _ _) nd2)
      clear hI10
      obtain ⟨q0, q1, q2, q3, q4, q5, q6, q7, qf0, qf1, qf2, qf3, qf4, qf5, qf6, qf7⟩ := part_cells hq.P6
      go_wp2_with fail
      have hI12 := hq.put 5 (.int .u8 tr) rfl
      clear hq q0 q1 q2 q3 q4 q5 q6 q7 qf0 qf1 qf2 qf3 qf4 qf5 qf6 qf7
      refine (hI12.next u4).mono ?_
      rintro e w13 ⟨rfl, hI13⟩
      clear hI12
      go_wp2_with fail
      refine (atoi_calls _ _ (GP_below HG.out hI13.HB) (by have := nextWord_size (nextRest_mem (nextRest_mem (nextRest_mem HW.out u1) u2) u3) u4; omega)).mono ?_
      rintro e w14 ⟨v14, rfl, hb14⟩
      have ho := hI13.below hb14
      clear hI13 hb14
      obtain ⟨mk, hmk⟩ : ∃ mk, atoiVal (nextWord u4 (nextRest u3 (nextRest u2 (nextRest u1 r)))) = mk := ⟨_, rfl⟩
      rw [hmk]
      have HM := Lib.hid hmk
      clear hmk
      obtain ⟨o0, o1, o2, o3, o4, o5, o6, o7, of0, of1, of2, of3, of4, of5, of6, of7⟩ := part_cells ho.P6
      go_wp2_with fail
      have hI15 := ho.put 6 (.int .u8 (min (max mk 0) 9)) rfl
      clear ho o0 o1 o2 o3 o4 o5 o6 o7 of0 of1 of2 of3 of4 of5 of6 of7
      refine (hI15.next u5).mono ?_
      rintro e w16 ⟨rfl, hv⟩
      clear hI15
      obtain ⟨v0, v1, v2, v3, v4, v5, v6, v7, vf0, vf1, vf2, vf3, vf4, vf5, vf6, vf7⟩ := part_cells hv.P6
      go_wp2_with fail
      have hI17 := hv.put 7 (.string (nextWord u5 (nextRest u4 (nextRest u3 (nextRest u2 (nextRest u1 r)))))) rfl
      clear hv v0 v1 v2 v3 v4 v5 v6 v7 vf0 vf1 vf2 vf3 vf4 vf5 vf6 vf7
      obtain ⟨⟨tx, er⟩, hR, hP⟩ := Option.bind_eq_some_iff.1 HP.out
      clear HP
      have HP := Lib.hid hP
      clear hP
      rw [HM.out] at hR
      have HR := Lib.hid hR
      clear hR
      refine (effect_Print.calls 12 _ _ _ _ _ _ _ _ tx er _ (GP_below HG.out hI17.HB) HR.out).mono ?_
      rintro e w18 ⟨rfl, hb18⟩
      have hx := hI17.below hb18
      clear hI17 hb18
      obtain ⟨x0, x1, x2, x3, x4, x5, x6, x7, xf0, xf1, xf2, xf3, xf4, xf5, xf6, xf7⟩ := part_cells hx.P6
      obtain ⟨xr0, xr1, xr2, xr3, xr4, xr5, xr6, xr7, xrf0, xrf1, xrf2, xrf3, xrf4, xrf5, xrf6, xrf7⟩ := part_cells hx.PZ
      have hpost := HP.out
      rw [HM.out] at hpost
      clear HP HR HM HS HT HW HL HG HU
      by_cases he : er = 0
      · subst he
        by_cases ht : tx.toList = s.toList
        · rw [if_pos ⟨rfl, ht⟩] at hpost
          injection hpost with hpost
          simp only [Prod.mk.injEq] at hpost
          obtain ⟨rfl, rfl, rfl, rfl, rfl, rfl, rfl, rfl, rfl⟩ := hpost
          have hb1 : (tx.toList == s.toList) = true := by rw [ht]; simp
          clear ht
          go_wp2_with fail
          refine bodyPost_ret (results_ct rfl _ _ w.heap.size 48 #[.int .u8 p0, .int .u8 p1, .int .u8 p2, .int .i64 (atoiVal (nextWord u1 r)), .int .u8 su, .int .u8 tr, .int .u8 (min (max mk 0) 9), .string (nextWord u5 (nextRest u4 (nextRest u3 (nextRest u2 (nextRest u1 r)))))] (0, 0) _ rfl (put8 hx.PZ _ _ _ _ _ _ _ _) Tryz.underlying48 rfl (by kernel_rfl)) rfl ?_
          exact ⟨rfl, put8_below hx.HB (Nat.le_refl _) _ _ _ _ _ _ _ _⟩
        · rw [if_neg (by rintro ⟨_, h⟩; exact ht h)] at hpost
          injection hpost with hpost
          simp only [Prod.mk.injEq] at hpost
          obtain ⟨rfl, rfl, rfl, rfl, rfl, rfl, rfl, rfl, rfl⟩ := hpost
          have hb1 : (tx.toList == s.toList) = false := by simp [ht]
          clear ht
          go_wp2_with fail
          refine bodyPost_ret (results_ct rfl _ _ w.heap.size 48 #[.int .u8 0, .int .u8 0, .int .u8 0, .int .i64 0, .int .u8 0, .int .u8 0, .int .u8 0, .string ⟨#[]⟩] (0, 0) _ rfl (put8 hx.PZ _ _ _ _ _ _ _ _) Tryz.underlying48 rfl (by kernel_rfl)) rfl ?_
          exact ⟨rfl, put8_below hx.HB (Nat.le_refl _) _ _ _ _ _ _ _ _⟩
      · rw [if_neg (by rintro ⟨h, _⟩; exact he h)] at hpost
        injection hpost with hpost
        simp only [Prod.mk.injEq] at hpost
        obtain ⟨rfl, rfl, rfl, rfl, rfl, rfl, rfl, rfl, rfl⟩ := hpost
        have hb1 : (er == 0) = false := by simp [he]
        have hb2 : (er != 0) = true := by simp [he]
        clear he
        go_wp2_with fail
        refine bodyPost_ret (results_ct rfl _ _ w.heap.size 48 #[.int .u8 0, .int .u8 0, .int .u8 0, .int .i64 0, .int .u8 0, .int .u8 0, .int .u8 0, .string ⟨#[]⟩] (0, 0) _ rfl (put8 hx.PZ _ _ _ _ _ _ _ _) Tryz.underlying48 rfl (by kernel_rfl)) rfl ?_
        exact ⟨rfl, put8_below hx.HB (Nat.le_refl _) _ _ _ _ _ _ _ _⟩
set_option maxHeartbeats 1000000 in
theorem effect_Parse.calls (a0 : ByteArray) (r1 : Int) (r2 : Int) (r3 : Int) (r4 : Int) (r5 : Int) (r6 : Int) (r7 : Int) (r8 : ByteArray) (r9 : Int) (w : World) (hG_ : GP w) (h : effect_Parse.f a0 = some (r1, r2, r3, r4, r5, r6, r7, r8, r9)) :
    Calls Tryz.prog 20 #[.string a0] w fun e w' => e = .returned (.tuple #[.agg #[.int .u8 r1, .int .u8 r2, .int .u8 r3, .int .i64 r4, .int .u8 r5, .int .u8 r6, .int .u8 r7, .string r8], .int .i64 r9]) ∧ Below w.heap.size w w' := by
  by_cases hs : a0.size ≤ 80
  · exact parse_walk a0 r1 r2 r3 r4 r5 r6 r7 r8 r9 w hG_ hs h
  · unfold effect_Parse.f at h
    rw [if_pos (by omega)] at h
    injection h with h
    simp only [Prod.mk.injEq] at h
    obtain ⟨rfl, rfl, rfl, rfl, rfl, rfl, rfl, rfl, rfl⟩ := h
    have h1 : decide ((80 : Int) < (a0.size : Int)) = true := decide_eq_true (by omega)
    have hu48 := Tryz.underlying48
    clear hG_ hs
    go_enter Tryz.func20, Tryz.ntmps20
    go_wp2_with fail
    refine bodyPost_ret (results_ct rfl _ _ w.heap.size 48 #[.int .u8 0, .int .u8 0, .int .u8 0, .int .i64 0, .int .u8 0, .int .u8 0, .int .u8 0, .string ⟨#[]⟩] (0, 0) _ rfl (heap_alloc_new w _) Tryz.underlying48 rfl (by kernel_rfl)) rfl ?_
    exact ⟨rfl, (Below.refl _ _).alloc (Nat.le_refl _) _⟩
end Go.Proofs.YtfpcideomanbbaaGreatDoor.PA
end
section
namespace Go.Proofs.YtfpcideomanbbaaGreatDoor.PA
open Go.RowKit Go.Proofs.YtfpcideomanbbaaGreatDoorW.PrintWords Go.Proofs.YtfpcideomanbbaaGreatDoorW.PrintLast Go.Proofs.YtfpcideomanbbaaGreatDoorW.PrintMore
def itoaB (c : Int) : ByteArray := ⟨(Lib.itoa c).toArray⟩
theorem small_int {c : Int} (h1 : -99 ≤ c) (h2 : c ≤ 99) : ∃ n : Fin 199, c = (n.val : Int) - 99 := ⟨⟨(c + 99).toNat, by omega⟩, by simp; omega⟩
theorem number12 : ∀ n : Fin 199, gambitref05_number.f 12 (itoaB ((n.val : Int) - 99)) = some ((n.val : Int) - 99) := by decide +kernel
theorem number_more (a : ByteArray) (r : Int) (h : gambitref05_number.f 12 a = some r) : ∀ k : Nat, gambitref05_number.f (12 + k) a = some r
  | 0 => h
  | k + 1 => gambitref05_number.mono a (12 + k) _ (number_more a r h k)
theorem number_itoa (c : Int) (h1 : -99 ≤ c) (h2 : c ≤ 99) (k : Nat) : gambitref05_number.f (k + 12) (itoaB c) = some c := by
  obtain ⟨n, rfl⟩ := small_int h1 h2
  rw [Nat.add_comm]
  exact number_more _ _ (number12 n) k
theorem atoi12 : ∀ n : Fin 199, atoiVal (itoaB ((n.val : Int) - 99)) = ((n.val : Int) - 99) := by decide +kernel
theorem atoi_itoa (c : Int) (h1 : -99 ≤ c) (h2 : c ≤ 99) : atoiVal (itoaB c) = c := by
  obtain ⟨n, rfl⟩ := small_int h1 h2
  exact atoi12 n
theorem itoa_plain : ∀ n : Fin 199, (itoaB ((n.val : Int) - 99)).size ≤ 3 ∧ (32 : UInt8) ∉ (itoaB ((n.val : Int) - 99)).data.toList := by decide +kernel
theorem itoa_word (c : Int) (h1 : -99 ≤ c) (h2 : c ≤ 99) : (itoaB c).size ≤ 3 ∧ (32 : UInt8) ∉ (itoaB c).data.toList := by
  obtain ⟨n, rfl⟩ := small_int h1 h2
  exact itoa_plain n
end Go.Proofs.YtfpcideomanbbaaGreatDoor.PA
end
section
namespace Go.Proofs.YtfpcideomanbbaaGreatDoor.PA
open Go.RowKit Go.Proofs.YtfpcideomanbbaaGreatDoorW.PrintWords Go.Proofs.YtfpcideomanbbaaGreatDoorW.PrintLast Go.Proofs.YtfpcideomanbbaaGreatDoorW.PrintMore
abbrev bl (s : ByteArray) : List UInt8 := s.data.toList
theorem join_cons2 (w v : List UInt8) (L : List (List UInt8)) : Lib.join (w :: v :: L) [32] = w ++ (32 :: Lib.join (v :: L) [32]) := by simp [Lib.join]
theorem join_snoc : ∀ (L : List (List UInt8)) (x : List UInt8), L ≠ [] → Lib.join (L ++ [x]) [32] = Lib.join L [32] ++ 32 :: x
  | [], _, h => absurd rfl h
  | [w], x, _ => by simp [Lib.join]
  | w :: v :: L, x, _ => by
    have ih := join_snoc (v :: L) x (by simp)
    have e : (w :: v :: L) ++ [x] = w :: v :: (L ++ [x]) := rfl
    rw [e, join_cons2, join_cons2]
    have e2 : v :: (L ++ [x]) = (v :: L) ++ [x] := rfl
    rw [e2, ih]; simp
theorem join_size : ∀ (L : List (List UInt8)), (∀ w ∈ L, w.length ≤ 20) → (Lib.join L [32]).length ≤ 21 * L.length
  | [], _ => by simp [Lib.join]
  | [w], h => by have := h w (by simp); simp [Lib.join]; omega
  | w :: v :: L, h => by
    have h1 := h w (by simp)
    have ih := join_size (v :: L) (fun x hx => h x (by simp [hx]))
    rw [join_cons2]; simp at ih ⊢; omega
def suitW (x : Int) : ByteArray := (gambitref03_Name.f x).getD ⟨#[]⟩
def traitW (x : Int) : ByteArray := (trait_Name.f x).getD ⟨#[]⟩
theorem suitW_ref (x : Int) : gambitref03_Name.f x = some (suitW x) := by
  unfold suitW gambitref03_Name.f; repeat' split
  all_goals rfl
theorem suitW_eff (x : Int) : suit_Name.f x = some (suitW x) := by
  rw [← suitW_ref]; rfl
theorem traitW_eff (x : Int) : trait_Name.f x = some (traitW x) := rfl
def whenW (w : Int) : ByteArray := rdOf ByteArray.empty wWhens ((w - 1) % 256)
def verbW (v : Int) : ByteArray := rdOf ByteArray.empty wVerbs ((v - 1) % 256)
def whomW (h : Int) : ByteArray := rdOf ByteArray.empty wWhoms ((h - 1) % 256)
def opt (u : Bool) (x : ByteArray) : List ByteArray := if u = true then [x] else []
def words (w v h c su tr mk : Int) (nm : ByteArray) : List ByteArray :=
  (((([whenW w, verbW v, whomW h] ++ opt (usesS v h).1 (itoaB c)) ++ opt (usesS v h).2.1 (suitW su)) ++ opt (usesS v h).2.2.1 (traitW tr)) ++ opt (usesS v h).2.2.2.1 (itoaB mk)) ++ opt (usesS v h).2.2.2.2 nm
def Word (s : ByteArray) : Prop := s.size ≤ 20 ∧ (32 : UInt8) ∉ bl s
instance (s : ByteArray) : Decidable (Word s) := by unfold Word; infer_instance
theorem whenW_word (w : Int) (h1 : 1 ≤ w) (h2 : w ≤ 6) : Word (whenW w) := by
  have h : ∀ n : Fin 6, Word (whenW ((n.val : Int) + 1)) := by decide +kernel
  have := h ⟨(w - 1).toNat, by omega⟩
  have e : (((w - 1).toNat : Nat) : Int) + 1 = w := by omega
  rwa [e] at this
theorem verbW_word (w : Int) (h1 : 1 ≤ w) (h2 : w ≤ 19) : Word (verbW w) := by
  have h : ∀ n : Fin 19, Word (verbW ((n.val : Int) + 1)) := by decide +kernel
  have := h ⟨(w - 1).toNat, by omega⟩
  have e : (((w - 1).toNat : Nat) : Int) + 1 = w := by omega
  rwa [e] at this
theorem whomW_word (w : Int) (h1 : 1 ≤ w) (h2 : w ≤ 10) : Word (whomW w) := by
  have h : ∀ n : Fin 10, Word (whomW ((n.val : Int) + 1)) := by decide +kernel
  have := h ⟨(w - 1).toNat, by omega⟩
  have e : (((w - 1).toNat : Nat) : Int) + 1 = w := by omega
  rwa [e] at this
theorem suitW_word (w : Int) (h1 : 1 ≤ w) (h2 : w ≤ 6) : Word (suitW w) := by
  have h : ∀ n : Fin 6, Word (suitW ((n.val : Int) + 1)) := by decide +kernel
  have := h ⟨(w - 1).toNat, by omega⟩
  have e : (((w - 1).toNat : Nat) : Int) + 1 = w := by omega
  rwa [e] at this
theorem traitW_word (w : Int) (h1 : 1 ≤ w) (h2 : w ≤ 8) : Word (traitW w) := by
  have h : ∀ n : Fin 8, Word (traitW ((n.val : Int) + 1)) := by decide +kernel
  have := h ⟨(w - 1).toNat, by omega⟩
  have e : (((w - 1).toNat : Nat) : Int) + 1 = w := by omega
  rwa [e] at this
theorem itoaW_word (c : Int) (h1 : -99 ≤ c) (h2 : c ≤ 99) : Word (itoaB c) := ⟨by have := (itoa_word c h1 h2).1; omega, (itoa_word c h1 h2).2⟩
theorem name_word (s : ByteArray) (h : nameB s = true) : Word s := by
  unfold nameB at h
  simp only [Bool.and_eq_true, decide_eq_true_eq] at h
  obtain ⟨⟨_, h2⟩, _, h3⟩ := h
  refine ⟨h2, fun hm => ?_⟩
  rw [List.all_eq_true] at h3
  have := h3 _ hm
  revert this; decide
theorem opt_word (u : Bool) (x : ByteArray) (h : u = true → Word x) : ∀ s ∈ opt u x, Word s := by
  intro s hs
  unfold opt at hs
  split at hs
  · simp at hs; subst hs; exact h ‹_›
  · simp at hs
structure Part (w v h c su tr mk : Int) (nm : ByteArray) : Prop where
  w1 : 1 ≤ w
  w2 : w ≤ 6
  v1 : 1 ≤ v
  v2 : v ≤ 19
  h1 : 1 ≤ h
  h2 : h ≤ 10
  c1 : -99 ≤ c
  c2 : c ≤ 99
  c0 : (usesS v h).1 = false → c = 0
  s1 : (usesS v h).2.1 = true → 1 ≤ su ∧ su ≤ 6
  s0 : (usesS v h).2.1 = false → su = 0
  t1 : (usesS v h).2.2.1 = true → 1 ≤ tr ∧ tr ≤ 8
  t0 : (usesS v h).2.2.1 = false → tr = 0
  m1 : (usesS v h).2.2.2.1 = true → 1 ≤ mk ∧ mk ≤ 4
  m0 : (usesS v h).2.2.2.1 = false → mk = 0
  n1 : (usesS v h).2.2.2.2 = true → nameB nm = true
  n0 : (usesS v h).2.2.2.2 = false → bl nm = []
theorem subB_1 {u : Bool} {x m : Int} (h : subB u x m = true) : (u = true → 1 ≤ x ∧ x ≤ m) ∧ (u = false → x = 0) := by
  unfold subB at h; cases u <;> simp at h ⊢ <;> exact h
theorem Part.of {w v h c su tr mk : Int} {nm : ByteArray} (ho : okB w v h c su tr mk nm = true) : Part w v h c su tr mk nm := by
  unfold okB at ho
  simp only [Bool.and_eq_true, decide_eq_true_eq] at ho
  obtain ⟨⟨a1, a2, a3, a4, a5, a6⟩, _, _, _, hc, hs, ht, hm, hn⟩ := ho
  have hcc : -99 ≤ c ∧ c ≤ 99 ∧ (cntB v = false → c = 0) := by
    unfold ctB at hc
    unfold loI hiI at hc
    cases hv : cntB v
    · rw [hv] at hc; simp at hc; omega
    · rw [hv] at hc; simp at hc
      refine ⟨?_, ?_, by simp⟩
      · have := hc.1.1; repeat' split at this
        all_goals omega
      · have := hc.1.2; repeat' split at this
        all_goals omega
  refine ⟨a1, a2, a3, a4, a5, a6, hcc.1, hcc.2.1, hcc.2.2, (subB_1 hs).1, (subB_1 hs).2, (subB_1 ht).1, (subB_1 ht).2, (subB_1 hm).1, (subB_1 hm).2, fun e => ?_, fun e => ?_⟩
  · rw [if_pos e] at hn; exact hn
  · rw [e] at hn; simpa using hn
theorem Part.words {w v h c su tr mk : Int} {nm : ByteArray} (p : Part w v h c su tr mk nm) : ∀ s ∈ words w v h c su tr mk nm, Word s := by
  intro s hs
  unfold PA.words at hs
  simp only [List.mem_append] at hs
  rcases hs with ((((hs | hs) | hs) | hs) | hs) | hs
  · simp only [List.mem_cons, List.not_mem_nil, or_false] at hs
    rcases hs with rfl | rfl | rfl
    · exact whenW_word w p.w1 p.w2
    · exact verbW_word v p.v1 p.v2
    · exact whomW_word h p.h1 p.h2
  · exact opt_word _ _ (fun _ => itoaW_word c p.c1 p.c2) s hs
  · exact opt_word _ _ (fun e => suitW_word su (p.s1 e).1 (p.s1 e).2) s hs
  · exact opt_word _ _ (fun e => traitW_word tr (p.t1 e).1 (p.t1 e).2) s hs
  · exact opt_word _ _ (fun e => itoaW_word mk (by have := p.m1 e; omega) (by have := p.m1 e; omega)) s hs
  · exact opt_word _ _ (fun e => name_word nm (p.n1 e)) s hs
end Go.Proofs.YtfpcideomanbbaaGreatDoor.PA
end
section
namespace Go.Proofs.YtfpcideomanbbaaGreatDoor.PA
open Go.RowKit Go.Proofs.YtfpcideomanbbaaGreatDoorW.PrintWords Go.Proofs.YtfpcideomanbbaaGreatDoorW.PrintLast Go.Proofs.YtfpcideomanbbaaGreatDoorW.PrintMore
def textB (L : List ByteArray) : ByteArray := ⟨(Lib.join (L.map bl) [32]).toArray⟩
theorem textB_bl (L : List ByteArray) : bl (textB L) = Lib.join (L.map bl) [32] := by simp [bl, textB]
theorem join_ok (L : List ByteArray) (hw : ∀ s ∈ L, Word s) (hn : L.length ≤ 8) : strings_Join.f L (⟨#[32]⟩ : ByteArray) = some (textB L) := by
  have hs := join_size (L.map bl) (fun w hm => by
    obtain ⟨s, hs, rfl⟩ := List.mem_map.1 hm
    have := (hw s hs).1
    simpa [bl] using this)
  rw [List.length_map] at hs
  unfold strings_Join.f
  rw [if_pos ⟨by omega, by show (Lib.join (L.map bl) [32]).length ≤ _; omega⟩]
  rfl
theorem itoa_eff (c : Int) (h1 : -99 ≤ c) (h2 : c ≤ 99) : strconv_Itoa.f c = some (itoaB c) := by
  unfold strconv_Itoa.f itoaB; rw [if_pos ⟨by omega, by omega⟩]
theorem Part.mk2 {w v h c su tr mk : Int} {nm : ByteArray} (p : Part w v h c su tr mk nm) : 0 ≤ mk ∧ mk ≤ 4 := by
  cases e : (usesS v h).2.2.2.1
  · have := p.m0 e; omega
  · have := p.m1 e; omega
theorem opt_len (u : Bool) (x : ByteArray) : (opt u x).length ≤ 1 := by unfold opt; split <;> simp
theorem eff_j2 (L : List ByteArray) (u4 u5 : Bool) (w v h c su tr mk : Int) (nm : ByteArray) (hm : 0 ≤ mk ∧ mk ≤ 4) (hL : L.length ≤ 6) (k : Nat) :
    effect_Print.j2 (k + 1) L u4 u5 w v h c su tr mk nm = (strings_Join.f ((L ++ opt u4 (itoaB mk)) ++ opt u5 nm) (⟨#[32]⟩ : ByteArray)).bind fun t => some (t, 0) := by
  rw [effect_Print.j2, w64 (by omega) (by omega), itoa_eff mk (by omega) (by omega)]
  have hl : L.length < 8796093022208 := by omega
  have hl2 : (L ++ [itoaB mk]).length < 8796093022208 := by simp; omega
  cases u4 <;> cases u5 <;> simp [opt, hl] <;> omega
theorem eff_j1 (L : List ByteArray) (u3 u4 u5 : Bool) (w v h c su tr mk : Int) (nm : ByteArray) (hm : 0 ≤ mk ∧ mk ≤ 4) (hL : L.length ≤ 5) (k : Nat) :
    effect_Print.j1 (k + 2) L u3 u4 u5 w v h c su tr mk nm = (strings_Join.f (((L ++ opt u3 (traitW tr)) ++ opt u4 (itoaB mk)) ++ opt u5 nm) (⟨#[32]⟩ : ByteArray)).bind fun t => some (t, 0) := by
  have hl : L.length < 8796093022208 := by omega
  rw [effect_Print.j1, traitW_eff]
  cases u3
  · rw [if_neg (by simp), eff_j2 _ _ _ _ _ _ _ _ _ _ _ hm (by omega)]; simp [opt]
  · rw [if_pos rfl, Option.bind_some, if_pos hl, eff_j2 _ _ _ _ _ _ _ _ _ _ _ hm (by simp; omega)]; simp [opt]
theorem eff_j0 (L : List ByteArray) (u2 u3 u4 u5 : Bool) (w v h c su tr mk : Int) (nm : ByteArray) (hm : 0 ≤ mk ∧ mk ≤ 4) (hL : L.length ≤ 4) (k : Nat) :
    effect_Print.j0 (k + 3) L u2 u3 u4 u5 w v h c su tr mk nm = (strings_Join.f ((((L ++ opt u2 (suitW su)) ++ opt u3 (traitW tr)) ++ opt u4 (itoaB mk)) ++ opt u5 nm) (⟨#[32]⟩ : ByteArray)).bind fun t => some (t, 0) := by
  have hl : L.length < 8796093022208 := by omega
  rw [effect_Print.j0, suitW_eff]
  cases u2
  · rw [if_neg (by simp), eff_j1 _ _ _ _ _ _ _ _ _ _ _ _ hm (by omega)]; simp [opt]
  · rw [if_pos rfl, Option.bind_some, if_pos hl, eff_j1 _ _ _ _ _ _ _ _ _ _ _ _ hm (by simp; omega)]; simp [opt]
theorem words_len (w v h c su tr mk : Int) (nm : ByteArray) : (words w v h c su tr mk nm).length ≤ 8 := by
  unfold words
  simp only [List.length_append, List.length_cons, List.length_nil]
  have a := opt_len (usesS v h).1 (itoaB c)
  have b := opt_len (usesS v h).2.1 (suitW su)
  have d := opt_len (usesS v h).2.2.1 (traitW tr)
  have e := opt_len (usesS v h).2.2.2.1 (itoaB mk)
  have f := opt_len (usesS v h).2.2.2.2 nm
  omega
theorem print_effect (w v h c su tr mk : Int) (nm : ByteArray) (ho : okB w v h c su tr mk nm = true) (k : Nat) :
    effect_Print.f (k + 8) w v h c su tr mk nm = some (textB (words w v h c su tr mk nm), 0) := by
  have p := Part.of ho
  obtain ⟨e, he, hi⟩ := check_effect w v h c su tr mk nm (k + 3)
  obtain rfl := hi.2 ho
  have hw : (w - 1) % 256 = w - 1 := by have := p.w1; have := p.w2; omega
  have hv : (v - 1) % 256 = v - 1 := by have := p.v1; have := p.v2; omega
  have hh : (h - 1) % 256 = h - 1 := by have := p.h1; have := p.h2; omega
  have lw : (wWhens.length : Int) = 6 := by decide
  have lv : (wVerbs.length : Int) = 19 := by decide
  have lh : (wWhoms.length : Int) = 10 := by decide
  have := p.w1; have := p.w2; have := p.v1; have := p.v2; have := p.h1; have := p.h2
  unfold effect_Print.f
  rw [he, Option.bind_some, if_pos rfl, effect_words.f, Option.bind_some]
  simp only [lw, lv, lh]
  rw [if_pos (by omega), if_pos (by omega), if_pos (by omega), if_pos (by omega), if_pos (by omega), if_pos (by omega), Option.bind_some, uses_effect v h p.v1 p.v2, Option.bind_some, itoa_eff c p.c1 p.c2, Option.bind_some]
  have hfin := join_ok (words w v h c su tr mk nm) p.words (words_len _ _ _ _ _ _ _ _)
  have hu : words w v h c su tr mk nm = (((([whenW w, verbW v, whomW h] ++ opt (usesS v h).1 (itoaB c)) ++ opt (usesS v h).2.1 (suitW su)) ++ opt (usesS v h).2.2.1 (traitW tr)) ++ opt (usesS v h).2.2.2.1 (itoaB mk)) ++ opt (usesS v h).2.2.2.2 nm := rfl
  rw [hu] at hfin ⊢
  cases h1 : (usesS v h).1
  · rw [h1] at hfin
    rw [if_neg (by simp), eff_j0 _ _ _ _ _ _ _ _ _ _ _ _ _ p.mk2 (by simp)]
    have : opt false (itoaB c) = [] := rfl
    rw [this, List.append_nil] at hfin ⊢
    show Option.bind (strings_Join.f (((([whenW w, verbW v, whomW h] ++ opt (usesS v h).2.1 (suitW su)) ++ opt (usesS v h).2.2.1 (traitW tr)) ++ opt (usesS v h).2.2.2.1 (itoaB mk)) ++ opt (usesS v h).2.2.2.2 nm) (⟨#[32]⟩ : ByteArray)) _ = _
    rw [hfin]; rfl
  · rw [h1] at hfin
    rw [if_pos rfl, if_pos (by simp), eff_j0 _ _ _ _ _ _ _ _ _ _ _ _ _ p.mk2 (by simp)]
    show Option.bind (strings_Join.f ((((([whenW w, verbW v, whomW h] ++ opt true (itoaB c)) ++ opt (usesS v h).2.1 (suitW su)) ++ opt (usesS v h).2.2.1 (traitW tr)) ++ opt (usesS v h).2.2.2.1 (itoaB mk)) ++ opt (usesS v h).2.2.2.2 nm) (⟨#[32]⟩ : ByteArray)) _ = _
    rw [hfin]; rfl
theorem print_effect_no (w v h c su tr mk : Int) (nm : ByteArray) (ho : okB w v h c su tr mk nm = false) (k : Nat) :
    ∃ e, e ≠ 0 ∧ effect_Print.f (k + 5) w v h c su tr mk nm = some (⟨#[]⟩, e) := by
  obtain ⟨e, he, hi⟩ := check_effect w v h c su tr mk nm k
  have hne : e ≠ 0 := fun e0 => by rw [hi.1 e0] at ho; cases ho
  refine ⟨e, hne, ?_⟩
  unfold effect_Print.f
  rw [he, Option.bind_some, if_neg hne]
end Go.Proofs.YtfpcideomanbbaaGreatDoor.PA
end
section
namespace Go.Proofs.YtfpcideomanbbaaGreatDoor.PA
open Go.RowKit Go.Proofs.YtfpcideomanbbaaGreatDoorW.PrintWords Go.Proofs.YtfpcideomanbbaaGreatDoorW.PrintLast Go.Proofs.YtfpcideomanbbaaGreatDoorW.PrintMore
theorem words_back (w v h c su tr mk : Int) (nm : ByteArray) (ho : okB w v h c su tr mk nm = true) :
    Lib.splitB ⟨#[32]⟩ 0 (Lib.countB (textB (words w v h c su tr mk nm)) ⟨#[32]⟩) (textB (words w v h c su tr mk nm)) = words w v h c su tr mk nm := by
  apply words_eq
  rw [split_spl]
  show spl (bl (textB _)) = _
  rw [textB_bl]
  refine spl_join _ (by simp [words]) (fun x hx => ?_)
  obtain ⟨s, hs, rfl⟩ := List.mem_map.1 hx
  exact ((Part.of ho).words s hs).2
end Go.Proofs.YtfpcideomanbbaaGreatDoor.PA
end
section
namespace Go.Proofs.YtfpcideomanbbaaGreatDoor.PA
open Go.RowKit Go.Proofs.YtfpcideomanbbaaGreatDoorW.PrintWords Go.Proofs.YtfpcideomanbbaaGreatDoorW.PrintLast Go.Proofs.YtfpcideomanbbaaGreatDoorW.PrintMore
theorem toList_eq_iff (a b : ByteArray) : (a.toList = b.toList) ↔ a = b := by
  rw [ByteArray.toList_eq, ByteArray.toList_eq]
  exact ⟨fun h => bytes_eq h, fun h => by rw [h]⟩
def suitI (a : ByteArray) : Int × Bool := if suitW 1 = a then (1, true) else if suitW 2 = a then (2, true) else if suitW 3 = a then (3, true) else if suitW 4 = a then (4, true) else if suitW 5 = a then (5, true) else if suitW 6 = a then (6, true) else (0, false)
def traitI (a : ByteArray) : Int × Bool := if traitW 1 = a then (1, true) else if traitW 2 = a then (2, true) else if traitW 3 = a then (3, true) else if traitW 4 = a then (4, true) else if traitW 5 = a then (5, true) else if traitW 6 = a then (6, true) else if traitW 7 = a then (7, true) else if traitW 8 = a then (8, true) else (0, false)
theorem suitI_eff (a : ByteArray) : suit_Of.f a = some (suitI a) := by
  have w (x : Int) : suitWord x = suitW x := by have := suitWord_name x; rw [suitW_eff] at this; exact (Option.some.inj this).symm
  unfold suitI
  by_cases h1 : suitW 1 = a
  · rw [if_pos h1]; exact suit_Of.found (q := []) (x := 1) (k := 1) (by omega) rfl (by simp) (by rw [w]; exact h1)
  rw [if_neg h1]
  by_cases h2 : suitW 2 = a
  · rw [if_pos h2]; exact suit_Of.found (q := [1]) (x := 2) (k := 2) (by omega) (by decide) (by simp [w, h1]) (by rw [w]; exact h2)
  rw [if_neg h2]
  by_cases h3 : suitW 3 = a
  · rw [if_pos h3]; exact suit_Of.found (q := [1, 2]) (x := 3) (k := 3) (by omega) (by decide) (by simp [w, h1, h2]) (by rw [w]; exact h3)
  rw [if_neg h3]
  by_cases h4 : suitW 4 = a
  · rw [if_pos h4]; exact suit_Of.found (q := [1, 2, 3]) (x := 4) (k := 4) (by omega) (by decide) (by simp [w, h1, h2, h3]) (by rw [w]; exact h4)
  rw [if_neg h4]
  by_cases h5 : suitW 5 = a
  · rw [if_pos h5]; exact suit_Of.found (q := [1, 2, 3, 4]) (x := 5) (k := 5) (by omega) (by decide) (by simp [w, h1, h2, h3, h4]) (by rw [w]; exact h5)
  rw [if_neg h5]
  by_cases h6 : suitW 6 = a
  · rw [if_pos h6]; exact suit_Of.found (q := [1, 2, 3, 4, 5]) (x := 6) (k := 6) (by omega) (by decide) (by simp [w, h1, h2, h3, h4, h5]) (by rw [w]; exact h6)
  rw [if_neg h6]
  exact suit_Of.missed (by
    intro y hy
    have : y = 1 ∨ y = 2 ∨ y = 3 ∨ y = 4 ∨ y = 5 ∨ y = 6 := by
      have e : suitsTo 6 = [1, 2, 3, 4, 5, 6] := by decide
      rw [e] at hy; simpa using hy
    rcases this with rfl | rfl | rfl | rfl | rfl | rfl <;> rw [w] <;> assumption)
theorem traitI_eff (a : ByteArray) (k : Nat) : trait_Of.f (k + 9) a = some (traitI a) := by
  unfold trait_Of.f traitI
  simp [trait_Of.l0, traitW_eff, toList_eq_iff]
  repeat' split
  all_goals rfl
def numI (x : ByteArray) : Int := (gambitref05_number.f 12 x).getD 0
theorem numI_itoa (c : Int) (h1 : -99 ≤ c) (h2 : c ≤ 99) : numI (itoaB c) = c := by
  have := number_itoa c h1 h2 0
  unfold numI; rw [show gambitref05_number.f 12 (itoaB c) = some c from this]; rfl
theorem empty_words : numI ⟨#[]⟩ = 0 ∧ suitI ⟨#[]⟩ = (0, false) ∧ traitI ⟨#[]⟩ = (0, false) ∧ atoiVal ⟨#[]⟩ = 0 := by decide +kernel
end Go.Proofs.YtfpcideomanbbaaGreatDoor.PA
end
section
namespace Go.Proofs.YtfpcideomanbbaaGreatDoor.PA
open Go.RowKit Go.Proofs.YtfpcideomanbbaaGreatDoorW.PrintWords Go.Proofs.YtfpcideomanbbaaGreatDoorW.PrintLast Go.Proofs.YtfpcideomanbbaaGreatDoorW.PrintMore
theorem rd_at (l : List ByteArray) (A : Nat) (h : A < l.length) : rdOf ByteArray.empty l (A : Int) = l[A] := by unfold rdOf; simp [h]
end Go.Proofs.YtfpcideomanbbaaGreatDoor.PA
end
section
namespace Go.Proofs.YtfpcideomanbbaaGreatDoor.PA
open Go.RowKit Go.Proofs.YtfpcideomanbbaaGreatDoorW.PrintWords Go.Proofs.YtfpcideomanbbaaGreatDoorW.PrintLast Go.Proofs.YtfpcideomanbbaaGreatDoorW.PrintMore
attribute [local go_sem] max2_int min2_int max_two min_two max_three min_three max_four min_four
set_option linter.unusedVariables false
set_option linter.unusedSimpArgs false
def gambitlaw05_printed.f (k : Nat) (a0_0 : Int) (a0_1 : Int) (a0_2 : Int) (a0_3 : Int) (a0_4 : Int) (a0_5 : Int) (a0_6 : Int) (a0_7 : ByteArray) : Option (ByteArray) := (effect_Print.f k a0_0 a0_1 a0_2 a0_3 a0_4 a0_5 a0_6 a0_7).bind fun bt307 => (if bt307.2 = 0 then (some bt307.1) else (if bt307.1.toList = ([] : List UInt8) then (some bt307.1) else (some (⟨#[98, 111, 116, 104]⟩ : ByteArray))))
theorem gambitlaw05_printed.mono : ∀ a0 a1 a2 a3 a4 a5 a6 a7 k, LeO (gambitlaw05_printed.f k a0 a1 a2 a3 a4 a5 a6 a7) (gambitlaw05_printed.f (k + 1) a0 a1 a2 a3 a4 a5 a6 a7) := by
 intro a0 a1 a2 a3 a4 a5 a6 a7 k
 unfold gambitlaw05_printed.f
 repeat' first
   | (with_reducible exact effect_Print.mono _ _ _ _ _ _ _ _ _)
   | (with_reducible exact LeO.refl _)
   | (with_reducible exact LeO.none _)
   | (with_reducible refine LeO.ite ?_ ?_)
   | (with_reducible refine LeO.bind ?_ (fun _ => ?_))
   | exact effect_Print.mono _ _ _ _ _ _ _ _ _
   | exact LeO.none _
   | refine LeO.ite ?_ ?_
   | refine LeO.bind ?_ (fun _ => ?_)
end Go.Proofs.YtfpcideomanbbaaGreatDoor.PA
end
section
namespace Go.Proofs.YtfpcideomanbbaaGreatDoor.PA
open Go.RowKit Go.Proofs.YtfpcideomanbbaaGreatDoorW.PrintWords Go.Proofs.YtfpcideomanbbaaGreatDoorW.PrintLast Go.Proofs.YtfpcideomanbbaaGreatDoorW.PrintMore
attribute [local go_sem] max2_int min2_int max_two min_two max_three min_three max_four min_four
set_option linter.unusedVariables false
set_option linter.unusedSimpArgs false
attribute [local go_sem high] eqA48
def gambitlaw05_lives.f (k : Nat)  : Option (Bool) := (effect_Parse.f (⟨#[97, 108, 119, 97, 121, 115, 32, 103, 114, 97, 110, 116, 32, 119, 105, 116, 104, 32, 102, 97, 115, 116]⟩ : ByteArray)).bind fun bt309 => ((gambitlaw05_printed.f k 1 1 3 3 0 0 0 (⟨#[]⟩ : ByteArray)).bind fun t319 => (if t319.toList = ([112, 108, 97, 121, 101, 100, 32, 104, 97, 114, 109, 32, 105, 116, 32, 51] : List UInt8) then (if bt309.2.2.2.2.2.2.2.2 = 0 then (some (bt309.1 == 5 && (bt309.2.1 == 12 && (bt309.2.2.1 == 10 && (bt309.2.2.2.1 == 0 && (bt309.2.2.2.2.1 == 0 && (bt309.2.2.2.2.2.1 == 1 && (bt309.2.2.2.2.2.2.1 == 0 && (bt309.2.2.2.2.2.2.2.1.toList == ([] : List UInt8)))))))))) else (some false)) else (some false)))
theorem gambitlaw05_lives.mono : ∀ k, LeO (gambitlaw05_lives.f k ) (gambitlaw05_lives.f (k + 1) ) := by
 intro  k
 unfold gambitlaw05_lives.f
 repeat' first
   | (with_reducible exact gambitlaw05_printed.mono _ _ _ _ _ _ _ _ _)
   | (with_reducible exact LeO.refl _)
   | (with_reducible exact LeO.none _)
   | (with_reducible refine LeO.ite ?_ ?_)
   | (with_reducible refine LeO.bind ?_ (fun _ => ?_))
   | exact gambitlaw05_printed.mono _ _ _ _ _ _ _ _ _
   | exact LeO.none _
   | refine LeO.ite ?_ ?_
   | refine LeO.bind ?_ (fun _ => ?_)
end Go.Proofs.YtfpcideomanbbaaGreatDoor.PA
end
section
namespace Go.Proofs.YtfpcideomanbbaaGreatDoor.PA
open Go.RowKit Go.Proofs.YtfpcideomanbbaaGreatDoorW.PrintWords Go.Proofs.YtfpcideomanbbaaGreatDoorW.PrintLast Go.Proofs.YtfpcideomanbbaaGreatDoorW.PrintMore
attribute [local go_sem] max2_int min2_int max_two min_two max_three min_three max_four min_four
set_option linter.unusedVariables false
set_option linter.unusedSimpArgs false
attribute [local go_sem high] eqA48
def gambitlaw05_EffectParses.f (k : Nat) (a0 : ByteArray) : Option (Bool) := (effect_Parse.f a0).bind fun bt320 => ((gambitref05_Parse.f k a0).bind fun bt330 => ((gambitlaw05_lives.f k).bind fun t340 => (if t340 = true then (if bt320.2.2.2.2.2.2.2.2 = bt330.2.2.2.2.2.2.2.2 then (some (bt320.1 == bt330.1 && (bt320.2.1 == bt330.2.1 && (bt320.2.2.1 == bt330.2.2.1 && (bt320.2.2.2.1 == bt330.2.2.2.1 && (bt320.2.2.2.2.1 == bt330.2.2.2.2.1 && (bt320.2.2.2.2.2.1 == bt330.2.2.2.2.2.1 && (bt320.2.2.2.2.2.2.1 == bt330.2.2.2.2.2.2.1 && (bt320.2.2.2.2.2.2.2.1.toList == bt330.2.2.2.2.2.2.2.1.toList))))))))) else (some false)) else (some false))))
theorem gambitlaw05_EffectParses.mono : ∀ a0 k, LeO (gambitlaw05_EffectParses.f k a0) (gambitlaw05_EffectParses.f (k + 1) a0) := by
 intro a0 k
 unfold gambitlaw05_EffectParses.f
 repeat' first
   | (with_reducible exact gambitlaw05_lives.mono _)
   | (with_reducible exact gambitref05_Parse.mono _ _)
   | (with_reducible exact LeO.refl _)
   | (with_reducible exact LeO.none _)
   | (with_reducible refine LeO.ite ?_ ?_)
   | (with_reducible refine LeO.bind ?_ (fun _ => ?_))
   | exact gambitlaw05_lives.mono _
   | exact gambitref05_Parse.mono _ _
   | exact LeO.none _
   | refine LeO.ite ?_ ?_
   | refine LeO.bind ?_ (fun _ => ?_)
end Go.Proofs.YtfpcideomanbbaaGreatDoor.PA
end
section
namespace Go.Proofs.YtfpcideomanbbaaGreatDoor.PA
open Go.RowKit Go.Proofs.YtfpcideomanbbaaGreatDoorW.PrintWords Go.Proofs.YtfpcideomanbbaaGreatDoorW.PrintLast Go.Proofs.YtfpcideomanbbaaGreatDoorW.PrintMore
theorem seqNext (u : Bool) (x : ByteArray) (r : List ByteArray) : nextRest u (opt u x ++ r) = r := by cases u <;> simp [opt, nextRest]
theorem seqWord (u : Bool) (x : ByteArray) (r : List ByteArray) (h : u = true) : nextWord u (opt u x ++ r) = x := by subst h; simp [opt, nextWord]
theorem seqNone (u : Bool) (r : List ByteArray) (h : u = false) : nextWord u r = ⟨#[]⟩ := by subst h; rfl
theorem bl_nil {s : ByteArray} (h : bl s = []) : s = ⟨#[]⟩ := bytes_eq h
theorem tail_words (w v h c su tr mk : Int) (nm : ByteArray) : (words w v h c su tr mk nm).drop 3 = opt (usesS v h).1 (itoaB c) ++ (opt (usesS v h).2.1 (suitW su) ++ (opt (usesS v h).2.2.1 (traitW tr) ++ (opt (usesS v h).2.2.2.1 (itoaB mk) ++ (opt (usesS v h).2.2.2.2 nm ++ [])))) := by
  unfold words; simp
theorem count_word {w v h c su tr mk : Int} {nm : ByteArray} (p : Part w v h c su tr mk nm) (r : List ByteArray) (hr : r = (words w v h c su tr mk nm).drop 3) :
    numI (nextWord (usesS v h).1 r) = c ∧ atoiVal (nextWord (usesS v h).1 r) = c := by
  rw [hr, tail_words]
  cases e : (usesS v h).1
  · rw [seqNone _ _ rfl]; exact ⟨empty_words.1.trans (p.c0 e).symm, empty_words.2.2.2.trans (p.c0 e).symm⟩
  · rw [seqWord _ _ _ rfl]; exact ⟨numI_itoa c p.c1 p.c2, atoi_itoa c p.c1 p.c2⟩
theorem mark_word {w v h c su tr mk : Int} {nm : ByteArray} (p : Part w v h c su tr mk nm) (r : List ByteArray) (hr : r = (words w v h c su tr mk nm).drop 3) :
    numI (nextWord (usesS v h).2.2.2.1 (nextRest (usesS v h).2.2.1 (nextRest (usesS v h).2.1 (nextRest (usesS v h).1 r)))) = mk ∧ atoiVal (nextWord (usesS v h).2.2.2.1 (nextRest (usesS v h).2.2.1 (nextRest (usesS v h).2.1 (nextRest (usesS v h).1 r)))) = mk := by
  rw [hr, tail_words, seqNext, seqNext, seqNext]
  have hm := p.mk2
  cases e : (usesS v h).2.2.2.1
  · rw [seqNone _ _ rfl]; exact ⟨empty_words.1.trans (p.m0 e).symm, empty_words.2.2.2.trans (p.m0 e).symm⟩
  · rw [seqWord _ _ _ rfl]; exact ⟨numI_itoa mk (by omega) (by omega), atoi_itoa mk (by omega) (by omega)⟩
def ans (s : ByteArray) (w v h c su tr mk : Int) (nm : ByteArray) : Int × Int × Int × Int × Int × Int × Int × ByteArray × Int :=
  if okB w v h c su tr mk nm = true ∧ textB (words w v h c su tr mk nm) = s then (w, v, h, c, su, tr, mk, nm, 0) else (0, 0, 0, 0, 0, 0, 0, ⟨#[]⟩, 150)
theorem eff_end (s : ByteArray) (w v h c su tr mk : Int) (nm : ByteArray) (k : Nat) :
    ((effect_Print.f (k + 8) w v h c su tr mk nm).bind fun te => if te.2 = 0 ∧ te.1.toList = s.toList then some (w, v, h, c, su, tr, mk, nm, 0) else some (0, 0, 0, 0, 0, 0, 0, (⟨#[]⟩ : ByteArray), 150)) = some (ans s w v h c su tr mk nm) := by
  unfold ans
  cases ho : okB w v h c su tr mk nm
  · obtain ⟨e, h1, h2⟩ := print_effect_no w v h c su tr mk nm ho (k + 3)
    rw [h2, Option.bind_some, if_neg (fun q => h1 q.1), if_neg (fun q => by cases q.1)]
  · rw [print_effect w v h c su tr mk nm ho k, Option.bind_some]
    by_cases ht : textB (words w v h c su tr mk nm) = s
    · rw [if_pos ⟨rfl, (toList_eq_iff _ _).2 ht⟩, if_pos ⟨rfl, ht⟩]
    · rw [if_neg (fun q => ht ((toList_eq_iff _ _).1 q.2)), if_neg (fun q => ht q.2)]
end Go.Proofs.YtfpcideomanbbaaGreatDoor.PA
end
section
namespace Go.Proofs.YtfpcideomanbbaaGreatDoor.PA
open Go.RowKit Go.Proofs.YtfpcideomanbbaaGreatDoorW.PrintWords Go.Proofs.YtfpcideomanbbaaGreatDoorW.PrintLast Go.Proofs.YtfpcideomanbbaaGreatDoorW.PrintMore
theorem join_len : ∀ (L : List (List UInt8)), (Lib.join L [32]).length + 1 ≤ (L.map List.length).sum + max 1 L.length
  | [] => by simp [Lib.join]
  | [w] => by simp [Lib.join]
  | w :: v :: L => by
    have ih := join_len (v :: L)
    rw [join_cons2]
    simp only [List.length_append, List.length_cons, List.map_cons, List.sum_cons] at ih ⊢
    omega
theorem whenW_len (w : Int) (h1 : 1 ≤ w) (h2 : w ≤ 6) : (bl (whenW w)).length ≤ 6 := by
  have h : ∀ n : Fin 6, (bl (whenW ((n.val : Int) + 1))).length ≤ 6 := by decide +kernel
  have := h ⟨(w - 1).toNat, by omega⟩
  have e : (((w - 1).toNat : Nat) : Int) + 1 = w := by omega
  rwa [e] at this
theorem verbW_len (w : Int) (h1 : 1 ≤ w) (h2 : w ≤ 19) : (bl (verbW w)).length ≤ 7 := by
  have h : ∀ n : Fin 19, (bl (verbW ((n.val : Int) + 1))).length ≤ 7 := by decide +kernel
  have := h ⟨(w - 1).toNat, by omega⟩
  have e : (((w - 1).toNat : Nat) : Int) + 1 = w := by omega
  rwa [e] at this
theorem whomW_len (w : Int) (h1 : 1 ≤ w) (h2 : w ≤ 10) : (bl (whomW w)).length ≤ 6 := by
  have h : ∀ n : Fin 10, (bl (whomW ((n.val : Int) + 1))).length ≤ 6 := by decide +kernel
  have := h ⟨(w - 1).toNat, by omega⟩
  have e : (((w - 1).toNat : Nat) : Int) + 1 = w := by omega
  rwa [e] at this
theorem suitW_len (w : Int) (h1 : 1 ≤ w) (h2 : w ≤ 6) : (bl (suitW w)).length ≤ 6 := by
  have h : ∀ n : Fin 6, (bl (suitW ((n.val : Int) + 1))).length ≤ 6 := by decide +kernel
  have := h ⟨(w - 1).toNat, by omega⟩
  have e : (((w - 1).toNat : Nat) : Int) + 1 = w := by omega
  rwa [e] at this
theorem traitW_len (w : Int) (h1 : 1 ≤ w) (h2 : w ≤ 8) : (bl (traitW w)).length ≤ 8 := by
  have h : ∀ n : Fin 8, (bl (traitW ((n.val : Int) + 1))).length ≤ 8 := by decide +kernel
  have := h ⟨(w - 1).toNat, by omega⟩
  have e : (((w - 1).toNat : Nat) : Int) + 1 = w := by omega
  rwa [e] at this
theorem itoa_len (c : Int) (h1 : -99 ≤ c) (h2 : c ≤ 99) : (bl (itoaB c)).length ≤ 3 := (itoa_word c h1 h2).1
def sz (s : ByteArray) : Nat := (bl s).length
theorem opt_sz (u : Bool) (x : ByteArray) (n : Nat) (h : u = true → (bl x).length ≤ n) : ((opt u x).map sz).sum ≤ n := by
  cases u
  · simp [opt]
  · have := h rfl; simpa [opt, sz] using this
theorem nameB_len {nm : ByteArray} (h : nameB nm = true) : (bl nm).length ≤ 20 := by
  unfold nameB at h
  simp only [Bool.and_eq_true, decide_eq_true_eq] at h
  exact h.1.2
theorem text_len {w v h c su tr mk : Int} {nm : ByteArray} (ho : okB w v h c su tr mk nm = true) : (textB (words w v h c su tr mk nm)).size ≤ 80 := by
  have p := Part.of ho
  have e : (textB (words w v h c su tr mk nm)).size = (Lib.join ((words w v h c su tr mk nm).map bl) [32]).length := by
    rw [← textB_bl]; rfl
  rw [e]
  have hj := join_len ((words w v h c su tr mk nm).map bl)
  have hl := words_len w v h c su tr mk nm
  have hm : (((words w v h c su tr mk nm).map bl).map List.length).sum = ((words w v h c su tr mk nm).map sz).sum := by rw [List.map_map]; rfl
  rw [hm, List.length_map] at hj
  have o1 := opt_sz (usesS v h).1 (itoaB c) 3 (fun _ => itoa_len c p.c1 p.c2)
  have o2 := opt_sz (usesS v h).2.1 (suitW su) 6 (fun q => suitW_len su (p.s1 q).1 (p.s1 q).2)
  have o3 := opt_sz (usesS v h).2.2.1 (traitW tr) 8 (fun q => traitW_len tr (p.t1 q).1 (p.t1 q).2)
  have o4 := opt_sz (usesS v h).2.2.2.1 (itoaB mk) 3 (fun q => itoa_len mk (by have := p.m1 q; omega) (by have := p.m1 q; omega))
  have o5 := opt_sz (usesS v h).2.2.2.2 nm 20 (fun q => nameB_len (p.n1 q))
  have a1 := whenW_len w p.w1 p.w2
  have a2 := verbW_len v p.v1 p.v2
  have a3 := whomW_len h p.h1 p.h2
  have hs : ((words w v h c su tr mk nm).map sz).sum ≤ 6 + 7 + 6 + 3 + 6 + 8 + 3 + 20 := by
    unfold words
    simp only [List.map_append, List.sum_append, List.map_cons, List.map_nil, List.sum_cons, List.sum_nil]
    unfold sz at *
    omega
  omega
theorem whenI (w : Int) (h1 : 1 ≤ w) (h2 : w ≤ 6) : (Lib.idxOfS wWhens (whenW w) + 1) % 256 = w := by
  have h : ∀ n : Fin 6, (Lib.idxOfS wWhens (whenW ((n.val : Int) + 1)) + 1) % 256 = ((n.val : Int) + 1) := by decide +kernel
  have := h ⟨(w - 1).toNat, by omega⟩
  have e : (((w - 1).toNat : Nat) : Int) + 1 = w := by omega
  rwa [e] at this
theorem verbI (w : Int) (h1 : 1 ≤ w) (h2 : w ≤ 19) : (Lib.idxOfS wVerbs (verbW w) + 1) % 256 = w := by
  have h : ∀ n : Fin 19, (Lib.idxOfS wVerbs (verbW ((n.val : Int) + 1)) + 1) % 256 = ((n.val : Int) + 1) := by decide +kernel
  have := h ⟨(w - 1).toNat, by omega⟩
  have e : (((w - 1).toNat : Nat) : Int) + 1 = w := by omega
  rwa [e] at this
theorem whomI (w : Int) (h1 : 1 ≤ w) (h2 : w ≤ 10) : (Lib.idxOfS wWhoms (whomW w) + 1) % 256 = w := by
  have h : ∀ n : Fin 10, (Lib.idxOfS wWhoms (whomW ((n.val : Int) + 1)) + 1) % 256 = ((n.val : Int) + 1) := by decide +kernel
  have := h ⟨(w - 1).toNat, by omega⟩
  have e : (((w - 1).toNat : Nat) : Int) + 1 = w := by omega
  rwa [e] at this
theorem suitB (x : Int) (h1 : 1 ≤ x) (h2 : x ≤ 6) : (suitI (suitW x)).1 = x := by
  have h : ∀ n : Fin 6, (suitI (suitW ((n.val : Int) + 1))).1 = ((n.val : Int) + 1) := by decide +kernel
  have := h ⟨(x - 1).toNat, by omega⟩
  have e : (((x - 1).toNat : Nat) : Int) + 1 = x := by omega
  rwa [e] at this
theorem traitB (x : Int) (h1 : 1 ≤ x) (h2 : x ≤ 8) : (traitI (traitW x)).1 = x := by
  have h : ∀ n : Fin 8, (traitI (traitW ((n.val : Int) + 1))).1 = ((n.val : Int) + 1) := by decide +kernel
  have := h ⟨(x - 1).toNat, by omega⟩
  have e : (((x - 1).toNat : Nat) : Int) + 1 = x := by omega
  rwa [e] at this
theorem parse_text {w v h c su tr mk : Int} {nm : ByteArray} (ho : okB w v h c su tr mk nm = true) :
    effect_Parse.f (textB (words w v h c su tr mk nm)) = some (w, v, h, c, su, tr, mk, nm, 0) := by
  have p := Part.of ho
  have hs := text_len ho
  unfold effect_Parse.f
  rw [if_neg (by omega), words_back w v h c su tr mk nm ho]
  obtain ⟨r, hr⟩ : ∃ r, words w v h c su tr mk nm = whenW w :: verbW v :: whomW h :: r := ⟨(words w v h c su tr mk nm).drop 3, by unfold words; simp⟩
  have hr3 : r = (words w v h c su tr mk nm).drop 3 := by rw [hr]; rfl
  rw [hr]
  simp only
  rw [whenI w p.w1 p.w2, verbI v p.v1 p.v2, whomI h p.h1 p.h2, ← hr]
  unfold parseRest
  have ct := count_word p r hr3
  have cm := mark_word p r hr3
  have es : (suitI (nextWord (usesS v h).2.1 (nextRest (usesS v h).1 r))).1 = su := by
    rw [hr3, tail_words, seqNext]
    cases e : (usesS v h).2.1
    · rw [seqNone _ _ rfl, empty_words.2.1]; exact (p.s0 e).symm
    · rw [seqWord _ _ _ rfl]; exact suitB su (p.s1 e).1 (p.s1 e).2
  have et : (traitI (nextWord (usesS v h).2.2.1 (nextRest (usesS v h).2.1 (nextRest (usesS v h).1 r)))).1 = tr := by
    rw [hr3, tail_words, seqNext, seqNext]
    cases e : (usesS v h).2.2.1
    · rw [seqNone _ _ rfl, empty_words.2.2.1]; exact (p.t0 e).symm
    · rw [seqWord _ _ _ rfl]; exact traitB tr (p.t1 e).1 (p.t1 e).2
  have en : nextWord (usesS v h).2.2.2.2 (nextRest (usesS v h).2.2.2.1 (nextRest (usesS v h).2.2.1 (nextRest (usesS v h).2.1 (nextRest (usesS v h).1 r)))) = nm := by
    rw [hr3, tail_words, seqNext, seqNext, seqNext, seqNext]
    cases e : (usesS v h).2.2.2.2
    · rw [seqNone _ _ rfl]; exact (bl_nil (p.n0 e)).symm
    · rw [seqWord _ _ _ rfl]
  have hm := p.mk2
  rw [uses_effect v h p.v1 p.v2 0, Option.bind_some, suitI_eff, Option.bind_some, traitI_eff _ 11, Option.bind_some, es, et, en, ct.2, cm.2]
  rw [show min (max mk 0) 9 = mk by omega]
  refine (eff_end _ w v h c su tr mk nm 4).trans ?_
  unfold ans
  rw [if_pos ⟨ho, rfl⟩]
theorem parse_any (s : ByteArray) : ∃ w v h c su tr mk : Int, ∃ nm : ByteArray, ∃ e : Int, effect_Parse.f s = some (w, v, h, c, su, tr, mk, nm, e) ∧
    ((e = 0 ∧ okB w v h c su tr mk nm = true ∧ textB (words w v h c su tr mk nm) = s) ∨ (e ≠ 0 ∧ w = 0 ∧ v = 0 ∧ h = 0 ∧ c = 0 ∧ su = 0 ∧ tr = 0 ∧ mk = 0 ∧ nm = ⟨#[]⟩)) := by
  have bad : ∀ e : Int, e ≠ 0 → effect_Parse.f s = some (0, 0, 0, 0, 0, 0, 0, ⟨#[]⟩, e) → ∃ w v h c su tr mk : Int, ∃ nm : ByteArray, ∃ e : Int, effect_Parse.f s = some (w, v, h, c, su, tr, mk, nm, e) ∧
    ((e = 0 ∧ okB w v h c su tr mk nm = true ∧ textB (words w v h c su tr mk nm) = s) ∨ (e ≠ 0 ∧ w = 0 ∧ v = 0 ∧ h = 0 ∧ c = 0 ∧ su = 0 ∧ tr = 0 ∧ mk = 0 ∧ nm = ⟨#[]⟩)) :=
    fun e he h => ⟨_, _, _, _, _, _, _, _, _, h, .inr ⟨he, rfl, rfl, rfl, rfl, rfl, rfl, rfl, rfl⟩⟩
  have fin : ∀ w v h c su tr mk nm, effect_Parse.f s = some (ans s w v h c su tr mk nm) → ∃ w v h c su tr mk : Int, ∃ nm : ByteArray, ∃ e : Int, effect_Parse.f s = some (w, v, h, c, su, tr, mk, nm, e) ∧
    ((e = 0 ∧ okB w v h c su tr mk nm = true ∧ textB (words w v h c su tr mk nm) = s) ∨ (e ≠ 0 ∧ w = 0 ∧ v = 0 ∧ h = 0 ∧ c = 0 ∧ su = 0 ∧ tr = 0 ∧ mk = 0 ∧ nm = ⟨#[]⟩)) := by
    intro w v h c su tr mk nm hp
    by_cases a : okB w v h c su tr mk nm = true ∧ textB (words w v h c su tr mk nm) = s
    · unfold ans at hp
      rw [if_pos a] at hp
      exact ⟨_, _, _, _, _, _, _, _, _, hp, .inl ⟨rfl, a.1, a.2⟩⟩
    · unfold ans at hp
      rw [if_neg a] at hp
      exact bad 150 (by decide) hp
  by_cases hs : s.size ≤ 80
  · have h0 : effect_Parse.f s = (match Lib.splitB ⟨#[32]⟩ 0 (Lib.countB s ⟨#[32]⟩) s with
      | x0 :: x1 :: x2 :: r => parseRest s ((Lib.idxOfS wWhens x0 + 1) % 256) ((Lib.idxOfS wVerbs x1 + 1) % 256) ((Lib.idxOfS wWhoms x2 + 1) % 256) r
      | _ => some (0, 0, 0, 0, 0, 0, 0, ⟨#[]⟩, 150)) := by unfold effect_Parse.f; rw [if_neg (by omega)] <;> rfl
    generalize Lib.splitB ⟨#[32]⟩ 0 (Lib.countB s ⟨#[32]⟩) s = l at h0
    match l, h0 with
    | [], h0 => exact bad 150 (by decide) h0
    | [_], h0 => exact bad 150 (by decide) h0
    | [_, _], h0 => exact bad 150 (by decide) h0
    | x0 :: x1 :: x2 :: r, h0 =>
      obtain ⟨u, hu⟩ := uses_total ((Lib.idxOfS wVerbs x1 + 1) % 256) ((Lib.idxOfS wWhoms x2 + 1) % 256) 0
      replace h0 : effect_Parse.f s = parseRest s ((Lib.idxOfS wWhens x0 + 1) % 256) ((Lib.idxOfS wVerbs x1 + 1) % 256) ((Lib.idxOfS wWhoms x2 + 1) % 256) r := h0
      unfold parseRest at h0
      rw [hu, Option.bind_some, suitI_eff, Option.bind_some, traitI_eff _ 11, Option.bind_some] at h0
      exact fin _ _ _ _ _ _ _ _ (h0.trans (eff_end s _ _ _ _ _ _ _ _ 4))
  · exact bad 3 (by decide) (by unfold effect_Parse.f; rw [if_pos (by omega)])
end Go.Proofs.YtfpcideomanbbaaGreatDoor.PA
end
section
namespace Go.Proofs.YtfpcideomanbbaaGreatDoor.PA
open Go.RowKit Go.Proofs.YtfpcideomanbbaaGreatDoorW.PrintWords Go.Proofs.YtfpcideomanbbaaGreatDoorW.PrintLast Go.Proofs.YtfpcideomanbbaaGreatDoorW.PrintMore
attribute [local go_sem] max2_int min2_int max_two min_two max_three min_three max_four min_four
set_option linter.unusedVariables false
set_option linter.unusedSimpArgs false
def card_named.f (a0 : ByteArray) : Option (Bool) := if (a0.size : Int) > 0 then (if (a0.size : Int) ≤ 20 then (if 0 < (a0.size : Int) then (if (bt a0 0) = 45 then (some false) else ((strings_Trim.f a0 (⟨#[97, 98, 99, 100, 101, 102, 103, 104, 105, 106, 107, 108, 109, 110, 111, 112, 113, 114, 115, 116, 117, 118, 119, 120, 121, 122, 45]⟩ : ByteArray)).bind fun t374 => (some (t374.toList == ([] : List UInt8))))) else (none)) else (some false)) else (some false)
set_option maxHeartbeats 8000000 in
set_option maxRecDepth 100000 in
theorem card_named.calls (a0 : ByteArray) (r : Bool) (w : World) (h : card_named.f a0 = some r) :
  Calls Tryz.prog 74 #[.string a0] w fun e w' => e = .returned (.bool r) ∧ Below w.heap.size w w' := by
 have HB := Aside0.mk (Below.refl w.heap.size w)
 have H : (if (a0.size : Int) > 0 then (if (a0.size : Int) ≤ 20 then (if 0 < (a0.size : Int) then (if (bt a0 0) = 45 then (some false) else ((strings_Trim.f a0 (⟨#[97, 98, 99, 100, 101, 102, 103, 104, 105, 106, 107, 108, 109, 110, 111, 112, 113, 114, 115, 116, 117, 118, 119, 120, 121, 122, 45]⟩ : ByteArray)).bind fun t374 => (some (t374.toList == ([] : List UInt8))))) else (none)) else (some false)) else (some false)) = some r := h
 clear h
 by_cases c2 : (a0.size : Int) > 0
 ·rw [if_pos c2] at H
  have c2b0 : decide (0 < (a0.size : Int)) = true := decide_eq_true c2
  have c2b1 : decide (0 < a0.size) = true := decide_eq_true (by omega)
  clear c2
  by_cases c3 : (a0.size : Int) ≤ 20
  ·rw [if_pos c3] at H
   have c3b0 : decide ((a0.size : Int) ≤ 20) = true := decide_eq_true c3
   have c3b1 : decide (a0.size ≤ 20) = true := decide_eq_true (by omega)
   clear c3
   by_cases c4 : 0 < (a0.size : Int)
   ·rw [if_pos c4] at H
    have c4b0 : decide (0 < (a0.size : Int)) = true := decide_eq_true c4
    have c4b1 : decide (0 < a0.size) = true := decide_eq_true (by omega)
    clear c4
    by_cases c6 : (bt a0 0) = 45
    ·rw [if_pos c6] at H
     have c6b0 : ((bt a0 0) == 45) = true := beq_iff_eq.mpr c6
     have c6b1 : ((bt a0 0) != 45) = false := bne_eq_false_iff_eq.mpr c6
     clear c6
     obtain rfl := Option.some.inj H
     have p5 : 0 ≤ (0 : Int) := (by omega)
     have q5 : 0 < a0.size := (by have : (0 : Int) < (a0.size : Int) := of_decide_eq_true Za; omega)
     have hx5 : ∀ h : 0 < a0.size, ((a0[0]'h).toNat : Int) = bt a0 0 := bt_at a0 0
     clear p5
     have qi5 : (0 < (a0.size : Int)) = True := eq_true (of_decide_eq_true Za)
     replace q5 := eq_true q5
     go_enter Tryz.func74, Tryz.ntmps74
     go_wp2
     go_ret
     exact ⟨Ze, Zb⟩
    ·rw [if_neg c6] at H
     have c6b0 : ((bt a0 0) == 45) = false := beq_eq_false_iff_ne.mpr c6
     have c6b1 : ((bt a0 0) != 45) = true := bne_iff_ne.mpr c6
     replace H := Option.bind_eq_some_iff.mp H
     obtain ⟨t374, A70, H⟩ := H
     replace H : (some (t374.toList == ([] : List UInt8))) = some r := H
     have A7 := Aside0.mk A70
     clear A70
     obtain rfl := Option.some.inj H
     have p5 : 0 ≤ (0 : Int) := (by omega)
     have q5 : 0 < a0.size := (by have : (0 : Int) < (a0.size : Int) := of_decide_eq_true Za; omega)
     have hx5 : ∀ h : 0 < a0.size, ((a0[0]'h).toNat : Int) = bt a0 0 := bt_at a0 0
     clear p5
     have qi5 : (0 < (a0.size : Int)) = True := eq_true (of_decide_eq_true Za)
     replace q5 := eq_true q5
     go_enter Tryz.func74, Tryz.ntmps74
     go_wp2_with (first | (go_at_call 109; (with_reducible refine (strings_Trim.calls a0 (⟨#[97, 98, 99, 100, 101, 102, 103, 104, 105, 106, 107, 108, 109, 110, 111, 112, 113, 114, 115, 116, 117, 118, 119, 120, 121, 122, 45]⟩ : ByteArray) t374 _ A7.out).mono ?_); rintro e w8 ⟨rfl, hb⟩; replace HB := Aside0.mk (below_step Zb hb); (try clear hb); (try clear hb2); (try clear hk); (try clear hi)))
     go_ret
     exact ⟨Ze, Zb⟩
   ·rw [if_neg c4] at H
    exact absurd H (by simp)
  ·rw [if_neg c3] at H
   have c3b0 : decide ((a0.size : Int) ≤ 20) = false := decide_eq_false c3
   have c3b1 : decide (a0.size ≤ 20) = false := decide_eq_false (by omega)
   clear c3
   obtain rfl := Option.some.inj H
   go_enter Tryz.func74, Tryz.ntmps74
   go_wp2
   go_ret
   exact ⟨Ze, Zb⟩
 ·rw [if_neg c2] at H
  have c2b0 : decide (0 < (a0.size : Int)) = false := decide_eq_false c2
  have c2b1 : decide (0 < a0.size) = false := decide_eq_false (by omega)
  clear c2
  obtain rfl := Option.some.inj H
  go_enter Tryz.func74, Tryz.ntmps74
  go_wp2
  go_ret
  exact ⟨Ze, Zb⟩
end Go.Proofs.YtfpcideomanbbaaGreatDoor.PA
end
