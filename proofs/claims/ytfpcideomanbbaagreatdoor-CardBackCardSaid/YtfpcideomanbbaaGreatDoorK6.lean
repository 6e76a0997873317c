/-
  Part 6 of a proof in 8 parts: lemmas, contracts and plain laws that its last part joins; no conditions of its own.
-/
import Derived.Test.YtfpcideomanbbaaGreatDoorKZ
import Derived.Test.YtfpcideomanbbaaGreatDoorK1
import Derived.Test.YtfpcideomanbbaaGreatDoorK2
import Derived.Test.YtfpcideomanbbaaGreatDoorK3
import Derived.Test.YtfpcideomanbbaaGreatDoorK4
import Derived.Test.YtfpcideomanbbaaGreatDoorK5
set_option linter.unusedVariables false
set_option linter.unusedSimpArgs false
section
namespace Go.Proofs.YtfpcideomanbbaaGreatDoor.PA
open Go.RowKit Go.Proofs.YtfpcideomanbbaaGreatDoorW.PrintWords Go.Proofs.YtfpcideomanbbaaGreatDoorW.PrintLast Go.Proofs.YtfpcideomanbbaaGreatDoorW.PrintMore
def slash (p h : Int) : ByteArray := (itoaB p ++ (⟨#[47]⟩ : ByteArray)) ++ itoaB h
def plusW (t : Int) : ByteArray := (⟨#[43]⟩ : ByteArray) ++ traitW t
def tokenB : ByteArray := ⟨#[116, 111, 107, 101, 110]⟩
def barB : ByteArray := ⟨#[124]⟩
def tl (n : Int) : List Int := (trait_List.f 10 n).getD []
def partT (p : S48) : ByteArray := textB (words p.f0 p.f1 p.f2 p.f3 p.f4 p.f5 p.f6 p.f7)
def headW (nm : ByteArray) (su kd co pw hp tr : Int) (tk : Bool) : List ByteArray :=
  (([nm, suitW su, kindW kd, itoaB co] ++ (if kd = 1 then [slash pw hp] else [])) ++ (if tk = true then [tokenB] else [])) ++ (tl tr).map plusW
def cardW (nm : ByteArray) (su kd co pw hp tr : Int) (tk : Bool) (L : List S48) : List ByteArray := headW nm su kd co pw hp tr tk ++ L.flatMap fun p => [barB, partT p]
theorem tl_all : ∀ n : Fin 256, trait_List.f 10 (n.val : Int) = some (tl (n.val : Int)) ∧ (tl (n.val : Int)).length ≤ 8 ∧ (∀ t ∈ tl (n.val : Int), 1 ≤ t ∧ t ≤ 8) ∧ (tl (n.val : Int)).foldl (fun s t => (trait_With.f s t).getD 0) 0 = (n.val : Int) := by decide +kernel
theorem tl_of {n : Int} (h : 0 ≤ n ∧ n ≤ 255) : trait_List.f 10 n = some (tl n) ∧ (tl n).length ≤ 8 ∧ (∀ t ∈ tl n, 1 ≤ t ∧ t ≤ 8) ∧ (tl n).foldl (fun s t => (trait_With.f s t).getD 0) 0 = n := by
  have := tl_all ⟨n.toNat, by omega⟩
  have e : ((n.toNat : Nat) : Int) = n := by omega
  rwa [e] at this
theorem list_up {n : Int} (h : 0 ≤ n ∧ n ≤ 255) (k : Nat) : trait_List.f (k + 10) n = some (tl n) := by
  rw [Nat.add_comm]
  exact leO_up (f := fun k => trait_List.f k n) (fun k => trait_List.mono n k) (tl_of h).1 k
theorem join_any (L : List ByteArray) (hn : L.length ≤ 1000) (hs : (L.map sz).sum ≤ 100000) : strings_Join.f L (⟨#[32]⟩ : ByteArray) = some (textB L) := by
  have hj := join_len (L.map bl)
  have hm : ((L.map bl).map List.length).sum = (L.map sz).sum := by rw [List.map_map]; rfl
  rw [hm, List.length_map] at hj
  unfold strings_Join.f
  rw [if_pos ⟨by omega, by show (Lib.join (L.map bl) [32]).length ≤ _; omega⟩]
  rfl
theorem print_l1 (L : List S48) (hL : L.length ≤ 4) (ho : ∀ p ∈ L, okS p) : ∀ (d i k : Nat) (W : List ByteArray), d = L.length - i → i ≤ L.length → W.length ≤ 100 + 2 * i →
    card_Print.l1 (k + d + 9) W L (L.length : Int) (i : Int) = (strings_Join.f (W ++ (L.drop i).flatMap fun p => [barB, partT p]) (⟨#[32]⟩ : ByteArray)).bind fun t => some (t, 0) := by
  intro d
  induction d with
  | zero =>
    intro i k W hd hi hW
    rw [card_Print.l1, if_neg (by omega), List.drop_of_length_le (by omega)]
    simp
  | succ d ih =>
    intro i k W hd hi hW
    have hlt : i < L.length := by omega
    have hw : wrap64 ((i : Int) + 1) = ((i + 1 : Nat) : Int) := by rw [w64 (by omega) (by omega)]; rfl
    have hdrop : L.drop i = L[i] :: L.drop (i + 1) := List.drop_eq_getElem_cons hlt
    have hp := print_effect (L[i]).f0 (L[i]).f1 (L[i]).f2 (L[i]).f3 (L[i]).f4 (L[i]).f5 (L[i]).f6 (L[i]).f7 (ho _ (List.getElem_mem hlt)) (k + d + 1)
    rw [show k + (d + 1) + 9 = (k + d + 9) + 1 by omega, card_Print.l1, if_pos (by omega), if_pos (by omega), if_pos (by omega), rd48 L i hlt, show k + d + 9 = k + d + 1 + 8 by omega, hp, Option.bind_some, Option.bind_some, hw]
    rw [if_pos (by simp; omega), show k + d + 1 + 8 = k + d + 9 by omega]
    refine (ih (i + 1) k _ (by omega) (by omega) (by simp; omega)).trans ?_
    rw [hdrop, List.flatMap_cons, ← List.append_assoc]
    rfl
theorem print_l0 (X : List Int) (hX : X.length ≤ 8) (hr : ∀ t ∈ X, 1 ≤ t ∧ t ≤ 8) (nm : ByteArray) (su kd co pw hp tr : Int) (tk : Bool) (L : List S48) : ∀ (d i k : Nat) (W : List ByteArray), d = X.length - i → i ≤ X.length → W.length ≤ 50 + i →
    card_Print.l0 (k + d + 1) W X (X.length : Int) (i : Int) nm su kd co pw hp tr tk L = card_Print.l1 k (W ++ (X.drop i).map plusW) L (L.length : Int) 0 := by
  intro d
  induction d with
  | zero =>
    intro i k W hd hi hW
    rw [card_Print.l0, if_neg (by omega), List.drop_of_length_le (by omega)]
    simp
  | succ d ih =>
    intro i k W hd hi hW
    have hlt : i < X.length := by omega
    have hw : wrap64 ((i : Int) + 1) = ((i + 1 : Nat) : Int) := by rw [w64 (by omega) (by omega)]; rfl
    have hdrop : X.drop i = X[i] :: X.drop (i + 1) := List.drop_eq_getElem_cons hlt
    have hrd : rd X (i : Int) = X[i] := by unfold rd; simp [hlt]
    have hb := hr _ (List.getElem_mem hlt)
    have hz : (traitW X[i]).size ≤ 8 := traitW_len _ hb.1 hb.2
    rw [show k + (d + 1) + 1 = (k + d + 1) + 1 by omega, card_Print.l0, if_pos (by omega), if_pos (by omega), if_pos (by omega), hrd, traitW_eff, Option.bind_some, if_pos (by omega), if_pos (by omega), hw]
    refine (ih (i + 1) k _ (by omega) (by omega) (by simp; omega)).trans ?_
    rw [hdrop, List.map_cons]
    simp [plusW]
theorem print_j0 (W : List ByteArray) (hW : W.length ≤ 10) (nm : ByteArray) (su kd co pw hp tr : Int) (tk : Bool) (L : List S48) (hL : L.length ≤ 4) (ho : ∀ p ∈ L, okS p) (ht : 0 ≤ tr ∧ tr ≤ 255) (k : Nat) :
    card_Print.j0 (k + 30) W nm su kd co pw hp tr tk L = (strings_Join.f (((W ++ (if tk = true then [tokenB] else [])) ++ (tl tr).map plusW) ++ L.flatMap fun p => [barB, partT p]) (⟨#[32]⟩ : ByteArray)).bind fun t => some (t, 0) := by
  obtain ⟨h1, h2, h3, _⟩ := tl_of ht
  have go : ∀ V : List ByteArray, V.length ≤ 11 → card_Print.j1 (k + 29) V nm su kd co pw hp tr tk L = (strings_Join.f ((V ++ (tl tr).map plusW) ++ L.flatMap fun p => [barB, partT p]) (⟨#[32]⟩ : ByteArray)).bind fun t => some (t, 0) := by
    intro V hV
    rw [card_Print.j1, show k + 28 = (k + 18) + 10 by omega, list_up ht, Option.bind_some]
    have e0 := print_l0 (tl tr) h2 h3 nm su kd co pw hp tr tk L (tl tr).length 0 (k + 27 - (tl tr).length) V (by omega) (by omega) (by omega)
    rw [show k + 27 - (tl tr).length + (tl tr).length + 1 = (k + 18) + 10 by omega] at e0
    refine e0.trans ?_
    have e1 := print_l1 L hL ho L.length 0 (k + 27 - (tl tr).length - L.length - 9) (V ++ ((tl tr).drop 0).map plusW) (by omega) (by omega) (by simp; omega)
    rw [show k + 27 - (tl tr).length - L.length - 9 + L.length + 9 = k + 27 - (tl tr).length by omega] at e1
    refine e1.trans ?_
    simp
  rw [card_Print.j0]
  cases tk
  · rw [if_neg (by decide)]
    refine (go W (by omega)).trans ?_
    simp
  · rw [if_pos rfl, if_pos (by omega)]
    refine (go _ (by simp; omega)).trans ?_
    simp [tokenB]
theorem itoa_sz (c : Int) (h1 : -99 ≤ c) (h2 : c ≤ 99) : (itoaB c).size ≤ 3 := itoa_len c h1 h2
theorem kindW_len {x : Int} (h : x = 1 ∨ x = 2 ∨ x = 3) : (bl (kindW x)).length ≤ 5 := by rcases h with rfl | rfl | rfl <;> decide +kernel
theorem slash_len {p h : Int} (h1 : 0 ≤ p ∧ p ≤ 99) (h2 : 0 ≤ h ∧ h ≤ 99) : (bl (slash p h)).length ≤ 7 := by
  have a := itoa_len p (by omega) (by omega)
  have b := itoa_len h (by omega) (by omega)
  simp only [slash, bl, ByteArray.data_append, Array.toList_append, List.length_append] at a b ⊢
  simp only [List.length_cons, List.length_nil]
  omega
theorem plus_sum : ∀ (X : List Int), (∀ t ∈ X, 1 ≤ t ∧ t ≤ 8) → ((X.map plusW).map sz).sum ≤ 9 * X.length
  | [], _ => by simp
  | t :: X, h => by
    have ih := plus_sum X (fun t ht => h t (by simp [ht]))
    have hb := h t (by simp)
    have hz := traitW_len t hb.1 hb.2
    have : sz (plusW t) = 1 + (bl (traitW t)).length := by simp [sz, plusW, bl]; omega
    simp only [List.map_cons, List.sum_cons, List.length_cons] at ih ⊢
    omega
theorem parts_sum : ∀ (L : List S48), (∀ p ∈ L, okS p) → ((L.flatMap fun p => [barB, partT p]).map sz).sum ≤ 81 * L.length
  | [], _ => by simp
  | p :: L, h => by
    have ih := parts_sum L (fun t ht => h t (by simp [ht]))
    have hz : sz (partT p) ≤ 80 := text_len (h p (by simp))
    have h1 : sz barB = 1 := rfl
    simp only [List.flatMap_cons, List.map_append, List.sum_append, List.map_cons, List.map_nil, List.sum_cons, List.sum_nil, List.length_cons] at ih ⊢
    omega
theorem parts_len : ∀ (L : List S48), (L.flatMap fun p => [barB, partT p]).length = 2 * L.length
  | [] => rfl
  | p :: L => by have := parts_len L; simp only [List.flatMap_cons, List.length_append, List.length_cons, List.length_nil] at this ⊢; omega
theorem head_bd {nm : ByteArray} {su kd co pw hp tr : Int} {tk : Bool} {n : Nat} (f : Face nm su kd co pw hp tr tk n) :
    ((headW nm su kd co pw hp tr tk).map sz).sum ≤ 20 + 6 + 5 + 3 + 7 + 5 + 72 ∧ (headW nm su kd co pw hp tr tk).length ≤ 14 := by
  obtain ⟨_, h2, h3, _⟩ := tl_of f.itr
  have a1 : sz nm ≤ 20 := nameB_len f.inm
  have a2 : sz (suitW su) ≤ 6 := suitW_len su f.isu.1 f.isu.2
  have a3 : sz (kindW kd) ≤ 5 := kindW_len f.ikd
  have a4 : sz (itoaB co) ≤ 3 := itoa_len co (by have := f.ico; omega) (by have := f.ico; omega)
  have a5 : sz (slash pw hp) ≤ 7 := slash_len f.ipw f.ihp
  have a6 := plus_sum (tl tr) h3
  have a7 : sz tokenB = 5 := rfl
  unfold headW
  constructor
  · simp only [List.map_append, List.sum_append, List.map_cons, List.map_nil, List.sum_cons, List.sum_nil]
    generalize (((tl tr).map plusW).map sz).sum = S at a6 ⊢
    generalize sz (kindW kd) = K at a3 ⊢
    by_cases hk : kd = 1 <;> cases tk <;> simp [hk, a7] <;> omega
  · by_cases hk : kd = 1 <;> cases tk <;> simp [hk] <;> omega
theorem print_card {nm : ByteArray} {su kd co pw hp tr : Int} {tk : Bool} {L : List S48} (f : Face nm su kd co pw hp tr tk L.length) (ho : ∀ p ∈ L, okS p) (k : Nat) (hc : card_Check.f (k + 30) nm su kd co pw hp tr tk L = some 0) :
    card_Print.f (k + 30) nm su kd co pw hp tr tk L = some (textB (cardW nm su kd co pw hp tr tk L), 0) := by
  have hb := head_bd f
  have hp1 := parts_sum L ho
  have hp2 := parts_len L
  have hl := f.ilen
  have i1 := f.ico
  have i2 := f.ipw
  have i3 := f.ihp
  have eJ : strings_Join.f (cardW nm su kd co pw hp tr tk L) (⟨#[32]⟩ : ByteArray) = some (textB (cardW nm su kd co pw hp tr tk L)) := by
    apply join_any
    · unfold cardW; rw [List.length_append]; omega
    · unfold cardW; rw [List.map_append, List.sum_append]; omega
  unfold card_Print.f
  rw [hc, Option.bind_some, if_pos rfl, suitW_eff, Option.bind_some, kindW_eff, Option.bind_some, itoa_eff co (by omega) (by omega), Option.bind_some, Option.bind_some]
  by_cases hk : kd = 1
  · have s1 := itoa_sz pw (by omega) (by omega)
    have s2 := itoa_sz hp (by omega) (by omega)
    rw [if_pos hk, itoa_eff pw (by omega) (by omega), Option.bind_some, if_pos (by omega), itoa_eff hp (by omega) (by omega), Option.bind_some, if_pos (by rw [ByteArray.size_append, show (⟨#[47]⟩ : ByteArray).size = 1 from rfl]; omega), if_pos (by simp)]
    rw [print_j0 _ (by simp) nm su kd co pw hp tr tk L hl ho f.itr k]
    rw [show ((([nm, suitW su, kindW kd, itoaB co] ++ [(itoaB pw ++ (⟨#[47]⟩ : ByteArray)) ++ itoaB hp]) ++ (if tk = true then [tokenB] else [])) ++ (tl tr).map plusW) ++ (L.flatMap fun p => [barB, partT p]) = cardW nm su kd co pw hp tr tk L by unfold cardW headW; rw [if_pos hk]; rfl, eJ]
    rfl
  · rw [if_neg hk]
    rw [print_j0 _ (by simp) nm su kd co pw hp tr tk L hl ho f.itr k]
    rw [show (([nm, suitW su, kindW kd, itoaB co] ++ (if tk = true then [tokenB] else [])) ++ (tl tr).map plusW) ++ (L.flatMap fun p => [barB, partT p]) = cardW nm su kd co pw hp tr tk L by unfold cardW headW; rw [if_neg hk]; simp, eJ]
    rfl
theorem card_len {nm : ByteArray} {su kd co pw hp tr : Int} {tk : Bool} {L : List S48} (f : Face nm su kd co pw hp tr tk L.length) (ho : ∀ p ∈ L, okS p) : (textB (cardW nm su kd co pw hp tr tk L)).size ≤ 512 := by
  have hb := head_bd f
  have hp1 := parts_sum L ho
  have hp2 := parts_len L
  have hl := f.ilen
  have e : (textB (cardW nm su kd co pw hp tr tk L)).size = (Lib.join ((cardW nm su kd co pw hp tr tk L).map bl) [32]).length := by rw [← textB_bl]; rfl
  have hj := join_len ((cardW nm su kd co pw hp tr tk L).map bl)
  have hm : (((cardW nm su kd co pw hp tr tk L).map bl).map List.length).sum = ((cardW nm su kd co pw hp tr tk L).map sz).sum := by rw [List.map_map]; rfl
  rw [hm, List.length_map] at hj
  have h1 : (cardW nm su kd co pw hp tr tk L).length ≤ 22 := by unfold cardW; rw [List.length_append]; omega
  have h2 : ((cardW nm su kd co pw hp tr tk L).map sz).sum ≤ 118 + 324 := by unfold cardW; rw [List.map_append, List.sum_append]; omega
  omega
end Go.Proofs.YtfpcideomanbbaaGreatDoor.PA
end
section
namespace Go.Proofs.YtfpcideomanbbaaGreatDoor.PA
open Go.RowKit Go.Proofs.YtfpcideomanbbaaGreatDoorW.PrintWords Go.Proofs.YtfpcideomanbbaaGreatDoorW.PrintLast Go.Proofs.YtfpcideomanbbaaGreatDoorW.PrintMore
def strings_Cut.f (a0 : ByteArray) (a1 : ByteArray) : Option (ByteArray × ByteArray × Bool) :=
  if a0.size < 4294967281 then some (⟨(Lib.cut a0.data.toList a1.data.toList).1.toArray⟩, ⟨(Lib.cut a0.data.toList a1.data.toList).2.1.toArray⟩, (Lib.cut a0.data.toList a1.data.toList).2.2) else none
theorem strings_Cut.calls (a0 : ByteArray) (a1 : ByteArray) (r1 : ByteArray) (r2 : ByteArray) (r3 : Bool) (w : World) (hG_ : GP w) (h : strings_Cut.f a0 a1 = some (r1, r2, r3)) :
    Calls Tryz.prog 69 #[.string a0, .string a1] w fun e w' => e = .returned (.tuple #[.string r1, .string r2, .bool r3]) ∧ Drawn0 w w' := by
  unfold strings_Cut.f at h
  split at h
  · rename_i hb
    obtain ⟨rfl, rfl, rfl⟩ : _ ∧ _ ∧ _ := by simpa using h
    obtain ⟨m, hm⟩ := hG_.maxLen
    refine (Tryz.strings_Cut a0 a1 m w hb hm).mono ?_
    rintro e w' ⟨rfl, n, rfl⟩
    exact ⟨rfl, ⟨⟨n, rfl⟩⟩⟩
  · cases h
def strings_HasPrefix.f (a0 : ByteArray) (a1 : ByteArray) : Option (Bool) := some (Lib.hasPrefix a0.data.toList a1.data.toList)
theorem strings_HasPrefix.calls (a0 : ByteArray) (a1 : ByteArray) (r : Bool) (w : World) (h : strings_HasPrefix.f a0 a1 = some r) :
    Calls Tryz.prog 111 #[.string a0, .string a1] w fun e w' => e = .returned (.bool r) ∧ Drawn0 w w' := by
  obtain rfl := Option.some.inj h
  refine (Tryz.strings_HasPrefix a0 a1 w).mono ?_
  rintro e w' ⟨rfl, rfl⟩
  exact ⟨rfl, Drawn0.refl _⟩
end Go.Proofs.YtfpcideomanbbaaGreatDoor.PA
end
section
namespace Go.Proofs.YtfpcideomanbbaaGreatDoor.PA
open Go.RowKit Go.Proofs.YtfpcideomanbbaaGreatDoorW.PrintWords Go.Proofs.YtfpcideomanbbaaGreatDoorW.PrintLast Go.Proofs.YtfpcideomanbbaaGreatDoorW.PrintMore
theorem index_bar : ∀ (a b : List UInt8), (124 : UInt8) ∉ a → Lib.index (a ++ 32 :: 124 :: 32 :: b) [32, 124, 32] = (a.length : Int)
  | [], b, _ => by simp [Lib.index]
  | c :: a, b, h => by
    have ih := index_bar a b (fun q => h (by simp [q]))
    have hp : List.isPrefixOf [32, 124, 32] (c :: (a ++ 32 :: 124 :: 32 :: b)) = false := by
      cases a with
      | nil => simp [List.isPrefixOf]
      | cons x a =>
        have hx : x ≠ 124 := fun q => h (by simp [q])
        simp [List.isPrefixOf, hx.symm]
    show (if List.isPrefixOf [32, 124, 32] (c :: (a ++ 32 :: 124 :: 32 :: b)) = true then (0 : Int) else if (Lib.index (a ++ 32 :: 124 :: 32 :: b) [32, 124, 32] == -1) = true then -1 else Lib.index (a ++ 32 :: 124 :: 32 :: b) [32, 124, 32] + 1) = _
    rw [hp, ih, if_neg (by decide), if_neg (by rw [beq_iff_eq]; omega)]
    simp
theorem index_nobar : ∀ (a : List UInt8), (124 : UInt8) ∉ a → Lib.index a [32, 124, 32] = -1
  | [], _ => by simp [Lib.index]
  | c :: a, h => by
    have ih := index_nobar a (fun q => h (by simp [q]))
    have hp : List.isPrefixOf [32, 124, 32] (c :: a) = false := by
      cases a with
      | nil => simp [List.isPrefixOf]
      | cons x a =>
        have hx : x ≠ 124 := fun q => h (by simp [q])
        simp [List.isPrefixOf, hx.symm]
    show (if List.isPrefixOf [32, 124, 32] (c :: a) = true then (0 : Int) else if (Lib.index a [32, 124, 32] == -1) = true then -1 else Lib.index a [32, 124, 32] + 1) = _
    rw [hp, ih]; rfl
theorem index_slash : ∀ (a b : List UInt8), (47 : UInt8) ∉ a → Lib.index (a ++ 47 :: b) [47] = (a.length : Int)
  | [], b, _ => by simp [Lib.index]
  | c :: a, b, h => by
    have ih := index_slash a b (fun q => h (by simp [q]))
    have hc : c ≠ 47 := fun q => h (by simp [q])
    have hp : List.isPrefixOf [47] (c :: (a ++ 47 :: b)) = false := by simp [List.isPrefixOf, hc.symm]
    show (if List.isPrefixOf [47] (c :: (a ++ 47 :: b)) = true then (0 : Int) else if (Lib.index (a ++ 47 :: b) [47] == -1) = true then -1 else Lib.index (a ++ 47 :: b) [47] + 1) = _
    rw [hp, ih, if_neg (by decide), if_neg (by rw [beq_iff_eq]; omega)]
    simp
theorem cut_bar (a b : List UInt8) (h : (124 : UInt8) ∉ a) : Lib.cut (a ++ 32 :: 124 :: 32 :: b) [32, 124, 32] = (a, b, true) := by
  unfold Lib.cut
  rw [index_bar a b h, if_pos (by omega)]
  simp
theorem cut_nobar (a : List UInt8) (h : (124 : UInt8) ∉ a) : Lib.cut a [32, 124, 32] = (a, [], false) := by
  unfold Lib.cut
  rw [index_nobar a h, if_neg (by decide)]
theorem cut_slash (a b : List UInt8) (h : (47 : UInt8) ∉ a) : Lib.cut (a ++ 47 :: b) [47] = (a, b, true) := by
  unfold Lib.cut
  rw [index_slash a b h, if_pos (by omega)]
  simp
theorem cut_len (s sep : List UInt8) : (Lib.cut s sep).1.length ≤ s.length ∧ (Lib.cut s sep).2.1.length ≤ s.length ∧ ((Lib.cut s sep).2.2 = true → (Lib.cut s sep).2.1.length + sep.length ≤ s.length) := by
  unfold Lib.cut
  split
  · rename_i h
    have hr := Lib.index_room s sep h
    refine ⟨by simp; omega, by simp, fun _ => ?_⟩
    simp; omega
  · exact ⟨Nat.le_refl _, Nat.zero_le _, fun q => by cases q⟩
def Cl (s : ByteArray) : Prop := (32 : UInt8) ∉ bl s ∧ (124 : UInt8) ∉ bl s
instance (s : ByteArray) : Decidable (Cl s) := by unfold Cl; infer_instance
theorem name_cl {s : ByteArray} (h : nameB s = true) : Cl s := by
  unfold nameB at h
  simp only [Bool.and_eq_true] at h
  have hb := List.all_eq_true.1 h.2.2
  constructor
  · intro q; have := hb _ q; revert this; decide
  · intro q; have := hb _ q; revert this; decide
theorem fin_of {P : Int → Prop} {m : Nat} (h : ∀ n : Fin m, P ((n.val : Int) + 1)) {x : Int} (h1 : 1 ≤ x) (h2 : x ≤ m) : P x := by
  have := h ⟨(x - 1).toNat, by omega⟩
  have e : (((x - 1).toNat : Nat) : Int) + 1 = x := by omega
  rwa [e] at this
theorem when_cl {x : Int} (h1 : 1 ≤ x) (h2 : x ≤ 6) : Cl (whenW x) := fin_of (P := fun x => Cl (whenW x)) (m := 6) (by decide +kernel) h1 h2
theorem verb_cl {x : Int} (h1 : 1 ≤ x) (h2 : x ≤ 19) : Cl (verbW x) := fin_of (P := fun x => Cl (verbW x)) (m := 19) (by decide +kernel) h1 h2
theorem whom_cl {x : Int} (h1 : 1 ≤ x) (h2 : x ≤ 10) : Cl (whomW x) := fin_of (P := fun x => Cl (whomW x)) (m := 10) (by decide +kernel) h1 h2
theorem suit_cl {x : Int} (h1 : 1 ≤ x) (h2 : x ≤ 6) : Cl (suitW x) := fin_of (P := fun x => Cl (suitW x)) (m := 6) (by decide +kernel) h1 h2
theorem trait_cl {x : Int} (h1 : 1 ≤ x) (h2 : x ≤ 8) : Cl (traitW x) := fin_of (P := fun x => Cl (traitW x)) (m := 8) (by decide +kernel) h1 h2
theorem plus_cl {x : Int} (h1 : 1 ≤ x) (h2 : x ≤ 8) : Cl (plusW x) := fin_of (P := fun x => Cl (plusW x)) (m := 8) (by decide +kernel) h1 h2
theorem itoa_clF : ∀ n : Fin 199, Cl (itoaB ((n.val : Int) - 99)) ∧ (47 : UInt8) ∉ bl (itoaB ((n.val : Int) - 99)) := by decide +kernel
theorem itoa_cl {c : Int} (h1 : -99 ≤ c) (h2 : c ≤ 99) : Cl (itoaB c) ∧ (47 : UInt8) ∉ bl (itoaB c) := by
  obtain ⟨n, rfl⟩ := small_int h1 h2
  exact itoa_clF n
theorem kind_cl {x : Int} (h : x = 1 ∨ x = 2 ∨ x = 3) : Cl (kindW x) := by rcases h with rfl | rfl | rfl <;> decide +kernel
theorem opt_mem {u : Bool} {x y : ByteArray} (h : y ∈ opt u x) : u = true ∧ y = x := by
  cases u
  · simp [opt] at h
  · simp [opt] at h; exact ⟨rfl, h⟩
theorem words_cl {w v h c su tr mk : Int} {nm : ByteArray} (ho : okB w v h c su tr mk nm = true) : ∀ s ∈ words w v h c su tr mk nm, Cl s := by
  have p := Part.of ho
  intro s hs
  unfold words at hs
  simp only [List.mem_append, List.mem_cons, List.not_mem_nil, or_false] at hs
  rcases hs with ((((hs | hs) | hs) | hs) | hs) | hs
  · rcases hs with rfl | rfl | rfl
    · exact when_cl p.w1 p.w2
    · exact verb_cl p.v1 p.v2
    · exact whom_cl p.h1 p.h2
  · obtain ⟨q, rfl⟩ := opt_mem hs; exact (itoa_cl p.c1 p.c2).1
  · obtain ⟨q, rfl⟩ := opt_mem hs; exact suit_cl (p.s1 q).1 (p.s1 q).2
  · obtain ⟨q, rfl⟩ := opt_mem hs; exact trait_cl (p.t1 q).1 (p.t1 q).2
  · obtain ⟨q, rfl⟩ := opt_mem hs; exact (itoa_cl (by have := p.m1 q; omega) (by have := p.m1 q; omega)).1
  · obtain ⟨q, rfl⟩ := opt_mem hs; exact name_cl (p.n1 q)
theorem join_nobar : ∀ (L : List (List UInt8)), (∀ w ∈ L, (124 : UInt8) ∉ w) → (124 : UInt8) ∉ Lib.join L [32]
  | [], _ => by simp [Lib.join]
  | [w], h => by simpa [Lib.join] using h w (by simp)
  | w :: v :: L, h => by
    have ih := join_nobar (v :: L) (fun x hx => h x (by simp [hx]))
    rw [join_cons2]
    have := h w (by simp)
    simp [this, ih]
theorem part_nobar {p : S48} (h : okS p) : (124 : UInt8) ∉ bl (partT p) := by
  unfold partT
  rw [textB_bl]
  refine join_nobar _ (fun w hw => ?_)
  obtain ⟨s, hs, rfl⟩ := List.mem_map.1 hw
  exact (words_cl h s hs).2
theorem slash_cl {p h : Int} (h1 : 0 ≤ p ∧ p ≤ 99) (h2 : 0 ≤ h ∧ h ≤ 99) : Cl (slash p h) := by
  have a := (itoa_cl (c := p) (by omega) (by omega)).1
  have b := (itoa_cl (c := h) (by omega) (by omega)).1
  unfold Cl bl at a b ⊢
  simp only [slash, ByteArray.data_append, Array.toList_append, List.mem_append, not_or]
  exact ⟨⟨⟨a.1, by decide⟩, b.1⟩, ⟨a.2, by decide⟩, b.2⟩
theorem head_cl {nm : ByteArray} {su kd co pw hp tr : Int} {tk : Bool} {n : Nat} (f : Face nm su kd co pw hp tr tk n) : ∀ s ∈ headW nm su kd co pw hp tr tk, Cl s := by
  obtain ⟨_, _, h3, _⟩ := tl_of f.itr
  intro s hs
  unfold headW at hs
  simp only [List.mem_append, List.mem_cons, List.not_mem_nil, or_false] at hs
  rcases hs with ((hs | hs) | hs) | hs
  · rcases hs with rfl | rfl | rfl | rfl
    · exact name_cl f.inm
    · exact suit_cl f.isu.1 f.isu.2
    · exact kind_cl f.ikd
    · exact (itoa_cl (by have := f.ico; omega) (by have := f.ico; omega)).1
  · split at hs
    · simp at hs; subst hs; exact slash_cl f.ipw f.ihp
    · cases hs
  · split at hs
    · simp at hs; subst hs; decide +kernel
    · cases hs
  · obtain ⟨t, ht, rfl⟩ := List.mem_map.1 hs
    exact plus_cl (h3 t ht).1 (h3 t ht).2
def tailT (L : List S48) : List UInt8 := L.flatMap fun p => 32 :: 124 :: 32 :: bl (partT p)
theorem join_app : ∀ (B A : List (List UInt8)), A ≠ [] → Lib.join (A ++ B) [32] = Lib.join A [32] ++ B.flatMap fun w => 32 :: w
  | [], A, _ => by simp
  | x :: B, A, h => by
    rw [show A ++ x :: B = (A ++ [x]) ++ B by simp, join_app B (A ++ [x]) (by simp), join_snoc A x h]
    simp
def headT (nm : ByteArray) (su kd co pw hp tr : Int) (tk : Bool) : List UInt8 := Lib.join ((headW nm su kd co pw hp tr tk).map bl) [32]
theorem tail_flat : ∀ L : List S48, ((L.flatMap fun p => [barB, partT p]).map bl).flatMap (fun w => 32 :: w) = tailT L
  | [] => rfl
  | p :: L => by
    have ih := tail_flat L
    unfold tailT at ih ⊢
    simp only [List.flatMap_cons, List.map_append, List.map_cons, List.map_nil, List.flatMap_append, List.flatMap_nil, List.append_nil, ih]
    simp [barB, bl]
theorem card_text (nm : ByteArray) (su kd co pw hp tr : Int) (tk : Bool) (L : List S48) : bl (textB (cardW nm su kd co pw hp tr tk L)) = headT nm su kd co pw hp tr tk ++ tailT L := by
  rw [textB_bl]
  unfold cardW headT
  rw [List.map_append, join_app _ _ (by simp [headW]), tail_flat]
theorem head_nobar {nm : ByteArray} {su kd co pw hp tr : Int} {tk : Bool} {n : Nat} (f : Face nm su kd co pw hp tr tk n) : (124 : UInt8) ∉ headT nm su kd co pw hp tr tk := by
  refine join_nobar _ (fun w hw => ?_)
  obtain ⟨s, hs, rfl⟩ := List.mem_map.1 hw
  exact (head_cl f s hs).2
def ahead : List S48 → List UInt8
  | [] => []
  | p :: L => bl (partT p) ++ tailT L
theorem cut_ahead (a : List UInt8) (h : (124 : UInt8) ∉ a) : ∀ L : List S48, Lib.cut (a ++ tailT L) [32, 124, 32] = (a, ahead L, !L.isEmpty)
  | [] => by simpa [tailT, ahead] using cut_nobar a h
  | p :: L => by
    have := cut_bar a (bl (partT p) ++ tailT L) h
    simpa [tailT, ahead] using this
theorem head_split {nm : ByteArray} {su kd co pw hp tr : Int} {tk : Bool} {n : Nat} (f : Face nm su kd co pw hp tr tk n) :
    Lib.splitB ⟨#[32]⟩ 0 (Lib.countB ⟨(headT nm su kd co pw hp tr tk).toArray⟩ ⟨#[32]⟩) ⟨(headT nm su kd co pw hp tr tk).toArray⟩ = headW nm su kd co pw hp tr tk := by
  apply words_eq
  rw [split_spl]
  show spl (headT nm su kd co pw hp tr tk) = _
  refine spl_join _ (by simp [headW]) (fun x hx => ?_)
  obtain ⟨s, hs, rfl⟩ := List.mem_map.1 hx
  exact (head_cl f s hs).1
end Go.Proofs.YtfpcideomanbbaaGreatDoor.PA
end
section
namespace Go.Proofs.YtfpcideomanbbaaGreatDoor.PA
open Go.RowKit Go.Proofs.YtfpcideomanbbaaGreatDoorW.PrintWords Go.Proofs.YtfpcideomanbbaaGreatDoorW.PrintLast Go.Proofs.YtfpcideomanbbaaGreatDoorW.PrintMore
def strconv_Atoi.f (a0 : ByteArray) : Option (Int × Option Int) := if a0.size ≤ 281474976710656 then some (atoiVal a0, none) else none
theorem strconv_Atoi.calls (a0 : ByteArray) (r1 : Int) (r2 : Option Int) (w : World) (hG_ : GP w) (h : strconv_Atoi.f a0 = some (r1, r2)) :
    Calls Tryz.prog 55 #[.string a0] w fun e w' => ∃ v : Value, e = .returned (.tuple #[.int .i64 r1, v]) ∧ Below w.heap.size w w' := by
  unfold strconv_Atoi.f at h
  split at h
  · obtain ⟨rfl, rfl⟩ : _ ∧ _ := by simpa using h
    exact atoi_calls a0 w hG_ (by assumption)
  · cases h
end Go.Proofs.YtfpcideomanbbaaGreatDoor.PA
end
section
namespace Go.Proofs.YtfpcideomanbbaaGreatDoor.PA
open Go.RowKit Go.Proofs.YtfpcideomanbbaaGreatDoorW.PrintWords Go.Proofs.YtfpcideomanbbaaGreatDoorW.PrintLast Go.Proofs.YtfpcideomanbbaaGreatDoorW.PrintMore
attribute [local go_sem] max2_int min2_int max_two min_two max_three min_three max_four min_four
set_option linter.unusedVariables false
set_option linter.unusedSimpArgs false
mutual
def card_read.l0 : Nat → List ByteArray → Int → ByteArray → Int → Int → Int → Int → Int → Int → Bool → Option (ByteArray × Int × Int × Int × Int × Int × Int × Bool × (List (S48)) × Bool)
 | 0, _, _, _, _, _, _, _, _, _, _ => none
 | k + 1, x0, x5, x496000, x496001, x496002, x496003, x496004, x496005, x496006, x496007 => if x5 ≤ 3 then ((card_word.f x5).bind fun t500 => (if 2 < (x0.length : Int) then (if t500.toList = (rdOf ByteArray.empty x0 2).toList then (card_read.l0 k x0 ((x5 + 1) % 256) x496000 x496001 x5 x496003 x496004 x496005 x496006 x496007) else (card_read.l0 k x0 ((x5 + 1) % 256) x496000 x496001 x496002 x496003 x496004 x496005 x496006 x496007)) else (none))) else (if 3 < (x0.length : Int) then ((strconv_Atoi.f (rdOf ByteArray.empty x0 3)).bind fun bt503 => (if 4 ≤ (x0.length : Int) then (card_read.l1 k (x0.drop 4) ((x0.drop 4).length : Int) 0 x496000 x496001 x496002 bt503.1 x496004 x496005 x496006 x496007) else (none))) else (none))
def card_read.l1 : Nat → List ByteArray → Int → Int → ByteArray → Int → Int → Int → Int → Int → Int → Bool → Option (ByteArray × Int × Int × Int × Int × Int × Int × Bool × (List (S48)) × Bool)
 | 0, _, _, _, _, _, _, _, _, _, _, _ => none
 | k + 1, x50, x51, x52, x496000, x496001, x496002, x496003, x496004, x496005, x496006, x496007 => if x52 < x51 then (if 0 ≤ x52 then (if x52 < (x50.length : Int) then (if (rdOf ByteArray.empty x50 x52).toList = ([116, 111, 107, 101, 110] : List UInt8) then (card_read.l1 k x50 x51 (wrap64 (x52 + 1)) x496000 x496001 x496002 x496003 x496004 x496005 x496006 true) else ((strings_HasPrefix.f (rdOf ByteArray.empty x50 x52) (⟨#[43]⟩ : ByteArray)).bind fun t507 => (if t507 = true then (if 1 ≤ ((rdOf ByteArray.empty x50 x52).size : Int) then ((trait_Of.f k ((rdOf ByteArray.empty x50 x52).extract 1 (rdOf ByteArray.empty x50 x52).size)).bind fun bt508 => ((trait_With.f x496006 bt508.1).bind fun t510 => (card_read.l1 k x50 x51 (wrap64 (x52 + 1)) x496000 x496001 x496002 x496003 x496004 x496005 t510 x496007))) else (none)) else ((strings_Cut.f (rdOf ByteArray.empty x50 x52) (⟨#[47]⟩ : ByteArray)).bind fun bt511 => ((strconv_Atoi.f bt511.1).bind fun bt514 => ((strconv_Atoi.f bt511.2.1).bind fun bt516 => (card_read.l1 k x50 x51 (wrap64 (x52 + 1)) x496000 x496001 x496002 x496003 bt514.1 bt516.1 x496006 x496007))))))) else (none)) else (none)) else (some (x496000, x496001, x496002, x496003, x496004, x496005, x496006, x496007, ([] : List (S48)), true))
end
def card_read.f (k : Nat) (l0 : List ByteArray) : Option (ByteArray × Int × Int × Int × Int × Int × Int × Bool × (List (S48)) × Bool) := if (l0.length : Int) < 4 then (some ((⟨#[]⟩ : ByteArray), 0, 0, 0, 0, 0, 0, false, ([] : List (S48)), false)) else (if 0 < (l0.length : Int) then (if 1 < (l0.length : Int) then ((suit_Of.f (rdOf ByteArray.empty l0 1)).bind fun bt498 => (card_read.l0 k l0 1 (rdOf ByteArray.empty l0 0) bt498.1 0 0 0 0 0 false)) else (none)) else (none))
theorem card_read.mono_l : ∀ k, (∀ y0 y1 y2 y3 y4 y5 y6 y7 y8 y9, LeO (card_read.l0 k y0 y1 y2 y3 y4 y5 y6 y7 y8 y9) (card_read.l0 (k + 1) y0 y1 y2 y3 y4 y5 y6 y7 y8 y9)) ∧ (∀ y0 y1 y2 y3 y4 y5 y6 y7 y8 y9 y10, LeO (card_read.l1 k y0 y1 y2 y3 y4 y5 y6 y7 y8 y9 y10) (card_read.l1 (k + 1) y0 y1 y2 y3 y4 y5 y6 y7 y8 y9 y10))
 | 0 => ⟨fun _ _ _ _ _ _ _ _ _ _ r h => by simp [card_read.l0] at h, fun _ _ _ _ _ _ _ _ _ _ _ r h => by simp [card_read.l1] at h⟩
 | k + 1 => by
  obtain ⟨ih0, ih1⟩ := card_read.mono_l k
  refine ⟨?_, ?_⟩
  ·intro y0 y1 y2 y3 y4 y5 y6 y7 y8 y9
   unfold card_read.l0
   repeat' first
   | (with_reducible exact ih0 _ _ _ _ _ _ _ _ _ _)
   | (with_reducible exact ih1 _ _ _ _ _ _ _ _ _ _ _)
   | (with_reducible exact trait_Of.mono _ _)
   | (with_reducible exact LeO.refl _)
   | (with_reducible exact LeO.none _)
   | (with_reducible refine LeO.ite ?_ ?_)
   | (with_reducible refine LeO.bind ?_ (fun _ => ?_))
   | exact ih0 _ _ _ _ _ _ _ _ _ _
   | exact ih1 _ _ _ _ _ _ _ _ _ _ _
   | exact trait_Of.mono _ _
   | exact LeO.none _
   | refine LeO.ite ?_ ?_
   | refine LeO.bind ?_ (fun _ => ?_)
  ·intro y0 y1 y2 y3 y4 y5 y6 y7 y8 y9 y10
   unfold card_read.l1
   repeat' first
   | (with_reducible exact ih0 _ _ _ _ _ _ _ _ _ _)
   | (with_reducible exact ih1 _ _ _ _ _ _ _ _ _ _ _)
   | (with_reducible exact trait_Of.mono _ _)
   | (with_reducible exact LeO.refl _)
   | (with_reducible exact LeO.none _)
   | (with_reducible refine LeO.ite ?_ ?_)
   | (with_reducible refine LeO.bind ?_ (fun _ => ?_))
   | exact ih0 _ _ _ _ _ _ _ _ _ _
   | exact ih1 _ _ _ _ _ _ _ _ _ _ _
   | exact trait_Of.mono _ _
   | exact LeO.none _
   | refine LeO.ite ?_ ?_
   | refine LeO.bind ?_ (fun _ => ?_)
theorem card_read.mono : ∀ a0 k, LeO (card_read.f k a0) (card_read.f (k + 1) a0) := by
 intro a0 k
 obtain ⟨ih0, ih1⟩ := card_read.mono_l k
 unfold card_read.f
 repeat' first
   | (with_reducible exact ih0 _ _ _ _ _ _ _ _ _ _)
   | (with_reducible exact ih1 _ _ _ _ _ _ _ _ _ _ _)
   | (with_reducible exact trait_Of.mono _ _)
   | (with_reducible exact LeO.refl _)
   | (with_reducible exact LeO.none _)
   | (with_reducible refine LeO.ite ?_ ?_)
   | (with_reducible refine LeO.bind ?_ (fun _ => ?_))
   | exact ih0 _ _ _ _ _ _ _ _ _ _
   | exact ih1 _ _ _ _ _ _ _ _ _ _ _
   | exact trait_Of.mono _ _
   | exact LeO.none _
   | refine LeO.ite ?_ ?_
   | refine LeO.bind ?_ (fun _ => ?_)
set_option maxHeartbeats 8000000 in
set_option maxRecDepth 100000 in
theorem card_read.calls (k : Nat) (A0 : Option Addr) (c0 : Nat) (l0 : List ByteArray) (r1 : ByteArray) (r2 : Int) (r3 : Int) (r4 : Int) (r5 : Int) (r6 : Int) (r7 : Int) (r8 : Bool) (r9 : List (S48)) (r10 : Bool) (w : World) (hG_ : GP w) (hr0 : Kd.C Kd.string w A0 l0.length l0) (hc0 : l0.length ≤ c0) (h : card_read.f k l0 = some (r1, r2, r3, r4, r5, r6, r7, r8, r9, r10)) :
  Calls Tryz.prog 70 #[.slice A0 l0.length c0] w fun e w' => ∃ v8_ : Value, e = .returned (.tuple #[.agg #[.string r1, .int .u8 r2, .int .u8 r3, .int .i64 r4, .int .i64 r5, .int .i64 r6, .int .u16 r7, .bool r8, v8_], .bool r10]) ∧ Kd.R k48 48 w' w.heap.size (fun _ => True) v8_ r9 ∧ Below w.heap.size w w' := by
 have hu28 := Tryz.underlying28
 have HR0 := Aside0.mk hr0
 have HC0 := Aside0.mk hc0
 clear hr0 hc0
 have HGP := Aside0.mk hG_
 clear hG_
 have HB := Aside0.mk (Below.refl w.heap.size w)
 have H : (if (l0.length : Int) < 4 then (some ((⟨#[]⟩ : ByteArray), 0, 0, 0, 0, 0, 0, false, ([] : List (S48)), false)) else (if 0 < (l0.length : Int) then (if 1 < (l0.length : Int) then ((suit_Of.f (rdOf ByteArray.empty l0 1)).bind fun bt498 => (card_read.l0 k l0 1 (rdOf ByteArray.empty l0 0) bt498.1 0 0 0 0 0 false)) else (none)) else (none))) = some (r1, r2, r3, r4, r5, r6, r7, r8, r9, r10) := h
 clear h
 by_cases c2 : (l0.length : Int) < 4
 ·rw [if_pos c2] at H
  have c2b0 : decide ((l0.length : Int) < 4) = true := decide_eq_true c2
  have c2b1 : decide (l0.length < 4) = true := decide_eq_true (by omega)
  clear c2
  simp only [Option.some.injEq, Prod.mk.injEq] at H
  obtain ⟨rfl, rfl, rfl, rfl, rfl, rfl, rfl, rfl, rfl, rfl⟩ := H
  go_enter Tryz.func70, Tryz.ntmps70
  go_wp2_with (first | ((with_reducible refine gate_dst (N := 2) rfl ?_); refine box_event ?hg (N := 2) ?hd (cs := #[.string (⟨#[]⟩ : ByteArray), .int .u8 0, .int .u8 0, .int .i64 0, .int .i64 0, .int .i64 0, .int .u16 0, .bool false, .slice none 0 0]) (t := 28) ?hr ?_; (case hd => rfl); (case hg => rfl); (case hr => first | (go_simp; done) | (go_simp; rfl)); intro gb494 hg w3 hbox hb; have BK494 := Aside0.mk (hbox); have GW494 := Aside0.mk ((by rw [hg]; exact (below_size Zb) : w.heap.size ≤ gb494)); have GE494 := Aside0.mk ((by rw [hg]; exact (below_size Zb) : w.heap.size ≤ gb494)); replace HB := Aside0.mk (below_step Zb hb); clear hb hbox hg) | ((with_reducible refine gate_dst (N := 4) rfl ?_); refine box_event ?hg (N := 4) ?hd (cs := #[.string (⟨#[]⟩ : ByteArray), .int .u8 0, .int .u8 0, .int .i64 0, .int .i64 0, .int .i64 0, .int .u16 0, .bool false, .slice none 0 0]) (t := 28) ?hr ?_; (case hd => rfl); (case hg => rfl); (case hr => first | (go_simp; done) | (go_simp; rfl)); intro gb495 hg w4 hbox hb; have BK495 := Aside0.mk (hbox); have GW495 := Aside0.mk ((by rw [hg]; exact (below_size (Zb1 GE494.out)) : w.heap.size ≤ gb495)); have GE495 := Aside0.mk ((by rw [hg]; exact (below_size (Zb1 GE494.out)) : w.heap.size ≤ gb495)); replace HB := Aside0.mk (below_step (Zb1 GE494.out) hb); have NB494_495 := Aside0.mk ((by rw [hg]; exact Nat.ne_of_lt (blk_lt (Zj BK494.out)) : gb494 ≠ gb495)); have NB495_494 := Aside0.mk ((by rw [hg]; exact Nat.ne_of_gt (blk_lt (Zj BK494.out)) : gb495 ≠ gb494)); replace BK494 := Aside0.mk (blk_below (Zj BK494.out) hb); clear hb hbox hg; have hnb5 := NB495_494.out; have hnc5 := NB494_495.out; obtain ⟨hcz6_0, hcz6_1, hcz6_2, hcz6_3, hcz6_4, hcz6_5, hcz6_6, hcz6_7, hcz6_8, hfz6_0, hfz6_1, hfz6_2, hfz6_3, hfz6_4, hfz6_5, hfz6_6, hfz6_7, hfz6_8⟩ := Z9 BK495.out; obtain ⟨hcz7_0, hcz7_1, hcz7_2, hcz7_3, hcz7_4, hcz7_5, hcz7_6, hcz7_7, hcz7_8, hfz7_0, hfz7_1, hfz7_2, hfz7_3, hfz7_4, hfz7_5, hfz7_6, hfz7_7, hfz7_8⟩ := Z9 BK494.out))
  repeat (go_quiet (first | ((with_reducible refine gate_dst (N := 2) rfl ?_); refine box_event ?hg (N := 2) ?hd (cs := #[.string (⟨#[]⟩ : ByteArray), .int .u8 0, .int .u8 0, .int .i64 0, .int .i64 0, .int .i64 0, .int .u16 0, .bool false, .slice none 0 0]) (t := 28) ?hr ?_; (case hd => rfl); (case hg => rfl); (case hr => first | (go_simp; done) | (go_simp; rfl)); intro gb494 hg w3 hbox hb; have BK494 := Aside0.mk (hbox); have GW494 := Aside0.mk ((by rw [hg]; exact (below_size Zb) : w.heap.size ≤ gb494)); have GE494 := Aside0.mk ((by rw [hg]; exact (below_size Zb) : w.heap.size ≤ gb494)); replace HB := Aside0.mk (below_step Zb hb); clear hb hbox hg) | ((with_reducible refine gate_dst (N := 4) rfl ?_); refine box_event ?hg (N := 4) ?hd (cs := #[.string (⟨#[]⟩ : ByteArray), .int .u8 0, .int .u8 0, .int .i64 0, .int .i64 0, .int .i64 0, .int .u16 0, .bool false, .slice none 0 0]) (t := 28) ?hr ?_; (case hd => rfl); (case hg => rfl); (case hr => first | (go_simp; done) | (go_simp; rfl)); intro gb495 hg w4 hbox hb; have BK495 := Aside0.mk (hbox); have GW495 := Aside0.mk ((by rw [hg]; exact (below_size (Zb1 GE494.out)) : w.heap.size ≤ gb495)); have GE495 := Aside0.mk ((by rw [hg]; exact (below_size (Zb1 GE494.out)) : w.heap.size ≤ gb495)); replace HB := Aside0.mk (below_step (Zb1 GE494.out) hb); have NB494_495 := Aside0.mk ((by rw [hg]; exact Nat.ne_of_lt (blk_lt (Zj BK494.out)) : gb494 ≠ gb495)); have NB495_494 := Aside0.mk ((by rw [hg]; exact Nat.ne_of_gt (blk_lt (Zj BK494.out)) : gb495 ≠ gb494)); replace BK494 := Aside0.mk (blk_below (Zj BK494.out) hb); clear hb hbox hg; have hnb5 := NB495_494.out; have hnc5 := NB494_495.out; obtain ⟨hcz6_0, hcz6_1, hcz6_2, hcz6_3, hcz6_4, hcz6_5, hcz6_6, hcz6_7, hcz6_8, hfz6_0, hfz6_1, hfz6_2, hfz6_3, hfz6_4, hfz6_5, hfz6_6, hfz6_7, hfz6_8⟩ := Z9 BK495.out; obtain ⟨hcz7_0, hcz7_1, hcz7_2, hcz7_3, hcz7_4, hcz7_5, hcz7_6, hcz7_7, hcz7_8, hfz7_0, hfz7_1, hfz7_2, hfz7_3, hfz7_4, hfz7_5, hfz7_6, hfz7_7, hfz7_8⟩ := Z9 BK494.out)); try go_wp2_with (first | ((with_reducible refine gate_dst (N := 2) rfl ?_); refine box_event ?hg (N := 2) ?hd (cs := #[.string (⟨#[]⟩ : ByteArray), .int .u8 0, .int .u8 0, .int .i64 0, .int .i64 0, .int .i64 0, .int .u16 0, .bool false, .slice none 0 0]) (t := 28) ?hr ?_; (case hd => rfl); (case hg => rfl); (case hr => first | (go_simp; done) | (go_simp; rfl)); intro gb494 hg w3 hbox hb; have BK494 := Aside0.mk (hbox); have GW494 := Aside0.mk ((by rw [hg]; exact (below_size Zb) : w.heap.size ≤ gb494)); have GE494 := Aside0.mk ((by rw [hg]; exact (below_size Zb) : w.heap.size ≤ gb494)); replace HB := Aside0.mk (below_step Zb hb); clear hb hbox hg) | ((with_reducible refine gate_dst (N := 4) rfl ?_); refine box_event ?hg (N := 4) ?hd (cs := #[.string (⟨#[]⟩ : ByteArray), .int .u8 0, .int .u8 0, .int .i64 0, .int .i64 0, .int .i64 0, .int .u16 0, .bool false, .slice none 0 0]) (t := 28) ?hr ?_; (case hd => rfl); (case hg => rfl); (case hr => first | (go_simp; done) | (go_simp; rfl)); intro gb495 hg w4 hbox hb; have BK495 := Aside0.mk (hbox); have GW495 := Aside0.mk ((by rw [hg]; exact (below_size (Zb1 GE494.out)) : w.heap.size ≤ gb495)); have GE495 := Aside0.mk ((by rw [hg]; exact (below_size (Zb1 GE494.out)) : w.heap.size ≤ gb495)); replace HB := Aside0.mk (below_step (Zb1 GE494.out) hb); have NB494_495 := Aside0.mk ((by rw [hg]; exact Nat.ne_of_lt (blk_lt (Zj BK494.out)) : gb494 ≠ gb495)); have NB495_494 := Aside0.mk ((by rw [hg]; exact Nat.ne_of_gt (blk_lt (Zj BK494.out)) : gb495 ≠ gb494)); replace BK494 := Aside0.mk (blk_below (Zj BK494.out) hb); clear hb hbox hg; have hnb5 := NB495_494.out; have hnc5 := NB494_495.out; obtain ⟨hcz6_0, hcz6_1, hcz6_2, hcz6_3, hcz6_4, hcz6_5, hcz6_6, hcz6_7, hcz6_8, hfz6_0, hfz6_1, hfz6_2, hfz6_3, hfz6_4, hfz6_5, hfz6_6, hfz6_7, hfz6_8⟩ := Z9 BK495.out; obtain ⟨hcz7_0, hcz7_1, hcz7_2, hcz7_3, hcz7_4, hcz7_5, hcz7_6, hcz7_7, hcz7_8, hfz7_0, hfz7_1, hfz7_2, hfz7_3, hfz7_4, hfz7_5, hfz7_6, hfz7_7, hfz7_8⟩ := Z9 BK494.out)))
  refine bodyPost_ret (results_ct rfl _ _ gb494 28 #[.string (⟨#[]⟩ : ByteArray), .int .u8 0, .int .u8 0, .int .i64 0, .int .i64 0, .int .i64 0, .int .u16 0, .bool false, .slice none 0 0] (0, 0) _ rfl (by (with_reducible repeat (first | apply blk_kn | apply blk_kd | apply blk_ka)); refine blk_put (cs := #[.string (⟨#[]⟩ : ByteArray), .int .u8 0, .int .u8 0, .int .i64 0, .int .i64 0, .int .i64 0, .int .u16 0, .bool false, .slice none 0 0]) ?_ 8 _ rfl; (with_reducible repeat (first | apply blk_kn | apply blk_kd | apply blk_ka)); refine blk_put (cs := #[.string (⟨#[]⟩ : ByteArray), .int .u8 0, .int .u8 0, .int .i64 0, .int .i64 0, .int .i64 0, .int .u16 0, .bool false, .slice none 0 0]) ?_ 7 _ rfl; (with_reducible repeat (first | apply blk_kn | apply blk_kd | apply blk_ka)); refine blk_put (cs := #[.string (⟨#[]⟩ : ByteArray), .int .u8 0, .int .u8 0, .int .i64 0, .int .i64 0, .int .i64 0, .int .u16 0, .bool false, .slice none 0 0]) ?_ 6 _ rfl; (with_reducible repeat (first | apply blk_kn | apply blk_kd | apply blk_ka)); refine blk_put (cs := #[.string (⟨#[]⟩ : ByteArray), .int .u8 0, .int .u8 0, .int .i64 0, .int .i64 0, .int .i64 0, .int .u16 0, .bool false, .slice none 0 0]) ?_ 5 _ rfl; (with_reducible repeat (first | apply blk_kn | apply blk_kd | apply blk_ka)); refine blk_put (cs := #[.string (⟨#[]⟩ : ByteArray), .int .u8 0, .int .u8 0, .int .i64 0, .int .i64 0, .int .i64 0, .int .u16 0, .bool false, .slice none 0 0]) ?_ 4 _ rfl; (with_reducible repeat (first | apply blk_kn | apply blk_kd | apply blk_ka)); refine blk_put (cs := #[.string (⟨#[]⟩ : ByteArray), .int .u8 0, .int .u8 0, .int .i64 0, .int .i64 0, .int .i64 0, .int .u16 0, .bool false, .slice none 0 0]) ?_ 3 _ rfl; (with_reducible repeat (first | apply blk_kn | apply blk_kd | apply blk_ka)); refine blk_put (cs := #[.string (⟨#[]⟩ : ByteArray), .int .u8 0, .int .u8 0, .int .i64 0, .int .i64 0, .int .i64 0, .int .u16 0, .bool false, .slice none 0 0]) ?_ 2 _ rfl; (with_reducible repeat (first | apply blk_kn | apply blk_kd | apply blk_ka)); refine blk_put (cs := #[.string (⟨#[]⟩ : ByteArray), .int .u8 0, .int .u8 0, .int .i64 0, .int .i64 0, .int .i64 0, .int .u16 0, .bool false, .slice none 0 0]) ?_ 1 _ rfl; (with_reducible repeat (first | apply blk_kn | apply blk_kd | apply blk_ka)); refine blk_put (cs := #[.string (⟨#[]⟩ : ByteArray), .int .u8 0, .int .u8 0, .int .i64 0, .int .i64 0, .int .i64 0, .int .u16 0, .bool false, .slice none 0 0]) ?_ 0 _ rfl; exact Zk BK494.out) Tryz.underlying28 rfl (by kernel_rfl)) rfl ?_
  exact ⟨_, Ze, by first | exact Kd.R_nil _ _ _ _ _ | exact Kd.N_nil _ _ _ _ _ | exact Kd.V_nil _ _ _ _ _ | exact Kd.Q_nil _ _ _ _ _ | exact Kd.S_nil _ _ _ _ _, Zb2 GE494.out GE495.out⟩
 ·rw [if_neg c2] at H
  have c2b0 : decide ((l0.length : Int) < 4) = false := decide_eq_false c2
  have c2b1 : decide (l0.length < 4) = false := decide_eq_false (by omega)
  clear c2
  by_cases c8 : 0 < (l0.length : Int)
  ·rw [if_pos c8] at H
   have c8b0 : decide (0 < (l0.length : Int)) = true := decide_eq_true c8
   have c8b1 : decide (0 < l0.length) = true := decide_eq_true (by omega)
   clear c8
   by_cases c9 : 1 < (l0.length : Int)
   ·rw [if_pos c9] at H
    have c9b0 : decide (1 < (l0.length : Int)) = true := decide_eq_true c9
    have c9b1 : decide (1 < l0.length) = true := decide_eq_true (by omega)
    clear c9
    replace H := Option.bind_eq_some_iff.mp H
    obtain ⟨⟨t498, t499⟩, A100, H⟩ := H
    replace H : (card_read.l0 k l0 1 (rdOf ByteArray.empty l0 0) t498 0 0 0 0 0 false) = some (r1, r2, r3, r4, r5, r6, r7, r8, r9, r10) := H
    have A10 := Aside0.mk A100
    clear A100
    have H' := Aside0.mk H
    clear H
    go_enter Tryz.func70, Tryz.ntmps70
    go_wp2_with (first | ((with_reducible refine gate_dst (N := 2) rfl ?_); refine box_event ?hg (N := 2) ?hd (cs := #[.string (⟨#[]⟩ : ByteArray), .int .u8 0, .int .u8 0, .int .i64 0, .int .i64 0, .int .i64 0, .int .u16 0, .bool false, .slice none 0 0]) (t := 28) ?hr ?_; (case hd => rfl); (case hg => rfl); (case hr => first | (go_simp; done) | (go_simp; rfl)); intro gb494 hg w11 hbox hb; have BK494 := Aside0.mk (hbox); have GW494 := Aside0.mk ((by rw [hg]; exact (below_size Zb) : w.heap.size ≤ gb494)); have GE494 := Aside0.mk ((by rw [hg]; exact (below_size Zb) : w.heap.size ≤ gb494)); replace HB := Aside0.mk (below_step Zb hb); clear hb hbox hg) | ((with_reducible refine gate_dst (N := 4) rfl ?_); refine box_event ?hg (N := 4) ?hd (cs := #[.string (⟨#[]⟩ : ByteArray), .int .u8 0, .int .u8 0, .int .i64 0, .int .i64 0, .int .i64 0, .int .u16 0, .bool false, .slice none 0 0]) (t := 28) ?hr ?_; (case hd => rfl); (case hg => rfl); (case hr => first | (go_simp; done) | (go_simp; rfl)); intro gb495 hg w12 hbox hb; have BK495 := Aside0.mk (hbox); have GW495 := Aside0.mk ((by rw [hg]; exact (below_size (Zb1 GE494.out)) : w.heap.size ≤ gb495)); have GE495 := Aside0.mk ((by rw [hg]; exact (below_size (Zb1 GE494.out)) : w.heap.size ≤ gb495)); replace HB := Aside0.mk (below_step (Zb1 GE494.out) hb); have NB494_495 := Aside0.mk ((by rw [hg]; exact Nat.ne_of_lt (blk_lt (Zj BK494.out)) : gb494 ≠ gb495)); have NB495_494 := Aside0.mk ((by rw [hg]; exact Nat.ne_of_gt (blk_lt (Zj BK494.out)) : gb495 ≠ gb494)); replace BK494 := Aside0.mk (blk_below (Zj BK494.out) hb); clear hb hbox hg; have p496 : 0 ≤ (0 : Int) := (by omega); have q496 : 0 < (l0.length : Int) := of_decide_eq_true Za; obtain ⟨ad496, e496, hx496_0⟩ := Kd.at_string HR0.out 0 p496 q496; cases e496; have qi496 : (0 < l0.length) = True := eq_true (by omega); (try rw [show ((0 : Int)).toNat = 0 from rfl] at hx496_0); (try rw [Addr.add_zero'] at hx496_0); replace hx496_0 := (HB.out.cell (World.block_lt_of_cell? w _ hx496_0)).trans hx496_0; replace p496 := eq_true p496; replace q496 := eq_true q496; have hnb13 := NB495_494.out; have hnc13 := NB494_495.out; obtain ⟨hcz14_0, hcz14_1, hcz14_2, hcz14_3, hcz14_4, hcz14_5, hcz14_6, hcz14_7, hcz14_8, hfz14_0, hfz14_1, hfz14_2, hfz14_3, hfz14_4, hfz14_5, hfz14_6, hfz14_7, hfz14_8⟩ := Z9 BK495.out; have p497 : 0 ≤ (1 : Int) := (by omega); have q497 : 1 < (l0.length : Int) := of_decide_eq_true Za; obtain ⟨ad497, e497, hx497_0⟩ := Kd.at_string HR0.out 1 p497 q497; obtain rfl : ad496 = ad497 := (by injection e497); (try simp only [show (1 : Int).toNat = 1 from rfl, Nat.reduceMul, Nat.reduceEqDiff, Go.Addr.add, ↓reduceIte] at hx497_0); have qi497 : (1 < l0.length) = True := eq_true (by omega); (try rw [show ((1 : Int)).toNat = 1 from rfl] at hx497_0); have hn497_0 : ad496.block ≠ gb495 := Nat.ne_of_lt (Nat.lt_of_lt_of_le (by have := World.block_lt_of_cell? _ _ hx497_0; first | rwa [add_block] at this | exact this) GW495.out); replace hx497_0 := (HB.out.cell (World.block_lt_of_cell? w _ hx497_0)).trans hx497_0; replace hx497_0 := (cell_far (p := ⟨gb495, 0, none⟩) (by first | (rw [add_block]; exact hn497_0) | (show (Addr.add _ _).block ≠ _; rw [add_block]; exact hn497_0) | exact hn497_0) (.string (rdOf ByteArray.empty l0 0))).trans hx497_0; (try have hy497_0 := fun (n_ : Nat) => (show (((w12.drewN n_).setCell ⟨gb495, 0, none⟩ (.string (rdOf ByteArray.empty l0 0)))).cell? _ = some _ from hx497_0)); clear hn497_0; replace p497 := eq_true p497; replace q497 := eq_true q497) | (go_at_call 56; (with_reducible refine (suit_Of.calls (rdOf ByteArray.empty l0 1) t498 t499 _ A10.out).mono ?_); rintro e w15 ⟨rfl, hb⟩; replace BK494 := Aside0.mk (blk_below (g := gb494) (o := .cells #[.string (⟨#[]⟩ : ByteArray), .int .u8 0, .int .u8 0, .int .i64 0, .int .i64 0, .int .i64 0, .int .u16 0, .bool false, .slice none 0 0] 28 (0, 0)) (by (with_reducible repeat (first | apply blk_kn | apply blk_kd | apply blk_ka)); refine blk_far ?_ NB494_495.out _; exact Zk BK494.out) hb); replace BK495 := Aside0.mk (blk_below (g := gb495) (o := .cells #[.string (rdOf ByteArray.empty l0 0), .int .u8 0, .int .u8 0, .int .i64 0, .int .i64 0, .int .i64 0, .int .u16 0, .bool false, .slice none 0 0] 28 (0, 0)) (by (with_reducible repeat (first | apply blk_kn | apply blk_kd | apply blk_ka)); refine blk_put (cs := #[.string (⟨#[]⟩ : ByteArray), .int .u8 0, .int .u8 0, .int .i64 0, .int .i64 0, .int .i64 0, .int .u16 0, .bool false, .slice none 0 0]) ?_ 0 _ rfl; exact Zk BK495.out) hb); replace HB := Aside0.mk (below_step (Zb2 GE494.out GE495.out) hb); (try clear hb); (try clear hb2); (try clear hk); (try clear hi); obtain ⟨hcz16_0, hcz16_1, hcz16_2, hcz16_3, hcz16_4, hcz16_5, hcz16_6, hcz16_7, hcz16_8, hfz16_0, hfz16_1, hfz16_2, hfz16_3, hfz16_4, hfz16_5, hfz16_6, hfz16_7, hfz16_8⟩ := Z9 BK495.out))
    repeat (go_quiet (first | ((with_reducible refine gate_dst (N := 2) rfl ?_); refine box_event ?hg (N := 2) ?hd (cs := #[.string (⟨#[]⟩ : ByteArray), .int .u8 0, .int .u8 0, .int .i64 0, .int .i64 0, .int .i64 0, .int .u16 0, .bool false, .slice none 0 0]) (t := 28) ?hr ?_; (case hd => rfl); (case hg => rfl); (case hr => first | (go_simp; done) | (go_simp; rfl)); intro gb494 hg w11 hbox hb; have BK494 := Aside0.mk (hbox); have GW494 := Aside0.mk ((by rw [hg]; exact (below_size Zb) : w.heap.size ≤ gb494)); have GE494 := Aside0.mk ((by rw [hg]; exact (below_size Zb) : w.heap.size ≤ gb494)); replace HB := Aside0.mk (below_step Zb hb); clear hb hbox hg) | ((with_reducible refine gate_dst (N := 4) rfl ?_); refine box_event ?hg (N := 4) ?hd (cs := #[.string (⟨#[]⟩ : ByteArray), .int .u8 0, .int .u8 0, .int .i64 0, .int .i64 0, .int .i64 0, .int .u16 0, .bool false, .slice none 0 0]) (t := 28) ?hr ?_; (case hd => rfl); (case hg => rfl); (case hr => first | (go_simp; done) | (go_simp; rfl)); intro gb495 hg w12 hbox hb; have BK495 := Aside0.mk (hbox); have GW495 := Aside0.mk ((by rw [hg]; exact (below_size (Zb1 GE494.out)) : w.heap.size ≤ gb495)); have GE495 := Aside0.mk ((by rw [hg]; exact (below_size (Zb1 GE494.out)) : w.heap.size ≤ gb495)); replace HB := Aside0.mk (below_step (Zb1 GE494.out) hb); have NB494_495 := Aside0.mk ((by rw [hg]; exact Nat.ne_of_lt (blk_lt (Zj BK494.out)) : gb494 ≠ gb495)); have NB495_494 := Aside0.mk ((by rw [hg]; exact Nat.ne_of_gt (blk_lt (Zj BK494.out)) : gb495 ≠ gb494)); replace BK494 := Aside0.mk (blk_below (Zj BK494.out) hb); clear hb hbox hg; have p496 : 0 ≤ (0 : Int) := (by omega); have q496 : 0 < (l0.length : Int) := of_decide_eq_true Za; obtain ⟨ad496, e496, hx496_0⟩ := Kd.at_string HR0.out 0 p496 q496; cases e496; have qi496 : (0 < l0.length) = True := eq_true (by omega); (try rw [show ((0 : Int)).toNat = 0 from rfl] at hx496_0); (try rw [Addr.add_zero'] at hx496_0); replace hx496_0 := (HB.out.cell (World.block_lt_of_cell? w _ hx496_0)).trans hx496_0; replace p496 := eq_true p496; replace q496 := eq_true q496; have hnb13 := NB495_494.out; have hnc13 := NB494_495.out; obtain ⟨hcz14_0, hcz14_1, hcz14_2, hcz14_3, hcz14_4, hcz14_5, hcz14_6, hcz14_7, hcz14_8, hfz14_0, hfz14_1, hfz14_2, hfz14_3, hfz14_4, hfz14_5, hfz14_6, hfz14_7, hfz14_8⟩ := Z9 BK495.out; have p497 : 0 ≤ (1 : Int) := (by omega); have q497 : 1 < (l0.length : Int) := of_decide_eq_true Za; obtain ⟨ad497, e497, hx497_0⟩ := Kd.at_string HR0.out 1 p497 q497; obtain rfl : ad496 = ad497 := (by injection e497); (try simp only [show (1 : Int).toNat = 1 from rfl, Nat.reduceMul, Nat.reduceEqDiff, Go.Addr.add, ↓reduceIte] at hx497_0); have qi497 : (1 < l0.length) = True := eq_true (by omega); (try rw [show ((1 : Int)).toNat = 1 from rfl] at hx497_0); have hn497_0 : ad496.block ≠ gb495 := Nat.ne_of_lt (Nat.lt_of_lt_of_le (by have := World.block_lt_of_cell? _ _ hx497_0; first | rwa [add_block] at this | exact this) GW495.out); replace hx497_0 := (HB.out.cell (World.block_lt_of_cell? w _ hx497_0)).trans hx497_0; replace hx497_0 := (cell_far (p := ⟨gb495, 0, none⟩) (by first | (rw [add_block]; exact hn497_0) | (show (Addr.add _ _).block ≠ _; rw [add_block]; exact hn497_0) | exact hn497_0) (.string (rdOf ByteArray.empty l0 0))).trans hx497_0; (try have hy497_0 := fun (n_ : Nat) => (show (((w12.drewN n_).setCell ⟨gb495, 0, none⟩ (.string (rdOf ByteArray.empty l0 0)))).cell? _ = some _ from hx497_0)); clear hn497_0; replace p497 := eq_true p497; replace q497 := eq_true q497) | (go_at_call 56; (with_reducible refine (suit_Of.calls (rdOf ByteArray.empty l0 1) t498 t499 _ A10.out).mono ?_); rintro e w15 ⟨rfl, hb⟩; replace BK494 := Aside0.mk (blk_below (g := gb494) (o := .cells #[.string (⟨#[]⟩ : ByteArray), .int .u8 0, .int .u8 0, .int .i64 0, .int .i64 0, .int .i64 0, .int .u16 0, .bool false, .slice none 0 0] 28 (0, 0)) (by (with_reducible repeat (first | apply blk_kn | apply blk_kd | apply blk_ka)); refine blk_far ?_ NB494_495.out _; exact Zk BK494.out) hb); replace BK495 := Aside0.mk (blk_below (g := gb495) (o := .cells #[.string (rdOf ByteArray.empty l0 0), .int .u8 0, .int .u8 0, .int .i64 0, .int .i64 0, .int .i64 0, .int .u16 0, .bool false, .slice none 0 0] 28 (0, 0)) (by (with_reducible repeat (first | apply blk_kn | apply blk_kd | apply blk_ka)); refine blk_put (cs := #[.string (⟨#[]⟩ : ByteArray), .int .u8 0, .int .u8 0, .int .i64 0, .int .i64 0, .int .i64 0, .int .u16 0, .bool false, .slice none 0 0]) ?_ 0 _ rfl; exact Zk BK495.out) hb); replace HB := Aside0.mk (below_step (Zb2 GE494.out GE495.out) hb); (try clear hb); (try clear hb2); (try clear hk); (try clear hi); obtain ⟨hcz16_0, hcz16_1, hcz16_2, hcz16_3, hcz16_4, hcz16_5, hcz16_6, hcz16_7, hcz16_8, hfz16_0, hfz16_1, hfz16_2, hfz16_3, hfz16_4, hfz16_5, hfz16_6, hfz16_7, hfz16_8⟩ := Z9 BK495.out)); try go_wp2_with (first | ((with_reducible refine gate_dst (N := 2) rfl ?_); refine box_event ?hg (N := 2) ?hd (cs := #[.string (⟨#[]⟩ : ByteArray), .int .u8 0, .int .u8 0, .int .i64 0, .int .i64 0, .int .i64 0, .int .u16 0, .bool false, .slice none 0 0]) (t := 28) ?hr ?_; (case hd => rfl); (case hg => rfl); (case hr => first | (go_simp; done) | (go_simp; rfl)); intro gb494 hg w11 hbox hb; have BK494 := Aside0.mk (hbox); have GW494 := Aside0.mk ((by rw [hg]; exact (below_size Zb) : w.heap.size ≤ gb494)); have GE494 := Aside0.mk ((by rw [hg]; exact (below_size Zb) : w.heap.size ≤ gb494)); replace HB := Aside0.mk (below_step Zb hb); clear hb hbox hg) | ((with_reducible refine gate_dst (N := 4) rfl ?_); refine box_event ?hg (N := 4) ?hd (cs := #[.string (⟨#[]⟩ : ByteArray), .int .u8 0, .int .u8 0, .int .i64 0, .int .i64 0, .int .i64 0, .int .u16 0, .bool false, .slice none 0 0]) (t := 28) ?hr ?_; (case hd => rfl); (case hg => rfl); (case hr => first | (go_simp; done) | (go_simp; rfl)); intro gb495 hg w12 hbox hb; have BK495 := Aside0.mk (hbox); have GW495 := Aside0.mk ((by rw [hg]; exact (below_size (Zb1 GE494.out)) : w.heap.size ≤ gb495)); have GE495 := Aside0.mk ((by rw [hg]; exact (below_size (Zb1 GE494.out)) : w.heap.size ≤ gb495)); replace HB := Aside0.mk (below_step (Zb1 GE494.out) hb); have NB494_495 := Aside0.mk ((by rw [hg]; exact Nat.ne_of_lt (blk_lt (Zj BK494.out)) : gb494 ≠ gb495)); have NB495_494 := Aside0.mk ((by rw [hg]; exact Nat.ne_of_gt (blk_lt (Zj BK494.out)) : gb495 ≠ gb494)); replace BK494 := Aside0.mk (blk_below (Zj BK494.out) hb); clear hb hbox hg; have p496 : 0 ≤ (0 : Int) := (by omega); have q496 : 0 < (l0.length : Int) := of_decide_eq_true Za; obtain ⟨ad496, e496, hx496_0⟩ := Kd.at_string HR0.out 0 p496 q496; cases e496; have qi496 : (0 < l0.length) = True := eq_true (by omega); (try rw [show ((0 : Int)).toNat = 0 from rfl] at hx496_0); (try rw [Addr.add_zero'] at hx496_0); replace hx496_0 := (HB.out.cell (World.block_lt_of_cell? w _ hx496_0)).trans hx496_0; replace p496 := eq_true p496; replace q496 := eq_true q496; have hnb13 := NB495_494.out; have hnc13 := NB494_495.out; obtain ⟨hcz14_0, hcz14_1, hcz14_2, hcz14_3, hcz14_4, hcz14_5, hcz14_6, hcz14_7, hcz14_8, hfz14_0, hfz14_1, hfz14_2, hfz14_3, hfz14_4, hfz14_5, hfz14_6, hfz14_7, hfz14_8⟩ := Z9 BK495.out; have p497 : 0 ≤ (1 : Int) := (by omega); have q497 : 1 < (l0.length : Int) := of_decide_eq_true Za; obtain ⟨ad497, e497, hx497_0⟩ := Kd.at_string HR0.out 1 p497 q497; obtain rfl : ad496 = ad497 := (by injection e497); (try simp only [show (1 : Int).toNat = 1 from rfl, Nat.reduceMul, Nat.reduceEqDiff, Go.Addr.add, ↓reduceIte] at hx497_0); have qi497 : (1 < l0.length) = True := eq_true (by omega); (try rw [show ((1 : Int)).toNat = 1 from rfl] at hx497_0); have hn497_0 : ad496.block ≠ gb495 := Nat.ne_of_lt (Nat.lt_of_lt_of_le (by have := World.block_lt_of_cell? _ _ hx497_0; first | rwa [add_block] at this | exact this) GW495.out); replace hx497_0 := (HB.out.cell (World.block_lt_of_cell? w _ hx497_0)).trans hx497_0; replace hx497_0 := (cell_far (p := ⟨gb495, 0, none⟩) (by first | (rw [add_block]; exact hn497_0) | (show (Addr.add _ _).block ≠ _; rw [add_block]; exact hn497_0) | exact hn497_0) (.string (rdOf ByteArray.empty l0 0))).trans hx497_0; (try have hy497_0 := fun (n_ : Nat) => (show (((w12.drewN n_).setCell ⟨gb495, 0, none⟩ (.string (rdOf ByteArray.empty l0 0)))).cell? _ = some _ from hx497_0)); clear hn497_0; replace p497 := eq_true p497; replace q497 := eq_true q497) | (go_at_call 56; (with_reducible refine (suit_Of.calls (rdOf ByteArray.empty l0 1) t498 t499 _ A10.out).mono ?_); rintro e w15 ⟨rfl, hb⟩; replace BK494 := Aside0.mk (blk_below (g := gb494) (o := .cells #[.string (⟨#[]⟩ : ByteArray), .int .u8 0, .int .u8 0, .int .i64 0, .int .i64 0, .int .i64 0, .int .u16 0, .bool false, .slice none 0 0] 28 (0, 0)) (by (with_reducible repeat (first | apply blk_kn | apply blk_kd | apply blk_ka)); refine blk_far ?_ NB494_495.out _; exact Zk BK494.out) hb); replace BK495 := Aside0.mk (blk_below (g := gb495) (o := .cells #[.string (rdOf ByteArray.empty l0 0), .int .u8 0, .int .u8 0, .int .i64 0, .int .i64 0, .int .i64 0, .int .u16 0, .bool false, .slice none 0 0] 28 (0, 0)) (by (with_reducible repeat (first | apply blk_kn | apply blk_kd | apply blk_ka)); refine blk_put (cs := #[.string (⟨#[]⟩ : ByteArray), .int .u8 0, .int .u8 0, .int .i64 0, .int .i64 0, .int .i64 0, .int .u16 0, .bool false, .slice none 0 0]) ?_ 0 _ rfl; exact Zk BK495.out) hb); replace HB := Aside0.mk (below_step (Zb2 GE494.out GE495.out) hb); (try clear hb); (try clear hb2); (try clear hk); (try clear hi); obtain ⟨hcz16_0, hcz16_1, hcz16_2, hcz16_3, hcz16_4, hcz16_5, hcz16_6, hcz16_7, hcz16_8, hfz16_0, hfz16_1, hfz16_2, hfz16_3, hfz16_4, hfz16_5, hfz16_6, hfz16_7, hfz16_8⟩ := Z9 BK495.out)))
    go_loopg [5] k (fun kq v5 w' => ∃ (x5_1 : Int) (x496002_1 : Int), v5 = .int .u8 x5_1 ∧ Aside0 (card_read.l0 kq l0 x5_1 (rdOf ByteArray.empty l0 0) t498 x496002_1 0 0 0 0 false = some (r1, r2, r3, r4, r5, r6, r7, r8, r9, r10)) ∧ Aside0 (kq ≤ k) ∧ Aside0 (w'.heap[gb494]? = some (.cells #[.string (⟨#[]⟩ : ByteArray), .int .u8 0, .int .u8 0, .int .i64 0, .int .i64 0, .int .i64 0, .int .u16 0, .bool false, (.slice none 0 0)] 28 (0, 0))) ∧ Aside0 (w'.heap[gb495]? = some (.cells #[.string (rdOf ByteArray.empty l0 0), .int .u8 t498, .int .u8 x496002_1, .int .i64 0, .int .i64 0, .int .i64 0, .int .u16 0, .bool false, (.slice none 0 0)] 28 (0, 0))) ∧ Aside0 (Below w.heap.size w w'))
    case atStart => exact ⟨(1), (0), Zs, H', ⟨Nat.le_refl _⟩, ⟨by (with_reducible repeat (first | apply blk_kn | apply blk_kd | apply blk_ka)); refine blk_far ?_ NB494_495.out _; exact Zk BK494.out⟩, ⟨by (with_reducible repeat (first | apply blk_kn | apply blk_kd | apply blk_ka)); refine blk_put (cs := #[.string (rdOf ByteArray.empty l0 0), .int .u8 0, .int .u8 0, .int .i64 0, .int .i64 0, .int .i64 0, .int .u16 0, .bool false, .slice none 0 0]) ?_ 1 _ rfl; exact Zk BK495.out⟩, ⟨Zb2 GE494.out GE495.out⟩⟩
    case round =>
     clear H'
     try clear c1
     try clear c2
     try clear c2b0
     try clear c2b1
     try clear p2
     try clear p4
     try clear q4
     try clear hx4
     try clear qi4
     try clear c5
     try clear c7
     try clear c8
     try clear c8b0
     try clear c8b1
     try clear c9
     try clear c9b0
     try clear c9b1
     try clear c13
     try clear hcz14_0
     try clear hcz14_1
     try clear hcz14_2
     try clear hcz14_3
     try clear hcz14_4
     try clear hcz14_5
     try clear hcz14_6
     try clear hcz14_7
     try clear hcz14_8
     try clear hcz16_0
     try clear hcz16_1
     try clear hcz16_2
     try clear hcz16_3
     try clear hcz16_4
     try clear hcz16_5
     try clear hcz16_6
     try clear hcz16_7
     try clear hcz16_8
     try clear hcz6_0
     try clear hcz6_1
     try clear hcz6_2
     try clear hcz6_3
     try clear hcz6_4
     try clear hcz6_5
     try clear hcz6_6
     try clear hcz6_7
     try clear hcz6_8
     try clear hcz7_0
     try clear hcz7_1
     try clear hcz7_2
     try clear hcz7_3
     try clear hcz7_4
     try clear hcz7_5
     try clear hcz7_6
     try clear hcz7_7
     try clear hcz7_8
     try clear hfz14_0
     try clear hfz14_1
     try clear hfz14_2
     try clear hfz14_3
     try clear hfz14_4
     try clear hfz14_5
     try clear hfz14_6
     try clear hfz14_7
     try clear hfz14_8
     try clear hfz16_0
     try clear hfz16_1
     try clear hfz16_2
     try clear hfz16_3
     try clear hfz16_4
     try clear hfz16_5
     try clear hfz16_6
     try clear hfz16_7
     try clear hfz16_8
     try clear hfz6_0
     try clear hfz6_1
     try clear hfz6_2
     try clear hfz6_3
     try clear hfz6_4
     try clear hfz6_5
     try clear hfz6_6
     try clear hfz6_7
     try clear hfz6_8
     try clear hfz7_0
     try clear hfz7_1
     try clear hfz7_2
     try clear hfz7_3
     try clear hfz7_4
     try clear hfz7_5
     try clear hfz7_6
     try clear hfz7_7
     try clear hfz7_8
     try clear hx496_0
     try clear hx497_0
     try clear p496
     try clear p497
     try clear q496
     try clear q497
     obtain ⟨x5_1, x496002_1, rfl, HA, HK1, BK494, BK495, HB⟩ := hrel
     cases gk with
     | zero => exact absurd HA.out (by simp [card_read.l0])
     | succ k1 =>
      have H := HA.out
      clear HA
      simp only [card_read.l0] at H
      by_cases c17 : x5_1 ≤ 3
      ·rw [if_pos c17] at H
       have c17b0 : decide (x5_1 ≤ 3) = true := decide_eq_true c17
       clear c17
       replace H := Option.bind_eq_some_iff.mp H
       obtain ⟨t500, A180, H⟩ := H
       replace H : (if 2 < (l0.length : Int) then (if t500.toList = (rdOf ByteArray.empty l0 2).toList then (card_read.l0 k1 l0 ((x5_1 + 1) % 256) (rdOf ByteArray.empty l0 0) t498 x5_1 0 0 0 0 false) else (card_read.l0 k1 l0 ((x5_1 + 1) % 256) (rdOf ByteArray.empty l0 0) t498 x496002_1 0 0 0 0 false)) else (none)) = some (r1, r2, r3, r4, r5, r6, r7, r8, r9, r10) := H
       have A18 := Aside0.mk A180
       clear A180
       by_cases c19 : 2 < (l0.length : Int)
       ·rw [if_pos c19] at H
        have c19b0 : decide (2 < (l0.length : Int)) = true := decide_eq_true c19
        have c19b1 : decide (2 < l0.length) = true := decide_eq_true (by omega)
        clear c19
        by_cases c20 : t500.toList = (rdOf ByteArray.empty l0 2).toList
        ·rw [if_pos c20] at H
         have c20b0 : (t500.toList == (rdOf ByteArray.empty l0 2).toList) = true := beq_iff_eq.mpr c20
         have c20b1 : (t500.toList != (rdOf ByteArray.empty l0 2).toList) = false := bne_eq_false_iff_eq.mpr c20
         clear c20
         have H' := Aside0.mk H
         clear H
         go_wp2_with (first | (go_at_call 31; (with_reducible refine (card_word.calls x5_1 t500 _ A18.out).mono ?_); rintro e w' ⟨rfl, ⟨nd, rfl⟩⟩; (try first | exact ⟨rfl, _, World.drewN_drewN _ _ _⟩ | exact ⟨rfl, _, Eq.trans (World.drewN_drewN _ _ _) (congrArg (World.drewN _) (Nat.add_assoc _ _ _))⟩); have p501 : 0 ≤ (2 : Int) := (by omega); have q501 : 2 < (l0.length : Int) := of_decide_eq_true Za; obtain ⟨ad501, e501, hx501_0⟩ := Kd.at_string HR0.out 2 p501 q501; obtain rfl : ad496 = ad501 := (by injection e501); (try simp only [show (2 : Int).toNat = 2 from rfl, Nat.reduceMul, Nat.reduceEqDiff, Go.Addr.add, ↓reduceIte] at hx501_0); have qi501 : (2 < l0.length) = True := eq_true (by omega); (try rw [show ((2 : Int)).toNat = 2 from rfl] at hx501_0); replace hx501_0 := (HB.out.cell (World.block_lt_of_cell? w _ hx501_0)).trans hx501_0; replace p501 := eq_true p501; replace q501 := eq_true q501; have hnb21 := NB495_494.out; have hnc21 := NB494_495.out; obtain ⟨hcz22_0, hcz22_1, hcz22_2, hcz22_3, hcz22_4, hcz22_5, hcz22_6, hcz22_7, hcz22_8, hfz22_0, hfz22_1, hfz22_2, hfz22_3, hfz22_4, hfz22_5, hfz22_6, hfz22_7, hfz22_8⟩ := Z9 BK495.out))
         repeat (go_quiet (first | (go_at_call 31; (with_reducible refine (card_word.calls x5_1 t500 _ A18.out).mono ?_); rintro e w' ⟨rfl, ⟨nd, rfl⟩⟩; (try first | exact ⟨rfl, _, World.drewN_drewN _ _ _⟩ | exact ⟨rfl, _, Eq.trans (World.drewN_drewN _ _ _) (congrArg (World.drewN _) (Nat.add_assoc _ _ _))⟩); have p501 : 0 ≤ (2 : Int) := (by omega); have q501 : 2 < (l0.length : Int) := of_decide_eq_true Za; obtain ⟨ad501, e501, hx501_0⟩ := Kd.at_string HR0.out 2 p501 q501; obtain rfl : ad496 = ad501 := (by injection e501); (try simp only [show (2 : Int).toNat = 2 from rfl, Nat.reduceMul, Nat.reduceEqDiff, Go.Addr.add, ↓reduceIte] at hx501_0); have qi501 : (2 < l0.length) = True := eq_true (by omega); (try rw [show ((2 : Int)).toNat = 2 from rfl] at hx501_0); replace hx501_0 := (HB.out.cell (World.block_lt_of_cell? w _ hx501_0)).trans hx501_0; replace p501 := eq_true p501; replace q501 := eq_true q501; have hnb21 := NB495_494.out; have hnc21 := NB494_495.out; obtain ⟨hcz22_0, hcz22_1, hcz22_2, hcz22_3, hcz22_4, hcz22_5, hcz22_6, hcz22_7, hcz22_8, hfz22_0, hfz22_1, hfz22_2, hfz22_3, hfz22_4, hfz22_5, hfz22_6, hfz22_7, hfz22_8⟩ := Z9 BK495.out)); try go_wp2_with (first | (go_at_call 31; (with_reducible refine (card_word.calls x5_1 t500 _ A18.out).mono ?_); rintro e w' ⟨rfl, ⟨nd, rfl⟩⟩; (try first | exact ⟨rfl, _, World.drewN_drewN _ _ _⟩ | exact ⟨rfl, _, Eq.trans (World.drewN_drewN _ _ _) (congrArg (World.drewN _) (Nat.add_assoc _ _ _))⟩); have p501 : 0 ≤ (2 : Int) := (by omega); have q501 : 2 < (l0.length : Int) := of_decide_eq_true Za; obtain ⟨ad501, e501, hx501_0⟩ := Kd.at_string HR0.out 2 p501 q501; obtain rfl : ad496 = ad501 := (by injection e501); (try simp only [show (2 : Int).toNat = 2 from rfl, Nat.reduceMul, Nat.reduceEqDiff, Go.Addr.add, ↓reduceIte] at hx501_0); have qi501 : (2 < l0.length) = True := eq_true (by omega); (try rw [show ((2 : Int)).toNat = 2 from rfl] at hx501_0); replace hx501_0 := (HB.out.cell (World.block_lt_of_cell? w _ hx501_0)).trans hx501_0; replace p501 := eq_true p501; replace q501 := eq_true q501; have hnb21 := NB495_494.out; have hnc21 := NB494_495.out; obtain ⟨hcz22_0, hcz22_1, hcz22_2, hcz22_3, hcz22_4, hcz22_5, hcz22_6, hcz22_7, hcz22_8, hfz22_0, hfz22_1, hfz22_2, hfz22_3, hfz22_4, hfz22_5, hfz22_6, hfz22_7, hfz22_8⟩ := Z9 BK495.out)))
         go_roundg k1
         case measure => have := HK1.out; omega
         case rel => exact ⟨((x5_1 + 1) % 256), (x5_1), Zs, H', ⟨by have := HK1.out; omega⟩, ⟨by (with_reducible repeat (first | apply blk_kn | apply blk_kd | apply blk_ka)); refine blk_far ?_ NB494_495.out _; exact Zk BK494.out⟩, ⟨by (with_reducible repeat (first | apply blk_kn | apply blk_kd | apply blk_ka)); refine blk_put (cs := #[.string (rdOf ByteArray.empty l0 0), .int .u8 t498, .int .u8 x496002_1, .int .i64 0, .int .i64 0, .int .i64 0, .int .u16 0, .bool false, .slice none 0 0]) ?_ 2 _ rfl; exact Zk BK495.out⟩, ⟨Zb2 GE494.out GE495.out⟩⟩
        ·rw [if_neg c20] at H
         have c20b0 : (t500.toList == (rdOf ByteArray.empty l0 2).toList) = false := beq_eq_false_iff_ne.mpr c20
         have c20b1 : (t500.toList != (rdOf ByteArray.empty l0 2).toList) = true := bne_iff_ne.mpr c20
         have H' := Aside0.mk H
         clear H
         go_wp2_with (first | (go_at_call 31; (with_reducible refine (card_word.calls x5_1 t500 _ A18.out).mono ?_); rintro e w' ⟨rfl, ⟨nd, rfl⟩⟩; (try first | exact ⟨rfl, _, World.drewN_drewN _ _ _⟩ | exact ⟨rfl, _, Eq.trans (World.drewN_drewN _ _ _) (congrArg (World.drewN _) (Nat.add_assoc _ _ _))⟩); have p501 : 0 ≤ (2 : Int) := (by omega); have q501 : 2 < (l0.length : Int) := of_decide_eq_true Za; obtain ⟨ad501, e501, hx501_0⟩ := Kd.at_string HR0.out 2 p501 q501; obtain rfl : ad496 = ad501 := (by injection e501); (try simp only [show (2 : Int).toNat = 2 from rfl, Nat.reduceMul, Nat.reduceEqDiff, Go.Addr.add, ↓reduceIte] at hx501_0); have qi501 : (2 < l0.length) = True := eq_true (by omega); (try rw [show ((2 : Int)).toNat = 2 from rfl] at hx501_0); replace hx501_0 := (HB.out.cell (World.block_lt_of_cell? w _ hx501_0)).trans hx501_0; replace p501 := eq_true p501; replace q501 := eq_true q501))
         repeat (go_quiet (first | (go_at_call 31; (with_reducible refine (card_word.calls x5_1 t500 _ A18.out).mono ?_); rintro e w' ⟨rfl, ⟨nd, rfl⟩⟩; (try first | exact ⟨rfl, _, World.drewN_drewN _ _ _⟩ | exact ⟨rfl, _, Eq.trans (World.drewN_drewN _ _ _) (congrArg (World.drewN _) (Nat.add_assoc _ _ _))⟩); have p501 : 0 ≤ (2 : Int) := (by omega); have q501 : 2 < (l0.length : Int) := of_decide_eq_true Za; obtain ⟨ad501, e501, hx501_0⟩ := Kd.at_string HR0.out 2 p501 q501; obtain rfl : ad496 = ad501 := (by injection e501); (try simp only [show (2 : Int).toNat = 2 from rfl, Nat.reduceMul, Nat.reduceEqDiff, Go.Addr.add, ↓reduceIte] at hx501_0); have qi501 : (2 < l0.length) = True := eq_true (by omega); (try rw [show ((2 : Int)).toNat = 2 from rfl] at hx501_0); replace hx501_0 := (HB.out.cell (World.block_lt_of_cell? w _ hx501_0)).trans hx501_0; replace p501 := eq_true p501; replace q501 := eq_true q501)); try go_wp2_with (first | (go_at_call 31; (with_reducible refine (card_word.calls x5_1 t500 _ A18.out).mono ?_); rintro e w' ⟨rfl, ⟨nd, rfl⟩⟩; (try first | exact ⟨rfl, _, World.drewN_drewN _ _ _⟩ | exact ⟨rfl, _, Eq.trans (World.drewN_drewN _ _ _) (congrArg (World.drewN _) (Nat.add_assoc _ _ _))⟩); have p501 : 0 ≤ (2 : Int) := (by omega); have q501 : 2 < (l0.length : Int) := of_decide_eq_true Za; obtain ⟨ad501, e501, hx501_0⟩ := Kd.at_string HR0.out 2 p501 q501; obtain rfl : ad496 = ad501 := (by injection e501); (try simp only [show (2 : Int).toNat = 2 from rfl, Nat.reduceMul, Nat.reduceEqDiff, Go.Addr.add, ↓reduceIte] at hx501_0); have qi501 : (2 < l0.length) = True := eq_true (by omega); (try rw [show ((2 : Int)).toNat = 2 from rfl] at hx501_0); replace hx501_0 := (HB.out.cell (World.block_lt_of_cell? w _ hx501_0)).trans hx501_0; replace p501 := eq_true p501; replace q501 := eq_true q501)))
         go_roundg k1
         case measure => have := HK1.out; omega
         case rel => exact ⟨((x5_1 + 1) % 256), (x496002_1), Zs, H', ⟨by have := HK1.out; omega⟩, ⟨Zk BK494.out⟩, ⟨Zk BK495.out⟩, ⟨Zb2 GE494.out GE495.out⟩⟩
       ·rw [if_neg c19] at H
        exact absurd H (by simp)
      ·rw [if_neg c17] at H
       have c17b0 : decide (x5_1 ≤ 3) = false := decide_eq_false c17
       clear c17
       by_cases c23 : 3 < (l0.length : Int)
       ·rw [if_pos c23] at H
        have c23b0 : decide (3 < (l0.length : Int)) = true := decide_eq_true c23
        have c23b1 : decide (3 < l0.length) = true := decide_eq_true (by omega)
        clear c23
        replace H := Option.bind_eq_some_iff.mp H
        obtain ⟨⟨t503, t504⟩, A240, H⟩ := H
        replace H : (if 4 ≤ (l0.length : Int) then (card_read.l1 k1 (l0.drop 4) ((l0.drop 4).length : Int) 0 (rdOf ByteArray.empty l0 0) t498 x496002_1 t503 0 0 0 false) else (none)) = some (r1, r2, r3, r4, r5, r6, r7, r8, r9, r10) := H
        have A24 := Aside0.mk A240
        clear A240
        by_cases c25 : 4 ≤ (l0.length : Int)
        ·rw [if_pos c25] at H
         have c25b0 := eq_true c25
         have c25b1 : decide (4 ≤ (l0.length : Int)) = true := decide_eq_true c25
         clear c25
         have H' := Aside0.mk H
         clear H
         have p502 : 0 ≤ (3 : Int) := (by omega)
         have q502 : 3 < (l0.length : Int) := of_decide_eq_true Za
         obtain ⟨ad502, e502, hx502_0⟩ := Kd.at_string HR0.out 3 p502 q502
         obtain rfl : ad496 = ad502 := (by injection e502)
         (try simp only [show (3 : Int).toNat = 3 from rfl, Nat.reduceMul, Nat.reduceEqDiff, Go.Addr.add, ↓reduceIte] at hx502_0)
         have qi502 : (3 < l0.length) = True := eq_true (by omega)
         (try rw [show ((3 : Int)).toNat = 3 from rfl] at hx502_0)
         replace hx502_0 := (HB.out.cell (World.block_lt_of_cell? w _ hx502_0)).trans hx502_0
         replace p502 := eq_true p502
         replace q502 := eq_true q502
         go_wp2_with (first | (go_at_call 55; (with_reducible refine (strconv_Atoi.calls (rdOf ByteArray.empty l0 3) t503 t504 _ ?side1 A24.out).mono ?_); (case side1 => first | (with_reducible exact HGP.out) | exact GP_below HGP.out (Zb2 GE494.out GE495.out)); rintro e w26 ⟨vq_, rfl, hb⟩; replace BK494 := Aside0.mk (blk_below (Zj BK494.out) hb); replace BK495 := Aside0.mk (blk_below (Zj BK495.out) hb); replace HB := Aside0.mk (below_step (Zb2 GE494.out GE495.out) hb); (try clear hb); (try clear hb2); (try clear hk); (try clear hi); (try simp only [errW_none, errW_some]); have hnb27 := NB495_494.out; have hnc27 := NB494_495.out; obtain ⟨hcz28_0, hcz28_1, hcz28_2, hcz28_3, hcz28_4, hcz28_5, hcz28_6, hcz28_7, hcz28_8, hfz28_0, hfz28_1, hfz28_2, hfz28_3, hfz28_4, hfz28_5, hfz28_6, hfz28_7, hfz28_8⟩ := Z9 BK495.out; obtain ⟨i029, hi029, _, hsz29, _⟩ := info_parts info9; obtain ⟨A29, hcut29, hA29, hC29⟩ := print_drop_of (P := Tryz.prog) Value.string (⟨#[]⟩ : ByteArray) 63 9 .i64 Tryz.underlying63 hi029 hsz29 (some ad496) c0 l0 4 (by omega) (of_decide_eq_true Za) HC0.out; have HR505 := Aside0.mk (Kd.C_of_reads (h1 := fun _ => rfl) (hA29 _ (Kd.reads_of_C HR0.out))); have HC505 := Aside0.mk hC29; clear hA29 hC29 hi029 hsz29))
         repeat (go_quiet (first | (go_at_call 55; (with_reducible refine (strconv_Atoi.calls (rdOf ByteArray.empty l0 3) t503 t504 _ ?side1 A24.out).mono ?_); (case side1 => first | (with_reducible exact HGP.out) | exact GP_below HGP.out (Zb2 GE494.out GE495.out)); rintro e w26 ⟨vq_, rfl, hb⟩; replace BK494 := Aside0.mk (blk_below (Zj BK494.out) hb); replace BK495 := Aside0.mk (blk_below (Zj BK495.out) hb); replace HB := Aside0.mk (below_step (Zb2 GE494.out GE495.out) hb); (try clear hb); (try clear hb2); (try clear hk); (try clear hi); (try simp only [errW_none, errW_some]); have hnb27 := NB495_494.out; have hnc27 := NB494_495.out; obtain ⟨hcz28_0, hcz28_1, hcz28_2, hcz28_3, hcz28_4, hcz28_5, hcz28_6, hcz28_7, hcz28_8, hfz28_0, hfz28_1, hfz28_2, hfz28_3, hfz28_4, hfz28_5, hfz28_6, hfz28_7, hfz28_8⟩ := Z9 BK495.out; obtain ⟨i029, hi029, _, hsz29, _⟩ := info_parts info9; obtain ⟨A29, hcut29, hA29, hC29⟩ := print_drop_of (P := Tryz.prog) Value.string (⟨#[]⟩ : ByteArray) 63 9 .i64 Tryz.underlying63 hi029 hsz29 (some ad496) c0 l0 4 (by omega) (of_decide_eq_true Za) HC0.out; have HR505 := Aside0.mk (Kd.C_of_reads (h1 := fun _ => rfl) (hA29 _ (Kd.reads_of_C HR0.out))); have HC505 := Aside0.mk hC29; clear hA29 hC29 hi029 hsz29)); try go_wp2_with (first | (go_at_call 55; (with_reducible refine (strconv_Atoi.calls (rdOf ByteArray.empty l0 3) t503 t504 _ ?side1 A24.out).mono ?_); (case side1 => first | (with_reducible exact HGP.out) | exact GP_below HGP.out (Zb2 GE494.out GE495.out)); rintro e w26 ⟨vq_, rfl, hb⟩; replace BK494 := Aside0.mk (blk_below (Zj BK494.out) hb); replace BK495 := Aside0.mk (blk_below (Zj BK495.out) hb); replace HB := Aside0.mk (below_step (Zb2 GE494.out GE495.out) hb); (try clear hb); (try clear hb2); (try clear hk); (try clear hi); (try simp only [errW_none, errW_some]); have hnb27 := NB495_494.out; have hnc27 := NB494_495.out; obtain ⟨hcz28_0, hcz28_1, hcz28_2, hcz28_3, hcz28_4, hcz28_5, hcz28_6, hcz28_7, hcz28_8, hfz28_0, hfz28_1, hfz28_2, hfz28_3, hfz28_4, hfz28_5, hfz28_6, hfz28_7, hfz28_8⟩ := Z9 BK495.out; obtain ⟨i029, hi029, _, hsz29, _⟩ := info_parts info9; obtain ⟨A29, hcut29, hA29, hC29⟩ := print_drop_of (P := Tryz.prog) Value.string (⟨#[]⟩ : ByteArray) 63 9 .i64 Tryz.underlying63 hi029 hsz29 (some ad496) c0 l0 4 (by omega) (of_decide_eq_true Za) HC0.out; have HR505 := Aside0.mk (Kd.C_of_reads (h1 := fun _ => rfl) (hA29 _ (Kd.reads_of_C HR0.out))); have HC505 := Aside0.mk hC29; clear hA29 hC29 hi029 hsz29)))
         go_loopg [52] k1 (fun kq v52 w' => ∃ (x52_2 : Int) (x496004_2 : Int) (x496005_2 : Int) (x496006_2 : Int) (x496007_2 : Bool), v52 = .int .i64 x52_2 ∧ Aside0 (card_read.l1 kq (l0.drop 4) ((l0.drop 4).length : Int) x52_2 (rdOf ByteArray.empty l0 0) t498 x496002_1 t503 x496004_2 x496005_2 x496006_2 x496007_2 = some (r1, r2, r3, r4, r5, r6, r7, r8, r9, r10)) ∧ Aside0 (kq ≤ k1) ∧ Aside0 (w'.heap[gb494]? = some (.cells #[.string (⟨#[]⟩ : ByteArray), .int .u8 0, .int .u8 0, .int .i64 0, .int .i64 0, .int .i64 0, .int .u16 0, .bool false, (.slice none 0 0)] 28 (0, 0))) ∧ Aside0 (w'.heap[gb495]? = some (.cells #[.string (rdOf ByteArray.empty l0 0), .int .u8 t498, .int .u8 x496002_1, .int .i64 t503, .int .i64 x496004_2, .int .i64 x496005_2, .int .u16 x496006_2, .bool x496007_2, (.slice none 0 0)] 28 (0, 0))) ∧ Aside0 (Below w.heap.size w w'))
         case atStart => exact ⟨(0), (0), (0), (0), (false), Zs, H', ⟨Nat.le_refl _⟩, ⟨by (with_reducible repeat (first | apply blk_kn | apply blk_kd | apply blk_ka)); refine blk_far ?_ NB494_495.out _; exact Zk BK494.out⟩, ⟨by (with_reducible repeat (first | apply blk_kn | apply blk_kd | apply blk_ka)); refine blk_put (cs := #[.string (rdOf ByteArray.empty l0 0), .int .u8 t498, .int .u8 x496002_1, .int .i64 0, .int .i64 0, .int .i64 0, .int .u16 0, .bool false, .slice none 0 0]) ?_ 3 _ rfl; exact Zk BK495.out⟩, ⟨Zb2 GE494.out GE495.out⟩⟩
         case round =>
          clear H'
          try clear c1
          try clear c2
          try clear c2b0
          try clear c2b1
          try clear p2
          try clear p4
          try clear q4
          try clear hx4
          try clear qi4
          try clear c5
          try clear p5
          try clear q5
          try clear hx5
          try clear qi5
          try clear c7
          try clear c8
          try clear c8b0
          try clear c8b1
          try clear c9
          try clear c9b0
          try clear c9b1
          try clear c13
          try clear c17
          try clear c17b0
          try clear c19
          try clear c19b0
          try clear c19b1
          try clear c20
          try clear c20b0
          try clear c20b1
          try clear c21
          try clear c23
          try clear c23b0
          try clear c23b1
          try clear c25
          try clear c25b0
          try clear c25b1
          try clear c27
          try clear hcz14_0
          try clear hcz14_1
          try clear hcz14_2
          try clear hcz14_3
          try clear hcz14_4
          try clear hcz14_5
          try clear hcz14_6
          try clear hcz14_7
          try clear hcz14_8
          try clear hcz16_0
          try clear hcz16_1
          try clear hcz16_2
          try clear hcz16_3
          try clear hcz16_4
          try clear hcz16_5
          try clear hcz16_6
          try clear hcz16_7
          try clear hcz16_8
          try clear hcz22_0
          try clear hcz22_1
          try clear hcz22_2
          try clear hcz22_3
          try clear hcz22_4
          try clear hcz22_5
          try clear hcz22_6
          try clear hcz22_7
          try clear hcz22_8
          try clear hcz28_0
          try clear hcz28_1
          try clear hcz28_2
          try clear hcz28_3
          try clear hcz28_4
          try clear hcz28_5
          try clear hcz28_6
          try clear hcz28_7
          try clear hcz28_8
          try clear hcz6_0
          try clear hcz6_1
          try clear hcz6_2
          try clear hcz6_3
          try clear hcz6_4
          try clear hcz6_5
          try clear hcz6_6
          try clear hcz6_7
          try clear hcz6_8
          try clear hcz7_0
          try clear hcz7_1
          try clear hcz7_2
          try clear hcz7_3
          try clear hcz7_4
          try clear hcz7_5
          try clear hcz7_6
          try clear hcz7_7
          try clear hcz7_8
          try clear hfz14_0
          try clear hfz14_1
          try clear hfz14_2
          try clear hfz14_3
          try clear hfz14_4
          try clear hfz14_5
          try clear hfz14_6
          try clear hfz14_7
          try clear hfz14_8
          try clear hfz16_0
          try clear hfz16_1
          try clear hfz16_2
          try clear hfz16_3
          try clear hfz16_4
          try clear hfz16_5
          try clear hfz16_6
          try clear hfz16_7
          try clear hfz16_8
          try clear hfz22_0
          try clear hfz22_1
          try clear hfz22_2
          try clear hfz22_3
          try clear hfz22_4
          try clear hfz22_5
          try clear hfz22_6
          try clear hfz22_7
          try clear hfz22_8
          try clear hfz28_0
          try clear hfz28_1
          try clear hfz28_2
          try clear hfz28_3
          try clear hfz28_4
          try clear hfz28_5
          try clear hfz28_6
          try clear hfz28_7
          try clear hfz28_8
          try clear hfz6_0
          try clear hfz6_1
          try clear hfz6_2
          try clear hfz6_3
          try clear hfz6_4
          try clear hfz6_5
          try clear hfz6_6
          try clear hfz6_7
          try clear hfz6_8
          try clear hfz7_0
          try clear hfz7_1
          try clear hfz7_2
          try clear hfz7_3
          try clear hfz7_4
          try clear hfz7_5
          try clear hfz7_6
          try clear hfz7_7
          try clear hfz7_8
          try clear hx496_0
          try clear hx497_0
          try clear hx501_0
          try clear hx502_0
          try clear p2
          try clear p4
          try clear p496
          try clear p497
          try clear p501
          try clear p502
          try clear q4
          try clear q496
          try clear q497
          try clear q501
          try clear q502
          obtain ⟨x52_2, x496004_2, x496005_2, x496006_2, x496007_2, rfl, HA, HK2, BK494, BK495, HB⟩ := hrel
          cases gk with
          | zero => exact absurd HA.out (by simp [card_read.l1])
          | succ k2 =>
           have H := HA.out
           clear HA
           simp only [card_read.l1] at H
           by_cases c30 : x52_2 < ((l0.drop 4).length : Int)
           ·rw [if_pos c30] at H
            have c30b0 : decide (x52_2 < ((l0.drop 4).length : Int)) = true := decide_eq_true c30
            (try have c30b0d : decide (x52_2 < ((l0.length - 4 : Nat) : Int)) = true := by have h_ := c30b0; rw [List.length_drop] at h_; exact h_)
            clear c30
            by_cases c31 : 0 ≤ x52_2
            ·rw [if_pos c31] at H
             have c31b0 : decide (0 ≤ x52_2) = true := decide_eq_true c31
             clear c31
             by_cases c32 : x52_2 < ((l0.drop 4).length : Int)
             ·rw [if_pos c32] at H
              have c32b0 : decide (x52_2 < ((l0.drop 4).length : Int)) = true := decide_eq_true c32
              (try have c32b0d : decide (x52_2 < ((l0.length - 4 : Nat) : Int)) = true := by have h_ := c32b0; rw [List.length_drop] at h_; exact h_)
              clear c32
              by_cases c33 : (rdOf ByteArray.empty (l0.drop 4) x52_2).toList = ([116, 111, 107, 101, 110] : List UInt8)
              ·rw [if_pos c33] at H
               have c33b0 : ((rdOf ByteArray.empty (l0.drop 4) x52_2).toList == ([116, 111, 107, 101, 110] : List UInt8)) = true := beq_iff_eq.mpr c33
               have c33b1 : ((rdOf ByteArray.empty (l0.drop 4) x52_2).toList != ([116, 111, 107, 101, 110] : List UInt8)) = false := bne_eq_false_iff_eq.mpr c33
               clear c33
               have H' := Aside0.mk H
               clear H
               have p506 : 0 ≤ (x52_2 : Int) := of_decide_eq_true Za
               have q506 : x52_2 < ((l0.drop 4).length : Int) := of_decide_eq_true Za
               obtain ⟨ad506, e506, hx506_0⟩ := Kd.at_string HR505.out x52_2 p506 q506
               cases e506
               replace hx506_0 := (HB.out.cell (World.block_lt_of_cell? w _ hx506_0)).trans hx506_0
               replace p506 := eq_true p506
               replace q506 := eq_true q506
               have q506d : (x52_2 < ((l0.length - 4 : Nat) : Int)) = True := by have h_ := q506; rw [List.length_drop] at h_; exact h_
               have hnb34 := NB495_494.out
               have hnc34 := NB494_495.out
               obtain ⟨hcz35_0, hcz35_1, hcz35_2, hcz35_3, hcz35_4, hcz35_5, hcz35_6, hcz35_7, hcz35_8, hfz35_0, hfz35_1, hfz35_2, hfz35_3, hfz35_4, hfz35_5, hfz35_6, hfz35_7, hfz35_8⟩ := Z9 BK495.out
               go_wp2
               repeat (go_quiet (fail); try go_wp2)
               go_roundg k2
               case measure => have := HK1.out; have := HK2.out; omega
               case rel => exact ⟨(wrap64 (x52_2 + 1)), (x496004_2), (x496005_2), (x496006_2), (true), Zs, H', ⟨by have := HK1.out; have := HK2.out; omega⟩, ⟨by (with_reducible repeat (first | apply blk_kn | apply blk_kd | apply blk_ka)); refine blk_far ?_ NB494_495.out _; exact Zk BK494.out⟩, ⟨by (with_reducible repeat (first | apply blk_kn | apply blk_kd | apply blk_ka)); refine blk_put (cs := #[.string (rdOf ByteArray.empty l0 0), .int .u8 t498, .int .u8 x496002_1, .int .i64 t503, .int .i64 x496004_2, .int .i64 x496005_2, .int .u16 x496006_2, .bool x496007_2, .slice none 0 0]) ?_ 7 _ rfl; exact Zk BK495.out⟩, ⟨Zb2 GE494.out GE495.out⟩⟩
              ·rw [if_neg c33] at H
               have c33b0 : ((rdOf ByteArray.empty (l0.drop 4) x52_2).toList == ([116, 111, 107, 101, 110] : List UInt8)) = false := beq_eq_false_iff_ne.mpr c33
               have c33b1 : ((rdOf ByteArray.empty (l0.drop 4) x52_2).toList != ([116, 111, 107, 101, 110] : List UInt8)) = true := bne_iff_ne.mpr c33
               replace H := Option.bind_eq_some_iff.mp H
               obtain ⟨t507, A360, H⟩ := H
               replace H : (if t507 = true then (if 1 ≤ ((rdOf ByteArray.empty (l0.drop 4) x52_2).size : Int) then ((trait_Of.f k2 ((rdOf ByteArray.empty (l0.drop 4) x52_2).extract 1 (rdOf ByteArray.empty (l0.drop 4) x52_2).size)).bind fun bt508 => ((trait_With.f x496006_2 bt508.1).bind fun t510 => (card_read.l1 k2 (l0.drop 4) ((l0.drop 4).length : Int) (wrap64 (x52_2 + 1)) (rdOf ByteArray.empty l0 0) t498 x496002_1 t503 x496004_2 x496005_2 t510 x496007_2))) else (none)) else ((strings_Cut.f (rdOf ByteArray.empty (l0.drop 4) x52_2) (⟨#[47]⟩ : ByteArray)).bind fun bt511 => ((strconv_Atoi.f bt511.1).bind fun bt514 => ((strconv_Atoi.f bt511.2.1).bind fun bt516 => (card_read.l1 k2 (l0.drop 4) ((l0.drop 4).length : Int) (wrap64 (x52_2 + 1)) (rdOf ByteArray.empty l0 0) t498 x496002_1 t503 bt514.1 bt516.1 x496006_2 x496007_2))))) = some (r1, r2, r3, r4, r5, r6, r7, r8, r9, r10) := H
               have A36 := Aside0.mk A360
               clear A360
               by_cases c37 : t507 = true
               ·subst c37
                have H1 : (if 1 ≤ ((rdOf ByteArray.empty (l0.drop 4) x52_2).size : Int) then ((trait_Of.f k2 ((rdOf ByteArray.empty (l0.drop 4) x52_2).extract 1 (rdOf ByteArray.empty (l0.drop 4) x52_2).size)).bind fun bt508 => ((trait_With.f x496006_2 bt508.1).bind fun t510 => (card_read.l1 k2 (l0.drop 4) ((l0.drop 4).length : Int) (wrap64 (x52_2 + 1)) (rdOf ByteArray.empty l0 0) t498 x496002_1 t503 x496004_2 x496005_2 t510 x496007_2))) else (none)) = some (r1, r2, r3, r4, r5, r6, r7, r8, r9, r10) := by rw [if_pos rfl] at H; exact H
                clear H
                have H := H1
                clear H1
                by_cases c38 : 1 ≤ ((rdOf ByteArray.empty (l0.drop 4) x52_2).size : Int)
                ·rw [if_pos c38] at H
                 have c38b0 := eq_true c38
                 have c38b1 : decide (1 ≤ ((rdOf ByteArray.empty (l0.drop 4) x52_2).size : Int)) = true := decide_eq_true c38
                 clear c38
                 replace H := Option.bind_eq_some_iff.mp H
                 obtain ⟨⟨t508, t509⟩, A390, H⟩ := H
                 replace H : ((trait_With.f x496006_2 t508).bind fun t510 => (card_read.l1 k2 (l0.drop 4) ((l0.drop 4).length : Int) (wrap64 (x52_2 + 1)) (rdOf ByteArray.empty l0 0) t498 x496002_1 t503 x496004_2 x496005_2 t510 x496007_2)) = some (r1, r2, r3, r4, r5, r6, r7, r8, r9, r10) := H
                 have A39 := Aside0.mk A390
                 clear A390
                 replace H := Option.bind_eq_some_iff.mp H
                 obtain ⟨t510, A400, H⟩ := H
                 replace H : (card_read.l1 k2 (l0.drop 4) ((l0.drop 4).length : Int) (wrap64 (x52_2 + 1)) (rdOf ByteArray.empty l0 0) t498 x496002_1 t503 x496004_2 x496005_2 t510 x496007_2) = some (r1, r2, r3, r4, r5, r6, r7, r8, r9, r10) := H
                 have A40 := Aside0.mk A400
                 clear A400
                 have H' := Aside0.mk H
                 clear H
                 have p506 : 0 ≤ (x52_2 : Int) := of_decide_eq_true Za
                 have q506 : x52_2 < ((l0.drop 4).length : Int) := of_decide_eq_true Za
                 obtain ⟨ad506, e506, hx506_0⟩ := Kd.at_string HR505.out x52_2 p506 q506
                 cases e506
                 replace hx506_0 := (HB.out.cell (World.block_lt_of_cell? w _ hx506_0)).trans hx506_0
                 replace p506 := eq_true p506
                 replace q506 := eq_true q506
                 have q506d : (x52_2 < ((l0.length - 4 : Nat) : Int)) = True := by have h_ := q506; rw [List.length_drop] at h_; exact h_
                 go_wp2_with (first | (go_at_call 111; (with_reducible refine (strings_HasPrefix.calls (rdOf ByteArray.empty (l0.drop 4) x52_2) (⟨#[43]⟩ : ByteArray) true _ A36.out).mono ?_); rintro e w' ⟨rfl, ⟨nd, rfl⟩⟩; (try first | exact ⟨rfl, _, World.drewN_drewN _ _ _⟩ | exact ⟨rfl, _, Eq.trans (World.drewN_drewN _ _ _) (congrArg (World.drewN _) (Nat.add_assoc _ _ _))⟩)) | (go_at_call 57; (with_reducible refine (trait_Of.calls k2 ((rdOf ByteArray.empty (l0.drop 4) x52_2).extract 1 (rdOf ByteArray.empty (l0.drop 4) x52_2).size) t508 t509 _ ?side1 A39.out).mono ?_); (case side1 => first | (with_reducible exact HGP.out) | exact GP_below HGP.out (Zb2 GE494.out GE495.out)); rintro e w' ⟨rfl, ⟨nd, rfl⟩⟩; (try first | exact ⟨rfl, _, World.drewN_drewN _ _ _⟩ | exact ⟨rfl, _, Eq.trans (World.drewN_drewN _ _ _) (congrArg (World.drewN _) (Nat.add_assoc _ _ _))⟩); have hnb41 := NB495_494.out; have hnc41 := NB494_495.out; obtain ⟨hcz42_0, hcz42_1, hcz42_2, hcz42_3, hcz42_4, hcz42_5, hcz42_6, hcz42_7, hcz42_8, hfz42_0, hfz42_1, hfz42_2, hfz42_3, hfz42_4, hfz42_5, hfz42_6, hfz42_7, hfz42_8⟩ := Z9 BK495.out) | (go_at_call 112; (with_reducible refine (trait_With.calls x496006_2 t508 t510 _ A40.out).mono ?_); rintro e w' ⟨rfl, ⟨nd, rfl⟩⟩; (try first | exact ⟨rfl, _, World.drewN_drewN _ _ _⟩ | exact ⟨rfl, _, Eq.trans (World.drewN_drewN _ _ _) (congrArg (World.drewN _) (Nat.add_assoc _ _ _))⟩)))
                 repeat (go_quiet (first | (go_at_call 111; (with_reducible refine (strings_HasPrefix.calls (rdOf ByteArray.empty (l0.drop 4) x52_2) (⟨#[43]⟩ : ByteArray) true _ A36.out).mono ?_); rintro e w' ⟨rfl, ⟨nd, rfl⟩⟩; (try first | exact ⟨rfl, _, World.drewN_drewN _ _ _⟩ | exact ⟨rfl, _, Eq.trans (World.drewN_drewN _ _ _) (congrArg (World.drewN _) (Nat.add_assoc _ _ _))⟩)) | (go_at_call 57; (with_reducible refine (trait_Of.calls k2 ((rdOf ByteArray.empty (l0.drop 4) x52_2).extract 1 (rdOf ByteArray.empty (l0.drop 4) x52_2).size) t508 t509 _ ?side1 A39.out).mono ?_); (case side1 => first | (with_reducible exact HGP.out) | exact GP_below HGP.out (Zb2 GE494.out GE495.out)); rintro e w' ⟨rfl, ⟨nd, rfl⟩⟩; (try first | exact ⟨rfl, _, World.drewN_drewN _ _ _⟩ | exact ⟨rfl, _, Eq.trans (World.drewN_drewN _ _ _) (congrArg (World.drewN _) (Nat.add_assoc _ _ _))⟩); have hnb41 := NB495_494.out; have hnc41 := NB494_495.out; obtain ⟨hcz42_0, hcz42_1, hcz42_2, hcz42_3, hcz42_4, hcz42_5, hcz42_6, hcz42_7, hcz42_8, hfz42_0, hfz42_1, hfz42_2, hfz42_3, hfz42_4, hfz42_5, hfz42_6, hfz42_7, hfz42_8⟩ := Z9 BK495.out) | (go_at_call 112; (with_reducible refine (trait_With.calls x496006_2 t508 t510 _ A40.out).mono ?_); rintro e w' ⟨rfl, ⟨nd, rfl⟩⟩; (try first | exact ⟨rfl, _, World.drewN_drewN _ _ _⟩ | exact ⟨rfl, _, Eq.trans (World.drewN_drewN _ _ _) (congrArg (World.drewN _) (Nat.add_assoc _ _ _))⟩))); try go_wp2_with (first | (go_at_call 111; (with_reducible refine (strings_HasPrefix.calls (rdOf ByteArray.empty (l0.drop 4) x52_2) (⟨#[43]⟩ : ByteArray) true _ A36.out).mono ?_); rintro e w' ⟨rfl, ⟨nd, rfl⟩⟩; (try first | exact ⟨rfl, _, World.drewN_drewN _ _ _⟩ | exact ⟨rfl, _, Eq.trans (World.drewN_drewN _ _ _) (congrArg (World.drewN _) (Nat.add_assoc _ _ _))⟩)) | (go_at_call 57; (with_reducible refine (trait_Of.calls k2 ((rdOf ByteArray.empty (l0.drop 4) x52_2).extract 1 (rdOf ByteArray.empty (l0.drop 4) x52_2).size) t508 t509 _ ?side1 A39.out).mono ?_); (case side1 => first | (with_reducible exact HGP.out) | exact GP_below HGP.out (Zb2 GE494.out GE495.out)); rintro e w' ⟨rfl, ⟨nd, rfl⟩⟩; (try first | exact ⟨rfl, _, World.drewN_drewN _ _ _⟩ | exact ⟨rfl, _, Eq.trans (World.drewN_drewN _ _ _) (congrArg (World.drewN _) (Nat.add_assoc _ _ _))⟩); have hnb41 := NB495_494.out; have hnc41 := NB494_495.out; obtain ⟨hcz42_0, hcz42_1, hcz42_2, hcz42_3, hcz42_4, hcz42_5, hcz42_6, hcz42_7, hcz42_8, hfz42_0, hfz42_1, hfz42_2, hfz42_3, hfz42_4, hfz42_5, hfz42_6, hfz42_7, hfz42_8⟩ := Z9 BK495.out) | (go_at_call 112; (with_reducible refine (trait_With.calls x496006_2 t508 t510 _ A40.out).mono ?_); rintro e w' ⟨rfl, ⟨nd, rfl⟩⟩; (try first | exact ⟨rfl, _, World.drewN_drewN _ _ _⟩ | exact ⟨rfl, _, Eq.trans (World.drewN_drewN _ _ _) (congrArg (World.drewN _) (Nat.add_assoc _ _ _))⟩))))
                 go_roundg k2
                 case measure => have := HK1.out; have := HK2.out; omega
                 case rel => exact ⟨(wrap64 (x52_2 + 1)), (x496004_2), (x496005_2), (t510), (x496007_2), Zs, H', ⟨by have := HK1.out; have := HK2.out; omega⟩, ⟨by (with_reducible repeat (first | apply blk_kn | apply blk_kd | apply blk_ka)); refine blk_far ?_ NB494_495.out _; exact Zk BK494.out⟩, ⟨by (with_reducible repeat (first | apply blk_kn | apply blk_kd | apply blk_ka)); refine blk_put (cs := #[.string (rdOf ByteArray.empty l0 0), .int .u8 t498, .int .u8 x496002_1, .int .i64 t503, .int .i64 x496004_2, .int .i64 x496005_2, .int .u16 x496006_2, .bool x496007_2, .slice none 0 0]) ?_ 6 _ rfl; exact Zk BK495.out⟩, ⟨Zb2 GE494.out GE495.out⟩⟩
                ·rw [if_neg c38] at H
                 exact absurd H (by simp)
               ·replace c37 := Bool.eq_false_iff.mpr c37
                subst c37
                have H1 : ((strings_Cut.f (rdOf ByteArray.empty (l0.drop 4) x52_2) (⟨#[47]⟩ : ByteArray)).bind fun bt511 => ((strconv_Atoi.f bt511.1).bind fun bt514 => ((strconv_Atoi.f bt511.2.1).bind fun bt516 => (card_read.l1 k2 (l0.drop 4) ((l0.drop 4).length : Int) (wrap64 (x52_2 + 1)) (rdOf ByteArray.empty l0 0) t498 x496002_1 t503 bt514.1 bt516.1 x496006_2 x496007_2)))) = some (r1, r2, r3, r4, r5, r6, r7, r8, r9, r10) := by rw [if_neg (show ¬ (false = true) by decide)] at H; exact H
                clear H
                have H := H1
                clear H1
                replace H := Option.bind_eq_some_iff.mp H
                obtain ⟨⟨t511, t512, t513⟩, A430, H⟩ := H
                replace H : ((strconv_Atoi.f t511).bind fun bt514 => ((strconv_Atoi.f t512).bind fun bt516 => (card_read.l1 k2 (l0.drop 4) ((l0.drop 4).length : Int) (wrap64 (x52_2 + 1)) (rdOf ByteArray.empty l0 0) t498 x496002_1 t503 bt514.1 bt516.1 x496006_2 x496007_2))) = some (r1, r2, r3, r4, r5, r6, r7, r8, r9, r10) := H
                have A43 := Aside0.mk A430
                clear A430
                replace H := Option.bind_eq_some_iff.mp H
                obtain ⟨⟨t514, t515⟩, A440, H⟩ := H
                replace H : ((strconv_Atoi.f t512).bind fun bt516 => (card_read.l1 k2 (l0.drop 4) ((l0.drop 4).length : Int) (wrap64 (x52_2 + 1)) (rdOf ByteArray.empty l0 0) t498 x496002_1 t503 t514 bt516.1 x496006_2 x496007_2)) = some (r1, r2, r3, r4, r5, r6, r7, r8, r9, r10) := H
                have A44 := Aside0.mk A440
                clear A440
                replace H := Option.bind_eq_some_iff.mp H
                obtain ⟨⟨t516, t517⟩, A450, H⟩ := H
                replace H : (card_read.l1 k2 (l0.drop 4) ((l0.drop 4).length : Int) (wrap64 (x52_2 + 1)) (rdOf ByteArray.empty l0 0) t498 x496002_1 t503 t514 t516 x496006_2 x496007_2) = some (r1, r2, r3, r4, r5, r6, r7, r8, r9, r10) := H
                have A45 := Aside0.mk A450
                clear A450
                have H' := Aside0.mk H
                clear H
                have p506 : 0 ≤ (x52_2 : Int) := of_decide_eq_true Za
                have q506 : x52_2 < ((l0.drop 4).length : Int) := of_decide_eq_true Za
                obtain ⟨ad506, e506, hx506_0⟩ := Kd.at_string HR505.out x52_2 p506 q506
                cases e506
                replace hx506_0 := (HB.out.cell (World.block_lt_of_cell? w _ hx506_0)).trans hx506_0
                replace p506 := eq_true p506
                replace q506 := eq_true q506
                have q506d : (x52_2 < ((l0.length - 4 : Nat) : Int)) = True := by have h_ := q506; rw [List.length_drop] at h_; exact h_
                go_wp2_with (first | (go_at_call 111; (with_reducible refine (strings_HasPrefix.calls (rdOf ByteArray.empty (l0.drop 4) x52_2) (⟨#[43]⟩ : ByteArray) false _ A36.out).mono ?_); rintro e w' ⟨rfl, ⟨nd, rfl⟩⟩; (try first | exact ⟨rfl, _, World.drewN_drewN _ _ _⟩ | exact ⟨rfl, _, Eq.trans (World.drewN_drewN _ _ _) (congrArg (World.drewN _) (Nat.add_assoc _ _ _))⟩)) | (go_at_call 69; (with_reducible refine (strings_Cut.calls (rdOf ByteArray.empty (l0.drop 4) x52_2) (⟨#[47]⟩ : ByteArray) t511 t512 t513 _ ?side1 A43.out).mono ?_); (case side1 => first | (with_reducible exact HGP.out) | exact GP_below HGP.out (Zb2 GE494.out GE495.out)); rintro e w' ⟨rfl, ⟨nd, rfl⟩⟩; (try first | exact ⟨rfl, _, World.drewN_drewN _ _ _⟩ | exact ⟨rfl, _, Eq.trans (World.drewN_drewN _ _ _) (congrArg (World.drewN _) (Nat.add_assoc _ _ _))⟩)) | (go_at_call 55; (with_reducible refine (strconv_Atoi.calls t511 t514 t515 _ ?side1 A44.out).mono ?_); (case side1 => first | (with_reducible exact HGP.out) | exact GP_below HGP.out (Zb2 GE494.out GE495.out)); rintro e w46 ⟨vq_, rfl, hb⟩; replace BK494 := Aside0.mk (blk_below (Zj BK494.out) hb); replace BK495 := Aside0.mk (blk_below (Zj BK495.out) hb); replace HB := Aside0.mk (below_step (Zb2 GE494.out GE495.out) hb); (try clear hb); (try clear hb2); (try clear hk); (try clear hi); (try simp only [errW_none, errW_some]); have hnb47 := NB495_494.out; have hnc47 := NB494_495.out; obtain ⟨hcz48_0, hcz48_1, hcz48_2, hcz48_3, hcz48_4, hcz48_5, hcz48_6, hcz48_7, hcz48_8, hfz48_0, hfz48_1, hfz48_2, hfz48_3, hfz48_4, hfz48_5, hfz48_6, hfz48_7, hfz48_8⟩ := Z9 BK495.out) | (go_at_call 55; (with_reducible refine (strconv_Atoi.calls t512 t516 t517 _ ?side1 A45.out).mono ?_); (case side1 => first | (with_reducible exact HGP.out) | exact GP_below HGP.out (Zb2 GE494.out GE495.out)); rintro e w49 ⟨vq_, rfl, hb⟩; replace BK494 := Aside0.mk (blk_below (g := gb494) (o := .cells #[.string (⟨#[]⟩ : ByteArray), .int .u8 0, .int .u8 0, .int .i64 0, .int .i64 0, .int .i64 0, .int .u16 0, .bool false, .slice none 0 0] 28 (0, 0)) (by (with_reducible repeat (first | apply blk_kn | apply blk_kd | apply blk_ka)); refine blk_far ?_ NB494_495.out _; exact Zk BK494.out) hb); replace BK495 := Aside0.mk (blk_below (g := gb495) (o := .cells #[.string (rdOf ByteArray.empty l0 0), .int .u8 t498, .int .u8 x496002_1, .int .i64 t503, .int .i64 t514, .int .i64 x496005_2, .int .u16 x496006_2, .bool x496007_2, .slice none 0 0] 28 (0, 0)) (by (with_reducible repeat (first | apply blk_kn | apply blk_kd | apply blk_ka)); refine blk_put (cs := #[.string (rdOf ByteArray.empty l0 0), .int .u8 t498, .int .u8 x496002_1, .int .i64 t503, .int .i64 x496004_2, .int .i64 x496005_2, .int .u16 x496006_2, .bool x496007_2, .slice none 0 0]) ?_ 4 _ rfl; exact Zk BK495.out) hb); replace HB := Aside0.mk (below_step (Zb2 GE494.out GE495.out) hb); (try clear hb); (try clear hb2); (try clear hk); (try clear hi); (try simp only [errW_none, errW_some]); obtain ⟨hcz50_0, hcz50_1, hcz50_2, hcz50_3, hcz50_4, hcz50_5, hcz50_6, hcz50_7, hcz50_8, hfz50_0, hfz50_1, hfz50_2, hfz50_3, hfz50_4, hfz50_5, hfz50_6, hfz50_7, hfz50_8⟩ := Z9 BK495.out))
                repeat (go_quiet (first | (go_at_call 111; (with_reducible refine (strings_HasPrefix.calls (rdOf ByteArray.empty (l0.drop 4) x52_2) (⟨#[43]⟩ : ByteArray) false _ A36.out).mono ?_); rintro e w' ⟨rfl, ⟨nd, rfl⟩⟩; (try first | exact ⟨rfl, _, World.drewN_drewN _ _ _⟩ | exact ⟨rfl, _, Eq.trans (World.drewN_drewN _ _ _) (congrArg (World.drewN _) (Nat.add_assoc _ _ _))⟩)) | (go_at_call 69; (with_reducible refine (strings_Cut.calls (rdOf ByteArray.empty (l0.drop 4) x52_2) (⟨#[47]⟩ : ByteArray) t511 t512 t513 _ ?side1 A43.out).mono ?_); (case side1 => first | (with_reducible exact HGP.out) | exact GP_below HGP.out (Zb2 GE494.out GE495.out)); rintro e w' ⟨rfl, ⟨nd, rfl⟩⟩; (try first | exact ⟨rfl, _, World.drewN_drewN _ _ _⟩ | exact ⟨rfl, _, Eq.trans (World.drewN_drewN _ _ _) (congrArg (World.drewN _) (Nat.add_assoc _ _ _))⟩)) | (go_at_call 55; (with_reducible refine (strconv_Atoi.calls t511 t514 t515 _ ?side1 A44.out).mono ?_); (case side1 => first | (with_reducible exact HGP.out) | exact GP_below HGP.out (Zb2 GE494.out GE495.out)); rintro e w46 ⟨vq_, rfl, hb⟩; replace BK494 := Aside0.mk (blk_below (Zj BK494.out) hb); replace BK495 := Aside0.mk (blk_below (Zj BK495.out) hb); replace HB := Aside0.mk (below_step (Zb2 GE494.out GE495.out) hb); (try clear hb); (try clear hb2); (try clear hk); (try clear hi); (try simp only [errW_none, errW_some]); have hnb47 := NB495_494.out; have hnc47 := NB494_495.out; obtain ⟨hcz48_0, hcz48_1, hcz48_2, hcz48_3, hcz48_4, hcz48_5, hcz48_6, hcz48_7, hcz48_8, hfz48_0, hfz48_1, hfz48_2, hfz48_3, hfz48_4, hfz48_5, hfz48_6, hfz48_7, hfz48_8⟩ := Z9 BK495.out) | (go_at_call 55; (with_reducible refine (strconv_Atoi.calls t512 t516 t517 _ ?side1 A45.out).mono ?_); (case side1 => first | (with_reducible exact HGP.out) | exact GP_below HGP.out (Zb2 GE494.out GE495.out)); rintro e w49 ⟨vq_, rfl, hb⟩; replace BK494 := Aside0.mk (blk_below (g := gb494) (o := .cells #[.string (⟨#[]⟩ : ByteArray), .int .u8 0, .int .u8 0, .int .i64 0, .int .i64 0, .int .i64 0, .int .u16 0, .bool false, .slice none 0 0] 28 (0, 0)) (by (with_reducible repeat (first | apply blk_kn | apply blk_kd | apply blk_ka)); refine blk_far ?_ NB494_495.out _; exact Zk BK494.out) hb); replace BK495 := Aside0.mk (blk_below (g := gb495) (o := .cells #[.string (rdOf ByteArray.empty l0 0), .int .u8 t498, .int .u8 x496002_1, .int .i64 t503, .int .i64 t514, .int .i64 x496005_2, .int .u16 x496006_2, .bool x496007_2, .slice none 0 0] 28 (0, 0)) (by (with_reducible repeat (first | apply blk_kn | apply blk_kd | apply blk_ka)); refine blk_put (cs := #[.string (rdOf ByteArray.empty l0 0), .int .u8 t498, .int .u8 x496002_1, .int .i64 t503, .int .i64 x496004_2, .int .i64 x496005_2, .int .u16 x496006_2, .bool x496007_2, .slice none 0 0]) ?_ 4 _ rfl; exact Zk BK495.out) hb); replace HB := Aside0.mk (below_step (Zb2 GE494.out GE495.out) hb); (try clear hb); (try clear hb2); (try clear hk); (try clear hi); (try simp only [errW_none, errW_some]); obtain ⟨hcz50_0, hcz50_1, hcz50_2, hcz50_3, hcz50_4, hcz50_5, hcz50_6, hcz50_7, hcz50_8, hfz50_0, hfz50_1, hfz50_2, hfz50_3, hfz50_4, hfz50_5, hfz50_6, hfz50_7, hfz50_8⟩ := Z9 BK495.out)); try go_wp2_with (first | (go_at_call 111; (with_reducible refine (strings_HasPrefix.calls (rdOf ByteArray.empty (l0.drop 4) x52_2) (⟨#[43]⟩ : ByteArray) false _ A36.out).mono ?_); rintro e w' ⟨rfl, ⟨nd, rfl⟩⟩; (try first | exact ⟨rfl, _, World.drewN_drewN _ _ _⟩ | exact ⟨rfl, _, Eq.trans (World.drewN_drewN _ _ _) (congrArg (World.drewN _) (Nat.add_assoc _ _ _))⟩)) | (go_at_call 69; (with_reducible refine (strings_Cut.calls (rdOf ByteArray.empty (l0.drop 4) x52_2) (⟨#[47]⟩ : ByteArray) t511 t512 t513 _ ?side1 A43.out).mono ?_); (case side1 => first | (with_reducible exact HGP.out) | exact GP_below HGP.out (Zb2 GE494.out GE495.out)); rintro e w' ⟨rfl, ⟨nd, rfl⟩⟩; (try first | exact ⟨rfl, _, World.drewN_drewN _ _ _⟩ | exact ⟨rfl, _, Eq.trans (World.drewN_drewN _ _ _) (congrArg (World.drewN _) (Nat.add_assoc _ _ _))⟩)) | (go_at_call 55; (with_reducible refine (strconv_Atoi.calls t511 t514 t515 _ ?side1 A44.out).mono ?_); (case side1 => first | (with_reducible exact HGP.out) | exact GP_below HGP.out (Zb2 GE494.out GE495.out)); rintro e w46 ⟨vq_, rfl, hb⟩; replace BK494 := Aside0.mk (blk_below (Zj BK494.out) hb); replace BK495 := Aside0.mk (blk_below (Zj BK495.out) hb); replace HB := Aside0.mk (below_step (Zb2 GE494.out GE495.out) hb); (try clear hb); (try clear hb2); (try clear hk); (try clear hi); (try simp only [errW_none, errW_some]); have hnb47 := NB495_494.out; have hnc47 := NB494_495.out; obtain ⟨hcz48_0, hcz48_1, hcz48_2, hcz48_3, hcz48_4, hcz48_5, hcz48_6, hcz48_7, hcz48_8, hfz48_0, hfz48_1, hfz48_2, hfz48_3, hfz48_4, hfz48_5, hfz48_6, hfz48_7, hfz48_8⟩ := Z9 BK495.out) | (go_at_call 55; (with_reducible refine (strconv_Atoi.calls t512 t516 t517 _ ?side1 A45.out).mono ?_); (case side1 => first | (with_reducible exact HGP.out) | exact GP_below HGP.out (Zb2 GE494.out GE495.out)); rintro e w49 ⟨vq_, rfl, hb⟩; replace BK494 := Aside0.mk (blk_below (g := gb494) (o := .cells #[.string (⟨#[]⟩ : ByteArray), .int .u8 0, .int .u8 0, .int .i64 0, .int .i64 0, .int .i64 0, .int .u16 0, .bool false, .slice none 0 0] 28 (0, 0)) (by (with_reducible repeat (first | apply blk_kn | apply blk_kd | apply blk_ka)); refine blk_far ?_ NB494_495.out _; exact Zk BK494.out) hb); replace BK495 := Aside0.mk (blk_below (g := gb495) (o := .cells #[.string (rdOf ByteArray.empty l0 0), .int .u8 t498, .int .u8 x496002_1, .int .i64 t503, .int .i64 t514, .int .i64 x496005_2, .int .u16 x496006_2, .bool x496007_2, .slice none 0 0] 28 (0, 0)) (by (with_reducible repeat (first | apply blk_kn | apply blk_kd | apply blk_ka)); refine blk_put (cs := #[.string (rdOf ByteArray.empty l0 0), .int .u8 t498, .int .u8 x496002_1, .int .i64 t503, .int .i64 x496004_2, .int .i64 x496005_2, .int .u16 x496006_2, .bool x496007_2, .slice none 0 0]) ?_ 4 _ rfl; exact Zk BK495.out) hb); replace HB := Aside0.mk (below_step (Zb2 GE494.out GE495.out) hb); (try clear hb); (try clear hb2); (try clear hk); (try clear hi); (try simp only [errW_none, errW_some]); obtain ⟨hcz50_0, hcz50_1, hcz50_2, hcz50_3, hcz50_4, hcz50_5, hcz50_6, hcz50_7, hcz50_8, hfz50_0, hfz50_1, hfz50_2, hfz50_3, hfz50_4, hfz50_5, hfz50_6, hfz50_7, hfz50_8⟩ := Z9 BK495.out)))
                go_roundg k2
                case measure => have := HK1.out; have := HK2.out; omega
                case rel => exact ⟨(wrap64 (x52_2 + 1)), (t514), (t516), (x496006_2), (x496007_2), Zs, H', ⟨by have := HK1.out; have := HK2.out; omega⟩, ⟨by (with_reducible repeat (first | apply blk_kn | apply blk_kd | apply blk_ka)); refine blk_far ?_ NB494_495.out _; exact Zk BK494.out⟩, ⟨by (with_reducible repeat (first | apply blk_kn | apply blk_kd | apply blk_ka)); refine blk_put (cs := #[.string (rdOf ByteArray.empty l0 0), .int .u8 t498, .int .u8 x496002_1, .int .i64 t503, .int .i64 t514, .int .i64 x496005_2, .int .u16 x496006_2, .bool x496007_2, .slice none 0 0]) ?_ 5 _ rfl; exact Zk BK495.out⟩, ⟨Zb2 GE494.out GE495.out⟩⟩
             ·rw [if_neg c32] at H
              exact absurd H (by simp)
            ·rw [if_neg c31] at H
             exact absurd H (by simp)
           ·rw [if_neg c30] at H
            have c30b0 : decide (x52_2 < ((l0.drop 4).length : Int)) = false := decide_eq_false c30
            (try have c30b0d : decide (x52_2 < ((l0.length - 4 : Nat) : Int)) = false := by have h_ := c30b0; rw [List.length_drop] at h_; exact h_)
            clear c30
            simp only [Option.some.injEq, Prod.mk.injEq] at H
            obtain ⟨rfl, rfl, rfl, rfl, rfl, rfl, rfl, rfl, rfl, rfl⟩ := H
            have hnb51 := NB495_494.out
            have hnc51 := NB494_495.out
            obtain ⟨hcz52_0, hcz52_1, hcz52_2, hcz52_3, hcz52_4, hcz52_5, hcz52_6, hcz52_7, hcz52_8, hfz52_0, hfz52_1, hfz52_2, hfz52_3, hfz52_4, hfz52_5, hfz52_6, hfz52_7, hfz52_8⟩ := Z9 BK495.out
            obtain ⟨hcz53_0, hcz53_1, hcz53_2, hcz53_3, hcz53_4, hcz53_5, hcz53_6, hcz53_7, hcz53_8, hfz53_0, hfz53_1, hfz53_2, hfz53_3, hfz53_4, hfz53_5, hfz53_6, hfz53_7, hfz53_8⟩ := Z9 BK494.out
            go_wp2
            repeat (go_quiet (fail); try go_wp2)
            refine bodyPost_ret (results_ct rfl _ _ gb494 28 #[.string (rdOf ByteArray.empty l0 0), .int .u8 t498, .int .u8 x496002_1, .int .i64 t503, .int .i64 x496004_2, .int .i64 x496005_2, .int .u16 x496006_2, .bool x496007_2, .slice none 0 0] (0, 0) _ rfl (by (with_reducible repeat (first | apply blk_kn | apply blk_kd | apply blk_ka)); refine blk_put (cs := #[.string (rdOf ByteArray.empty l0 0), .int .u8 t498, .int .u8 x496002_1, .int .i64 t503, .int .i64 x496004_2, .int .i64 x496005_2, .int .u16 x496006_2, .bool x496007_2, .slice none 0 0]) ?_ 8 _ rfl; (with_reducible repeat (first | apply blk_kn | apply blk_kd | apply blk_ka)); refine blk_put (cs := #[.string (rdOf ByteArray.empty l0 0), .int .u8 t498, .int .u8 x496002_1, .int .i64 t503, .int .i64 x496004_2, .int .i64 x496005_2, .int .u16 x496006_2, .bool false, .slice none 0 0]) ?_ 7 _ rfl; (with_reducible repeat (first | apply blk_kn | apply blk_kd | apply blk_ka)); refine blk_put (cs := #[.string (rdOf ByteArray.empty l0 0), .int .u8 t498, .int .u8 x496002_1, .int .i64 t503, .int .i64 x496004_2, .int .i64 x496005_2, .int .u16 0, .bool false, .slice none 0 0]) ?_ 6 _ rfl; (with_reducible repeat (first | apply blk_kn | apply blk_kd | apply blk_ka)); refine blk_put (cs := #[.string (rdOf ByteArray.empty l0 0), .int .u8 t498, .int .u8 x496002_1, .int .i64 t503, .int .i64 x496004_2, .int .i64 0, .int .u16 0, .bool false, .slice none 0 0]) ?_ 5 _ rfl; (with_reducible repeat (first | apply blk_kn | apply blk_kd | apply blk_ka)); refine blk_put (cs := #[.string (rdOf ByteArray.empty l0 0), .int .u8 t498, .int .u8 x496002_1, .int .i64 t503, .int .i64 0, .int .i64 0, .int .u16 0, .bool false, .slice none 0 0]) ?_ 4 _ rfl; (with_reducible repeat (first | apply blk_kn | apply blk_kd | apply blk_ka)); refine blk_put (cs := #[.string (rdOf ByteArray.empty l0 0), .int .u8 t498, .int .u8 x496002_1, .int .i64 0, .int .i64 0, .int .i64 0, .int .u16 0, .bool false, .slice none 0 0]) ?_ 3 _ rfl; (with_reducible repeat (first | apply blk_kn | apply blk_kd | apply blk_ka)); refine blk_put (cs := #[.string (rdOf ByteArray.empty l0 0), .int .u8 t498, .int .u8 0, .int .i64 0, .int .i64 0, .int .i64 0, .int .u16 0, .bool false, .slice none 0 0]) ?_ 2 _ rfl; (with_reducible repeat (first | apply blk_kn | apply blk_kd | apply blk_ka)); refine blk_put (cs := #[.string (rdOf ByteArray.empty l0 0), .int .u8 0, .int .u8 0, .int .i64 0, .int .i64 0, .int .i64 0, .int .u16 0, .bool false, .slice none 0 0]) ?_ 1 _ rfl; (with_reducible repeat (first | apply blk_kn | apply blk_kd | apply blk_ka)); refine blk_put (cs := #[.string (⟨#[]⟩ : ByteArray), .int .u8 0, .int .u8 0, .int .i64 0, .int .i64 0, .int .i64 0, .int .u16 0, .bool false, .slice none 0 0]) ?_ 0 _ rfl; exact Zk BK494.out) Tryz.underlying28 rfl (by kernel_rfl)) rfl ?_
            exact ⟨_, Ze, by first | exact Kd.R_nil _ _ _ _ _ | exact Kd.N_nil _ _ _ _ _ | exact Kd.V_nil _ _ _ _ _ | exact Kd.Q_nil _ _ _ _ _ | exact Kd.S_nil _ _ _ _ _, Zb2 GE494.out GE495.out⟩
        ·rw [if_neg c25] at H
         exact absurd H (by simp)
       ·rw [if_neg c23] at H
        exact absurd H (by simp)
   ·rw [if_neg c9] at H
    exact absurd H (by simp)
  ·rw [if_neg c8] at H
   exact absurd H (by simp)
end Go.Proofs.YtfpcideomanbbaaGreatDoor.PA
end
section
namespace Go.Proofs.YtfpcideomanbbaaGreatDoor.PA
open Go.RowKit Go.Proofs.YtfpcideomanbbaaGreatDoorW.PrintWords Go.Proofs.YtfpcideomanbbaaGreatDoorW.PrintLast Go.Proofs.YtfpcideomanbbaaGreatDoorW.PrintMore
theorem mem_le_sum : ∀ {l : List Nat} {x : Nat}, x ∈ l → x ≤ l.sum
  | y :: l, x, h => by
    rcases List.mem_cons.1 h with rfl | h
    · simp
    · have := mem_le_sum h; simp; omega
theorem with_eff (s t : Int) : trait_With.f s t = some ((trait_With.f s t).getD 0) := by
  unfold trait_With.f trait_bit.f trait_is.f
  split
  · simp only [Option.bind_some]; split <;> rfl
  · simp only [Option.bind_some]; rfl
def cutA (w : ByteArray) : ByteArray := ⟨(Lib.cut (bl w) [47]).1.toArray⟩
def cutB_ (w : ByteArray) : ByteArray := ⟨(Lib.cut (bl w) [47]).2.1.toArray⟩
def stepW (s : Int × Int × Int × Bool) (w : ByteArray) : Int × Int × Int × Bool :=
  if w = tokenB then (s.1, s.2.1, s.2.2.1, true)
  else if Lib.hasPrefix (bl w) [43] = true then (s.1, s.2.1, (trait_With.f s.2.2.1 (traitI (w.extract 1 w.size)).1).getD 0, s.2.2.2)
  else (atoiVal (cutA w), atoiVal (cutB_ w), s.2.2.1, s.2.2.2)
theorem token_iff (w : ByteArray) : (w.toList = ([116, 111, 107, 101, 110] : List UInt8)) ↔ w = tokenB := by
  rw [ByteArray.toList_eq]
  constructor
  · intro h; exact bytes_eq h
  · rintro rfl; rfl
theorem read_l1 (l : List ByteArray) (hl : l.length ≤ 1000) (hz : ∀ w ∈ l, w.size ≤ 1000) (nm : ByteArray) (su kd co : Int) : ∀ (d i k : Nat) (s : Int × Int × Int × Bool), d = l.length - i → i ≤ l.length →
    card_read.l1 (k + d + 10) l (l.length : Int) (i : Int) nm su kd co s.1 s.2.1 s.2.2.1 s.2.2.2 =
      some (nm, su, kd, co, ((l.drop i).foldl stepW s).1, ((l.drop i).foldl stepW s).2.1, ((l.drop i).foldl stepW s).2.2.1, ((l.drop i).foldl stepW s).2.2.2, [], true) := by
  intro d
  induction d with
  | zero =>
    intro i k s hd hi
    rw [card_read.l1, if_neg (by omega), List.drop_of_length_le (by omega)]
    rfl
  | succ d ih =>
    intro i k s hd hi
    have hlt : i < l.length := by omega
    have hw : wrap64 ((i : Int) + 1) = ((i + 1 : Nat) : Int) := by rw [w64 (by omega) (by omega)]; rfl
    have hdrop : l.drop i = l[i] :: l.drop (i + 1) := List.drop_eq_getElem_cons hlt
    have hm : l[i].size ≤ 1000 := hz _ (List.getElem_mem hlt)
    have h2 := fun s => ih (i + 1) k s (by omega) (by omega)
    rw [show k + (d + 1) + 10 = (k + d + 10) + 1 by omega, card_read.l1, if_pos (by omega), if_pos (by omega), if_pos (by omega), rd_at l i hlt, hw, hdrop, List.foldl_cons]
    by_cases ht : l[i] = tokenB
    · rw [if_pos ((token_iff _).2 ht)]
      have := h2 (s.1, s.2.1, s.2.2.1, true)
      simp only at this
      rw [this, show stepW s l[i] = (s.1, s.2.1, s.2.2.1, true) by unfold stepW; rw [if_pos ht]]
    · rw [if_neg (fun q => ht ((token_iff _).1 q)), show strings_HasPrefix.f l[i] (⟨#[43]⟩ : ByteArray) = some (Lib.hasPrefix (bl l[i]) [43]) from rfl, Option.bind_some]
      by_cases hp : Lib.hasPrefix (bl l[i]) [43] = true
      · have h1 : 1 ≤ (bl l[i]).length := by unfold Lib.hasPrefix at hp; exact (List.isPrefixOf_iff_prefix.1 hp).length_le
        have h1' : 1 ≤ l[i].size := h1
        rw [if_pos hp, if_pos (by omega), show k + d + 10 = k + d + 1 + 9 by omega, traitI_eff _ (k + d + 1), Option.bind_some, with_eff, Option.bind_some, show k + d + 1 + 9 = k + d + 10 by omega]
        have := h2 (s.1, s.2.1, (trait_With.f s.2.2.1 (traitI (l[i].extract 1 l[i].size)).1).getD 0, s.2.2.2)
        simp only at this
        rw [this, show stepW s l[i] = (s.1, s.2.1, (trait_With.f s.2.2.1 (traitI (l[i].extract 1 l[i].size)).1).getD 0, s.2.2.2) by unfold stepW; rw [if_neg ht, if_pos hp]]
      · have hc := cut_len (bl l[i]) [47]
        have hb : (bl l[i]).length ≤ 1000 := hm
        have hcut : strings_Cut.f l[i] (⟨#[47]⟩ : ByteArray) = some (cutA l[i], cutB_ l[i], (Lib.cut (bl l[i]) [47]).2.2) := by
          unfold strings_Cut.f; rw [if_pos (by omega)]; rfl
        have ha : strconv_Atoi.f (cutA l[i]) = some (atoiVal (cutA l[i]), none) := by
          unfold strconv_Atoi.f; rw [if_pos (by have : (cutA l[i]).size = (Lib.cut (bl l[i]) [47]).1.length := by simp [cutA, ByteArray.size]
                                                omega)]
        have hb' : strconv_Atoi.f (cutB_ l[i]) = some (atoiVal (cutB_ l[i]), none) := by
          unfold strconv_Atoi.f; rw [if_pos (by have : (cutB_ l[i]).size = (Lib.cut (bl l[i]) [47]).2.1.length := by simp [cutB_, ByteArray.size]
                                                omega)]
        rw [if_neg hp, hcut, Option.bind_some]
        simp only
        rw [ha, Option.bind_some, hb', Option.bind_some]
        have := h2 (atoiVal (cutA l[i]), atoiVal (cutB_ l[i]), s.2.2.1, s.2.2.2)
        simp only at this
        rw [this, show stepW s l[i] = (atoiVal (cutA l[i]), atoiVal (cutB_ l[i]), s.2.2.1, s.2.2.2) by unfold stepW; rw [if_neg ht, if_neg hp]]
def kI (w : ByteArray) : Int := if kindW 3 = w then 3 else if kindW 2 = w then 2 else if kindW 1 = w then 1 else 0
theorem read_l0 (l : List ByteArray) (h4 : 4 ≤ l.length) (nm : ByteArray) (su : Int) (k : Nat) (hz : ∀ w ∈ l, w.size ≤ 1000) :
    card_read.l0 (k + 4) l 1 nm su 0 0 0 0 0 false = card_read.l1 k (l.drop 4) ((l.drop 4).length : Int) 0 nm su (kI l[2]) (atoiVal l[3]) 0 0 0 false := by
  have e1 : ((1 : Int) + 1) % 256 = 2 := by decide
  have e2 : ((2 : Int) + 1) % 256 = 3 := by decide
  have e3 : ((3 : Int) + 1) % 256 = 4 := by decide
  have hr2 : rdOf ByteArray.empty l 2 = l[2] := rd_at l 2 (by omega)
  have hr3 : rdOf ByteArray.empty l 3 = l[3] := rd_at l 3 (by omega)
  have ha : strconv_Atoi.f l[3] = some (atoiVal l[3], none) := by
    unfold strconv_Atoi.f; rw [if_pos (by have := hz _ (List.getElem_mem (show 3 < l.length by omega)); omega)]
  have fin : ∀ kd : Int, card_read.l0 (k + 1) l 4 nm su kd 0 0 0 0 false = card_read.l1 k (l.drop 4) ((l.drop 4).length : Int) 0 nm su kd (atoiVal l[3]) 0 0 0 false := by
    intro kd
    rw [card_read.l0, if_neg (by decide), if_pos (by omega), hr3, ha, Option.bind_some, if_pos (by omega)]
  have r3 : ∀ kd : Int, card_read.l0 (k + 2) l 3 nm su kd 0 0 0 0 false = card_read.l0 (k + 1) l 4 nm su (if kindW 3 = l[2] then 3 else kd) 0 0 0 0 false := by
    intro kd
    rw [card_read.l0, if_pos (by decide), kindW_eff, Option.bind_some, if_pos (by omega), hr2, e3]
    by_cases h : kindW 3 = l[2]
    · rw [if_pos ((toList_eq_iff _ _).2 h), if_pos h]
    · rw [if_neg (fun q => h ((toList_eq_iff _ _).1 q)), if_neg h]
  have r2 : ∀ kd : Int, card_read.l0 (k + 3) l 2 nm su kd 0 0 0 0 false = card_read.l0 (k + 2) l 3 nm su (if kindW 2 = l[2] then 2 else kd) 0 0 0 0 false := by
    intro kd
    rw [card_read.l0, if_pos (by decide), kindW_eff, Option.bind_some, if_pos (by omega), hr2, e2]
    by_cases h : kindW 2 = l[2]
    · rw [if_pos ((toList_eq_iff _ _).2 h), if_pos h]
    · rw [if_neg (fun q => h ((toList_eq_iff _ _).1 q)), if_neg h]
  have r1 : card_read.l0 (k + 4) l 1 nm su 0 0 0 0 0 false = card_read.l0 (k + 3) l 2 nm su (if kindW 1 = l[2] then 1 else 0) 0 0 0 0 false := by
    rw [card_read.l0, if_pos (by decide), kindW_eff, Option.bind_some, if_pos (by omega), hr2, e1]
    by_cases h : kindW 1 = l[2]
    · rw [if_pos ((toList_eq_iff _ _).2 h), if_pos h]
    · rw [if_neg (fun q => h ((toList_eq_iff _ _).1 q)), if_neg h]
  rw [r1, r2, r3, fin]
  rfl
theorem read_any (l : List ByteArray) (hl : l.length ≤ 1000) (hz : ∀ w ∈ l, w.size ≤ 1000) (k : Nat) : card_read.f (k + 1020) l =
    some (if h : 4 ≤ l.length then (l[0], (suitI l[1]).1, kI l[2], atoiVal l[3], ((l.drop 4).foldl stepW (0, 0, 0, false)).1, ((l.drop 4).foldl stepW (0, 0, 0, false)).2.1, ((l.drop 4).foldl stepW (0, 0, 0, false)).2.2.1, ((l.drop 4).foldl stepW (0, 0, 0, false)).2.2.2, [], true)
      else (⟨#[]⟩, 0, 0, 0, 0, 0, 0, false, [], false)) := by
  unfold card_read.f
  by_cases h : 4 ≤ l.length
  · rw [dif_pos h, if_neg (by omega), if_pos (by omega), if_pos (by omega), show rdOf ByteArray.empty l 1 = l[1] from rd_at l 1 (by omega), suitI_eff, Option.bind_some, show rdOf ByteArray.empty l 0 = l[0] from rd_at l 0 (by omega)]
    rw [show k + 1020 = (k + 1016) + 4 by omega, read_l0 l h _ _ (k + 1016) hz]
    have hd : (l.drop 4).length ≤ 1000 := by simp; omega
    have := read_l1 (l.drop 4) hd (fun w hw => hz w (List.mem_of_mem_drop hw)) l[0] (suitI l[1]).1 (kI l[2]) (atoiVal l[3]) (l.drop 4).length 0 (k + 1006 - (l.drop 4).length) (0, 0, 0, false) (by omega) (by omega)
    rw [show k + 1006 - (l.drop 4).length + (l.drop 4).length + 10 = k + 1016 by omega] at this
    simpa using this
  · rw [dif_neg h, if_pos (by omega)]
theorem kI_of {x : Int} (h : x = 1 ∨ x = 2 ∨ x = 3) : kI (kindW x) = x := by rcases h with rfl | rfl | rfl <;> decide +kernel
theorem step_token (s : Int × Int × Int × Bool) : stepW s tokenB = (s.1, s.2.1, s.2.2.1, true) := by unfold stepW; rw [if_pos rfl]
theorem plus_back {t : Int} (h1 : 1 ≤ t) (h2 : t ≤ 8) : plusW t ≠ tokenB ∧ Lib.hasPrefix (bl (plusW t)) [43] = true ∧ (traitI ((plusW t).extract 1 (plusW t).size)).1 = t :=
  fin_of (P := fun t => plusW t ≠ tokenB ∧ Lib.hasPrefix (bl (plusW t)) [43] = true ∧ (traitI ((plusW t).extract 1 (plusW t).size)).1 = t) (m := 8) (by decide +kernel) h1 h2
theorem step_plus (s : Int × Int × Int × Bool) {t : Int} (h1 : 1 ≤ t) (h2 : t ≤ 8) : stepW s (plusW t) = (s.1, s.2.1, (trait_With.f s.2.2.1 t).getD 0, s.2.2.2) := by
  obtain ⟨a, b, c⟩ := plus_back h1 h2
  unfold stepW; rw [if_neg a, if_pos b, c]
theorem fold_plus : ∀ (X : List Int), (∀ t ∈ X, 1 ≤ t ∧ t ≤ 8) → ∀ s : Int × Int × Int × Bool, (X.map plusW).foldl stepW s = (s.1, s.2.1, X.foldl (fun s t => (trait_With.f s t).getD 0) s.2.2.1, s.2.2.2)
  | [], _, s => rfl
  | t :: X, h, s => by
    have hb := h t (by simp)
    rw [List.map_cons, List.foldl_cons, step_plus s hb.1 hb.2, fold_plus X (fun t ht => h t (by simp [ht])), List.foldl_cons]
theorem digit_head : ∀ n : Fin 199, (bl (itoaB ((n.val : Int) - 99))).head? ≠ some 116 ∧ (bl (itoaB ((n.val : Int) - 99))).head? ≠ some 43 ∧ bl (itoaB ((n.val : Int) - 99)) ≠ [] := by decide +kernel
theorem step_slash (s : Int × Int × Int × Bool) {p h : Int} (h1 : 0 ≤ p ∧ p ≤ 99) (h2 : 0 ≤ h ∧ h ≤ 99) : stepW s (slash p h) = (p, h, s.2.2.1, s.2.2.2) := by
  have hp := (itoa_cl (c := p) (by omega) (by omega)).2
  obtain ⟨d1, d2, d3⟩ : (bl (itoaB p)).head? ≠ some 116 ∧ (bl (itoaB p)).head? ≠ some 43 ∧ bl (itoaB p) ≠ [] := by
    obtain ⟨n, hn⟩ := small_int (c := p) (by omega) (by omega)
    rw [hn]; exact digit_head n
  have e : bl (slash p h) = bl (itoaB p) ++ 47 :: bl (itoaB h) := by simp [slash, bl]
  have hcut : Lib.cut (bl (slash p h)) [47] = (bl (itoaB p), bl (itoaB h), true) := by rw [e]; exact cut_slash _ _ hp
  have n1 : slash p h ≠ tokenB := by
    intro q
    have := congrArg (fun x => (bl x).head?) q
    simp only [e] at this
    cases hb : bl (itoaB p) with
    | nil => exact d3 hb
    | cons c r => rw [hb] at this d1; simp at this d1; exact d1 (by simpa [tokenB, bl] using this)
  have n2 : ¬ Lib.hasPrefix (bl (slash p h)) [43] = true := by
    intro q
    rw [e] at q
    cases hb : bl (itoaB p) with
    | nil => exact d3 hb
    | cons c r =>
      rw [hb] at q d2
      simp [Lib.hasPrefix, List.isPrefixOf] at q d2
      exact d2 q.symm
  unfold stepW
  rw [if_neg n1, if_neg n2]
  have ea : cutA (slash p h) = itoaB p := by unfold cutA; rw [hcut]
  have eb : cutB_ (slash p h) = itoaB h := by unfold cutB_; rw [hcut]
  rw [ea, eb, atoi_itoa p (by omega) (by omega), atoi_itoa h (by omega) (by omega)]
theorem read_head {nm : ByteArray} {su kd co pw hp tr : Int} {tk : Bool} {n : Nat} (f : Face nm su kd co pw hp tr tk n) (k : Nat) :
    card_read.f (k + 1020) (headW nm su kd co pw hp tr tk) = some (nm, su, kd, co, pw, hp, tr, tk, [], true) := by
  obtain ⟨_, h2, h3, h4⟩ := tl_of f.itr
  have hb := head_bd f
  have hz : ∀ w ∈ headW nm su kd co pw hp tr tk, w.size ≤ 1000 := by
    intro w hw
    have : sz w ≤ ((headW nm su kd co pw hp tr tk).map sz).sum := mem_le_sum (List.mem_map_of_mem hw)
    have h : w.size = sz w := rfl
    omega
  rw [read_any _ (by omega) hz k]
  have hd : (headW nm su kd co pw hp tr tk).drop 4 = ((if kd = 1 then [slash pw hp] else []) ++ (if tk = true then [tokenB] else [])) ++ (tl tr).map plusW := by unfold headW; simp
  have hf : ((headW nm su kd co pw hp tr tk).drop 4).foldl stepW (0, 0, 0, false) = (pw, hp, tr, tk) := by
    rw [hd, List.foldl_append, List.foldl_append, fold_plus _ h3]
    by_cases hk : kd = 1
    · rw [if_pos hk]
      cases tk
      · simp only [List.foldl_cons, List.foldl_nil, step_slash _ f.ipw f.ihp]
        simp [h4]
      · simp only [List.foldl_cons, List.foldl_nil, step_slash _ f.ipw f.ihp]
        simp [step_token, h4]
    · rw [if_neg hk]
      obtain ⟨rfl, rfl⟩ := f.inon hk
      cases tk
      · simp [h4]
      · simp [step_token, h4]
  rw [dif_pos (by unfold headW; simp), hf]
  have i1 := f.ico
  have e0 : ∀ h, (headW nm su kd co pw hp tr tk)[0]'h = nm := fun _ => by simp [headW]
  have e1 : ∀ h, (headW nm su kd co pw hp tr tk)[1]'h = suitW su := fun _ => by simp [headW]
  have e2 : ∀ h, (headW nm su kd co pw hp tr tk)[2]'h = kindW kd := fun _ => by simp [headW]
  have e3 : ∀ h, (headW nm su kd co pw hp tr tk)[3]'h = itoaB co := fun _ => by simp [headW]
  rw [e0, e1, e2, e3, suitB su f.isu.1 f.isu.2, kI_of f.ikd, atoi_itoa co (by omega) (by omega)]
end Go.Proofs.YtfpcideomanbbaaGreatDoor.PA
end
section
namespace Go.Proofs.YtfpcideomanbbaaGreatDoor.PA
open Go.RowKit Go.Proofs.YtfpcideomanbbaaGreatDoorW.PrintWords Go.Proofs.YtfpcideomanbbaaGreatDoorW.PrintLast Go.Proofs.YtfpcideomanbbaaGreatDoorW.PrintMore
attribute [local go_sem] max2_int min2_int max_two min_two max_three min_three max_four min_four
set_option linter.unusedVariables false
set_option linter.unusedSimpArgs false
mutual
def card_Parse.l0 : Nat → ByteArray → ByteArray → Bool → Bool → ByteArray → Int → Int → Int → Int → Int → Int → Bool → List (S48) → Option (ByteArray × Int × Int × Int × Int × Int × Int × Bool × (List (S48)) × Int)
 | 0, _, _, _, _, _, _, _, _, _, _, _, _, _ => none
 | k + 1, x0, x5, x6, x8, x538000, x538001, x538002, x538003, x538004, x538005, x538006, x538007, x538008 => if x8 = true then (card_Parse.j1 k x0 x5 x8 x6 x538000 x538001 x538002 x538003 x538004 x538005 x538006 x538007 x538008) else (card_Parse.j1 k x0 x5 x8 false x538000 x538001 x538002 x538003 x538004 x538005 x538006 x538007 x538008)
def card_Parse.j1 : Nat → ByteArray → ByteArray → Bool → Bool → ByteArray → Int → Int → Int → Int → Int → Int → Bool → List (S48) → Option (ByteArray × Int × Int × Int × Int × Int × Int × Bool × (List (S48)) × Int)
 | 0, _, _, _, _, _, _, _, _, _, _, _, _, _ => none
 | k + 1, x0, x5, x8, x33, x538000, x538001, x538002, x538003, x538004, x538005, x538006, x538007, x538008 => if x33 = true then ((strings_Cut.f x5 (⟨#[32, 124, 32]⟩ : ByteArray)).bind fun bt538 => ((effect_Parse.f bt538.1).bind fun bt541 => (if bt541.2.2.2.2.2.2.2.2 = 0 then (if x538008.length < 3518437208883 then (card_Parse.l0 k x0 bt538.2.1 bt538.2.2 (decide ((x538008.length : Int) < 4)) x538000 x538001 x538002 x538003 x538004 x538005 x538006 x538007 (x538008 ++ [(⟨bt541.1, bt541.2.1, bt541.2.2.1, bt541.2.2.2.1, bt541.2.2.2.2.1, bt541.2.2.2.2.2.1, bt541.2.2.2.2.2.2.1, bt541.2.2.2.2.2.2.2.1⟩ : S48)])) else (none)) else (if x538008.length < 3518437208883 then (card_Parse.l0 k x0 bt538.2.1 bt538.2.2 false x538000 x538001 x538002 x538003 x538004 x538005 x538006 x538007 (x538008 ++ [(⟨bt541.1, bt541.2.1, bt541.2.2.1, bt541.2.2.2.1, bt541.2.2.2.2.1, bt541.2.2.2.2.2.1, bt541.2.2.2.2.2.2.1, bt541.2.2.2.2.2.2.2.1⟩ : S48)])) else (none))))) else ((card_Print.f k x538000 x538001 x538002 x538003 x538004 x538005 x538006 x538007 x538008).bind fun bt557 => (if x8 = true then (if bt557.2 = 0 then (if bt557.1.toList = x0.toList then (some (x538000, x538001, x538002, x538003, x538004, x538005, x538006, x538007, x538008, 0)) else (some ((⟨#[]⟩ : ByteArray), 0, 0, 0, 0, 0, 0, false, ([] : List (S48)), 160))) else (some ((⟨#[]⟩ : ByteArray), 0, 0, 0, 0, 0, 0, false, ([] : List (S48)), 160))) else (some ((⟨#[]⟩ : ByteArray), 0, 0, 0, 0, 0, 0, false, ([] : List (S48)), 160))))
end
def card_Parse.f (k : Nat) (a0 : ByteArray) : Option (ByteArray × Int × Int × Int × Int × Int × Int × Bool × (List (S48)) × Int) := if (a0.size : Int) > 512 then (some ((⟨#[]⟩ : ByteArray), 0, 0, 0, 0, 0, 0, false, ([] : List (S48)), 3)) else ((strings_Cut.f a0 (⟨#[32, 124, 32]⟩ : ByteArray)).bind fun bt519 => ((strings_Split.f bt519.1 (⟨#[32]⟩ : ByteArray)).bind fun t522 => ((card_read.f k t522).bind fun bt525 => (card_Parse.l0 k a0 bt519.2.1 bt519.2.2 bt525.2.2.2.2.2.2.2.2.2 bt525.1 bt525.2.1 bt525.2.2.1 bt525.2.2.2.1 bt525.2.2.2.2.1 bt525.2.2.2.2.2.1 bt525.2.2.2.2.2.2.1 bt525.2.2.2.2.2.2.2.1 bt525.2.2.2.2.2.2.2.2.1))))
theorem card_Parse.mono_l : ∀ k, (∀ y0 y1 y2 y3 y4 y5 y6 y7 y8 y9 y10 y11 y12, LeO (card_Parse.l0 k y0 y1 y2 y3 y4 y5 y6 y7 y8 y9 y10 y11 y12) (card_Parse.l0 (k + 1) y0 y1 y2 y3 y4 y5 y6 y7 y8 y9 y10 y11 y12)) ∧ (∀ y0 y1 y2 y3 y4 y5 y6 y7 y8 y9 y10 y11 y12, LeO (card_Parse.j1 k y0 y1 y2 y3 y4 y5 y6 y7 y8 y9 y10 y11 y12) (card_Parse.j1 (k + 1) y0 y1 y2 y3 y4 y5 y6 y7 y8 y9 y10 y11 y12))
 | 0 => ⟨fun _ _ _ _ _ _ _ _ _ _ _ _ _ r h => by simp [card_Parse.l0] at h, fun _ _ _ _ _ _ _ _ _ _ _ _ _ r h => by simp [card_Parse.j1] at h⟩
 | k + 1 => by
  obtain ⟨ih0, ih1⟩ := card_Parse.mono_l k
  refine ⟨?_, ?_⟩
  ·intro y0 y1 y2 y3 y4 y5 y6 y7 y8 y9 y10 y11 y12
   unfold card_Parse.l0
   repeat' first
   | (with_reducible exact ih0 _ _ _ _ _ _ _ _ _ _ _ _ _)
   | (with_reducible exact ih1 _ _ _ _ _ _ _ _ _ _ _ _ _)
   | (with_reducible exact card_Print.mono _ _ _ _ _ _ _ _ _ _)
   | (with_reducible exact card_read.mono _ _)
   | (with_reducible exact LeO.refl _)
   | (with_reducible exact LeO.none _)
   | (with_reducible refine LeO.ite ?_ ?_)
   | (with_reducible refine LeO.bind ?_ (fun _ => ?_))
   | exact ih0 _ _ _ _ _ _ _ _ _ _ _ _ _
   | exact ih1 _ _ _ _ _ _ _ _ _ _ _ _ _
   | exact card_Print.mono _ _ _ _ _ _ _ _ _ _
   | exact card_read.mono _ _
   | exact LeO.none _
   | refine LeO.ite ?_ ?_
   | refine LeO.bind ?_ (fun _ => ?_)
  ·intro y0 y1 y2 y3 y4 y5 y6 y7 y8 y9 y10 y11 y12
   unfold card_Parse.j1
   repeat' first
   | (with_reducible exact ih0 _ _ _ _ _ _ _ _ _ _ _ _ _)
   | (with_reducible exact ih1 _ _ _ _ _ _ _ _ _ _ _ _ _)
   | (with_reducible exact card_Print.mono _ _ _ _ _ _ _ _ _ _)
   | (with_reducible exact card_read.mono _ _)
   | (with_reducible exact LeO.refl _)
   | (with_reducible exact LeO.none _)
   | (with_reducible refine LeO.ite ?_ ?_)
   | (with_reducible refine LeO.bind ?_ (fun _ => ?_))
   | exact ih0 _ _ _ _ _ _ _ _ _ _ _ _ _
   | exact ih1 _ _ _ _ _ _ _ _ _ _ _ _ _
   | exact card_Print.mono _ _ _ _ _ _ _ _ _ _
   | exact card_read.mono _ _
   | exact LeO.none _
   | refine LeO.ite ?_ ?_
   | refine LeO.bind ?_ (fun _ => ?_)
theorem card_Parse.mono : ∀ a0 k, LeO (card_Parse.f k a0) (card_Parse.f (k + 1) a0) := by
 intro a0 k
 obtain ⟨ih0, ih1⟩ := card_Parse.mono_l k
 unfold card_Parse.f
 repeat' first
   | (with_reducible exact ih0 _ _ _ _ _ _ _ _ _ _ _ _ _)
   | (with_reducible exact ih1 _ _ _ _ _ _ _ _ _ _ _ _ _)
   | (with_reducible exact card_Print.mono _ _ _ _ _ _ _ _ _ _)
   | (with_reducible exact card_read.mono _ _)
   | (with_reducible exact LeO.refl _)
   | (with_reducible exact LeO.none _)
   | (with_reducible refine LeO.ite ?_ ?_)
   | (with_reducible refine LeO.bind ?_ (fun _ => ?_))
   | exact ih0 _ _ _ _ _ _ _ _ _ _ _ _ _
   | exact ih1 _ _ _ _ _ _ _ _ _ _ _ _ _
   | exact card_Print.mono _ _ _ _ _ _ _ _ _ _
   | exact card_read.mono _ _
   | exact LeO.none _
   | refine LeO.ite ?_ ?_
   | refine LeO.bind ?_ (fun _ => ?_)
set_option maxHeartbeats 8000000 in
set_option maxRecDepth 100000 in
theorem card_Parse.calls (k : Nat) (a0 : ByteArray) (r1 : ByteArray) (r2 : Int) (r3 : Int) (r4 : Int) (r5 : Int) (r6 : Int) (r7 : Int) (r8 : Bool) (r9 : List (S48)) (r10 : Int) (w : World) (hG_ : GP w) (h : card_Parse.f k a0 = some (r1, r2, r3, r4, r5, r6, r7, r8, r9, r10)) :
  Calls Tryz.prog 25 #[.string a0] w fun e w' => ∃ v8_ : Value, e = .returned (.tuple #[.agg #[.string r1, .int .u8 r2, .int .u8 r3, .int .i64 r4, .int .i64 r5, .int .i64 r6, .int .u16 r7, .bool r8, v8_], .int .i64 r10]) ∧ Kd.R k48 48 w' w.heap.size (fun _ => True) v8_ r9 ∧ Below w.heap.size w w' := by
 have hu28 := Tryz.underlying28
 have hu48 := Tryz.underlying48
 have HGP := Aside0.mk hG_
 clear hG_
 have HB := Aside0.mk (Below.refl w.heap.size w)
 have H : (if (a0.size : Int) > 512 then (some ((⟨#[]⟩ : ByteArray), 0, 0, 0, 0, 0, 0, false, ([] : List (S48)), 3)) else ((strings_Cut.f a0 (⟨#[32, 124, 32]⟩ : ByteArray)).bind fun bt519 => ((strings_Split.f bt519.1 (⟨#[32]⟩ : ByteArray)).bind fun t522 => ((card_read.f k t522).bind fun bt525 => (card_Parse.l0 k a0 bt519.2.1 bt519.2.2 bt525.2.2.2.2.2.2.2.2.2 bt525.1 bt525.2.1 bt525.2.2.1 bt525.2.2.2.1 bt525.2.2.2.2.1 bt525.2.2.2.2.2.1 bt525.2.2.2.2.2.2.1 bt525.2.2.2.2.2.2.2.1 bt525.2.2.2.2.2.2.2.2.1))))) = some (r1, r2, r3, r4, r5, r6, r7, r8, r9, r10) := h
 clear h
 by_cases c2 : (a0.size : Int) > 512
 ·rw [if_pos c2] at H
  have c2b0 : decide (512 < (a0.size : Int)) = true := decide_eq_true c2
  have c2b1 : decide (512 < a0.size) = true := decide_eq_true (by omega)
  clear c2
  simp only [Option.some.injEq, Prod.mk.injEq] at H
  obtain ⟨rfl, rfl, rfl, rfl, rfl, rfl, rfl, rfl, rfl, rfl⟩ := H
  go_enter Tryz.func25, Tryz.ntmps25
  go_wp2_with (first | ((with_reducible refine gate_dst (N := 2) rfl ?_); (try (refine gate_guard (by rfl) ?_; dsimp only)); refine box_event ?hg (N := 2) ?hd (cs := #[.string (⟨#[]⟩ : ByteArray), .int .u8 0, .int .u8 0, .int .i64 0, .int .i64 0, .int .i64 0, .int .u16 0, .bool false, .slice none 0 0]) (t := 28) ?hr ?_; (case hd => rfl); (case hg => rfl); (case hr => first | (go_simp; done) | (go_simp; rfl)); intro gb518 hg w3 hbox hb; have BK518 := Aside0.mk (hbox); have GW518 := Aside0.mk ((by rw [hg]; exact (below_size Zb) : w.heap.size ≤ gb518)); have GE518 := Aside0.mk ((by rw [hg]; exact (below_size Zb) : w.heap.size ≤ gb518)); replace HB := Aside0.mk (below_step Zb hb); clear hb hbox hg; obtain ⟨hcz4_0, hcz4_1, hcz4_2, hcz4_3, hcz4_4, hcz4_5, hcz4_6, hcz4_7, hcz4_8, hfz4_0, hfz4_1, hfz4_2, hfz4_3, hfz4_4, hfz4_5, hfz4_6, hfz4_7, hfz4_8⟩ := Z9 BK518.out))
  refine bodyPost_ret (results_ct rfl _ _ gb518 28 #[.string (⟨#[]⟩ : ByteArray), .int .u8 0, .int .u8 0, .int .i64 0, .int .i64 0, .int .i64 0, .int .u16 0, .bool false, .slice none 0 0] (0, 0) _ rfl (by (with_reducible repeat (first | apply blk_kn | apply blk_kd | apply blk_ka)); refine blk_put (cs := #[.string (⟨#[]⟩ : ByteArray), .int .u8 0, .int .u8 0, .int .i64 0, .int .i64 0, .int .i64 0, .int .u16 0, .bool false, .slice none 0 0]) ?_ 8 _ rfl; (with_reducible repeat (first | apply blk_kn | apply blk_kd | apply blk_ka)); refine blk_put (cs := #[.string (⟨#[]⟩ : ByteArray), .int .u8 0, .int .u8 0, .int .i64 0, .int .i64 0, .int .i64 0, .int .u16 0, .bool false, .slice none 0 0]) ?_ 7 _ rfl; (with_reducible repeat (first | apply blk_kn | apply blk_kd | apply blk_ka)); refine blk_put (cs := #[.string (⟨#[]⟩ : ByteArray), .int .u8 0, .int .u8 0, .int .i64 0, .int .i64 0, .int .i64 0, .int .u16 0, .bool false, .slice none 0 0]) ?_ 6 _ rfl; (with_reducible repeat (first | apply blk_kn | apply blk_kd | apply blk_ka)); refine blk_put (cs := #[.string (⟨#[]⟩ : ByteArray), .int .u8 0, .int .u8 0, .int .i64 0, .int .i64 0, .int .i64 0, .int .u16 0, .bool false, .slice none 0 0]) ?_ 5 _ rfl; (with_reducible repeat (first | apply blk_kn | apply blk_kd | apply blk_ka)); refine blk_put (cs := #[.string (⟨#[]⟩ : ByteArray), .int .u8 0, .int .u8 0, .int .i64 0, .int .i64 0, .int .i64 0, .int .u16 0, .bool false, .slice none 0 0]) ?_ 4 _ rfl; (with_reducible repeat (first | apply blk_kn | apply blk_kd | apply blk_ka)); refine blk_put (cs := #[.string (⟨#[]⟩ : ByteArray), .int .u8 0, .int .u8 0, .int .i64 0, .int .i64 0, .int .i64 0, .int .u16 0, .bool false, .slice none 0 0]) ?_ 3 _ rfl; (with_reducible repeat (first | apply blk_kn | apply blk_kd | apply blk_ka)); refine blk_put (cs := #[.string (⟨#[]⟩ : ByteArray), .int .u8 0, .int .u8 0, .int .i64 0, .int .i64 0, .int .i64 0, .int .u16 0, .bool false, .slice none 0 0]) ?_ 2 _ rfl; (with_reducible repeat (first | apply blk_kn | apply blk_kd | apply blk_ka)); refine blk_put (cs := #[.string (⟨#[]⟩ : ByteArray), .int .u8 0, .int .u8 0, .int .i64 0, .int .i64 0, .int .i64 0, .int .u16 0, .bool false, .slice none 0 0]) ?_ 1 _ rfl; (with_reducible repeat (first | apply blk_kn | apply blk_kd | apply blk_ka)); refine blk_put (cs := #[.string (⟨#[]⟩ : ByteArray), .int .u8 0, .int .u8 0, .int .i64 0, .int .i64 0, .int .i64 0, .int .u16 0, .bool false, .slice none 0 0]) ?_ 0 _ rfl; exact Zk BK518.out) Tryz.underlying28 rfl (by kernel_rfl)) rfl ?_
  exact ⟨_, Ze, by first | exact Kd.R_nil _ _ _ _ _ | exact Kd.N_nil _ _ _ _ _ | exact Kd.V_nil _ _ _ _ _ | exact Kd.Q_nil _ _ _ _ _ | exact Kd.S_nil _ _ _ _ _, Zb1 GE518.out⟩
 ·rw [if_neg c2] at H
  have c2b0 : decide (512 < (a0.size : Int)) = false := decide_eq_false c2
  have c2b1 : decide (512 < a0.size) = false := decide_eq_false (by omega)
  clear c2
  replace H := Option.bind_eq_some_iff.mp H
  obtain ⟨⟨t519, t520, t521⟩, A50, H⟩ := H
  replace H : ((strings_Split.f t519 (⟨#[32]⟩ : ByteArray)).bind fun t522 => ((card_read.f k t522).bind fun bt525 => (card_Parse.l0 k a0 t520 t521 bt525.2.2.2.2.2.2.2.2.2 bt525.1 bt525.2.1 bt525.2.2.1 bt525.2.2.2.1 bt525.2.2.2.2.1 bt525.2.2.2.2.2.1 bt525.2.2.2.2.2.2.1 bt525.2.2.2.2.2.2.2.1 bt525.2.2.2.2.2.2.2.2.1))) = some (r1, r2, r3, r4, r5, r6, r7, r8, r9, r10) := H
  have A5 := Aside0.mk A50
  clear A50
  replace H := Option.bind_eq_some_iff.mp H
  obtain ⟨t522, A60, H⟩ := H
  replace H : ((card_read.f k t522).bind fun bt525 => (card_Parse.l0 k a0 t520 t521 bt525.2.2.2.2.2.2.2.2.2 bt525.1 bt525.2.1 bt525.2.2.1 bt525.2.2.2.1 bt525.2.2.2.2.1 bt525.2.2.2.2.2.1 bt525.2.2.2.2.2.2.1 bt525.2.2.2.2.2.2.2.1 bt525.2.2.2.2.2.2.2.2.1)) = some (r1, r2, r3, r4, r5, r6, r7, r8, r9, r10) := H
  have A6 := Aside0.mk A60
  clear A60
  replace H := Option.bind_eq_some_iff.mp H
  obtain ⟨⟨t525, t526, t527, t528, t529, t530, t531, t532, t533, t536⟩, A70, H⟩ := H
  replace H : (card_Parse.l0 k a0 t520 t521 t536 t525 t526 t527 t528 t529 t530 t531 t532 t533) = some (r1, r2, r3, r4, r5, r6, r7, r8, r9, r10) := H
  have A7 := Aside0.mk A70
  clear A70
  have H' := Aside0.mk H
  clear H
  go_enter Tryz.func25, Tryz.ntmps25
  go_wp2_with (first | ((with_reducible refine gate_dst (N := 2) rfl ?_); (try (refine gate_guard (by rfl) ?_; dsimp only)); refine box_event ?hg (N := 2) ?hd (cs := #[.string (⟨#[]⟩ : ByteArray), .int .u8 0, .int .u8 0, .int .i64 0, .int .i64 0, .int .i64 0, .int .u16 0, .bool false, .slice none 0 0]) (t := 28) ?hr ?_; (case hd => rfl); (case hg => rfl); (case hr => first | (go_simp; done) | (go_simp; rfl)); intro gb518 hg w8 hbox hb; have BK518 := Aside0.mk (hbox); have GW518 := Aside0.mk ((by rw [hg]; exact (below_size Zb) : w.heap.size ≤ gb518)); have GE518 := Aside0.mk ((by rw [hg]; exact (below_size Zb) : w.heap.size ≤ gb518)); replace HB := Aside0.mk (below_step Zb hb); clear hb hbox hg) | ((with_reducible refine gate_callee (f := 69) rfl ?_); refine goesL_ (some 20) rfl rfl Tryz.func69 (by kernel_rfl) rfl #[.string a0, .string (⟨#[32, 124, 32]⟩ : ByteArray)] rfl Zl ?_; (with_reducible refine (strings_Cut.calls a0 (⟨#[32, 124, 32]⟩ : ByteArray) t519 t520 t521 _ ?side1 A5.out).mono ?_); (case side1 => first | (with_reducible exact HGP.out) | exact GP_below HGP.out (Zb1 GE518.out)); rintro e w' ⟨rfl, ⟨nd, rfl⟩⟩; refine ⟨_, rfl, ?_⟩; (try (rw [drewN_self w8]; generalize hq_ : World.drewN w8 _ = w8; have n0_ : Aside0 (w8.heap[gb518]? = some (.cells #[.string (⟨#[]⟩ : ByteArray), .int .u8 0, .int .u8 0, .int .i64 0, .int .i64 0, .int .i64 0, .int .u16 0, .bool false, .slice none 0 0] 28 (0, 0))) := ⟨by rw [← hq_]; exact (Zk BK518.out)⟩; have n1_ : Aside0 (Below w.heap.size w w8) := ⟨by rw [← hq_]; exact (Zb1 GE518.out)⟩; clear BK518 HB hq_; have BK518 := n0_; have HB := n1_; clear n0_ n1_))) | ((with_reducible refine gate_callee (f := 50) rfl ?_); refine goesL_ (some 26) rfl rfl Tryz.func50 (by kernel_rfl) rfl #[.string t519, .string (⟨#[32]⟩ : ByteArray)] rfl Zl ?_; (with_reducible refine (strings_Split.calls t519 (⟨#[32]⟩ : ByteArray) t522 _ ?side1 A6.out).mono ?_); (case side1 => first | (with_reducible exact HGP.out) | exact GP_below HGP.out (Zb1 GE518.out)); rintro e w9 ⟨v523, rfl, ho0, hb⟩; refine ⟨_, rfl, ?_⟩; have HO524 := Aside0.mk (Kd.R_lower ho0 (below_size (Zb1 GE518.out))); replace BK518 := Aside0.mk (blk_below (Zj BK518.out) hb); replace HB := Aside0.mk (below_step (Zb1 GE518.out) hb); (try clear hb); (try clear hb2); (try clear hk); (try clear hi); (try clear ho0); obtain ⟨Ao10, co10, eo10⟩ := Kd.R_slice HO524.out; subst eo10) | ((with_reducible refine gate_callee (f := 70) rfl ?_); refine goesL_ (some 27) rfl rfl Tryz.func70 (by kernel_rfl) rfl #[.slice Ao10 t522.length co10] rfl Zl ?_; (with_reducible refine (card_read.calls k _ _ t522 t525 t526 t527 t528 t529 t530 t531 t532 t533 t536 _ ?side3 ?side1 ?side2 A7.out).mono ?_); (case side1 => repeat (first | exact (Kd.R_reads' HO524.out).2.2 | (with_reducible refine Kd.C_alloc ?_ _) | (with_reducible refine Kd.C_drewN ?_ _) | (with_reducible refine Kd.C_drew ?_))); (case side2 => exact (Kd.R_reads' HO524.out).2.1); (case side3 => first | (with_reducible exact HGP.out) | exact GP_below HGP.out (Zb1 GE518.out)); rintro e w11 ⟨v534, rfl, ho0, hb⟩; refine ⟨_, rfl, ?_⟩; replace HO524 := Aside0.mk (Kd.R_below (Zq HO524.out) hb); have HO535 := Aside0.mk (Kd.R_lower ho0 (below_size (Zb1 GE518.out))); replace BK518 := Aside0.mk (blk_below (Zj BK518.out) hb); replace HB := Aside0.mk (below_step (Zb1 GE518.out) hb); (try clear hb); (try clear hb2); (try clear hk); (try clear hi); (try clear ho0)) | ((with_reducible refine gate_dst (N := 7) rfl ?_); (try (refine gate_guard (by rfl) ?_; dsimp only)); refine box_event ?hg (N := 7) ?hd (cs := #[.string (⟨#[]⟩ : ByteArray), .int .u8 0, .int .u8 0, .int .i64 0, .int .i64 0, .int .i64 0, .int .u16 0, .bool false, .slice none 0 0]) (t := 28) ?hr ?_; (case hd => rfl); (case hg => rfl); (case hr => first | (go_simp; done) | (go_simp; rfl)); intro gb537 hg w12 hbox hb; replace HO524 := Aside0.mk (Kd.R_below (Zq HO524.out) hb); replace HO535 := Aside0.mk (Kd.R_below (Zq HO535.out) hb); have BK537 := Aside0.mk (hbox); have GW537 := Aside0.mk ((by rw [hg]; exact (below_size (Zb1 GE518.out)) : w.heap.size ≤ gb537)); have GE537 := Aside0.mk ((by rw [hg]; exact (below_size (Zb1 GE518.out)) : w.heap.size ≤ gb537)); replace HB := Aside0.mk (below_step (Zb1 GE518.out) hb); have NB518_537 := Aside0.mk ((by rw [hg]; exact Nat.ne_of_lt (blk_lt (Zj BK518.out)) : gb518 ≠ gb537)); have NB537_518 := Aside0.mk ((by rw [hg]; exact Nat.ne_of_gt (blk_lt (Zj BK518.out)) : gb537 ≠ gb518)); replace BK518 := Aside0.mk (blk_below (Zj BK518.out) hb); clear hb hbox hg; have hnb13 := NB537_518.out; have hnc13 := NB518_537.out; obtain ⟨hcz14_0, hcz14_1, hcz14_2, hcz14_3, hcz14_4, hcz14_5, hcz14_6, hcz14_7, hcz14_8, hfz14_0, hfz14_1, hfz14_2, hfz14_3, hfz14_4, hfz14_5, hfz14_6, hfz14_7, hfz14_8⟩ := Z9 BK537.out; obtain ⟨Ao15, co15, eo15⟩ := Kd.R_slice HO535.out; subst eo15))
  go_loopg [5, 6, 8] k (fun kq v5 v6 v8 w' => ∃ (x5_1 : ByteArray) (x6_1 : Bool) (x8_1 : Bool) (x538008_1 : List (S48)) (u538008 : Value), v5 = .string x5_1 ∧ v6 = .bool x6_1 ∧ v8 = .bool x8_1 ∧ Aside0 (card_Parse.l0 kq a0 x5_1 x6_1 x8_1 t525 t526 t527 t528 t529 t530 t531 t532 x538008_1 = some (r1, r2, r3, r4, r5, r6, r7, r8, r9, r10)) ∧ Aside0 (kq ≤ k) ∧ Aside0 (Kd.R k48 48 w' w.heap.size (fun _ => True) u538008 x538008_1) ∧ Aside0 (w'.heap[gb518]? = some (.cells #[.string (⟨#[]⟩ : ByteArray), .int .u8 0, .int .u8 0, .int .i64 0, .int .i64 0, .int .i64 0, .int .u16 0, .bool false, (.slice none 0 0)] 28 (0, 0))) ∧ Aside0 (w'.heap[gb537]? = some (.cells #[.string t525, .int .u8 t526, .int .u8 t527, .int .i64 t528, .int .i64 t529, .int .i64 t530, .int .u16 t531, .bool t532, u538008] 28 (0, 0))) ∧ Aside0 (Below w.heap.size w w'))
  case atStart => exact ⟨(t520), (t521), (t536), (t533), (.slice Ao15 t533.length co15), Zs, Zs, Zs, H', ⟨Nat.le_refl _⟩, ⟨by (with_reducible repeat (first | apply Kd.R_alloc | apply Kd.R_drewN | apply Kd.R_drew)); exact Kd.R_mono (Kd.R_far (p := ⟨gb537, 8, none⟩) (Kd.R_far (p := ⟨gb537, 7, none⟩) (Kd.R_far (p := ⟨gb537, 6, none⟩) (Kd.R_far (p := ⟨gb537, 5, none⟩) (Kd.R_far (p := ⟨gb537, 4, none⟩) (Kd.R_far (p := ⟨gb537, 3, none⟩) (Kd.R_far (p := ⟨gb537, 2, none⟩) (Kd.R_far (p := ⟨gb537, 1, none⟩) (Kd.R_far (p := ⟨gb537, 0, none⟩) (Kd.R_types HO535.out BK537.out (by decide)) Zg (.string t525)) Zg (.int .u8 t526)) Zg (.int .u8 t527)) Zg (.int .i64 t528)) Zg (.int .i64 t529)) Zg (.int .i64 t530)) Zg (.int .u16 t531)) Zg (.bool t532)) Zg (.slice Ao15 t533.length co15)) (fun _ hk => trivial)⟩, ⟨by (with_reducible repeat (first | apply blk_kn | apply blk_kd | apply blk_ka)); refine blk_far ?_ NB518_537.out _; (with_reducible repeat (first | apply blk_kn | apply blk_kd | apply blk_ka)); refine blk_far ?_ NB518_537.out _; (with_reducible repeat (first | apply blk_kn | apply blk_kd | apply blk_ka)); refine blk_far ?_ NB518_537.out _; (with_reducible repeat (first | apply blk_kn | apply blk_kd | apply blk_ka)); refine blk_far ?_ NB518_537.out _; (with_reducible repeat (first | apply blk_kn | apply blk_kd | apply blk_ka)); refine blk_far ?_ NB518_537.out _; (with_reducible repeat (first | apply blk_kn | apply blk_kd | apply blk_ka)); refine blk_far ?_ NB518_537.out _; (with_reducible repeat (first | apply blk_kn | apply blk_kd | apply blk_ka)); refine blk_far ?_ NB518_537.out _; (with_reducible repeat (first | apply blk_kn | apply blk_kd | apply blk_ka)); refine blk_far ?_ NB518_537.out _; (with_reducible repeat (first | apply blk_kn | apply blk_kd | apply blk_ka)); refine blk_far ?_ NB518_537.out _; exact Zk BK518.out⟩, ⟨by (with_reducible repeat (first | apply blk_kn | apply blk_kd | apply blk_ka)); refine blk_put (cs := #[.string t525, .int .u8 t526, .int .u8 t527, .int .i64 t528, .int .i64 t529, .int .i64 t530, .int .u16 t531, .bool t532, .slice none 0 0]) ?_ 8 _ rfl; (with_reducible repeat (first | apply blk_kn | apply blk_kd | apply blk_ka)); refine blk_put (cs := #[.string t525, .int .u8 t526, .int .u8 t527, .int .i64 t528, .int .i64 t529, .int .i64 t530, .int .u16 t531, .bool false, .slice none 0 0]) ?_ 7 _ rfl; (with_reducible repeat (first | apply blk_kn | apply blk_kd | apply blk_ka)); refine blk_put (cs := #[.string t525, .int .u8 t526, .int .u8 t527, .int .i64 t528, .int .i64 t529, .int .i64 t530, .int .u16 0, .bool false, .slice none 0 0]) ?_ 6 _ rfl; (with_reducible repeat (first | apply blk_kn | apply blk_kd | apply blk_ka)); refine blk_put (cs := #[.string t525, .int .u8 t526, .int .u8 t527, .int .i64 t528, .int .i64 t529, .int .i64 0, .int .u16 0, .bool false, .slice none 0 0]) ?_ 5 _ rfl; (with_reducible repeat (first | apply blk_kn | apply blk_kd | apply blk_ka)); refine blk_put (cs := #[.string t525, .int .u8 t526, .int .u8 t527, .int .i64 t528, .int .i64 0, .int .i64 0, .int .u16 0, .bool false, .slice none 0 0]) ?_ 4 _ rfl; (with_reducible repeat (first | apply blk_kn | apply blk_kd | apply blk_ka)); refine blk_put (cs := #[.string t525, .int .u8 t526, .int .u8 t527, .int .i64 0, .int .i64 0, .int .i64 0, .int .u16 0, .bool false, .slice none 0 0]) ?_ 3 _ rfl; (with_reducible repeat (first | apply blk_kn | apply blk_kd | apply blk_ka)); refine blk_put (cs := #[.string t525, .int .u8 t526, .int .u8 0, .int .i64 0, .int .i64 0, .int .i64 0, .int .u16 0, .bool false, .slice none 0 0]) ?_ 2 _ rfl; (with_reducible repeat (first | apply blk_kn | apply blk_kd | apply blk_ka)); refine blk_put (cs := #[.string t525, .int .u8 0, .int .u8 0, .int .i64 0, .int .i64 0, .int .i64 0, .int .u16 0, .bool false, .slice none 0 0]) ?_ 1 _ rfl; (with_reducible repeat (first | apply blk_kn | apply blk_kd | apply blk_ka)); refine blk_put (cs := #[.string (⟨#[]⟩ : ByteArray), .int .u8 0, .int .u8 0, .int .i64 0, .int .i64 0, .int .i64 0, .int .u16 0, .bool false, .slice none 0 0]) ?_ 0 _ rfl; exact Zk BK537.out⟩, ⟨Zb2 GE518.out GE537.out⟩⟩
  case round =>
   clear H'
   try clear c1
   try clear c2
   try clear c2b0
   try clear c2b1
   try clear p2
   try clear c5
   try clear c6
   try clear c7
   try clear c13
   try clear hcz14_0
   try clear hcz14_1
   try clear hcz14_2
   try clear hcz14_3
   try clear hcz14_4
   try clear hcz14_5
   try clear hcz14_6
   try clear hcz14_7
   try clear hcz14_8
   try clear hcz4_0
   try clear hcz4_1
   try clear hcz4_2
   try clear hcz4_3
   try clear hcz4_4
   try clear hcz4_5
   try clear hcz4_6
   try clear hcz4_7
   try clear hcz4_8
   try clear hfz14_0
   try clear hfz14_1
   try clear hfz14_2
   try clear hfz14_3
   try clear hfz14_4
   try clear hfz14_5
   try clear hfz14_6
   try clear hfz14_7
   try clear hfz14_8
   try clear hfz4_0
   try clear hfz4_1
   try clear hfz4_2
   try clear hfz4_3
   try clear hfz4_4
   try clear hfz4_5
   try clear hfz4_6
   try clear hfz4_7
   try clear hfz4_8
   obtain ⟨x5_1, x6_1, x8_1, x538008_1, u538008, rfl, rfl, rfl, HA, HK1, HO_538008, BK518, BK537, HB⟩ := hrel
   cases gk with
   | zero => exact absurd HA.out (by simp [card_Parse.l0])
   | succ k1 =>
    have H := HA.out
    clear HA
    simp only [card_Parse.l0] at H
    have HC16 := Aside0.mk H
    clear H
    go_upto_region 5 with (fail)
    go_cut [33] (fun v33 wc => ∃ (kq : Nat) (x33_15 : Bool), v33 = .bool x33_15 ∧ Aside0 (card_Parse.j1 kq a0 x5_1 x8_1 x33_15 t525 t526 t527 t528 t529 t530 t531 t532 x538008_1 = some (r1, r2, r3, r4, r5, r6, r7, r8, r9, r10)) ∧ Aside0 (kq ≤ k1) ∧ Aside0 (Kd.R k48 48 wc w.heap.size (fun _ => True) u538008 x538008_1) ∧ Aside0 (wc.heap[gb518]? = some (.cells #[.string (⟨#[]⟩ : ByteArray), .int .u8 0, .int .u8 0, .int .i64 0, .int .i64 0, .int .i64 0, .int .u16 0, .bool false, (.slice none 0 0)] 28 (0, 0))) ∧ Aside0 (wc.heap[gb537]? = some (.cells #[.string t525, .int .u8 t526, .int .u8 t527, .int .i64 t528, .int .i64 t529, .int .i64 t530, .int .u16 t531, .bool t532, u538008] 28 (0, 0))) ∧ Aside0 (Below w.heap.size w wc))
    case first =>
     have H := HC16.out
     clear HC16
     by_cases c17 : x8_1 = true
     ·subst c17
      have H1 : (card_Parse.j1 k1 a0 x5_1 true x6_1 t525 t526 t527 t528 t529 t530 t531 t532 x538008_1) = some (r1, r2, r3, r4, r5, r6, r7, r8, r9, r10) := by rw [if_pos rfl] at H; exact H
      clear H
      have H := H1
      clear H1
      have H' := Aside0.mk H
      clear H
      go_wp2
      go_meet
      case rel => exact ⟨_, (x6_1), Zs, H', ⟨by have := HK1.out; first | omega | exact Nat.le_refl _⟩, ⟨Zr HO_538008.out⟩, ⟨Zk BK518.out⟩, ⟨Zk BK537.out⟩, ⟨Zb2 GE518.out GE537.out⟩⟩
     ·replace c17 := Bool.eq_false_iff.mpr c17
      subst c17
      have H1 : (card_Parse.j1 k1 a0 x5_1 false false t525 t526 t527 t528 t529 t530 t531 t532 x538008_1) = some (r1, r2, r3, r4, r5, r6, r7, r8, r9, r10) := by rw [if_neg (show ¬ (false = true) by decide)] at H; exact H
      clear H
      have H := H1
      clear H1
      have H' := Aside0.mk H
      clear H
      go_wp2
      go_meet
      case rel => exact ⟨_, (false), Zs, H', ⟨by have := HK1.out; first | omega | exact Nat.le_refl _⟩, ⟨Zr HO_538008.out⟩, ⟨Zk BK518.out⟩, ⟨Zk BK537.out⟩, ⟨Zb2 GE518.out GE537.out⟩⟩
    case rest =>
     clear HC16
     try clear c1
     try clear c2
     try clear c2b0
     try clear c2b1
     try clear p2
     try clear c5
     try clear c6
     try clear c7
     try clear c13
     try clear c17
     try clear hcz14_0
     try clear hcz14_1
     try clear hcz14_2
     try clear hcz14_3
     try clear hcz14_4
     try clear hcz14_5
     try clear hcz14_6
     try clear hcz14_7
     try clear hcz14_8
     try clear hcz4_0
     try clear hcz4_1
     try clear hcz4_2
     try clear hcz4_3
     try clear hcz4_4
     try clear hcz4_5
     try clear hcz4_6
     try clear hcz4_7
     try clear hcz4_8
     try clear hfz14_0
     try clear hfz14_1
     try clear hfz14_2
     try clear hfz14_3
     try clear hfz14_4
     try clear hfz14_5
     try clear hfz14_6
     try clear hfz14_7
     try clear hfz14_8
     try clear hfz4_0
     try clear hfz4_1
     try clear hfz4_2
     try clear hfz4_3
     try clear hfz4_4
     try clear hfz4_5
     try clear hfz4_6
     try clear hfz4_7
     try clear hfz4_8
     try clear p2
     obtain ⟨kq, x33_15, rfl, HA, HJ15, HO_538008, BK518, BK537, HB⟩ := hcut
     cases kq with
     | zero => exact absurd HA.out (by simp [card_Parse.j1])
     | succ kj15 =>
      have H := HA.out
      clear HA
      simp only [card_Parse.j1] at H
      by_cases c18 : x33_15 = true
      ·subst c18
       have H1 : ((strings_Cut.f x5_1 (⟨#[32, 124, 32]⟩ : ByteArray)).bind fun bt538 => ((effect_Parse.f bt538.1).bind fun bt541 => (if bt541.2.2.2.2.2.2.2.2 = 0 then (if x538008_1.length < 3518437208883 then (card_Parse.l0 kj15 a0 bt538.2.1 bt538.2.2 (decide ((x538008_1.length : Int) < 4)) t525 t526 t527 t528 t529 t530 t531 t532 (x538008_1 ++ [(⟨bt541.1, bt541.2.1, bt541.2.2.1, bt541.2.2.2.1, bt541.2.2.2.2.1, bt541.2.2.2.2.2.1, bt541.2.2.2.2.2.2.1, bt541.2.2.2.2.2.2.2.1⟩ : S48)])) else (none)) else (if x538008_1.length < 3518437208883 then (card_Parse.l0 kj15 a0 bt538.2.1 bt538.2.2 false t525 t526 t527 t528 t529 t530 t531 t532 (x538008_1 ++ [(⟨bt541.1, bt541.2.1, bt541.2.2.1, bt541.2.2.2.1, bt541.2.2.2.2.1, bt541.2.2.2.2.2.1, bt541.2.2.2.2.2.2.1, bt541.2.2.2.2.2.2.2.1⟩ : S48)])) else (none))))) = some (r1, r2, r3, r4, r5, r6, r7, r8, r9, r10) := by rw [if_pos rfl] at H; exact H
       clear H
       have H := H1
       clear H1
       replace H := Option.bind_eq_some_iff.mp H
       obtain ⟨⟨t538, t539, t540⟩, A190, H⟩ := H
       replace H : ((effect_Parse.f t538).bind fun bt541 => (if bt541.2.2.2.2.2.2.2.2 = 0 then (if x538008_1.length < 3518437208883 then (card_Parse.l0 kj15 a0 t539 t540 (decide ((x538008_1.length : Int) < 4)) t525 t526 t527 t528 t529 t530 t531 t532 (x538008_1 ++ [(⟨bt541.1, bt541.2.1, bt541.2.2.1, bt541.2.2.2.1, bt541.2.2.2.2.1, bt541.2.2.2.2.2.1, bt541.2.2.2.2.2.2.1, bt541.2.2.2.2.2.2.2.1⟩ : S48)])) else (none)) else (if x538008_1.length < 3518437208883 then (card_Parse.l0 kj15 a0 t539 t540 false t525 t526 t527 t528 t529 t530 t531 t532 (x538008_1 ++ [(⟨bt541.1, bt541.2.1, bt541.2.2.1, bt541.2.2.2.1, bt541.2.2.2.2.1, bt541.2.2.2.2.2.1, bt541.2.2.2.2.2.2.1, bt541.2.2.2.2.2.2.2.1⟩ : S48)])) else (none)))) = some (r1, r2, r3, r4, r5, r6, r7, r8, r9, r10) := H
       have A19 := Aside0.mk A190
       clear A190
       replace H := Option.bind_eq_some_iff.mp H
       obtain ⟨⟨t541, t542, t543, t544, t545, t546, t547, t548, t549⟩, A200, H⟩ := H
       replace H : (if t549 = 0 then (if x538008_1.length < 3518437208883 then (card_Parse.l0 kj15 a0 t539 t540 (decide ((x538008_1.length : Int) < 4)) t525 t526 t527 t528 t529 t530 t531 t532 (x538008_1 ++ [(⟨t541, t542, t543, t544, t545, t546, t547, t548⟩ : S48)])) else (none)) else (if x538008_1.length < 3518437208883 then (card_Parse.l0 kj15 a0 t539 t540 false t525 t526 t527 t528 t529 t530 t531 t532 (x538008_1 ++ [(⟨t541, t542, t543, t544, t545, t546, t547, t548⟩ : S48)])) else (none))) = some (r1, r2, r3, r4, r5, r6, r7, r8, r9, r10) := H
       have A20 := Aside0.mk A200
       clear A200
       by_cases c21 : t549 = 0
       ·rw [if_pos c21] at H
        have c21b0 : (t549 == 0) = true := beq_iff_eq.mpr c21
        have c21b1 : (t549 != 0) = false := bne_eq_false_iff_eq.mpr c21
        clear c21
        by_cases c22 : x538008_1.length < 3518437208883
        ·rw [if_pos c22] at H
         have LMc22 := Aside0.mk c22
         clear c22
         obtain ⟨y551, hy551⟩ : ∃ y_ : List (S48), y_ = (x538008_1 ++ [(⟨t541, t542, t543, t544, t545, t546, t547, t548⟩ : S48)]) := ⟨_, rfl⟩
         replace H : (card_Parse.l0 kj15 a0 t539 t540 (decide ((x538008_1.length : Int) < 4)) t525 t526 t527 t528 t529 t530 t531 t532 y551) = some (r1, r2, r3, r4, r5, r6, r7, r8, r9, r10) := by first | (rw [hy551]; with_reducible exact H) | (have H2_ := (Option.bind_some _ _).symm.trans H; rw [hy551]; with_reducible exact H2_) | (have H2_ := (Option.bind_some _ _).symm.trans H; with_reducible exact H2_) | with_reducible exact H | (rw [hy551]; exact H) | exact H
         have Ny551 := Aside0.mk hy551
         clear hy551
         have H' := Aside0.mk H
         clear H
         go_wp2_with (first | ((with_reducible refine gate_callee (f := 69) rfl ?_); refine goesL_ (some 36) rfl rfl Tryz.func69 (by kernel_rfl) rfl #[.string x5_1, .string (⟨#[32, 124, 32]⟩ : ByteArray)] rfl Zl ?_; (with_reducible refine (strings_Cut.calls x5_1 (⟨#[32, 124, 32]⟩ : ByteArray) t538 t539 t540 _ ?side1 A19.out).mono ?_); (case side1 => first | (with_reducible exact HGP.out) | exact GP_below HGP.out (Zb2 GE518.out GE537.out)); rintro e w' ⟨rfl, ⟨nd, rfl⟩⟩; refine ⟨_, rfl, ?_⟩; (try (rw [drewN_self wc]; generalize hq_ : World.drewN wc _ = wc; have n0_ : Aside0 (Kd.R k48 48 wc w.heap.size (fun _ => True) u538008 x538008_1) := ⟨by rw [← hq_]; exact (Zr HO_538008.out)⟩; have n1_ : Aside0 (wc.heap[gb518]? = some (.cells #[.string (⟨#[]⟩ : ByteArray), .int .u8 0, .int .u8 0, .int .i64 0, .int .i64 0, .int .i64 0, .int .u16 0, .bool false, .slice none 0 0] 28 (0, 0))) := ⟨by rw [← hq_]; exact (Zk BK518.out)⟩; have n2_ : Aside0 (wc.heap[gb537]? = some (.cells #[.string t525, .int .u8 t526, .int .u8 t527, .int .i64 t528, .int .i64 t529, .int .i64 t530, .int .u16 t531, .bool t532, u538008] 28 (0, 0))) := ⟨by rw [← hq_]; exact (Zk BK537.out)⟩; have n3_ : Aside0 (Below w.heap.size w wc) := ⟨by rw [← hq_]; exact (Zb2 GE518.out GE537.out)⟩; clear HO_538008 BK518 BK537 HB hq_; have HO_538008 := n0_; have BK518 := n1_; have BK537 := n2_; have HB := n3_; clear n0_ n1_ n2_ n3_))) | ((with_reducible refine gate_callee (f := 20) rfl ?_); refine goesL_ (some 42) rfl rfl Tryz.func20 (by kernel_rfl) rfl #[.string t538] rfl Zl ?_; (with_reducible refine (effect_Parse.calls t538 t541 t542 t543 t544 t545 t546 t547 t548 t549 _ ?side1 A20.out).mono ?_); (case side1 => first | (with_reducible exact HGP.out) | exact GP_below HGP.out (Zb2 GE518.out GE537.out)); rintro e w23 ⟨rfl, hb⟩; refine ⟨_, rfl, ?_⟩; replace HO_538008 := Aside0.mk (Kd.R_below (Zr HO_538008.out) hb); replace BK518 := Aside0.mk (blk_below (Zj BK518.out) hb); replace BK537 := Aside0.mk (blk_below (Zj BK537.out) hb); replace HB := Aside0.mk (below_step (Zb2 GE518.out GE537.out) hb); (try clear hb); (try clear hb2); (try clear hk); (try clear hi)) | ((with_reducible refine gate_dst (N := 10) rfl ?_); (try (refine gate_guard (by rfl) ?_; dsimp only)); refine box_event ?hg (N := 10) ?hd (cs := #[.int .u8 0, .int .u8 0, .int .u8 0, .int .i64 0, .int .u8 0, .int .u8 0, .int .u8 0, .string (⟨#[]⟩ : ByteArray)]) (t := 48) ?hr ?_; (case hd => rfl); (case hg => rfl); (case hr => first | (go_simp; done) | (go_simp; rfl)); intro gb550 hg w24 hbox hb; replace HO_538008 := Aside0.mk (Kd.R_below (Kd.R_elderB (Zr HO_538008.out) gb550 (Nat.le_of_eq hg.symm)) hb); have BK550 := Aside0.mk (hbox); have GW550 := Aside0.mk ((by rw [hg]; exact (below_size (Zb2 GE518.out GE537.out)) : w.heap.size ≤ gb550)); have GE550 := Aside0.mk ((by rw [hg]; exact (below_size (Zb2 GE518.out GE537.out)) : w.heap.size ≤ gb550)); replace HB := Aside0.mk (below_step (Zb2 GE518.out GE537.out) hb); have NB518_550 := Aside0.mk ((by rw [hg]; exact Nat.ne_of_lt (blk_lt (Zj BK518.out)) : gb518 ≠ gb550)); have NB550_518 := Aside0.mk ((by rw [hg]; exact Nat.ne_of_gt (blk_lt (Zj BK518.out)) : gb550 ≠ gb518)); replace BK518 := Aside0.mk (blk_below (Zj BK518.out) hb); have NB537_550 := Aside0.mk ((by rw [hg]; exact Nat.ne_of_lt (blk_lt (Zj BK537.out)) : gb537 ≠ gb550)); have NB550_537 := Aside0.mk ((by rw [hg]; exact Nat.ne_of_gt (blk_lt (Zj BK537.out)) : gb550 ≠ gb537)); replace BK537 := Aside0.mk (blk_below (Zj BK537.out) hb); clear hb hbox hg; have hnb25 := NB550_518.out; have hnc25 := NB518_550.out; have hnb26 := NB550_537.out; have hnc26 := NB537_550.out; obtain ⟨hcz27_0, hcz27_1, hcz27_2, hcz27_3, hcz27_4, hcz27_5, hcz27_6, hcz27_7, hfz27_0, hfz27_1, hfz27_2, hfz27_3, hfz27_4, hfz27_5, hfz27_6, hfz27_7⟩ := Z8 BK550.out; have hnb28 := NB537_518.out; have hnc28 := NB518_537.out; obtain ⟨hcz29_0, hcz29_1, hcz29_2, hcz29_3, hcz29_4, hcz29_5, hcz29_6, hcz29_7, hcz29_8, hfz29_0, hfz29_1, hfz29_2, hfz29_3, hfz29_4, hfz29_5, hfz29_6, hfz29_7, hfz29_8⟩ := Z9 BK537.out; obtain ⟨Ao30, co30, eo30⟩ := Kd.R_slice HO_538008.out; subst eo30) | ((with_reducible refine gate_builtin (b := .append) (xs := #[.tmp 54, .tmp 56]) rfl ?_); (try (refine gate_guard (by rfl) ?_; dsimp only)); at_builtin; refine Kd.R_append k48 (w0 := w) w.heap.size rfl (.tmp 54) (.tmp 56) 26 48 (.agg #[(.int .u8 0), (.int .u8 0), (.int .u8 0), (.int .i64 0), (.int .u8 0), (.int .u8 0), (.int .u8 0), (.string ⟨#[]⟩)]) 40 rfl Tryz.underlying26 info48 rfl (by decide) (by omega) (.slice Ao30 x538008_1.length co30) x538008_1 (⟨t541, t542, t543, t544, t545, t546, t547, t548⟩ : S48) [.int .u8 t541, .int .u8 t542, .int .u8 t543, .int .i64 t544, .int .u8 t545, .int .u8 t546, .int .u8 t547, .string t548] (fun k_ => k_ ≠ gb550) (fun _ => False) rfl (by first | (go_simp; done) | (go_simp; rfl)) ?aP (fun _ hk => hk.elim) ?aF ?aO ?aB ?aS ?aL ?_; (case aP => exact k48_mkM _ _ _ (⟨t541, t542, t543, t544, t545, t546, t547, t548⟩ : S48)); (case aB => exact (Zb3 GE518.out GE537.out GE550.out)); (case aF => exact (fun k_ hk => Kd.freshB (g := gb550) (o := .cells #[.int .u8 t541, .int .u8 t542, .int .u8 t543, .int .i64 t544, .int .u8 t545, .int .u8 t546, .int .u8 t547, .string t548] 48 (0, 0)) (by (with_reducible repeat (first | apply blk_kn | apply blk_kd | apply blk_ka)); refine blk_put (cs := #[.int .u8 t541, .int .u8 t542, .int .u8 t543, .int .i64 t544, .int .u8 t545, .int .u8 t546, .int .u8 t547, .string (⟨#[]⟩ : ByteArray)]) ?_ 7 _ rfl; (with_reducible repeat (first | apply blk_kn | apply blk_kd | apply blk_ka)); refine blk_put (cs := #[.int .u8 t541, .int .u8 t542, .int .u8 t543, .int .i64 t544, .int .u8 t545, .int .u8 t546, .int .u8 0, .string (⟨#[]⟩ : ByteArray)]) ?_ 6 _ rfl; (with_reducible repeat (first | apply blk_kn | apply blk_kd | apply blk_ka)); refine blk_put (cs := #[.int .u8 t541, .int .u8 t542, .int .u8 t543, .int .i64 t544, .int .u8 t545, .int .u8 0, .int .u8 0, .string (⟨#[]⟩ : ByteArray)]) ?_ 5 _ rfl; (with_reducible repeat (first | apply blk_kn | apply blk_kd | apply blk_ka)); refine blk_put (cs := #[.int .u8 t541, .int .u8 t542, .int .u8 t543, .int .i64 t544, .int .u8 0, .int .u8 0, .int .u8 0, .string (⟨#[]⟩ : ByteArray)]) ?_ 4 _ rfl; (with_reducible repeat (first | apply blk_kn | apply blk_kd | apply blk_ka)); refine blk_put (cs := #[.int .u8 t541, .int .u8 t542, .int .u8 t543, .int .i64 0, .int .u8 0, .int .u8 0, .int .u8 0, .string (⟨#[]⟩ : ByteArray)]) ?_ 3 _ rfl; (with_reducible repeat (first | apply blk_kn | apply blk_kd | apply blk_ka)); refine blk_put (cs := #[.int .u8 t541, .int .u8 t542, .int .u8 0, .int .i64 0, .int .u8 0, .int .u8 0, .int .u8 0, .string (⟨#[]⟩ : ByteArray)]) ?_ 2 _ rfl; (with_reducible repeat (first | apply blk_kn | apply blk_kd | apply blk_ka)); refine blk_put (cs := #[.int .u8 t541, .int .u8 0, .int .u8 0, .int .i64 0, .int .u8 0, .int .u8 0, .int .u8 0, .string (⟨#[]⟩ : ByteArray)]) ?_ 1 _ rfl; (with_reducible repeat (first | apply blk_kn | apply blk_kd | apply blk_ka)); refine blk_put (cs := #[.int .u8 0, .int .u8 0, .int .u8 0, .int .i64 0, .int .u8 0, .int .u8 0, .int .u8 0, .string (⟨#[]⟩ : ByteArray)]) ?_ 0 _ rfl; exact Zk BK550.out) k_ hk)); (case aO => exact (by (with_reducible repeat (first | apply Kd.R_alloc | apply Kd.R_drewN | apply Kd.R_drew)); exact Kd.R_mono (Kd.R_far (p := ⟨gb550, 7, none⟩) (Kd.R_far (p := ⟨gb550, 6, none⟩) (Kd.R_far (p := ⟨gb550, 5, none⟩) (Kd.R_far (p := ⟨gb550, 4, none⟩) (Kd.R_far (p := ⟨gb550, 3, none⟩) (Kd.R_far (p := ⟨gb550, 2, none⟩) (Kd.R_far (p := ⟨gb550, 1, none⟩) (Kd.R_far (p := ⟨gb550, 0, none⟩) (Kd.R_mono HO_538008.out (fun k_ hk => (⟨hk, hk.2⟩ : _ ∧ k_ ≠ gb550))) Zg (.int .u8 t541)) Zg (.int .u8 t542)) Zg (.int .u8 t543)) Zg (.int .i64 t544)) Zg (.int .u8 t545)) Zg (.int .u8 t546)) Zg (.int .u8 t547)) Zg (.string t548)) (fun _ hk => hk.1.2))); (case aS => exact (below_size (Zb3 GE518.out GE537.out GE550.out))); (case aL => have := LMc22.out; omega); intro v552 w31 ho hb hg hat; rw [← Ny551.out] at ho; replace BK518 := Aside0.mk (blk_grown (g := gb518) (o := .cells #[.string (⟨#[]⟩ : ByteArray), .int .u8 0, .int .u8 0, .int .i64 0, .int .i64 0, .int .i64 0, .int .u16 0, .bool false, .slice none 0 0] 28 (0, 0)) (by (with_reducible repeat (first | apply blk_kn | apply blk_kd | apply blk_ka)); refine blk_far ?_ NB518_550.out _; (with_reducible repeat (first | apply blk_kn | apply blk_kd | apply blk_ka)); refine blk_far ?_ NB518_550.out _; (with_reducible repeat (first | apply blk_kn | apply blk_kd | apply blk_ka)); refine blk_far ?_ NB518_550.out _; (with_reducible repeat (first | apply blk_kn | apply blk_kd | apply blk_ka)); refine blk_far ?_ NB518_550.out _; (with_reducible repeat (first | apply blk_kn | apply blk_kd | apply blk_ka)); refine blk_far ?_ NB518_550.out _; (with_reducible repeat (first | apply blk_kn | apply blk_kd | apply blk_ka)); refine blk_far ?_ NB518_550.out _; (with_reducible repeat (first | apply blk_kn | apply blk_kd | apply blk_ka)); refine blk_far ?_ NB518_550.out _; (with_reducible repeat (first | apply blk_kn | apply blk_kd | apply blk_ka)); refine blk_far ?_ NB518_550.out _; exact Zk BK518.out) hg (Kd.R_ne HO_538008.out BK518.out (by decide))); replace BK537 := Aside0.mk (blk_grown (g := gb537) (o := .cells #[.string t525, .int .u8 t526, .int .u8 t527, .int .i64 t528, .int .i64 t529, .int .i64 t530, .int .u16 t531, .bool t532, .slice Ao30 x538008_1.length co30] 28 (0, 0)) (by (with_reducible repeat (first | apply blk_kn | apply blk_kd | apply blk_ka)); refine blk_far ?_ NB537_550.out _; (with_reducible repeat (first | apply blk_kn | apply blk_kd | apply blk_ka)); refine blk_far ?_ NB537_550.out _; (with_reducible repeat (first | apply blk_kn | apply blk_kd | apply blk_ka)); refine blk_far ?_ NB537_550.out _; (with_reducible repeat (first | apply blk_kn | apply blk_kd | apply blk_ka)); refine blk_far ?_ NB537_550.out _; (with_reducible repeat (first | apply blk_kn | apply blk_kd | apply blk_ka)); refine blk_far ?_ NB537_550.out _; (with_reducible repeat (first | apply blk_kn | apply blk_kd | apply blk_ka)); refine blk_far ?_ NB537_550.out _; (with_reducible repeat (first | apply blk_kn | apply blk_kd | apply blk_ka)); refine blk_far ?_ NB537_550.out _; (with_reducible repeat (first | apply blk_kn | apply blk_kd | apply blk_ka)); refine blk_far ?_ NB537_550.out _; exact Zk BK537.out) hg (Kd.R_ne HO_538008.out BK537.out (by decide))); replace BK550 := Aside0.mk (blk_grown (g := gb550) (o := .cells #[.int .u8 t541, .int .u8 t542, .int .u8 t543, .int .i64 t544, .int .u8 t545, .int .u8 t546, .int .u8 t547, .string t548] 48 (0, 0)) (by (with_reducible repeat (first | apply blk_kn | apply blk_kd | apply blk_ka)); refine blk_put (cs := #[.int .u8 t541, .int .u8 t542, .int .u8 t543, .int .i64 t544, .int .u8 t545, .int .u8 t546, .int .u8 t547, .string (⟨#[]⟩ : ByteArray)]) ?_ 7 _ rfl; (with_reducible repeat (first | apply blk_kn | apply blk_kd | apply blk_ka)); refine blk_put (cs := #[.int .u8 t541, .int .u8 t542, .int .u8 t543, .int .i64 t544, .int .u8 t545, .int .u8 t546, .int .u8 0, .string (⟨#[]⟩ : ByteArray)]) ?_ 6 _ rfl; (with_reducible repeat (first | apply blk_kn | apply blk_kd | apply blk_ka)); refine blk_put (cs := #[.int .u8 t541, .int .u8 t542, .int .u8 t543, .int .i64 t544, .int .u8 t545, .int .u8 0, .int .u8 0, .string (⟨#[]⟩ : ByteArray)]) ?_ 5 _ rfl; (with_reducible repeat (first | apply blk_kn | apply blk_kd | apply blk_ka)); refine blk_put (cs := #[.int .u8 t541, .int .u8 t542, .int .u8 t543, .int .i64 t544, .int .u8 0, .int .u8 0, .int .u8 0, .string (⟨#[]⟩ : ByteArray)]) ?_ 4 _ rfl; (with_reducible repeat (first | apply blk_kn | apply blk_kd | apply blk_ka)); refine blk_put (cs := #[.int .u8 t541, .int .u8 t542, .int .u8 t543, .int .i64 0, .int .u8 0, .int .u8 0, .int .u8 0, .string (⟨#[]⟩ : ByteArray)]) ?_ 3 _ rfl; (with_reducible repeat (first | apply blk_kn | apply blk_kd | apply blk_ka)); refine blk_put (cs := #[.int .u8 t541, .int .u8 t542, .int .u8 0, .int .i64 0, .int .u8 0, .int .u8 0, .int .u8 0, .string (⟨#[]⟩ : ByteArray)]) ?_ 2 _ rfl; (with_reducible repeat (first | apply blk_kn | apply blk_kd | apply blk_ka)); refine blk_put (cs := #[.int .u8 t541, .int .u8 0, .int .u8 0, .int .i64 0, .int .u8 0, .int .u8 0, .int .u8 0, .string (⟨#[]⟩ : ByteArray)]) ?_ 1 _ rfl; (with_reducible repeat (first | apply blk_kn | apply blk_kd | apply blk_ka)); refine blk_put (cs := #[.int .u8 0, .int .u8 0, .int .u8 0, .int .i64 0, .int .u8 0, .int .u8 0, .int .u8 0, .string (⟨#[]⟩ : ByteArray)]) ?_ 0 _ rfl; exact Zk BK550.out) hg (Kd.R_away HO_538008.out Zg)); replace HB := Aside0.mk (hb); have HO553 := Aside0.mk (ho); clear HO_538008 ho hb hg hat; obtain ⟨Ao32, co32, eo32⟩ := Kd.R_slice HO553.out; subst eo32; obtain ⟨hcz33_0, hcz33_1, hcz33_2, hcz33_3, hcz33_4, hcz33_5, hcz33_6, hcz33_7, hcz33_8, hfz33_0, hfz33_1, hfz33_2, hfz33_3, hfz33_4, hfz33_5, hfz33_6, hfz33_7, hfz33_8⟩ := Z9 BK537.out))
         go_roundg kj15
         case measure => have := HK1.out; have := HJ15.out; omega
         case rel => exact ⟨(t539), (t540), (decide ((x538008_1.length : Int) < 4)), (y551), (.slice Ao32 y551.length co32), Zs, Zs, Zs, H', ⟨by have := HK1.out; have := HJ15.out; omega⟩, ⟨by (with_reducible repeat (first | apply Kd.R_alloc | apply Kd.R_drewN | apply Kd.R_drew)); exact Kd.R_mono (Kd.R_far (p := ⟨gb537, 8, none⟩) (Kd.R_types HO553.out BK537.out (by decide)) Zg (.slice Ao32 y551.length co32)) (fun _ hk => trivial)⟩, ⟨by (with_reducible repeat (first | apply blk_kn | apply blk_kd | apply blk_ka)); refine blk_far ?_ NB518_537.out _; exact Zk BK518.out⟩, ⟨by (with_reducible repeat (first | apply blk_kn | apply blk_kd | apply blk_ka)); refine blk_put (cs := #[.string t525, .int .u8 t526, .int .u8 t527, .int .i64 t528, .int .i64 t529, .int .i64 t530, .int .u16 t531, .bool t532, .slice Ao30 x538008_1.length co30]) ?_ 8 _ rfl; exact Zk BK537.out⟩, ⟨Zb3 GE518.out GE537.out GE550.out⟩⟩
        ·rw [if_neg c22] at H
         exact absurd H (by simp)
       ·rw [if_neg c21] at H
        have c21b0 : (t549 == 0) = false := beq_eq_false_iff_ne.mpr c21
        have c21b1 : (t549 != 0) = true := bne_iff_ne.mpr c21
        by_cases c34 : x538008_1.length < 3518437208883
        ·rw [if_pos c34] at H
         have LMc34 := Aside0.mk c34
         clear c34
         obtain ⟨y554, hy554⟩ : ∃ y_ : List (S48), y_ = (x538008_1 ++ [(⟨t541, t542, t543, t544, t545, t546, t547, t548⟩ : S48)]) := ⟨_, rfl⟩
         replace H : (card_Parse.l0 kj15 a0 t539 t540 false t525 t526 t527 t528 t529 t530 t531 t532 y554) = some (r1, r2, r3, r4, r5, r6, r7, r8, r9, r10) := by first | (rw [hy554]; with_reducible exact H) | (have H2_ := (Option.bind_some _ _).symm.trans H; rw [hy554]; with_reducible exact H2_) | (have H2_ := (Option.bind_some _ _).symm.trans H; with_reducible exact H2_) | with_reducible exact H | (rw [hy554]; exact H) | exact H
         have Ny554 := Aside0.mk hy554
         clear hy554
         have H' := Aside0.mk H
         clear H
         go_wp2_with (first | ((with_reducible refine gate_callee (f := 69) rfl ?_); refine goesL_ (some 36) rfl rfl Tryz.func69 (by kernel_rfl) rfl #[.string x5_1, .string (⟨#[32, 124, 32]⟩ : ByteArray)] rfl Zl ?_; (with_reducible refine (strings_Cut.calls x5_1 (⟨#[32, 124, 32]⟩ : ByteArray) t538 t539 t540 _ ?side1 A19.out).mono ?_); (case side1 => first | (with_reducible exact HGP.out) | exact GP_below HGP.out (Zb2 GE518.out GE537.out)); rintro e w' ⟨rfl, ⟨nd, rfl⟩⟩; refine ⟨_, rfl, ?_⟩; (try (rw [drewN_self wc]; generalize hq_ : World.drewN wc _ = wc; have n0_ : Aside0 (Kd.R k48 48 wc w.heap.size (fun _ => True) u538008 x538008_1) := ⟨by rw [← hq_]; exact (Zr HO_538008.out)⟩; have n1_ : Aside0 (wc.heap[gb518]? = some (.cells #[.string (⟨#[]⟩ : ByteArray), .int .u8 0, .int .u8 0, .int .i64 0, .int .i64 0, .int .i64 0, .int .u16 0, .bool false, .slice none 0 0] 28 (0, 0))) := ⟨by rw [← hq_]; exact (Zk BK518.out)⟩; have n2_ : Aside0 (wc.heap[gb537]? = some (.cells #[.string t525, .int .u8 t526, .int .u8 t527, .int .i64 t528, .int .i64 t529, .int .i64 t530, .int .u16 t531, .bool t532, u538008] 28 (0, 0))) := ⟨by rw [← hq_]; exact (Zk BK537.out)⟩; have n3_ : Aside0 (Below w.heap.size w wc) := ⟨by rw [← hq_]; exact (Zb2 GE518.out GE537.out)⟩; clear HO_538008 BK518 BK537 HB hq_; have HO_538008 := n0_; have BK518 := n1_; have BK537 := n2_; have HB := n3_; clear n0_ n1_ n2_ n3_))) | ((with_reducible refine gate_callee (f := 20) rfl ?_); refine goesL_ (some 42) rfl rfl Tryz.func20 (by kernel_rfl) rfl #[.string t538] rfl Zl ?_; (with_reducible refine (effect_Parse.calls t538 t541 t542 t543 t544 t545 t546 t547 t548 t549 _ ?side1 A20.out).mono ?_); (case side1 => first | (with_reducible exact HGP.out) | exact GP_below HGP.out (Zb2 GE518.out GE537.out)); rintro e w35 ⟨rfl, hb⟩; refine ⟨_, rfl, ?_⟩; replace HO_538008 := Aside0.mk (Kd.R_below (Zr HO_538008.out) hb); replace BK518 := Aside0.mk (blk_below (Zj BK518.out) hb); replace BK537 := Aside0.mk (blk_below (Zj BK537.out) hb); replace HB := Aside0.mk (below_step (Zb2 GE518.out GE537.out) hb); (try clear hb); (try clear hb2); (try clear hk); (try clear hi)) | ((with_reducible refine gate_dst (N := 10) rfl ?_); (try (refine gate_guard (by rfl) ?_; dsimp only)); refine box_event ?hg (N := 10) ?hd (cs := #[.int .u8 0, .int .u8 0, .int .u8 0, .int .i64 0, .int .u8 0, .int .u8 0, .int .u8 0, .string (⟨#[]⟩ : ByteArray)]) (t := 48) ?hr ?_; (case hd => rfl); (case hg => rfl); (case hr => first | (go_simp; done) | (go_simp; rfl)); intro gb550 hg w36 hbox hb; replace HO_538008 := Aside0.mk (Kd.R_below (Kd.R_elderB (Zr HO_538008.out) gb550 (Nat.le_of_eq hg.symm)) hb); have BK550 := Aside0.mk (hbox); have GW550 := Aside0.mk ((by rw [hg]; exact (below_size (Zb2 GE518.out GE537.out)) : w.heap.size ≤ gb550)); have GE550 := Aside0.mk ((by rw [hg]; exact (below_size (Zb2 GE518.out GE537.out)) : w.heap.size ≤ gb550)); replace HB := Aside0.mk (below_step (Zb2 GE518.out GE537.out) hb); have NB518_550 := Aside0.mk ((by rw [hg]; exact Nat.ne_of_lt (blk_lt (Zj BK518.out)) : gb518 ≠ gb550)); have NB550_518 := Aside0.mk ((by rw [hg]; exact Nat.ne_of_gt (blk_lt (Zj BK518.out)) : gb550 ≠ gb518)); replace BK518 := Aside0.mk (blk_below (Zj BK518.out) hb); have NB537_550 := Aside0.mk ((by rw [hg]; exact Nat.ne_of_lt (blk_lt (Zj BK537.out)) : gb537 ≠ gb550)); have NB550_537 := Aside0.mk ((by rw [hg]; exact Nat.ne_of_gt (blk_lt (Zj BK537.out)) : gb550 ≠ gb537)); replace BK537 := Aside0.mk (blk_below (Zj BK537.out) hb); clear hb hbox hg; have hnb37 := NB550_518.out; have hnc37 := NB518_550.out; have hnb38 := NB550_537.out; have hnc38 := NB537_550.out; obtain ⟨hcz39_0, hcz39_1, hcz39_2, hcz39_3, hcz39_4, hcz39_5, hcz39_6, hcz39_7, hfz39_0, hfz39_1, hfz39_2, hfz39_3, hfz39_4, hfz39_5, hfz39_6, hfz39_7⟩ := Z8 BK550.out; have hnb40 := NB537_518.out; have hnc40 := NB518_537.out; obtain ⟨hcz41_0, hcz41_1, hcz41_2, hcz41_3, hcz41_4, hcz41_5, hcz41_6, hcz41_7, hcz41_8, hfz41_0, hfz41_1, hfz41_2, hfz41_3, hfz41_4, hfz41_5, hfz41_6, hfz41_7, hfz41_8⟩ := Z9 BK537.out) | ((with_reducible refine gate_builtin (b := .append) (xs := #[.tmp 54, .tmp 56]) rfl ?_); (try (refine gate_guard (by rfl) ?_; dsimp only)); at_builtin; refine Kd.R_append k48 (w0 := w) w.heap.size rfl (.tmp 54) (.tmp 56) 26 48 (.agg #[(.int .u8 0), (.int .u8 0), (.int .u8 0), (.int .i64 0), (.int .u8 0), (.int .u8 0), (.int .u8 0), (.string ⟨#[]⟩)]) 40 rfl Tryz.underlying26 info48 rfl (by decide) (by omega) u538008 x538008_1 (⟨t541, t542, t543, t544, t545, t546, t547, t548⟩ : S48) [.int .u8 t541, .int .u8 t542, .int .u8 t543, .int .i64 t544, .int .u8 t545, .int .u8 t546, .int .u8 t547, .string t548] (fun k_ => k_ ≠ gb550) (fun _ => False) rfl (by first | (go_simp; done) | (go_simp; rfl)) ?aP (fun _ hk => hk.elim) ?aF ?aO ?aB ?aS ?aL ?_; (case aP => exact k48_mkM _ _ _ (⟨t541, t542, t543, t544, t545, t546, t547, t548⟩ : S48)); (case aB => exact (Zb3 GE518.out GE537.out GE550.out)); (case aF => exact (fun k_ hk => Kd.freshB (g := gb550) (o := .cells #[.int .u8 t541, .int .u8 t542, .int .u8 t543, .int .i64 t544, .int .u8 t545, .int .u8 t546, .int .u8 t547, .string t548] 48 (0, 0)) (by (with_reducible repeat (first | apply blk_kn | apply blk_kd | apply blk_ka)); refine blk_put (cs := #[.int .u8 t541, .int .u8 t542, .int .u8 t543, .int .i64 t544, .int .u8 t545, .int .u8 t546, .int .u8 t547, .string (⟨#[]⟩ : ByteArray)]) ?_ 7 _ rfl; (with_reducible repeat (first | apply blk_kn | apply blk_kd | apply blk_ka)); refine blk_put (cs := #[.int .u8 t541, .int .u8 t542, .int .u8 t543, .int .i64 t544, .int .u8 t545, .int .u8 t546, .int .u8 0, .string (⟨#[]⟩ : ByteArray)]) ?_ 6 _ rfl; (with_reducible repeat (first | apply blk_kn | apply blk_kd | apply blk_ka)); refine blk_put (cs := #[.int .u8 t541, .int .u8 t542, .int .u8 t543, .int .i64 t544, .int .u8 t545, .int .u8 0, .int .u8 0, .string (⟨#[]⟩ : ByteArray)]) ?_ 5 _ rfl; (with_reducible repeat (first | apply blk_kn | apply blk_kd | apply blk_ka)); refine blk_put (cs := #[.int .u8 t541, .int .u8 t542, .int .u8 t543, .int .i64 t544, .int .u8 0, .int .u8 0, .int .u8 0, .string (⟨#[]⟩ : ByteArray)]) ?_ 4 _ rfl; (with_reducible repeat (first | apply blk_kn | apply blk_kd | apply blk_ka)); refine blk_put (cs := #[.int .u8 t541, .int .u8 t542, .int .u8 t543, .int .i64 0, .int .u8 0, .int .u8 0, .int .u8 0, .string (⟨#[]⟩ : ByteArray)]) ?_ 3 _ rfl; (with_reducible repeat (first | apply blk_kn | apply blk_kd | apply blk_ka)); refine blk_put (cs := #[.int .u8 t541, .int .u8 t542, .int .u8 0, .int .i64 0, .int .u8 0, .int .u8 0, .int .u8 0, .string (⟨#[]⟩ : ByteArray)]) ?_ 2 _ rfl; (with_reducible repeat (first | apply blk_kn | apply blk_kd | apply blk_ka)); refine blk_put (cs := #[.int .u8 t541, .int .u8 0, .int .u8 0, .int .i64 0, .int .u8 0, .int .u8 0, .int .u8 0, .string (⟨#[]⟩ : ByteArray)]) ?_ 1 _ rfl; (with_reducible repeat (first | apply blk_kn | apply blk_kd | apply blk_ka)); refine blk_put (cs := #[.int .u8 0, .int .u8 0, .int .u8 0, .int .i64 0, .int .u8 0, .int .u8 0, .int .u8 0, .string (⟨#[]⟩ : ByteArray)]) ?_ 0 _ rfl; exact Zk BK550.out) k_ hk)); (case aO => exact (by (with_reducible repeat (first | apply Kd.R_alloc | apply Kd.R_drewN | apply Kd.R_drew)); exact Kd.R_mono (Kd.R_far (p := ⟨gb550, 7, none⟩) (Kd.R_far (p := ⟨gb550, 6, none⟩) (Kd.R_far (p := ⟨gb550, 5, none⟩) (Kd.R_far (p := ⟨gb550, 4, none⟩) (Kd.R_far (p := ⟨gb550, 3, none⟩) (Kd.R_far (p := ⟨gb550, 2, none⟩) (Kd.R_far (p := ⟨gb550, 1, none⟩) (Kd.R_far (p := ⟨gb550, 0, none⟩) (Kd.R_mono HO_538008.out (fun k_ hk => (⟨hk, hk.2⟩ : _ ∧ k_ ≠ gb550))) Zg (.int .u8 t541)) Zg (.int .u8 t542)) Zg (.int .u8 t543)) Zg (.int .i64 t544)) Zg (.int .u8 t545)) Zg (.int .u8 t546)) Zg (.int .u8 t547)) Zg (.string t548)) (fun _ hk => hk.1.2))); (case aS => exact (below_size (Zb3 GE518.out GE537.out GE550.out))); (case aL => have := LMc34.out; omega); intro v555 w42 ho hb hg hat; rw [← Ny554.out] at ho; replace BK518 := Aside0.mk (blk_grown (g := gb518) (o := .cells #[.string (⟨#[]⟩ : ByteArray), .int .u8 0, .int .u8 0, .int .i64 0, .int .i64 0, .int .i64 0, .int .u16 0, .bool false, .slice none 0 0] 28 (0, 0)) (by (with_reducible repeat (first | apply blk_kn | apply blk_kd | apply blk_ka)); refine blk_far ?_ NB518_550.out _; (with_reducible repeat (first | apply blk_kn | apply blk_kd | apply blk_ka)); refine blk_far ?_ NB518_550.out _; (with_reducible repeat (first | apply blk_kn | apply blk_kd | apply blk_ka)); refine blk_far ?_ NB518_550.out _; (with_reducible repeat (first | apply blk_kn | apply blk_kd | apply blk_ka)); refine blk_far ?_ NB518_550.out _; (with_reducible repeat (first | apply blk_kn | apply blk_kd | apply blk_ka)); refine blk_far ?_ NB518_550.out _; (with_reducible repeat (first | apply blk_kn | apply blk_kd | apply blk_ka)); refine blk_far ?_ NB518_550.out _; (with_reducible repeat (first | apply blk_kn | apply blk_kd | apply blk_ka)); refine blk_far ?_ NB518_550.out _; (with_reducible repeat (first | apply blk_kn | apply blk_kd | apply blk_ka)); refine blk_far ?_ NB518_550.out _; exact Zk BK518.out) hg (Kd.R_ne HO_538008.out BK518.out (by decide))); replace BK537 := Aside0.mk (blk_grown (g := gb537) (o := .cells #[.string t525, .int .u8 t526, .int .u8 t527, .int .i64 t528, .int .i64 t529, .int .i64 t530, .int .u16 t531, .bool t532, u538008] 28 (0, 0)) (by (with_reducible repeat (first | apply blk_kn | apply blk_kd | apply blk_ka)); refine blk_far ?_ NB537_550.out _; (with_reducible repeat (first | apply blk_kn | apply blk_kd | apply blk_ka)); refine blk_far ?_ NB537_550.out _; (with_reducible repeat (first | apply blk_kn | apply blk_kd | apply blk_ka)); refine blk_far ?_ NB537_550.out _; (with_reducible repeat (first | apply blk_kn | apply blk_kd | apply blk_ka)); refine blk_far ?_ NB537_550.out _; (with_reducible repeat (first | apply blk_kn | apply blk_kd | apply blk_ka)); refine blk_far ?_ NB537_550.out _; (with_reducible repeat (first | apply blk_kn | apply blk_kd | apply blk_ka)); refine blk_far ?_ NB537_550.out _; (with_reducible repeat (first | apply blk_kn | apply blk_kd | apply blk_ka)); refine blk_far ?_ NB537_550.out _; (with_reducible repeat (first | apply blk_kn | apply blk_kd | apply blk_ka)); refine blk_far ?_ NB537_550.out _; exact Zk BK537.out) hg (Kd.R_ne HO_538008.out BK537.out (by decide))); replace BK550 := Aside0.mk (blk_grown (g := gb550) (o := .cells #[.int .u8 t541, .int .u8 t542, .int .u8 t543, .int .i64 t544, .int .u8 t545, .int .u8 t546, .int .u8 t547, .string t548] 48 (0, 0)) (by (with_reducible repeat (first | apply blk_kn | apply blk_kd | apply blk_ka)); refine blk_put (cs := #[.int .u8 t541, .int .u8 t542, .int .u8 t543, .int .i64 t544, .int .u8 t545, .int .u8 t546, .int .u8 t547, .string (⟨#[]⟩ : ByteArray)]) ?_ 7 _ rfl; (with_reducible repeat (first | apply blk_kn | apply blk_kd | apply blk_ka)); refine blk_put (cs := #[.int .u8 t541, .int .u8 t542, .int .u8 t543, .int .i64 t544, .int .u8 t545, .int .u8 t546, .int .u8 0, .string (⟨#[]⟩ : ByteArray)]) ?_ 6 _ rfl; (with_reducible repeat (first | apply blk_kn | apply blk_kd | apply blk_ka)); refine blk_put (cs := #[.int .u8 t541, .int .u8 t542, .int .u8 t543, .int .i64 t544, .int .u8 t545, .int .u8 0, .int .u8 0, .string (⟨#[]⟩ : ByteArray)]) ?_ 5 _ rfl; (with_reducible repeat (first | apply blk_kn | apply blk_kd | apply blk_ka)); refine blk_put (cs := #[.int .u8 t541, .int .u8 t542, .int .u8 t543, .int .i64 t544, .int .u8 0, .int .u8 0, .int .u8 0, .string (⟨#[]⟩ : ByteArray)]) ?_ 4 _ rfl; (with_reducible repeat (first | apply blk_kn | apply blk_kd | apply blk_ka)); refine blk_put (cs := #[.int .u8 t541, .int .u8 t542, .int .u8 t543, .int .i64 0, .int .u8 0, .int .u8 0, .int .u8 0, .string (⟨#[]⟩ : ByteArray)]) ?_ 3 _ rfl; (with_reducible repeat (first | apply blk_kn | apply blk_kd | apply blk_ka)); refine blk_put (cs := #[.int .u8 t541, .int .u8 t542, .int .u8 0, .int .i64 0, .int .u8 0, .int .u8 0, .int .u8 0, .string (⟨#[]⟩ : ByteArray)]) ?_ 2 _ rfl; (with_reducible repeat (first | apply blk_kn | apply blk_kd | apply blk_ka)); refine blk_put (cs := #[.int .u8 t541, .int .u8 0, .int .u8 0, .int .i64 0, .int .u8 0, .int .u8 0, .int .u8 0, .string (⟨#[]⟩ : ByteArray)]) ?_ 1 _ rfl; (with_reducible repeat (first | apply blk_kn | apply blk_kd | apply blk_ka)); refine blk_put (cs := #[.int .u8 0, .int .u8 0, .int .u8 0, .int .i64 0, .int .u8 0, .int .u8 0, .int .u8 0, .string (⟨#[]⟩ : ByteArray)]) ?_ 0 _ rfl; exact Zk BK550.out) hg (Kd.R_away HO_538008.out Zg)); replace HB := Aside0.mk (hb); have HO556 := Aside0.mk (ho); clear HO_538008 ho hb hg hat; obtain ⟨Ao43, co43, eo43⟩ := Kd.R_slice HO556.out; subst eo43; obtain ⟨hcz44_0, hcz44_1, hcz44_2, hcz44_3, hcz44_4, hcz44_5, hcz44_6, hcz44_7, hcz44_8, hfz44_0, hfz44_1, hfz44_2, hfz44_3, hfz44_4, hfz44_5, hfz44_6, hfz44_7, hfz44_8⟩ := Z9 BK537.out))
         go_roundg kj15
         case measure => have := HK1.out; have := HJ15.out; omega
         case rel => exact ⟨(t539), (t540), (false), (y554), (.slice Ao43 y554.length co43), Zs, Zs, Zs, H', ⟨by have := HK1.out; have := HJ15.out; omega⟩, ⟨by (with_reducible repeat (first | apply Kd.R_alloc | apply Kd.R_drewN | apply Kd.R_drew)); exact Kd.R_mono (Kd.R_far (p := ⟨gb537, 8, none⟩) (Kd.R_types HO556.out BK537.out (by decide)) Zg (.slice Ao43 y554.length co43)) (fun _ hk => trivial)⟩, ⟨by (with_reducible repeat (first | apply blk_kn | apply blk_kd | apply blk_ka)); refine blk_far ?_ NB518_537.out _; exact Zk BK518.out⟩, ⟨by (with_reducible repeat (first | apply blk_kn | apply blk_kd | apply blk_ka)); refine blk_put (cs := #[.string t525, .int .u8 t526, .int .u8 t527, .int .i64 t528, .int .i64 t529, .int .i64 t530, .int .u16 t531, .bool t532, u538008]) ?_ 8 _ rfl; exact Zk BK537.out⟩, ⟨Zb3 GE518.out GE537.out GE550.out⟩⟩
        ·rw [if_neg c34] at H
         exact absurd H (by simp)
      ·replace c18 := Bool.eq_false_iff.mpr c18
       subst c18
       have H1 : ((card_Print.f kj15 t525 t526 t527 t528 t529 t530 t531 t532 x538008_1).bind fun bt557 => (if x8_1 = true then (if bt557.2 = 0 then (if bt557.1.toList = a0.toList then (some (t525, t526, t527, t528, t529, t530, t531, t532, x538008_1, 0)) else (some ((⟨#[]⟩ : ByteArray), 0, 0, 0, 0, 0, 0, false, ([] : List (S48)), 160))) else (some ((⟨#[]⟩ : ByteArray), 0, 0, 0, 0, 0, 0, false, ([] : List (S48)), 160))) else (some ((⟨#[]⟩ : ByteArray), 0, 0, 0, 0, 0, 0, false, ([] : List (S48)), 160)))) = some (r1, r2, r3, r4, r5, r6, r7, r8, r9, r10) := by rw [if_neg (show ¬ (false = true) by decide)] at H; exact H
       clear H
       have H := H1
       clear H1
       replace H := Option.bind_eq_some_iff.mp H
       obtain ⟨⟨t557, t558⟩, A450, H⟩ := H
       replace H : (if x8_1 = true then (if t558 = 0 then (if t557.toList = a0.toList then (some (t525, t526, t527, t528, t529, t530, t531, t532, x538008_1, 0)) else (some ((⟨#[]⟩ : ByteArray), 0, 0, 0, 0, 0, 0, false, ([] : List (S48)), 160))) else (some ((⟨#[]⟩ : ByteArray), 0, 0, 0, 0, 0, 0, false, ([] : List (S48)), 160))) else (some ((⟨#[]⟩ : ByteArray), 0, 0, 0, 0, 0, 0, false, ([] : List (S48)), 160))) = some (r1, r2, r3, r4, r5, r6, r7, r8, r9, r10) := H
       have A45 := Aside0.mk A450
       clear A450
       by_cases c46 : x8_1 = true
       ·subst c46
        have H1 : (if t558 = 0 then (if t557.toList = a0.toList then (some (t525, t526, t527, t528, t529, t530, t531, t532, x538008_1, 0)) else (some ((⟨#[]⟩ : ByteArray), 0, 0, 0, 0, 0, 0, false, ([] : List (S48)), 160))) else (some ((⟨#[]⟩ : ByteArray), 0, 0, 0, 0, 0, 0, false, ([] : List (S48)), 160))) = some (r1, r2, r3, r4, r5, r6, r7, r8, r9, r10) := by rw [if_pos rfl] at H; exact H
        clear H
        have H := H1
        clear H1
        by_cases c47 : t558 = 0
        ·rw [if_pos c47] at H
         have c47b0 : (t558 == 0) = true := beq_iff_eq.mpr c47
         have c47b1 : (t558 != 0) = false := bne_eq_false_iff_eq.mpr c47
         clear c47
         by_cases c48 : t557.toList = a0.toList
         ·rw [if_pos c48] at H
          have c48b0 : (t557.toList == a0.toList) = true := beq_iff_eq.mpr c48
          have c48b1 : (t557.toList != a0.toList) = false := bne_eq_false_iff_eq.mpr c48
          clear c48
          simp only [Option.some.injEq, Prod.mk.injEq] at H
          obtain ⟨rfl, rfl, rfl, rfl, rfl, rfl, rfl, rfl, rfl, rfl⟩ := H
          have hnb49 := NB537_518.out
          have hnc49 := NB518_537.out
          obtain ⟨hcz50_0, hcz50_1, hcz50_2, hcz50_3, hcz50_4, hcz50_5, hcz50_6, hcz50_7, hcz50_8, hfz50_0, hfz50_1, hfz50_2, hfz50_3, hfz50_4, hfz50_5, hfz50_6, hfz50_7, hfz50_8⟩ := Z9 BK537.out
          obtain ⟨Ao51, co51, eo51⟩ := Kd.R_slice HO_538008.out
          subst eo51
          go_wp2_with (first | ((with_reducible refine gate_callee (f := 10) rfl ?_); refine goesL_ (some 61) rfl rfl Tryz.func10 (by kernel_rfl) rfl #[.agg #[.string t525, .int .u8 t526, .int .u8 t527, .int .i64 t528, .int .i64 t529, .int .i64 t530, .int .u16 t531, .bool t532, .slice Ao51 x538008_1.length co51]] rfl Zl ?_; (with_reducible refine (card_Print.calls kj15 t525 t526 t527 t528 t529 t530 t531 t532 _ _ x538008_1 t557 t558 _ ?side3 ?side1 ?side2 A45.out).mono ?_); (case side1 => repeat (first | exact (Kd.R_reads' HO_538008.out).2.2 | (with_reducible refine Kd.C_alloc ?_ _) | (with_reducible refine Kd.C_drewN ?_ _) | (with_reducible refine Kd.C_drew ?_))); (case side2 => exact (Kd.R_reads' HO_538008.out).2.1); (case side3 => first | (with_reducible exact HGP.out) | exact GP_below HGP.out (Zb2 GE518.out GE537.out)); rintro e w52 ⟨rfl, hb⟩; refine ⟨_, rfl, ?_⟩; replace HO_538008 := Aside0.mk (Kd.R_below (Zr HO_538008.out) hb); replace BK518 := Aside0.mk (blk_below (Zj BK518.out) hb); replace BK537 := Aside0.mk (blk_below (Zj BK537.out) hb); replace HB := Aside0.mk (below_step (Zb2 GE518.out GE537.out) hb); (try clear hb); (try clear hb2); (try clear hk); (try clear hi); obtain ⟨hcz53_0, hcz53_1, hcz53_2, hcz53_3, hcz53_4, hcz53_5, hcz53_6, hcz53_7, hcz53_8, hfz53_0, hfz53_1, hfz53_2, hfz53_3, hfz53_4, hfz53_5, hfz53_6, hfz53_7, hfz53_8⟩ := Z9 BK537.out; obtain ⟨hcz54_0, hcz54_1, hcz54_2, hcz54_3, hcz54_4, hcz54_5, hcz54_6, hcz54_7, hcz54_8, hfz54_0, hfz54_1, hfz54_2, hfz54_3, hfz54_4, hfz54_5, hfz54_6, hfz54_7, hfz54_8⟩ := Z9 BK518.out))
          refine bodyPost_ret (results_ct rfl _ _ gb518 28 #[.string t525, .int .u8 t526, .int .u8 t527, .int .i64 t528, .int .i64 t529, .int .i64 t530, .int .u16 t531, .bool t532, .slice Ao51 x538008_1.length co51] (0, 0) _ rfl (by (with_reducible repeat (first | apply blk_kn | apply blk_kd | apply blk_ka)); refine blk_put (cs := #[.string t525, .int .u8 t526, .int .u8 t527, .int .i64 t528, .int .i64 t529, .int .i64 t530, .int .u16 t531, .bool t532, .slice none 0 0]) ?_ 8 _ rfl; (with_reducible repeat (first | apply blk_kn | apply blk_kd | apply blk_ka)); refine blk_put (cs := #[.string t525, .int .u8 t526, .int .u8 t527, .int .i64 t528, .int .i64 t529, .int .i64 t530, .int .u16 t531, .bool false, .slice none 0 0]) ?_ 7 _ rfl; (with_reducible repeat (first | apply blk_kn | apply blk_kd | apply blk_ka)); refine blk_put (cs := #[.string t525, .int .u8 t526, .int .u8 t527, .int .i64 t528, .int .i64 t529, .int .i64 t530, .int .u16 0, .bool false, .slice none 0 0]) ?_ 6 _ rfl; (with_reducible repeat (first | apply blk_kn | apply blk_kd | apply blk_ka)); refine blk_put (cs := #[.string t525, .int .u8 t526, .int .u8 t527, .int .i64 t528, .int .i64 t529, .int .i64 0, .int .u16 0, .bool false, .slice none 0 0]) ?_ 5 _ rfl; (with_reducible repeat (first | apply blk_kn | apply blk_kd | apply blk_ka)); refine blk_put (cs := #[.string t525, .int .u8 t526, .int .u8 t527, .int .i64 t528, .int .i64 0, .int .i64 0, .int .u16 0, .bool false, .slice none 0 0]) ?_ 4 _ rfl; (with_reducible repeat (first | apply blk_kn | apply blk_kd | apply blk_ka)); refine blk_put (cs := #[.string t525, .int .u8 t526, .int .u8 t527, .int .i64 0, .int .i64 0, .int .i64 0, .int .u16 0, .bool false, .slice none 0 0]) ?_ 3 _ rfl; (with_reducible repeat (first | apply blk_kn | apply blk_kd | apply blk_ka)); refine blk_put (cs := #[.string t525, .int .u8 t526, .int .u8 0, .int .i64 0, .int .i64 0, .int .i64 0, .int .u16 0, .bool false, .slice none 0 0]) ?_ 2 _ rfl; (with_reducible repeat (first | apply blk_kn | apply blk_kd | apply blk_ka)); refine blk_put (cs := #[.string t525, .int .u8 0, .int .u8 0, .int .i64 0, .int .i64 0, .int .i64 0, .int .u16 0, .bool false, .slice none 0 0]) ?_ 1 _ rfl; (with_reducible repeat (first | apply blk_kn | apply blk_kd | apply blk_ka)); refine blk_put (cs := #[.string (⟨#[]⟩ : ByteArray), .int .u8 0, .int .u8 0, .int .i64 0, .int .i64 0, .int .i64 0, .int .u16 0, .bool false, .slice none 0 0]) ?_ 0 _ rfl; exact Zk BK518.out) Tryz.underlying28 rfl (by kernel_rfl)) rfl ?_
          exact ⟨_, Ze, by (with_reducible repeat (first | apply Kd.R_alloc | apply Kd.R_drewN | apply Kd.R_drew)); exact Kd.R_mono (Kd.R_far (p := ⟨gb518, 8, none⟩) (Kd.R_far (p := ⟨gb518, 7, none⟩) (Kd.R_far (p := ⟨gb518, 6, none⟩) (Kd.R_far (p := ⟨gb518, 5, none⟩) (Kd.R_far (p := ⟨gb518, 4, none⟩) (Kd.R_far (p := ⟨gb518, 3, none⟩) (Kd.R_far (p := ⟨gb518, 2, none⟩) (Kd.R_far (p := ⟨gb518, 1, none⟩) (Kd.R_far (p := ⟨gb518, 0, none⟩) (Kd.R_types HO_538008.out BK518.out (by decide)) Zg (.string t525)) Zg (.int .u8 t526)) Zg (.int .u8 t527)) Zg (.int .i64 t528)) Zg (.int .i64 t529)) Zg (.int .i64 t530)) Zg (.int .u16 t531)) Zg (.bool t532)) Zg (.slice Ao51 x538008_1.length co51)) (fun _ hk => trivial), Zb2 GE518.out GE537.out⟩
         ·rw [if_neg c48] at H
          have c48b0 : (t557.toList == a0.toList) = false := beq_eq_false_iff_ne.mpr c48
          have c48b1 : (t557.toList != a0.toList) = true := bne_iff_ne.mpr c48
          simp only [Option.some.injEq, Prod.mk.injEq] at H
          obtain ⟨rfl, rfl, rfl, rfl, rfl, rfl, rfl, rfl, rfl, rfl⟩ := H
          have hnb55 := NB537_518.out
          have hnc55 := NB518_537.out
          obtain ⟨hcz56_0, hcz56_1, hcz56_2, hcz56_3, hcz56_4, hcz56_5, hcz56_6, hcz56_7, hcz56_8, hfz56_0, hfz56_1, hfz56_2, hfz56_3, hfz56_4, hfz56_5, hfz56_6, hfz56_7, hfz56_8⟩ := Z9 BK537.out
          obtain ⟨Ao57, co57, eo57⟩ := Kd.R_slice HO_538008.out
          subst eo57
          go_wp2_with (first | ((with_reducible refine gate_callee (f := 10) rfl ?_); refine goesL_ (some 61) rfl rfl Tryz.func10 (by kernel_rfl) rfl #[.agg #[.string t525, .int .u8 t526, .int .u8 t527, .int .i64 t528, .int .i64 t529, .int .i64 t530, .int .u16 t531, .bool t532, .slice Ao57 x538008_1.length co57]] rfl Zl ?_; (with_reducible refine (card_Print.calls kj15 t525 t526 t527 t528 t529 t530 t531 t532 _ _ x538008_1 t557 t558 _ ?side3 ?side1 ?side2 A45.out).mono ?_); (case side1 => repeat (first | exact (Kd.R_reads' HO_538008.out).2.2 | (with_reducible refine Kd.C_alloc ?_ _) | (with_reducible refine Kd.C_drewN ?_ _) | (with_reducible refine Kd.C_drew ?_))); (case side2 => exact (Kd.R_reads' HO_538008.out).2.1); (case side3 => first | (with_reducible exact HGP.out) | exact GP_below HGP.out (Zb2 GE518.out GE537.out)); rintro e w58 ⟨rfl, hb⟩; refine ⟨_, rfl, ?_⟩; replace HO_538008 := Aside0.mk (Kd.R_below (Zr HO_538008.out) hb); replace BK518 := Aside0.mk (blk_below (Zj BK518.out) hb); replace BK537 := Aside0.mk (blk_below (Zj BK537.out) hb); replace HB := Aside0.mk (below_step (Zb2 GE518.out GE537.out) hb); (try clear hb); (try clear hb2); (try clear hk); (try clear hi); obtain ⟨hcz59_0, hcz59_1, hcz59_2, hcz59_3, hcz59_4, hcz59_5, hcz59_6, hcz59_7, hcz59_8, hfz59_0, hfz59_1, hfz59_2, hfz59_3, hfz59_4, hfz59_5, hfz59_6, hfz59_7, hfz59_8⟩ := Z9 BK518.out))
          refine bodyPost_ret (results_ct rfl _ _ gb518 28 #[.string (⟨#[]⟩ : ByteArray), .int .u8 0, .int .u8 0, .int .i64 0, .int .i64 0, .int .i64 0, .int .u16 0, .bool false, .slice none 0 0] (0, 0) _ rfl (by (with_reducible repeat (first | apply blk_kn | apply blk_kd | apply blk_ka)); refine blk_put (cs := #[.string (⟨#[]⟩ : ByteArray), .int .u8 0, .int .u8 0, .int .i64 0, .int .i64 0, .int .i64 0, .int .u16 0, .bool false, .slice none 0 0]) ?_ 8 _ rfl; (with_reducible repeat (first | apply blk_kn | apply blk_kd | apply blk_ka)); refine blk_put (cs := #[.string (⟨#[]⟩ : ByteArray), .int .u8 0, .int .u8 0, .int .i64 0, .int .i64 0, .int .i64 0, .int .u16 0, .bool false, .slice none 0 0]) ?_ 7 _ rfl; (with_reducible repeat (first | apply blk_kn | apply blk_kd | apply blk_ka)); refine blk_put (cs := #[.string (⟨#[]⟩ : ByteArray), .int .u8 0, .int .u8 0, .int .i64 0, .int .i64 0, .int .i64 0, .int .u16 0, .bool false, .slice none 0 0]) ?_ 6 _ rfl; (with_reducible repeat (first | apply blk_kn | apply blk_kd | apply blk_ka)); refine blk_put (cs := #[.string (⟨#[]⟩ : ByteArray), .int .u8 0, .int .u8 0, .int .i64 0, .int .i64 0, .int .i64 0, .int .u16 0, .bool false, .slice none 0 0]) ?_ 5 _ rfl; (with_reducible repeat (first | apply blk_kn | apply blk_kd | apply blk_ka)); refine blk_put (cs := #[.string (⟨#[]⟩ : ByteArray), .int .u8 0, .int .u8 0, .int .i64 0, .int .i64 0, .int .i64 0, .int .u16 0, .bool false, .slice none 0 0]) ?_ 4 _ rfl; (with_reducible repeat (first | apply blk_kn | apply blk_kd | apply blk_ka)); refine blk_put (cs := #[.string (⟨#[]⟩ : ByteArray), .int .u8 0, .int .u8 0, .int .i64 0, .int .i64 0, .int .i64 0, .int .u16 0, .bool false, .slice none 0 0]) ?_ 3 _ rfl; (with_reducible repeat (first | apply blk_kn | apply blk_kd | apply blk_ka)); refine blk_put (cs := #[.string (⟨#[]⟩ : ByteArray), .int .u8 0, .int .u8 0, .int .i64 0, .int .i64 0, .int .i64 0, .int .u16 0, .bool false, .slice none 0 0]) ?_ 2 _ rfl; (with_reducible repeat (first | apply blk_kn | apply blk_kd | apply blk_ka)); refine blk_put (cs := #[.string (⟨#[]⟩ : ByteArray), .int .u8 0, .int .u8 0, .int .i64 0, .int .i64 0, .int .i64 0, .int .u16 0, .bool false, .slice none 0 0]) ?_ 1 _ rfl; (with_reducible repeat (first | apply blk_kn | apply blk_kd | apply blk_ka)); refine blk_put (cs := #[.string (⟨#[]⟩ : ByteArray), .int .u8 0, .int .u8 0, .int .i64 0, .int .i64 0, .int .i64 0, .int .u16 0, .bool false, .slice none 0 0]) ?_ 0 _ rfl; exact Zk BK518.out) Tryz.underlying28 rfl (by kernel_rfl)) rfl ?_
          exact ⟨_, Ze, by first | exact Kd.R_nil _ _ _ _ _ | exact Kd.N_nil _ _ _ _ _ | exact Kd.V_nil _ _ _ _ _ | exact Kd.Q_nil _ _ _ _ _ | exact Kd.S_nil _ _ _ _ _, Zb2 GE518.out GE537.out⟩
        ·rw [if_neg c47] at H
         have c47b0 : (t558 == 0) = false := beq_eq_false_iff_ne.mpr c47
         have c47b1 : (t558 != 0) = true := bne_iff_ne.mpr c47
         simp only [Option.some.injEq, Prod.mk.injEq] at H
         obtain ⟨rfl, rfl, rfl, rfl, rfl, rfl, rfl, rfl, rfl, rfl⟩ := H
         have hnb60 := NB537_518.out
         have hnc60 := NB518_537.out
         obtain ⟨hcz61_0, hcz61_1, hcz61_2, hcz61_3, hcz61_4, hcz61_5, hcz61_6, hcz61_7, hcz61_8, hfz61_0, hfz61_1, hfz61_2, hfz61_3, hfz61_4, hfz61_5, hfz61_6, hfz61_7, hfz61_8⟩ := Z9 BK537.out
         obtain ⟨Ao62, co62, eo62⟩ := Kd.R_slice HO_538008.out
         subst eo62
         go_wp2_with (first | ((with_reducible refine gate_callee (f := 10) rfl ?_); refine goesL_ (some 61) rfl rfl Tryz.func10 (by kernel_rfl) rfl #[.agg #[.string t525, .int .u8 t526, .int .u8 t527, .int .i64 t528, .int .i64 t529, .int .i64 t530, .int .u16 t531, .bool t532, .slice Ao62 x538008_1.length co62]] rfl Zl ?_; (with_reducible refine (card_Print.calls kj15 t525 t526 t527 t528 t529 t530 t531 t532 _ _ x538008_1 t557 t558 _ ?side3 ?side1 ?side2 A45.out).mono ?_); (case side1 => repeat (first | exact (Kd.R_reads' HO_538008.out).2.2 | (with_reducible refine Kd.C_alloc ?_ _) | (with_reducible refine Kd.C_drewN ?_ _) | (with_reducible refine Kd.C_drew ?_))); (case side2 => exact (Kd.R_reads' HO_538008.out).2.1); (case side3 => first | (with_reducible exact HGP.out) | exact GP_below HGP.out (Zb2 GE518.out GE537.out)); rintro e w63 ⟨rfl, hb⟩; refine ⟨_, rfl, ?_⟩; replace HO_538008 := Aside0.mk (Kd.R_below (Zr HO_538008.out) hb); replace BK518 := Aside0.mk (blk_below (Zj BK518.out) hb); replace BK537 := Aside0.mk (blk_below (Zj BK537.out) hb); replace HB := Aside0.mk (below_step (Zb2 GE518.out GE537.out) hb); (try clear hb); (try clear hb2); (try clear hk); (try clear hi); obtain ⟨hcz64_0, hcz64_1, hcz64_2, hcz64_3, hcz64_4, hcz64_5, hcz64_6, hcz64_7, hcz64_8, hfz64_0, hfz64_1, hfz64_2, hfz64_3, hfz64_4, hfz64_5, hfz64_6, hfz64_7, hfz64_8⟩ := Z9 BK518.out))
         refine bodyPost_ret (results_ct rfl _ _ gb518 28 #[.string (⟨#[]⟩ : ByteArray), .int .u8 0, .int .u8 0, .int .i64 0, .int .i64 0, .int .i64 0, .int .u16 0, .bool false, .slice none 0 0] (0, 0) _ rfl (by (with_reducible repeat (first | apply blk_kn | apply blk_kd | apply blk_ka)); refine blk_put (cs := #[.string (⟨#[]⟩ : ByteArray), .int .u8 0, .int .u8 0, .int .i64 0, .int .i64 0, .int .i64 0, .int .u16 0, .bool false, .slice none 0 0]) ?_ 8 _ rfl; (with_reducible repeat (first | apply blk_kn | apply blk_kd | apply blk_ka)); refine blk_put (cs := #[.string (⟨#[]⟩ : ByteArray), .int .u8 0, .int .u8 0, .int .i64 0, .int .i64 0, .int .i64 0, .int .u16 0, .bool false, .slice none 0 0]) ?_ 7 _ rfl; (with_reducible repeat (first | apply blk_kn | apply blk_kd | apply blk_ka)); refine blk_put (cs := #[.string (⟨#[]⟩ : ByteArray), .int .u8 0, .int .u8 0, .int .i64 0, .int .i64 0, .int .i64 0, .int .u16 0, .bool false, .slice none 0 0]) ?_ 6 _ rfl; (with_reducible repeat (first | apply blk_kn | apply blk_kd | apply blk_ka)); refine blk_put (cs := #[.string (⟨#[]⟩ : ByteArray), .int .u8 0, .int .u8 0, .int .i64 0, .int .i64 0, .int .i64 0, .int .u16 0, .bool false, .slice none 0 0]) ?_ 5 _ rfl; (with_reducible repeat (first | apply blk_kn | apply blk_kd | apply blk_ka)); refine blk_put (cs := #[.string (⟨#[]⟩ : ByteArray), .int .u8 0, .int .u8 0, .int .i64 0, .int .i64 0, .int .i64 0, .int .u16 0, .bool false, .slice none 0 0]) ?_ 4 _ rfl; (with_reducible repeat (first | apply blk_kn | apply blk_kd | apply blk_ka)); refine blk_put (cs := #[.string (⟨#[]⟩ : ByteArray), .int .u8 0, .int .u8 0, .int .i64 0, .int .i64 0, .int .i64 0, .int .u16 0, .bool false, .slice none 0 0]) ?_ 3 _ rfl; (with_reducible repeat (first | apply blk_kn | apply blk_kd | apply blk_ka)); refine blk_put (cs := #[.string (⟨#[]⟩ : ByteArray), .int .u8 0, .int .u8 0, .int .i64 0, .int .i64 0, .int .i64 0, .int .u16 0, .bool false, .slice none 0 0]) ?_ 2 _ rfl; (with_reducible repeat (first | apply blk_kn | apply blk_kd | apply blk_ka)); refine blk_put (cs := #[.string (⟨#[]⟩ : ByteArray), .int .u8 0, .int .u8 0, .int .i64 0, .int .i64 0, .int .i64 0, .int .u16 0, .bool false, .slice none 0 0]) ?_ 1 _ rfl; (with_reducible repeat (first | apply blk_kn | apply blk_kd | apply blk_ka)); refine blk_put (cs := #[.string (⟨#[]⟩ : ByteArray), .int .u8 0, .int .u8 0, .int .i64 0, .int .i64 0, .int .i64 0, .int .u16 0, .bool false, .slice none 0 0]) ?_ 0 _ rfl; exact Zk BK518.out) Tryz.underlying28 rfl (by kernel_rfl)) rfl ?_
         exact ⟨_, Ze, by first | exact Kd.R_nil _ _ _ _ _ | exact Kd.N_nil _ _ _ _ _ | exact Kd.V_nil _ _ _ _ _ | exact Kd.Q_nil _ _ _ _ _ | exact Kd.S_nil _ _ _ _ _, Zb2 GE518.out GE537.out⟩
       ·replace c46 := Bool.eq_false_iff.mpr c46
        subst c46
        have H1 : (some ((⟨#[]⟩ : ByteArray), 0, 0, 0, 0, 0, 0, false, ([] : List (S48)), 160)) = some (r1, r2, r3, r4, r5, r6, r7, r8, r9, r10) := by rw [if_neg (show ¬ (false = true) by decide)] at H; exact H
        clear H
        have H := H1
        clear H1
        simp only [Option.some.injEq, Prod.mk.injEq] at H
        obtain ⟨rfl, rfl, rfl, rfl, rfl, rfl, rfl, rfl, rfl, rfl⟩ := H
        have hnb65 := NB537_518.out
        have hnc65 := NB518_537.out
        obtain ⟨hcz66_0, hcz66_1, hcz66_2, hcz66_3, hcz66_4, hcz66_5, hcz66_6, hcz66_7, hcz66_8, hfz66_0, hfz66_1, hfz66_2, hfz66_3, hfz66_4, hfz66_5, hfz66_6, hfz66_7, hfz66_8⟩ := Z9 BK537.out
        obtain ⟨Ao67, co67, eo67⟩ := Kd.R_slice HO_538008.out
        subst eo67
        go_wp2_with (first | ((with_reducible refine gate_callee (f := 10) rfl ?_); refine goesL_ (some 61) rfl rfl Tryz.func10 (by kernel_rfl) rfl #[.agg #[.string t525, .int .u8 t526, .int .u8 t527, .int .i64 t528, .int .i64 t529, .int .i64 t530, .int .u16 t531, .bool t532, .slice Ao67 x538008_1.length co67]] rfl Zl ?_; (with_reducible refine (card_Print.calls kj15 t525 t526 t527 t528 t529 t530 t531 t532 _ _ x538008_1 t557 t558 _ ?side3 ?side1 ?side2 A45.out).mono ?_); (case side1 => repeat (first | exact (Kd.R_reads' HO_538008.out).2.2 | (with_reducible refine Kd.C_alloc ?_ _) | (with_reducible refine Kd.C_drewN ?_ _) | (with_reducible refine Kd.C_drew ?_))); (case side2 => exact (Kd.R_reads' HO_538008.out).2.1); (case side3 => first | (with_reducible exact HGP.out) | exact GP_below HGP.out (Zb2 GE518.out GE537.out)); rintro e w68 ⟨rfl, hb⟩; refine ⟨_, rfl, ?_⟩; replace HO_538008 := Aside0.mk (Kd.R_below (Zr HO_538008.out) hb); replace BK518 := Aside0.mk (blk_below (Zj BK518.out) hb); replace BK537 := Aside0.mk (blk_below (Zj BK537.out) hb); replace HB := Aside0.mk (below_step (Zb2 GE518.out GE537.out) hb); (try clear hb); (try clear hb2); (try clear hk); (try clear hi); obtain ⟨hcz69_0, hcz69_1, hcz69_2, hcz69_3, hcz69_4, hcz69_5, hcz69_6, hcz69_7, hcz69_8, hfz69_0, hfz69_1, hfz69_2, hfz69_3, hfz69_4, hfz69_5, hfz69_6, hfz69_7, hfz69_8⟩ := Z9 BK518.out))
        refine bodyPost_ret (results_ct rfl _ _ gb518 28 #[.string (⟨#[]⟩ : ByteArray), .int .u8 0, .int .u8 0, .int .i64 0, .int .i64 0, .int .i64 0, .int .u16 0, .bool false, .slice none 0 0] (0, 0) _ rfl (by (with_reducible repeat (first | apply blk_kn | apply blk_kd | apply blk_ka)); refine blk_put (cs := #[.string (⟨#[]⟩ : ByteArray), .int .u8 0, .int .u8 0, .int .i64 0, .int .i64 0, .int .i64 0, .int .u16 0, .bool false, .slice none 0 0]) ?_ 8 _ rfl; (with_reducible repeat (first | apply blk_kn | apply blk_kd | apply blk_ka)); refine blk_put (cs := #[.string (⟨#[]⟩ : ByteArray), .int .u8 0, .int .u8 0, .int .i64 0, .int .i64 0, .int .i64 0, .int .u16 0, .bool false, .slice none 0 0]) ?_ 7 _ rfl; (with_reducible repeat (first | apply blk_kn | apply blk_kd | apply blk_ka)); refine blk_put (cs := #[.string (⟨#[]⟩ : ByteArray), .int .u8 0, .int .u8 0, .int .i64 0, .int .i64 0, .int .i64 0, .int .u16 0, .bool false, .slice none 0 0]) ?_ 6 _ rfl; (with_reducible repeat (first | apply blk_kn | apply blk_kd | apply blk_ka)); refine blk_put (cs := #[.string (⟨#[]⟩ : ByteArray), .int .u8 0, .int .u8 0, .int .i64 0, .int .i64 0, .int .i64 0, .int .u16 0, .bool false, .slice none 0 0]) ?_ 5 _ rfl; (with_reducible repeat (first | apply blk_kn | apply blk_kd | apply blk_ka)); refine blk_put (cs := #[.string (⟨#[]⟩ : ByteArray), .int .u8 0, .int .u8 0, .int .i64 0, .int .i64 0, .int .i64 0, .int .u16 0, .bool false, .slice none 0 0]) ?_ 4 _ rfl; (with_reducible repeat (first | apply blk_kn | apply blk_kd | apply blk_ka)); refine blk_put (cs := #[.string (⟨#[]⟩ : ByteArray), .int .u8 0, .int .u8 0, .int .i64 0, .int .i64 0, .int .i64 0, .int .u16 0, .bool false, .slice none 0 0]) ?_ 3 _ rfl; (with_reducible repeat (first | apply blk_kn | apply blk_kd | apply blk_ka)); refine blk_put (cs := #[.string (⟨#[]⟩ : ByteArray), .int .u8 0, .int .u8 0, .int .i64 0, .int .i64 0, .int .i64 0, .int .u16 0, .bool false, .slice none 0 0]) ?_ 2 _ rfl; (with_reducible repeat (first | apply blk_kn | apply blk_kd | apply blk_ka)); refine blk_put (cs := #[.string (⟨#[]⟩ : ByteArray), .int .u8 0, .int .u8 0, .int .i64 0, .int .i64 0, .int .i64 0, .int .u16 0, .bool false, .slice none 0 0]) ?_ 1 _ rfl; (with_reducible repeat (first | apply blk_kn | apply blk_kd | apply blk_ka)); refine blk_put (cs := #[.string (⟨#[]⟩ : ByteArray), .int .u8 0, .int .u8 0, .int .i64 0, .int .i64 0, .int .i64 0, .int .u16 0, .bool false, .slice none 0 0]) ?_ 0 _ rfl; exact Zk BK518.out) Tryz.underlying28 rfl (by kernel_rfl)) rfl ?_
        exact ⟨_, Ze, by first | exact Kd.R_nil _ _ _ _ _ | exact Kd.N_nil _ _ _ _ _ | exact Kd.V_nil _ _ _ _ _ | exact Kd.Q_nil _ _ _ _ _ | exact Kd.S_nil _ _ _ _ _, Zb2 GE518.out GE537.out⟩
end Go.Proofs.YtfpcideomanbbaaGreatDoor.PA
end
