/-
  Part 2 of a proof in 8 parts: lemmas, contracts and plain laws that its last part joins; no conditions of its own.
-/
import Derived.Test.YtfpcideomanbbaaGreatDoorProg
import Derived.Test.YtfpcideomanbbaaGreatDoorEZ
import Derived.Test.YtfpcideomanbbaaGreatDoorE1
import Derived.WalkKit
import Derived.WalkSmall
import Derived.Below
import Derived.Lib.LaidTab
import Derived.KernelRfl
import Derived.Lib.ItoaNum
import Derived.Lib.Space
import Derived.Lib.AtoiErrMem
import Derived.Deep.Draws
import Derived.Deep.AppendLies
import Derived.Maps.AppendAt
import Derived.OwnWalk
import Derived.Laws.BytesArg
import Derived.Laws.MakeOwn
import Derived.Laws.OwnMore
import Derived.Deep.OwnRows
import Derived.Tactics
import Derived.Lib.ConvBytes
import Derived.Laws.Slices
import Derived.RowKit3
import Derived.Deep.LoopGhost
import Derived.Deep.QuietTactic
import Derived.BigQuiet
import Derived.WideLaws
import Derived.Deep.DeepCutAuto
import Derived.Deep.CutBlock
import Derived.Deep.RegionHeld3
import Derived.Laws.Rows
import Derived.Lib.AppendStr
import Derived.ArgAppend
import Derived.Laws.IdiomCopy
import Derived.RowKit
import Derived.OrdersHeld
import Derived.Laws.BitsLemmas
import Derived.Laws.StructEq
set_option linter.unusedVariables false
set_option linter.unusedSimpArgs false
section
namespace Go.Proofs.YtfpcideomanbbaaGreatDoor
open Go.RowKit
theorem setCell_drewN_ (w : World) (n : Nat) (a : Addr) (v : Value) : (w.drewN n).setCell a v = (w.setCell a v).drewN n := rfl
theorem u8_w_ (n : Int) : IntKind.u8.wrap n = n % 256 := rfl
def traitNames : List (List UInt8) := [[], [102, 97, 115, 116], [103, 117, 97, 114, 100], [118, 101, 110, 111, 109], [108, 111, 110, 101], [100, 114, 97, 105, 110], [109, 117, 116, 101], [102, 105, 120, 101, 100], [115, 119, 105, 102, 116]]
structure GP (w : World) : Prop where
  maxLen : ∃ m, w.cell? ⟨5, 0, none⟩ = some (.int .i64 m)
  errSyntax : ∃ ev, w.cell? ⟨3, 0, none⟩ = some ev ∧ (ev = .nilIface ∨ ∃ te pe, ev = .iface te pe)
  errRange : ∃ ev, w.cell? ⟨4, 0, none⟩ = some ev ∧ (ev = .nilIface ∨ ∃ te pe, ev = .iface te pe)
  pow : Lib.TabIs Tryz.prog w "internal/strconv.uint64pow10" .u64 Lib.pow10Tab
  space : Lib.TabIs Tryz.prog w "strings.asciiSpace" .u8 Lib.asciiSpaceTab
  names : ∀ i, i < 9 → w.cell? ⟨0, i, none⟩ = some (.string ⟨(traitNames.getD i []).toArray⟩)
theorem gPow : Tryz.prog.globalNamed "internal/strconv.uint64pow10" = some 6 := by kernel_rfl
theorem gSpace : Tryz.prog.globalNamed "strings.asciiSpace" = some 1 := by kernel_rfl
theorem GP_below {w w' : World} (h : GP w) (hb : Below w.heap.size w w') : GP w' := by
  have lt : ∀ {g i : Nat} {v : Value}, w.cell? ⟨g, i, none⟩ = some v → g < w.heap.size := fun h => Lib.lt_of_cell h
  have keep : ∀ {g i : Nat} {v : Value}, w.cell? ⟨g, i, none⟩ = some v → w'.cell? ⟨g, i, none⟩ = some v := fun {g i v} h => by
    rw [hb.cell (p := ⟨g, i, none⟩) (lt h)]; exact h
  obtain ⟨m, hm⟩ := h.maxLen
  obtain ⟨ev, hev, he⟩ := h.errSyntax
  obtain ⟨rv, hrv, hr⟩ := h.errRange
  have hp := h.pow.cell gPow 0 (by decide)
  have hs := h.space.cell gSpace 0 (by rw [Lib.asciiSpaceTab_length]; decide)
  exact ⟨⟨m, keep hm⟩, ⟨ev, keep hev, he⟩, ⟨rv, keep hrv, hr⟩, var?_below hb gPow (lt hp) h.pow, var?_below hb gSpace (lt hs) h.space, fun i hi => keep (h.names i hi)⟩
end Go.Proofs.YtfpcideomanbbaaGreatDoor
end
section
namespace Go.Proofs.YtfpcideomanbbaaGreatDoor.PA
open Go.RowKit Go.Proofs.YtfpcideomanbbaaGreatDoorW.PrintWords Go.Proofs.YtfpcideomanbbaaGreatDoorW.PrintLast Go.Proofs.YtfpcideomanbbaaGreatDoorW.PrintMore
attribute [local go_sem] max2_int min2_int max_two min_two max_three min_three max_four min_four
set_option linter.unusedVariables false
set_option linter.unusedSimpArgs false
def errW : Option Int → Value
 | none => .nilIface
 | some c => .iface 0 (.int .i64 c)
theorem errW_none : errW none = .nilIface := rfl
theorem errW_some (c : Int) : errW (some c) = .iface 0 (.int .i64 c) := rfl
theorem info9 : (Tryz.prog.info? 9).map (fun i => (i.zero, i.size, i.bytes)) = some (some (.string ⟨#[]⟩), 1, 16) := by kernel_rfl
structure S116 where
 f0 : Int
 f1 : ByteArray
 f2 : Int
 f3 : ByteArray
def z116 : S116 := ⟨(0 : Int), (⟨#[]⟩ : ByteArray), (0 : Int), (⟨#[]⟩ : ByteArray)⟩
def k116 : Kd S116 := Kd.iso (Kd.pair (Kd.int .u8) (Kd.pair Kd.string (Kd.pair (Kd.int .u8) Kd.string))) (fun x : S116 => (x.f0, x.f1, x.f2, x.f3))
theorem k116_open {w : World} {x : S116} {cs : List Value} (h : k116.K w x cs) : cs = [.int .u8 x.f0, .string x.f1, .int .u8 x.f2, .string x.f3] := by
 obtain ⟨_, _, rfl, rfl, ⟨_, _, rfl, rfl, ⟨_, _, rfl, rfl, rfl⟩⟩⟩ := h
 exact rfl
theorem k116_mkM (w : World) (base : Nat) (ok : Nat → Prop) (x : S116)  : k116.M w base ok x [.int .u8 x.f0, .string x.f1, .int .u8 x.f2, .string x.f3] := ⟨[.int .u8 x.f0], [.string x.f1, .int .u8 x.f2, .string x.f3], rfl, rfl, ⟨[.string x.f1], [.int .u8 x.f2, .string x.f3], rfl, rfl, ⟨[.int .u8 x.f2], [.string x.f3], rfl, rfl, rfl⟩⟩⟩
def rd_T116 (xs : List S116) (i : Int) : S116 := xs.getD i.toNat z116
theorem at_T116 {w : World} {A : Option Addr} {n : Nat} {xs : List S116} (h : Kd.C k116 w A n xs) (i : Int) (h0 : 0 ≤ i) (h1 : i < n) : ∃ ad , A = some ad ∧ w.cell? (ad.add (i.toNat * 4)) = some (.int .u8 (rd_T116 xs i).f0) ∧ w.cell? ⟨(ad.add (i.toNat * 4)).block, (ad.add (i.toNat * 4)).off + 1, none⟩ = some (.string (rd_T116 xs i).f1) ∧ w.cell? ⟨(ad.add (i.toNat * 4)).block, (ad.add (i.toNat * 4)).off + 2, none⟩ = some (.int .u8 (rd_T116 xs i).f2) ∧ w.cell? ⟨(ad.add (i.toNat * 4)).block, (ad.add (i.toNat * 4)).off + 3, none⟩ = some (.string (rd_T116 xs i).f3) := by
 obtain ⟨ad, c, e, _, hK, hc0⟩ := Kd.C_get h z116 i h0 h1
 have hc : ∀ j u, c[j]? = some u → w.cell? (ad.add (i.toNat * 4 + j)) = some u := hc0
 obtain rfl := k116_open hK
 exact ⟨ad, e, hc 0 _ rfl, by rw [← add_field _ _ 1 (by omega)]; exact hc 1 _ rfl, by rw [← add_field _ _ 2 (by omega)]; exact hc 2 _ rfl, by rw [← add_field _ _ 3 (by omega)]; exact hc 3 _ rfl⟩
end Go.Proofs.YtfpcideomanbbaaGreatDoor.PA
end
section
namespace Go.Proofs.YtfpcideomanbbaaGreatDoor.PA
open Go.RowKit Go.Proofs.YtfpcideomanbbaaGreatDoorW.PrintWords Go.Proofs.YtfpcideomanbbaaGreatDoorW.PrintLast Go.Proofs.YtfpcideomanbbaaGreatDoorW.PrintMore
attribute [local go_sem] max2_int min2_int max_two min_two max_three min_three max_four min_four
set_option linter.unusedVariables false
set_option linter.unusedSimpArgs false
def gambitref05_Cut.l0 : Nat → ByteArray → List ByteArray → Int → Int → Option (List ByteArray)
 | 0, _, _, _, _ => none
 | k + 1, x0, x3, x4, x5 => if x5 ≤ (x0.size : Int) then (if x5 = (x0.size : Int) then (if 0 ≤ x4 then (if x4 ≤ x5 then (if x3.length < 8796093022208 then (gambitref05_Cut.l0 k x0 (x3 ++ [x0.extract (x4 : Int).toNat (x5 : Int).toNat]) (wrap64 (x5 + 1)) (wrap64 (x5 + 1))) else (none)) else (none)) else (none)) else (if 0 ≤ x5 then (if x5 < (x0.size : Int) then (if (bt x0 x5) = 32 then (if 0 ≤ x4 then (if x4 ≤ x5 then (if x3.length < 8796093022208 then (gambitref05_Cut.l0 k x0 (x3 ++ [x0.extract (x4 : Int).toNat (x5 : Int).toNat]) (wrap64 (x5 + 1)) (wrap64 (x5 + 1))) else (none)) else (none)) else (none)) else (gambitref05_Cut.l0 k x0 x3 x4 (wrap64 (x5 + 1)))) else (none)) else (none))) else (some x3)
def gambitref05_Cut.f (k : Nat) (a0 : ByteArray) : Option (List ByteArray) := gambitref05_Cut.l0 k a0 ([] : List ByteArray) 0 0
theorem gambitref05_Cut.mono_l : ∀ k, (∀ y0 y1 y2 y3, LeO (gambitref05_Cut.l0 k y0 y1 y2 y3) (gambitref05_Cut.l0 (k + 1) y0 y1 y2 y3))
 | 0 => fun _ _ _ _ r h => by simp [gambitref05_Cut.l0] at h
 | k + 1 => by
  have ih0 := gambitref05_Cut.mono_l k
  ·intro y0 y1 y2 y3
   unfold gambitref05_Cut.l0
   repeat' first
   | (with_reducible exact ih0 _ _ _ _)
   | (with_reducible exact LeO.refl _)
   | (with_reducible exact LeO.none _)
   | (with_reducible refine LeO.ite ?_ ?_)
   | (with_reducible refine LeO.bind ?_ (fun _ => ?_))
   | exact ih0 _ _ _ _
   | exact LeO.none _
   | refine LeO.ite ?_ ?_
   | refine LeO.bind ?_ (fun _ => ?_)
theorem gambitref05_Cut.mono : ∀ a0 k, LeO (gambitref05_Cut.f k a0) (gambitref05_Cut.f (k + 1) a0) := by
 intro a0 k
 have ih0 := gambitref05_Cut.mono_l k
 unfold gambitref05_Cut.f
 repeat' first
   | (with_reducible exact ih0 _ _ _ _)
   | (with_reducible exact LeO.refl _)
   | (with_reducible exact LeO.none _)
   | (with_reducible refine LeO.ite ?_ ?_)
   | (with_reducible refine LeO.bind ?_ (fun _ => ?_))
   | exact ih0 _ _ _ _
   | exact LeO.none _
   | refine LeO.ite ?_ ?_
   | refine LeO.bind ?_ (fun _ => ?_)
set_option maxHeartbeats 8000000 in
set_option maxRecDepth 100000 in
theorem gambitref05_Cut.calls (k : Nat) (a0 : ByteArray) (r : List ByteArray) (w : World) (h : gambitref05_Cut.f k a0 = some r) :
  Calls Tryz.prog 59 #[.string a0] w fun e w' => ∃ v0_ : Value, e = .returned (v0_) ∧ Kd.R Kd.string 9 w' w.heap.size (fun _ => True) v0_ r ∧ Below w.heap.size w w' := by
 have HB := Aside0.mk (Below.refl w.heap.size w)
 have H : (gambitref05_Cut.l0 k a0 ([] : List ByteArray) 0 0) = some r := h
 clear h
 have H' := Aside0.mk H
 clear H
 go_enter Tryz.func59, Tryz.ntmps59
 go_wp2
 go_loopg [3, 4, 5] k (fun kq v3 v4 v5 w' => ∃ (x3_1 : List ByteArray) (x4_1 : Int) (x5_1 : Int), v4 = .int .i64 x4_1 ∧ v5 = .int .i64 x5_1 ∧ Aside0 (gambitref05_Cut.l0 kq a0 x3_1 x4_1 x5_1 = some r) ∧ Aside0 (kq ≤ k) ∧ Aside0 (Kd.R Kd.string 9 w' w.heap.size (fun _ => True) v3 x3_1) ∧ Aside0 (Below w.heap.size w w'))
 case atStart => exact ⟨(([] : List ByteArray)), (0), (0), Zs, Zs, H', ⟨Nat.le_refl _⟩, ⟨by first | exact Kd.R_nil _ _ _ _ _ | exact Kd.N_nil _ _ _ _ _ | exact Kd.V_nil _ _ _ _ _ | exact Kd.Q_nil _ _ _ _ _ | exact Kd.S_nil _ _ _ _ _⟩, ⟨Zb⟩⟩
 case round =>
  clear H'
  obtain ⟨x3_1, x4_1, x5_1, rfl, rfl, HA, HK1, HO_3, HB⟩ := hrel
  cases gk with
  | zero => exact absurd HA.out (by simp [gambitref05_Cut.l0])
  | succ k1 =>
   have H := HA.out
   clear HA
   simp only [gambitref05_Cut.l0] at H
   by_cases c2 : x5_1 ≤ (a0.size : Int)
   ·rw [if_pos c2] at H
    have c2b0 : decide (x5_1 ≤ (a0.size : Int)) = true := decide_eq_true c2
    clear c2
    by_cases c3 : x5_1 = (a0.size : Int)
    ·rw [if_pos c3] at H
     have c3b0 : (x5_1 == (a0.size : Int)) = true := beq_iff_eq.mpr c3
     have c3b1 : (x5_1 != (a0.size : Int)) = false := bne_eq_false_iff_eq.mpr c3
     clear c3
     by_cases c4 : 0 ≤ x4_1
     ·rw [if_pos c4] at H
      have c4b0 := eq_true c4
      have c4b1 : decide (0 ≤ x4_1) = true := decide_eq_true c4
      clear c4
      by_cases c5 : x4_1 ≤ x5_1
      ·rw [if_pos c5] at H
       have c5b0 := eq_true c5
       have c5b1 : decide (x4_1 ≤ x5_1) = true := decide_eq_true c5
       clear c5
       have c6b0 := eq_true (of_decide_eq_true Za : x5_1 ≤ (a0.size : Int))
       by_cases c7 : x3_1.length < 8796093022208
       ·rw [if_pos c7] at H
        have LMc7 := Aside0.mk c7
        clear c7
        obtain ⟨y213, hy213⟩ : ∃ y_ : List ByteArray, y_ = (x3_1 ++ [a0.extract (x4_1 : Int).toNat (x5_1 : Int).toNat]) := ⟨_, rfl⟩
        replace H : (gambitref05_Cut.l0 k1 a0 y213 (wrap64 (x5_1 + 1)) (wrap64 (x5_1 + 1))) = some r := by first | (rw [hy213]; with_reducible exact H) | (have H2_ := (Option.bind_some _ _).symm.trans H; rw [hy213]; with_reducible exact H2_) | (have H2_ := (Option.bind_some _ _).symm.trans H; with_reducible exact H2_) | with_reducible exact H | (rw [hy213]; exact H) | exact H
        have Ny213 := Aside0.mk hy213
        clear hy213
        have H' := Aside0.mk H
        clear H
        go_wp2_with (first | ((with_reducible refine gate_builtin (b := .append) (xs := #[.tmp 22, .tmp 27]) rfl ?_); at_builtin; refine Kd.R_append Kd.string (w0 := w) w.heap.size rfl (.tmp 22) (.tmp 27) 63 9 (.string ⟨#[]⟩) 16 rfl Tryz.underlying63 info9 rfl (by decide) (by omega) u3 x3_1 (a0.extract (x4_1 : Int).toNat (x5_1 : Int).toNat) [.string (a0.extract (x4_1 : Int).toNat (x5_1 : Int).toNat)] (fun _ => True) (fun _ => False) rfl rfl ?aP (fun _ hk => hk.elim) ?aF ?aO ?aB ?aS ?aL ?_; (case aP => exact rfl); (case aB => exact Zb); (case aF => exact (fun _ _ => trivial)); (case aO => exact (Zr HO_3.out)); (case aS => exact (below_size Zb)); (case aL => have := LMc7.out; omega); intro v214 w8 ho hb hg hat; rw [← Ny213.out] at ho; replace HB := Aside0.mk (hb); have HO215 := Aside0.mk (ho); clear HO_3 ho hb hg hat))
        go_roundg k1
        case measure => have := HK1.out; omega
        case rel => exact ⟨(y213), (wrap64 (x5_1 + 1)), (wrap64 (x5_1 + 1)), Zs, Zs, H', ⟨by have := HK1.out; omega⟩, ⟨Zr HO215.out⟩, ⟨Zb⟩⟩
       ·rw [if_neg c7] at H
        exact absurd H (by simp)
      ·rw [if_neg c5] at H
       exact absurd H (by simp)
     ·rw [if_neg c4] at H
      exact absurd H (by simp)
    ·rw [if_neg c3] at H
     have c3b0 : (x5_1 == (a0.size : Int)) = false := beq_eq_false_iff_ne.mpr c3
     have c3b1 : (x5_1 != (a0.size : Int)) = true := bne_iff_ne.mpr c3
     by_cases c9 : 0 ≤ x5_1
     ·rw [if_pos c9] at H
      have c9b0 : decide (0 ≤ x5_1) = true := decide_eq_true c9
      clear c9
      by_cases c10 : x5_1 < (a0.size : Int)
      ·rw [if_pos c10] at H
       have c10b0 : decide (x5_1 < (a0.size : Int)) = true := decide_eq_true c10
       clear c10
       by_cases c12 : (bt a0 x5_1) = 32
       ·rw [if_pos c12] at H
        have c12b0 : ((bt a0 x5_1) == 32) = true := beq_iff_eq.mpr c12
        have c12b1 : ((bt a0 x5_1) != 32) = false := bne_eq_false_iff_eq.mpr c12
        clear c12
        by_cases c13 : 0 ≤ x4_1
        ·rw [if_pos c13] at H
         have c13b0 := eq_true c13
         have c13b1 : decide (0 ≤ x4_1) = true := decide_eq_true c13
         clear c13
         by_cases c14 : x4_1 ≤ x5_1
         ·rw [if_pos c14] at H
          have c14b0 := eq_true c14
          have c14b1 : decide (x4_1 ≤ x5_1) = true := decide_eq_true c14
          clear c14
          have c15b0 := eq_true (of_decide_eq_true Za : x5_1 ≤ (a0.size : Int))
          by_cases c16 : x3_1.length < 8796093022208
          ·rw [if_pos c16] at H
           have LMc16 := Aside0.mk c16
           clear c16
           obtain ⟨y216, hy216⟩ : ∃ y_ : List ByteArray, y_ = (x3_1 ++ [a0.extract (x4_1 : Int).toNat (x5_1 : Int).toNat]) := ⟨_, rfl⟩
           replace H : (gambitref05_Cut.l0 k1 a0 y216 (wrap64 (x5_1 + 1)) (wrap64 (x5_1 + 1))) = some r := by first | (rw [hy216]; with_reducible exact H) | (have H2_ := (Option.bind_some _ _).symm.trans H; rw [hy216]; with_reducible exact H2_) | (have H2_ := (Option.bind_some _ _).symm.trans H; with_reducible exact H2_) | with_reducible exact H | (rw [hy216]; exact H) | exact H
           have Ny216 := Aside0.mk hy216
           clear hy216
           have H' := Aside0.mk H
           clear H
           have p11 : 0 ≤ (x5_1 : Int) := of_decide_eq_true Za
           have q11 : x5_1 < (a0.size : Int) := of_decide_eq_true Za
           have hx11 := bt_at a0 x5_1
           replace p11 := eq_true p11
           replace q11 := eq_true q11
           go_wp2_with (first | ((with_reducible refine gate_builtin (b := .append) (xs := #[.tmp 22, .tmp 27]) rfl ?_); at_builtin; refine Kd.R_append Kd.string (w0 := w) w.heap.size rfl (.tmp 22) (.tmp 27) 63 9 (.string ⟨#[]⟩) 16 rfl Tryz.underlying63 info9 rfl (by decide) (by omega) u3 x3_1 (a0.extract (x4_1 : Int).toNat (x5_1 : Int).toNat) [.string (a0.extract (x4_1 : Int).toNat (x5_1 : Int).toNat)] (fun _ => True) (fun _ => False) rfl rfl ?aP (fun _ hk => hk.elim) ?aF ?aO ?aB ?aS ?aL ?_; (case aP => exact rfl); (case aB => exact Zb); (case aF => exact (fun _ _ => trivial)); (case aO => exact (Zr HO_3.out)); (case aS => exact (below_size Zb)); (case aL => have := LMc16.out; omega); intro v217 w17 ho hb hg hat; rw [← Ny216.out] at ho; replace HB := Aside0.mk (hb); have HO218 := Aside0.mk (ho); clear HO_3 ho hb hg hat))
           go_roundg k1
           case measure => have := HK1.out; omega
           case rel => exact ⟨(y216), (wrap64 (x5_1 + 1)), (wrap64 (x5_1 + 1)), Zs, Zs, H', ⟨by have := HK1.out; omega⟩, ⟨Zr HO218.out⟩, ⟨Zb⟩⟩
          ·rw [if_neg c16] at H
           exact absurd H (by simp)
         ·rw [if_neg c14] at H
          exact absurd H (by simp)
        ·rw [if_neg c13] at H
         exact absurd H (by simp)
       ·rw [if_neg c12] at H
        have c12b0 : ((bt a0 x5_1) == 32) = false := beq_eq_false_iff_ne.mpr c12
        have c12b1 : ((bt a0 x5_1) != 32) = true := bne_iff_ne.mpr c12
        have H' := Aside0.mk H
        clear H
        have p11 : 0 ≤ (x5_1 : Int) := of_decide_eq_true Za
        have q11 : x5_1 < (a0.size : Int) := of_decide_eq_true Za
        have hx11 := bt_at a0 x5_1
        replace p11 := eq_true p11
        replace q11 := eq_true q11
        go_wp2
        go_roundg k1
        case measure => have := HK1.out; omega
        case rel => exact ⟨(x3_1), (x4_1), (wrap64 (x5_1 + 1)), Zs, Zs, H', ⟨by have := HK1.out; omega⟩, ⟨Zr HO_3.out⟩, ⟨Zb⟩⟩
      ·rw [if_neg c10] at H
       exact absurd H (by simp)
     ·rw [if_neg c9] at H
      exact absurd H (by simp)
   ·rw [if_neg c2] at H
    have c2b0 : decide (x5_1 ≤ (a0.size : Int)) = false := decide_eq_false c2
    clear c2
    obtain rfl := Option.some.inj H
    go_wp2
    go_ret
    exact ⟨_, Ze, Zr HO_3.out, Zb⟩
end Go.Proofs.YtfpcideomanbbaaGreatDoor.PA
end
section
namespace Go.Proofs.YtfpcideomanbbaaGreatDoor.PA
open Go.RowKit Go.Proofs.YtfpcideomanbbaaGreatDoorW.PrintWords Go.Proofs.YtfpcideomanbbaaGreatDoorW.PrintLast Go.Proofs.YtfpcideomanbbaaGreatDoorW.PrintMore
attribute [local go_sem] max2_int min2_int max_two min_two max_three min_three max_four min_four
set_option linter.unusedVariables false
set_option linter.unusedSimpArgs false
def effect_Uses.j0 : Nat → Int → Bool → Bool → Bool → Bool → Bool → Int → Bool → Option (Bool × Bool × Bool × Bool × Bool)
 | 0, _, _, _, _, _, _, _, _ => none
 | k + 1, x1, x4, x5, x6, x7, x8, x9, x10 => if x10 = true then (if x5 = true then (if x6 = true then (some (true, true, true, x7, x8)) else (some (true, true, (x1 == 10), x7, x8))) else (if x6 = true then (some (true, (x1 == 9), true, x7, x8)) else (some (true, (x1 == 9), (x1 == 10), x7, x8)))) else (if x9 = 9 then (if x5 = true then (if x6 = true then (some (true, true, true, true, x8)) else (some (true, true, (x1 == 10), true, x8))) else (if x6 = true then (some (true, (x1 == 9), true, true, x8)) else (some (true, (x1 == 9), (x1 == 10), true, x8)))) else (if x9 = 7 then (if x5 = true then (if x6 = true then (some (true, true, true, x7, true)) else (some (true, true, (x1 == 10), x7, true))) else (if x6 = true then (some (true, (x1 == 9), true, x7, true)) else (some (true, (x1 == 9), (x1 == 10), x7, true)))) else (if x9 = 11 then (if x6 = true then (some (x4, true, true, x7, x8)) else (some (x4, true, (x1 == 10), x7, x8))) else (if x9 = 12 then (if x5 = true then (some (x4, true, true, x7, x8)) else (some (x4, (x1 == 9), true, x7, x8))) else (if x9 = 13 then (if x5 = true then (some (x4, true, true, x7, x8)) else (some (x4, (x1 == 9), true, x7, x8))) else (if x5 = true then (if x6 = true then (some (x4, true, true, x7, x8)) else (some (x4, true, (x1 == 10), x7, x8))) else (if x6 = true then (some (x4, (x1 == 9), true, x7, x8)) else (some (x4, (x1 == 9), (x1 == 10), x7, x8)))))))))
def effect_Uses.f (k : Nat) (a0 : Int) (a1 : Int) : Option (Bool × Bool × Bool × Bool × Bool) := if a0 = 1 then (effect_Uses.j0 k a1 false false false false false a0 (a0 == 1)) else (if a0 = 2 then (effect_Uses.j0 k a1 false false false false false a0 (a0 == 2)) else (if a0 = 3 then (effect_Uses.j0 k a1 false false false false false a0 (a0 == 3)) else (if a0 = 4 then (effect_Uses.j0 k a1 false false false false false a0 (a0 == 4)) else (if a0 = 5 then (effect_Uses.j0 k a1 false false false false false a0 (a0 == 5)) else (if a0 = 14 then (effect_Uses.j0 k a1 false false false false false a0 (a0 == 14)) else (if a0 = 15 then (effect_Uses.j0 k a1 false false false false false a0 (a0 == 15)) else (if a0 = 16 then (effect_Uses.j0 k a1 false false false false false a0 (a0 == 16)) else (effect_Uses.j0 k a1 false false false false false a0 (a0 == 19)))))))))
theorem effect_Uses.mono_l : ∀ k, (∀ y0 y1 y2 y3 y4 y5 y6 y7, LeO (effect_Uses.j0 k y0 y1 y2 y3 y4 y5 y6 y7) (effect_Uses.j0 (k + 1) y0 y1 y2 y3 y4 y5 y6 y7))
 | 0 => fun _ _ _ _ _ _ _ _ r h => by simp [effect_Uses.j0] at h
 | k + 1 => by
  have ih0 := effect_Uses.mono_l k
  ·intro y0 y1 y2 y3 y4 y5 y6 y7
   unfold effect_Uses.j0
   repeat' first
   | (with_reducible exact ih0 _ _ _ _ _ _ _ _)
   | (with_reducible exact LeO.refl _)
   | (with_reducible exact LeO.none _)
   | (with_reducible refine LeO.ite ?_ ?_)
   | (with_reducible refine LeO.bind ?_ (fun _ => ?_))
   | exact ih0 _ _ _ _ _ _ _ _
   | exact LeO.none _
   | refine LeO.ite ?_ ?_
   | refine LeO.bind ?_ (fun _ => ?_)
theorem effect_Uses.mono : ∀ a0 a1 k, LeO (effect_Uses.f k a0 a1) (effect_Uses.f (k + 1) a0 a1) := by
 intro a0 a1 k
 have ih0 := effect_Uses.mono_l k
 unfold effect_Uses.f
 repeat' first
   | (with_reducible exact ih0 _ _ _ _ _ _ _ _)
   | (with_reducible exact LeO.refl _)
   | (with_reducible exact LeO.none _)
   | (with_reducible refine LeO.ite ?_ ?_)
   | (with_reducible refine LeO.bind ?_ (fun _ => ?_))
   | exact ih0 _ _ _ _ _ _ _ _
   | exact LeO.none _
   | refine LeO.ite ?_ ?_
   | refine LeO.bind ?_ (fun _ => ?_)
set_option maxHeartbeats 8000000 in
set_option maxRecDepth 100000 in
theorem effect_Uses.calls (k : Nat) (a0 : Int) (a1 : Int) (r1 : Bool) (r2 : Bool) (r3 : Bool) (r4 : Bool) (r5 : Bool) (w : World) (h : effect_Uses.f k a0 a1 = some (r1, r2, r3, r4, r5)) :
  Calls Tryz.prog 54 #[.int .u8 a0, .int .u8 a1] w fun e w' => e = .returned (.tuple #[.bool r1, .bool r2, .bool r3, .bool r4, .bool r5]) ∧ Drawn0 w w' := by
 have H : (if a0 = 1 then (effect_Uses.j0 k a1 false false false false false a0 (a0 == 1)) else (if a0 = 2 then (effect_Uses.j0 k a1 false false false false false a0 (a0 == 2)) else (if a0 = 3 then (effect_Uses.j0 k a1 false false false false false a0 (a0 == 3)) else (if a0 = 4 then (effect_Uses.j0 k a1 false false false false false a0 (a0 == 4)) else (if a0 = 5 then (effect_Uses.j0 k a1 false false false false false a0 (a0 == 5)) else (if a0 = 14 then (effect_Uses.j0 k a1 false false false false false a0 (a0 == 14)) else (if a0 = 15 then (effect_Uses.j0 k a1 false false false false false a0 (a0 == 15)) else (if a0 = 16 then (effect_Uses.j0 k a1 false false false false false a0 (a0 == 16)) else (effect_Uses.j0 k a1 false false false false false a0 (a0 == 19)))))))))) = some (r1, r2, r3, r4, r5) := h
 clear h
 have HC3 := Aside0.mk H
 clear H
 go_enter Tryz.func54, Tryz.ntmps54
 go_upto_if 10 with (fail)
 go_cut [10] (fun v10 wc => ∃ (kq : Nat) (x10_2 : Bool), v10 = .bool x10_2 ∧ Aside0 (effect_Uses.j0 kq a1 false false false false false a0 x10_2 = some (r1, r2, r3, r4, r5)) ∧ Aside0 (kq ≤ k) ∧ Drawn0 w wc)
 case first =>
  have H := HC3.out
  clear HC3
  by_cases c4 : a0 = 1
  ·rw [if_pos c4] at H
   have c4b0 : (a0 == 1) = true := beq_iff_eq.mpr c4
   have c4b1 : (a0 != 1) = false := bne_eq_false_iff_eq.mpr c4
   clear c4
   (first | rw [c4b0] | (simp only [i64_w, i32_w]; rw [c4b0]) | skip)
   have H' := Aside0.mk H
   clear H
   go_wp2
   go_meet
   case rel => exact ⟨_, ((a0 == 1)), Zs, H', ⟨by first | omega | exact Nat.le_refl _⟩, Zd⟩
  ·rw [if_neg c4] at H
   have c4b0 : (a0 == 1) = false := beq_eq_false_iff_ne.mpr c4
   have c4b1 : (a0 != 1) = true := bne_iff_ne.mpr c4
   (first | rw [c4b0] | (simp only [i64_w, i32_w]; rw [c4b0]) | skip)
   by_cases c5 : a0 = 2
   ·rw [if_pos c5] at H
    have c5b0 : (a0 == 2) = true := beq_iff_eq.mpr c5
    have c5b1 : (a0 != 2) = false := bne_eq_false_iff_eq.mpr c5
    clear c5
    have H' := Aside0.mk H
    clear H
    go_wp2
    go_meet
    case rel => exact ⟨_, ((a0 == 2)), Zs, H', ⟨by first | omega | exact Nat.le_refl _⟩, Zd⟩
   ·rw [if_neg c5] at H
    have c5b0 : (a0 == 2) = false := beq_eq_false_iff_ne.mpr c5
    have c5b1 : (a0 != 2) = true := bne_iff_ne.mpr c5
    by_cases c6 : a0 = 3
    ·rw [if_pos c6] at H
     have c6b0 : (a0 == 3) = true := beq_iff_eq.mpr c6
     have c6b1 : (a0 != 3) = false := bne_eq_false_iff_eq.mpr c6
     clear c6
     have H' := Aside0.mk H
     clear H
     go_wp2
     go_meet
     case rel => exact ⟨_, ((a0 == 3)), Zs, H', ⟨by first | omega | exact Nat.le_refl _⟩, Zd⟩
    ·rw [if_neg c6] at H
     have c6b0 : (a0 == 3) = false := beq_eq_false_iff_ne.mpr c6
     have c6b1 : (a0 != 3) = true := bne_iff_ne.mpr c6
     by_cases c7 : a0 = 4
     ·rw [if_pos c7] at H
      have c7b0 : (a0 == 4) = true := beq_iff_eq.mpr c7
      have c7b1 : (a0 != 4) = false := bne_eq_false_iff_eq.mpr c7
      clear c7
      have H' := Aside0.mk H
      clear H
      go_wp2
      go_meet
      case rel => exact ⟨_, ((a0 == 4)), Zs, H', ⟨by first | omega | exact Nat.le_refl _⟩, Zd⟩
     ·rw [if_neg c7] at H
      have c7b0 : (a0 == 4) = false := beq_eq_false_iff_ne.mpr c7
      have c7b1 : (a0 != 4) = true := bne_iff_ne.mpr c7
      by_cases c8 : a0 = 5
      ·rw [if_pos c8] at H
       have c8b0 : (a0 == 5) = true := beq_iff_eq.mpr c8
       have c8b1 : (a0 != 5) = false := bne_eq_false_iff_eq.mpr c8
       clear c8
       have H' := Aside0.mk H
       clear H
       go_wp2
       go_meet
       case rel => exact ⟨_, ((a0 == 5)), Zs, H', ⟨by first | omega | exact Nat.le_refl _⟩, Zd⟩
      ·rw [if_neg c8] at H
       have c8b0 : (a0 == 5) = false := beq_eq_false_iff_ne.mpr c8
       have c8b1 : (a0 != 5) = true := bne_iff_ne.mpr c8
       by_cases c9 : a0 = 14
       ·rw [if_pos c9] at H
        have c9b0 : (a0 == 14) = true := beq_iff_eq.mpr c9
        have c9b1 : (a0 != 14) = false := bne_eq_false_iff_eq.mpr c9
        clear c9
        have H' := Aside0.mk H
        clear H
        go_wp2
        go_meet
        case rel => exact ⟨_, ((a0 == 14)), Zs, H', ⟨by first | omega | exact Nat.le_refl _⟩, Zd⟩
       ·rw [if_neg c9] at H
        have c9b0 : (a0 == 14) = false := beq_eq_false_iff_ne.mpr c9
        have c9b1 : (a0 != 14) = true := bne_iff_ne.mpr c9
        by_cases c10 : a0 = 15
        ·rw [if_pos c10] at H
         have c10b0 : (a0 == 15) = true := beq_iff_eq.mpr c10
         have c10b1 : (a0 != 15) = false := bne_eq_false_iff_eq.mpr c10
         clear c10
         have H' := Aside0.mk H
         clear H
         go_wp2
         go_meet
         case rel => exact ⟨_, ((a0 == 15)), Zs, H', ⟨by first | omega | exact Nat.le_refl _⟩, Zd⟩
        ·rw [if_neg c10] at H
         have c10b0 : (a0 == 15) = false := beq_eq_false_iff_ne.mpr c10
         have c10b1 : (a0 != 15) = true := bne_iff_ne.mpr c10
         by_cases c11 : a0 = 16
         ·rw [if_pos c11] at H
          have c11b0 : (a0 == 16) = true := beq_iff_eq.mpr c11
          have c11b1 : (a0 != 16) = false := bne_eq_false_iff_eq.mpr c11
          clear c11
          have H' := Aside0.mk H
          clear H
          go_wp2
          go_meet
          case rel => exact ⟨_, ((a0 == 16)), Zs, H', ⟨by first | omega | exact Nat.le_refl _⟩, Zd⟩
         ·rw [if_neg c11] at H
          have c11b0 : (a0 == 16) = false := beq_eq_false_iff_ne.mpr c11
          have c11b1 : (a0 != 16) = true := bne_iff_ne.mpr c11
          have H' := Aside0.mk H
          clear H
          go_wp2
          go_meet
          case rel => exact ⟨_, ((a0 == 19)), Zs, H', ⟨by first | omega | exact Nat.le_refl _⟩, Zd⟩
 case rest =>
  clear HC3
  try clear c1
  try clear p2
  try clear c4
  try clear c4b0
  try clear c4b1
  try clear c5
  try clear c5b0
  try clear c5b1
  try clear c6
  try clear c6b0
  try clear c6b1
  try clear c7
  try clear c7b0
  try clear c7b1
  try clear c8
  try clear c8b0
  try clear c8b1
  try clear c9
  try clear c9b0
  try clear c9b1
  try clear c10
  try clear c10b0
  try clear c10b1
  try clear c11
  try clear c11b0
  try clear c11b1
  obtain ⟨kq, x10_2, rfl, HA, HJ2, ⟨mc2, rfl⟩⟩ := hcut
  cases kq with
  | zero => exact absurd HA.out (by simp [effect_Uses.j0])
  | succ kj2 =>
   have H := HA.out
   clear HA
   simp only [effect_Uses.j0] at H
   by_cases c12 : x10_2 = true
   ·subst c12
    have H1 : (if false = true then (if false = true then (some (true, true, true, false, false)) else (some (true, true, (a1 == 10), false, false))) else (if false = true then (some (true, (a1 == 9), true, false, false)) else (some (true, (a1 == 9), (a1 == 10), false, false)))) = some (r1, r2, r3, r4, r5) := by rw [if_pos rfl] at H; exact H
    clear H
    have H := H1
    clear H1
    have H1 : (if false = true then (some (true, (a1 == 9), true, false, false)) else (some (true, (a1 == 9), (a1 == 10), false, false))) = some (r1, r2, r3, r4, r5) := by rw [if_neg (show ¬ (false = true) by decide)] at H; exact H
    clear H
    have H := H1
    clear H1
    have H1 : (some (true, (a1 == 9), (a1 == 10), false, false)) = some (r1, r2, r3, r4, r5) := by rw [if_neg (show ¬ (false = true) by decide)] at H; exact H
    clear H
    have H := H1
    clear H1
    simp only [Option.some.injEq, Prod.mk.injEq] at H
    obtain ⟨rfl, rfl, rfl, rfl, rfl⟩ := H
    go_wp2
    refine bodyPost_ret (results_list (rs := [.tmp 4, .tmp 5, .tmp 6, .tmp 7, .tmp 8]) rfl (by simp) (.tmp (.tmp (.tmp (.tmp (.tmp .nil)))))) rfl ?_
    exact ⟨Zt, Zd⟩
   ·replace c12 := Bool.eq_false_iff.mpr c12
    subst c12
    have H1 : (if a0 = 9 then (if false = true then (if false = true then (some (true, true, true, true, false)) else (some (true, true, (a1 == 10), true, false))) else (if false = true then (some (true, (a1 == 9), true, true, false)) else (some (true, (a1 == 9), (a1 == 10), true, false)))) else (if a0 = 7 then (if false = true then (if false = true then (some (true, true, true, false, true)) else (some (true, true, (a1 == 10), false, true))) else (if false = true then (some (true, (a1 == 9), true, false, true)) else (some (true, (a1 == 9), (a1 == 10), false, true)))) else (if a0 = 11 then (if false = true then (some (false, true, true, false, false)) else (some (false, true, (a1 == 10), false, false))) else (if a0 = 12 then (if false = true then (some (false, true, true, false, false)) else (some (false, (a1 == 9), true, false, false))) else (if a0 = 13 then (if false = true then (some (false, true, true, false, false)) else (some (false, (a1 == 9), true, false, false))) else (if false = true then (if false = true then (some (false, true, true, false, false)) else (some (false, true, (a1 == 10), false, false))) else (if false = true then (some (false, (a1 == 9), true, false, false)) else (some (false, (a1 == 9), (a1 == 10), false, false))))))))) = some (r1, r2, r3, r4, r5) := by rw [if_neg (show ¬ (false = true) by decide)] at H; exact H
    clear H
    have H := H1
    clear H1
    by_cases c13 : a0 = 9
    ·rw [if_pos c13] at H
     have c13b0 : (a0 == 9) = true := beq_iff_eq.mpr c13
     have c13b1 : (a0 != 9) = false := bne_eq_false_iff_eq.mpr c13
     clear c13
     have H1 : (if false = true then (some (true, (a1 == 9), true, true, false)) else (some (true, (a1 == 9), (a1 == 10), true, false))) = some (r1, r2, r3, r4, r5) := by rw [if_neg (show ¬ (false = true) by decide)] at H; exact H
     clear H
     have H := H1
     clear H1
     have H1 : (some (true, (a1 == 9), (a1 == 10), true, false)) = some (r1, r2, r3, r4, r5) := by rw [if_neg (show ¬ (false = true) by decide)] at H; exact H
     clear H
     have H := H1
     clear H1
     simp only [Option.some.injEq, Prod.mk.injEq] at H
     obtain ⟨rfl, rfl, rfl, rfl, rfl⟩ := H
     go_wp2
     refine bodyPost_ret (results_list (rs := [.tmp 4, .tmp 5, .tmp 6, .tmp 7, .tmp 8]) rfl (by simp) (.tmp (.tmp (.tmp (.tmp (.tmp .nil)))))) rfl ?_
     exact ⟨Zt, Zd⟩
    ·rw [if_neg c13] at H
     have c13b0 : (a0 == 9) = false := beq_eq_false_iff_ne.mpr c13
     have c13b1 : (a0 != 9) = true := bne_iff_ne.mpr c13
     by_cases c14 : a0 = 7
     ·rw [if_pos c14] at H
      have c14b0 : (a0 == 7) = true := beq_iff_eq.mpr c14
      have c14b1 : (a0 != 7) = false := bne_eq_false_iff_eq.mpr c14
      clear c14
      have H1 : (if false = true then (some (true, (a1 == 9), true, false, true)) else (some (true, (a1 == 9), (a1 == 10), false, true))) = some (r1, r2, r3, r4, r5) := by rw [if_neg (show ¬ (false = true) by decide)] at H; exact H
      clear H
      have H := H1
      clear H1
      have H1 : (some (true, (a1 == 9), (a1 == 10), false, true)) = some (r1, r2, r3, r4, r5) := by rw [if_neg (show ¬ (false = true) by decide)] at H; exact H
      clear H
      have H := H1
      clear H1
      simp only [Option.some.injEq, Prod.mk.injEq] at H
      obtain ⟨rfl, rfl, rfl, rfl, rfl⟩ := H
      go_wp2
      refine bodyPost_ret (results_list (rs := [.tmp 4, .tmp 5, .tmp 6, .tmp 7, .tmp 8]) rfl (by simp) (.tmp (.tmp (.tmp (.tmp (.tmp .nil)))))) rfl ?_
      exact ⟨Zt, Zd⟩
     ·rw [if_neg c14] at H
      have c14b0 : (a0 == 7) = false := beq_eq_false_iff_ne.mpr c14
      have c14b1 : (a0 != 7) = true := bne_iff_ne.mpr c14
      by_cases c15 : a0 = 11
      ·rw [if_pos c15] at H
       have c15b0 : (a0 == 11) = true := beq_iff_eq.mpr c15
       have c15b1 : (a0 != 11) = false := bne_eq_false_iff_eq.mpr c15
       clear c15
       have H1 : (some (false, true, (a1 == 10), false, false)) = some (r1, r2, r3, r4, r5) := by rw [if_neg (show ¬ (false = true) by decide)] at H; exact H
       clear H
       have H := H1
       clear H1
       simp only [Option.some.injEq, Prod.mk.injEq] at H
       obtain ⟨rfl, rfl, rfl, rfl, rfl⟩ := H
       go_wp2
       refine bodyPost_ret (results_list (rs := [.tmp 4, .tmp 5, .tmp 6, .tmp 7, .tmp 8]) rfl (by simp) (.tmp (.tmp (.tmp (.tmp (.tmp .nil)))))) rfl ?_
       exact ⟨Zt, Zd⟩
      ·rw [if_neg c15] at H
       have c15b0 : (a0 == 11) = false := beq_eq_false_iff_ne.mpr c15
       have c15b1 : (a0 != 11) = true := bne_iff_ne.mpr c15
       by_cases c16 : a0 = 12
       ·rw [if_pos c16] at H
        have c16b0 : (a0 == 12) = true := beq_iff_eq.mpr c16
        have c16b1 : (a0 != 12) = false := bne_eq_false_iff_eq.mpr c16
        clear c16
        have H1 : (some (false, (a1 == 9), true, false, false)) = some (r1, r2, r3, r4, r5) := by rw [if_neg (show ¬ (false = true) by decide)] at H; exact H
        clear H
        have H := H1
        clear H1
        simp only [Option.some.injEq, Prod.mk.injEq] at H
        obtain ⟨rfl, rfl, rfl, rfl, rfl⟩ := H
        go_wp2
        refine bodyPost_ret (results_list (rs := [.tmp 4, .tmp 5, .tmp 6, .tmp 7, .tmp 8]) rfl (by simp) (.tmp (.tmp (.tmp (.tmp (.tmp .nil)))))) rfl ?_
        exact ⟨Zt, Zd⟩
       ·rw [if_neg c16] at H
        have c16b0 : (a0 == 12) = false := beq_eq_false_iff_ne.mpr c16
        have c16b1 : (a0 != 12) = true := bne_iff_ne.mpr c16
        by_cases c17 : a0 = 13
        ·rw [if_pos c17] at H
         have c17b0 : (a0 == 13) = true := beq_iff_eq.mpr c17
         have c17b1 : (a0 != 13) = false := bne_eq_false_iff_eq.mpr c17
         clear c17
         have H1 : (some (false, (a1 == 9), true, false, false)) = some (r1, r2, r3, r4, r5) := by rw [if_neg (show ¬ (false = true) by decide)] at H; exact H
         clear H
         have H := H1
         clear H1
         simp only [Option.some.injEq, Prod.mk.injEq] at H
         obtain ⟨rfl, rfl, rfl, rfl, rfl⟩ := H
         go_wp2
         refine bodyPost_ret (results_list (rs := [.tmp 4, .tmp 5, .tmp 6, .tmp 7, .tmp 8]) rfl (by simp) (.tmp (.tmp (.tmp (.tmp (.tmp .nil)))))) rfl ?_
         exact ⟨Zt, Zd⟩
        ·rw [if_neg c17] at H
         have c17b0 : (a0 == 13) = false := beq_eq_false_iff_ne.mpr c17
         have c17b1 : (a0 != 13) = true := bne_iff_ne.mpr c17
         have H1 : (if false = true then (some (false, (a1 == 9), true, false, false)) else (some (false, (a1 == 9), (a1 == 10), false, false))) = some (r1, r2, r3, r4, r5) := by rw [if_neg (show ¬ (false = true) by decide)] at H; exact H
         clear H
         have H := H1
         clear H1
         have H1 : (some (false, (a1 == 9), (a1 == 10), false, false)) = some (r1, r2, r3, r4, r5) := by rw [if_neg (show ¬ (false = true) by decide)] at H; exact H
         clear H
         have H := H1
         clear H1
         simp only [Option.some.injEq, Prod.mk.injEq] at H
         obtain ⟨rfl, rfl, rfl, rfl, rfl⟩ := H
         go_wp2
         refine bodyPost_ret (results_list (rs := [.tmp 4, .tmp 5, .tmp 6, .tmp 7, .tmp 8]) rfl (by simp) (.tmp (.tmp (.tmp (.tmp (.tmp .nil)))))) rfl ?_
         exact ⟨Zt, Zd⟩
end Go.Proofs.YtfpcideomanbbaaGreatDoor.PA
end
section
namespace Go.Proofs.YtfpcideomanbbaaGreatDoor.PA
open Go.RowKit Go.Proofs.YtfpcideomanbbaaGreatDoorW.PrintWords Go.Proofs.YtfpcideomanbbaaGreatDoorW.PrintLast Go.Proofs.YtfpcideomanbbaaGreatDoorW.PrintMore
attribute [local go_sem] max2_int min2_int max_two min_two max_three min_three max_four min_four
set_option linter.unusedVariables false
set_option linter.unusedSimpArgs false
def effect_bounds.j0 : Nat → Int → Bool → Option (Int × Int × Bool)
 | 0, _, _ => none
 | k + 1, x5, x6 => if x6 = true then (some ((-99), 99, false)) else (if x5 = 5 then (some ((-9), 9, false)) else (if x5 = 14 then (some (0, 99, true)) else (some (1, 99, false))))
def effect_bounds.f (k : Nat) (a0 : Int) : Option (Int × Int × Bool) := if a0 = 9 then (effect_bounds.j0 k a0 (a0 == 9)) else (effect_bounds.j0 k a0 (a0 == 15))
theorem effect_bounds.mono_l : ∀ k, (∀ y0 y1, LeO (effect_bounds.j0 k y0 y1) (effect_bounds.j0 (k + 1) y0 y1))
 | 0 => fun _ _ r h => by simp [effect_bounds.j0] at h
 | k + 1 => by
  have ih0 := effect_bounds.mono_l k
  ·intro y0 y1
   unfold effect_bounds.j0
   repeat' first
   | (with_reducible exact ih0 _ _)
   | (with_reducible exact LeO.refl _)
   | (with_reducible exact LeO.none _)
   | (with_reducible refine LeO.ite ?_ ?_)
   | (with_reducible refine LeO.bind ?_ (fun _ => ?_))
   | exact ih0 _ _
   | exact LeO.none _
   | refine LeO.ite ?_ ?_
   | refine LeO.bind ?_ (fun _ => ?_)
theorem effect_bounds.mono : ∀ a0 k, LeO (effect_bounds.f k a0) (effect_bounds.f (k + 1) a0) := by
 intro a0 k
 have ih0 := effect_bounds.mono_l k
 unfold effect_bounds.f
 repeat' first
   | (with_reducible exact ih0 _ _)
   | (with_reducible exact LeO.refl _)
   | (with_reducible exact LeO.none _)
   | (with_reducible refine LeO.ite ?_ ?_)
   | (with_reducible refine LeO.bind ?_ (fun _ => ?_))
   | exact ih0 _ _
   | exact LeO.none _
   | refine LeO.ite ?_ ?_
   | refine LeO.bind ?_ (fun _ => ?_)
set_option maxHeartbeats 8000000 in
set_option maxRecDepth 100000 in
theorem effect_bounds.calls (k : Nat) (a0 : Int) (r1 : Int) (r2 : Int) (r3 : Bool) (w : World) (h : effect_bounds.f k a0 = some (r1, r2, r3)) :
  Calls Tryz.prog 61 #[.int .u8 a0] w fun e w' => e = .returned (.tuple #[.int .i64 r1, .int .i64 r2, .bool r3]) ∧ Drawn0 w w' := by
 have H : (if a0 = 9 then (effect_bounds.j0 k a0 (a0 == 9)) else (effect_bounds.j0 k a0 (a0 == 15))) = some (r1, r2, r3) := h
 clear h
 have HC2 := Aside0.mk H
 clear H
 go_enter Tryz.func61, Tryz.ntmps61
 go_upto_if 6 with (fail)
 go_cut [6] (fun v6 wc => ∃ (kq : Nat) (x6_1 : Bool), v6 = .bool x6_1 ∧ Aside0 (effect_bounds.j0 kq a0 x6_1 = some (r1, r2, r3)) ∧ Aside0 (kq ≤ k) ∧ Drawn0 w wc)
 case first =>
  have H := HC2.out
  clear HC2
  by_cases c3 : a0 = 9
  ·rw [if_pos c3] at H
   have c3b0 : (a0 == 9) = true := beq_iff_eq.mpr c3
   have c3b1 : (a0 != 9) = false := bne_eq_false_iff_eq.mpr c3
   clear c3
   (first | rw [c3b0] | (simp only [i64_w, i32_w]; rw [c3b0]) | skip)
   have H' := Aside0.mk H
   clear H
   go_wp2
   go_meet
   case rel => exact ⟨_, ((a0 == 9)), Zs, H', ⟨by first | omega | exact Nat.le_refl _⟩, Zd⟩
  ·rw [if_neg c3] at H
   have c3b0 : (a0 == 9) = false := beq_eq_false_iff_ne.mpr c3
   have c3b1 : (a0 != 9) = true := bne_iff_ne.mpr c3
   (first | rw [c3b0] | (simp only [i64_w, i32_w]; rw [c3b0]) | skip)
   have H' := Aside0.mk H
   clear H
   go_wp2
   go_meet
   case rel => exact ⟨_, ((a0 == 15)), Zs, H', ⟨by first | omega | exact Nat.le_refl _⟩, Zd⟩
 case rest =>
  clear HC2
  try clear p2
  try clear c3
  try clear c3b0
  try clear c3b1
  obtain ⟨kq, x6_1, rfl, HA, HJ1, ⟨mc1, rfl⟩⟩ := hcut
  cases kq with
  | zero => exact absurd HA.out (by simp [effect_bounds.j0])
  | succ kj1 =>
   have H := HA.out
   clear HA
   simp only [effect_bounds.j0] at H
   by_cases c4 : x6_1 = true
   ·subst c4
    have H1 : (some ((-99), 99, false)) = some (r1, r2, r3) := by rw [if_pos rfl] at H; exact H
    clear H
    have H := H1
    clear H1
    simp only [Option.some.injEq, Prod.mk.injEq] at H
    obtain ⟨rfl, rfl, rfl⟩ := H
    go_wp2
    go_ret3
    exact ⟨Zt, Zd⟩
   ·replace c4 := Bool.eq_false_iff.mpr c4
    subst c4
    have H1 : (if a0 = 5 then (some ((-9), 9, false)) else (if a0 = 14 then (some (0, 99, true)) else (some (1, 99, false)))) = some (r1, r2, r3) := by rw [if_neg (show ¬ (false = true) by decide)] at H; exact H
    clear H
    have H := H1
    clear H1
    by_cases c5 : a0 = 5
    ·rw [if_pos c5] at H
     have c5b0 : (a0 == 5) = true := beq_iff_eq.mpr c5
     have c5b1 : (a0 != 5) = false := bne_eq_false_iff_eq.mpr c5
     clear c5
     simp only [Option.some.injEq, Prod.mk.injEq] at H
     obtain ⟨rfl, rfl, rfl⟩ := H
     go_wp2
     go_ret3
     exact ⟨Zt, Zd⟩
    ·rw [if_neg c5] at H
     have c5b0 : (a0 == 5) = false := beq_eq_false_iff_ne.mpr c5
     have c5b1 : (a0 != 5) = true := bne_iff_ne.mpr c5
     by_cases c6 : a0 = 14
     ·rw [if_pos c6] at H
      have c6b0 : (a0 == 14) = true := beq_iff_eq.mpr c6
      have c6b1 : (a0 != 14) = false := bne_eq_false_iff_eq.mpr c6
      clear c6
      simp only [Option.some.injEq, Prod.mk.injEq] at H
      obtain ⟨rfl, rfl, rfl⟩ := H
      go_wp2
      go_ret3
      exact ⟨Zt, Zd⟩
     ·rw [if_neg c6] at H
      have c6b0 : (a0 == 14) = false := beq_eq_false_iff_ne.mpr c6
      have c6b1 : (a0 != 14) = true := bne_iff_ne.mpr c6
      simp only [Option.some.injEq, Prod.mk.injEq] at H
      obtain ⟨rfl, rfl, rfl⟩ := H
      go_wp2
      go_ret3
      exact ⟨Zt, Zd⟩
end Go.Proofs.YtfpcideomanbbaaGreatDoor.PA
end
section
namespace Go.Proofs.YtfpcideomanbbaaGreatDoor.PA
open Go.RowKit Go.Proofs.YtfpcideomanbbaaGreatDoorW.PrintWords Go.Proofs.YtfpcideomanbbaaGreatDoorW.PrintLast Go.Proofs.YtfpcideomanbbaaGreatDoorW.PrintMore
attribute [local go_sem] max2_int min2_int max_two min_two max_three min_three max_four min_four
set_option linter.unusedVariables false
set_option linter.unusedSimpArgs false
def effect_standing.f (a0 : Int) : Option (Bool) := if a0 ≥ 10 then (some (decide (a0 ≤ 15))) else (some false)
set_option maxHeartbeats 8000000 in
set_option maxRecDepth 100000 in
theorem effect_standing.calls (a0 : Int) (r : Bool) (w : World) (h : effect_standing.f a0 = some r) :
  Calls Tryz.prog 106 #[.int .u8 a0] w fun e w' => e = .returned (.bool r) ∧ Drawn0 w w' := by
 have H : (if a0 ≥ 10 then (some (decide (a0 ≤ 15))) else (some false)) = some r := h
 clear h
 by_cases c2 : a0 ≥ 10
 ·rw [if_pos c2] at H
  have c2b0 : decide (10 ≤ a0) = true := decide_eq_true c2
  clear c2
  obtain rfl := Option.some.inj H
  go_enter Tryz.func106, Tryz.ntmps106
  go_wp2
  go_ret
  exact ⟨Zt, Zd⟩
 ·rw [if_neg c2] at H
  have c2b0 : decide (10 ≤ a0) = false := decide_eq_false c2
  clear c2
  obtain rfl := Option.some.inj H
  go_enter Tryz.func106, Tryz.ntmps106
  go_wp2
  go_ret
  exact ⟨Zt, Zd⟩
end Go.Proofs.YtfpcideomanbbaaGreatDoor.PA
end
section
namespace Go.Proofs.YtfpcideomanbbaaGreatDoor.PA
open Go.RowKit Go.Proofs.YtfpcideomanbbaaGreatDoorW.PrintWords Go.Proofs.YtfpcideomanbbaaGreatDoorW.PrintLast Go.Proofs.YtfpcideomanbbaaGreatDoorW.PrintMore
attribute [local go_sem] max2_int min2_int max_two min_two max_three min_three max_four min_four
set_option linter.unusedVariables false
set_option linter.unusedSimpArgs false
def effect_swapping.f (a0 : Int) : Option (Bool) := if a0 ≥ 16 then (some (decide (a0 ≤ 19))) else (some false)
set_option maxHeartbeats 8000000 in
set_option maxRecDepth 100000 in
theorem effect_swapping.calls (a0 : Int) (r : Bool) (w : World) (h : effect_swapping.f a0 = some r) :
  Calls Tryz.prog 107 #[.int .u8 a0] w fun e w' => e = .returned (.bool r) ∧ Drawn0 w w' := by
 have H : (if a0 ≥ 16 then (some (decide (a0 ≤ 19))) else (some false)) = some r := h
 clear h
 by_cases c2 : a0 ≥ 16
 ·rw [if_pos c2] at H
  have c2b0 : decide (16 ≤ a0) = true := decide_eq_true c2
  clear c2
  obtain rfl := Option.some.inj H
  go_enter Tryz.func107, Tryz.ntmps107
  go_wp2
  go_ret
  exact ⟨Zt, Zd⟩
 ·rw [if_neg c2] at H
  have c2b0 : decide (16 ≤ a0) = false := decide_eq_false c2
  clear c2
  obtain rfl := Option.some.inj H
  go_enter Tryz.func107, Tryz.ntmps107
  go_wp2
  go_ret
  exact ⟨Zt, Zd⟩
end Go.Proofs.YtfpcideomanbbaaGreatDoor.PA
end
section
namespace Go.Proofs.YtfpcideomanbbaaGreatDoor.PA
open Go.RowKit Go.Proofs.YtfpcideomanbbaaGreatDoorW.PrintWords Go.Proofs.YtfpcideomanbbaaGreatDoorW.PrintLast Go.Proofs.YtfpcideomanbbaaGreatDoorW.PrintMore
attribute [local go_sem] max2_int min2_int max_two min_two max_three min_three max_four min_four
set_option linter.unusedVariables false
set_option linter.unusedSimpArgs false
def effect_event.f (a0 : Int) : Option (Bool) := if a0 ≥ 1 then (some (decide (a0 ≤ 9))) else (some false)
set_option maxHeartbeats 8000000 in
set_option maxRecDepth 100000 in
theorem effect_event.calls (a0 : Int) (r : Bool) (w : World) (h : effect_event.f a0 = some r) :
  Calls Tryz.prog 108 #[.int .u8 a0] w fun e w' => e = .returned (.bool r) ∧ Drawn0 w w' := by
 have H : (if a0 ≥ 1 then (some (decide (a0 ≤ 9))) else (some false)) = some r := h
 clear h
 by_cases c2 : a0 ≥ 1
 ·rw [if_pos c2] at H
  have c2b0 : decide (1 ≤ a0) = true := decide_eq_true c2
  clear c2
  obtain rfl := Option.some.inj H
  go_enter Tryz.func108, Tryz.ntmps108
  go_wp2
  go_ret
  exact ⟨Zt, Zd⟩
 ·rw [if_neg c2] at H
  have c2b0 : decide (1 ≤ a0) = false := decide_eq_false c2
  clear c2
  obtain rfl := Option.some.inj H
  go_enter Tryz.func108, Tryz.ntmps108
  go_wp2
  go_ret
  exact ⟨Zt, Zd⟩
end Go.Proofs.YtfpcideomanbbaaGreatDoor.PA
end
section
namespace Go.Proofs.YtfpcideomanbbaaGreatDoor.PA
open Go.RowKit Go.Proofs.YtfpcideomanbbaaGreatDoorW.PrintWords Go.Proofs.YtfpcideomanbbaaGreatDoorW.PrintLast Go.Proofs.YtfpcideomanbbaaGreatDoorW.PrintMore
attribute [local go_sem] max2_int min2_int max_two min_two max_three min_three max_four min_four
set_option linter.unusedVariables false
set_option linter.unusedSimpArgs false
def effect_wanted.f (a0 : Int) (a1 : Int) : Option (Bool) := if a0 = 5 then ((effect_standing.f a1).bind fun t234 => (some t234)) else (if a0 = 6 then ((effect_swapping.f a1).bind fun t235 => (some t235)) else ((effect_event.f a1).bind fun t236 => (some t236)))
set_option maxHeartbeats 8000000 in
set_option maxRecDepth 100000 in
theorem effect_wanted.calls (a0 : Int) (a1 : Int) (r : Bool) (w : World) (h : effect_wanted.f a0 a1 = some r) :
  Calls Tryz.prog 62 #[.int .u8 a0, .int .u8 a1] w fun e w' => e = .returned (.bool r) ∧ Drawn0 w w' := by
 have H : (if a0 = 5 then ((effect_standing.f a1).bind fun t234 => (some t234)) else (if a0 = 6 then ((effect_swapping.f a1).bind fun t235 => (some t235)) else ((effect_event.f a1).bind fun t236 => (some t236)))) = some r := h
 clear h
 by_cases c3 : a0 = 5
 ·rw [if_pos c3] at H
  have c3b0 : (a0 == 5) = true := beq_iff_eq.mpr c3
  have c3b1 : (a0 != 5) = false := bne_eq_false_iff_eq.mpr c3
  clear c3
  replace H := Option.bind_eq_some_iff.mp H
  obtain ⟨t234, A40, H⟩ := H
  replace H : (some t234) = some r := H
  have A4 := Aside0.mk A40
  clear A40
  obtain rfl := Option.some.inj H
  go_enter Tryz.func62, Tryz.ntmps62
  go_wp2_with (first | ((with_reducible refine gate_callee (f := 106) rfl ?_); refine goesL_ (some 9) rfl rfl Tryz.func106 (by kernel_rfl) rfl #[.int .u8 a1] rfl Zl ?_; (with_reducible refine (effect_standing.calls a1 t234 _ A4.out).mono ?_); rintro e w' ⟨rfl, ⟨nd, rfl⟩⟩; refine ⟨_, rfl, ?_⟩))
  go_ret
  exact ⟨Zt, Zd⟩
 ·rw [if_neg c3] at H
  have c3b0 : (a0 == 5) = false := beq_eq_false_iff_ne.mpr c3
  have c3b1 : (a0 != 5) = true := bne_iff_ne.mpr c3
  by_cases c5 : a0 = 6
  ·rw [if_pos c5] at H
   have c5b0 : (a0 == 6) = true := beq_iff_eq.mpr c5
   have c5b1 : (a0 != 6) = false := bne_eq_false_iff_eq.mpr c5
   clear c5
   replace H := Option.bind_eq_some_iff.mp H
   obtain ⟨t235, A60, H⟩ := H
   replace H : (some t235) = some r := H
   have A6 := Aside0.mk A60
   clear A60
   obtain rfl := Option.some.inj H
   go_enter Tryz.func62, Tryz.ntmps62
   go_wp2_with (first | ((with_reducible refine gate_callee (f := 107) rfl ?_); refine goesL_ (some 13) rfl rfl Tryz.func107 (by kernel_rfl) rfl #[.int .u8 a1] rfl Zl ?_; (with_reducible refine (effect_swapping.calls a1 t235 _ A6.out).mono ?_); rintro e w' ⟨rfl, ⟨nd, rfl⟩⟩; refine ⟨_, rfl, ?_⟩))
   go_ret
   exact ⟨Zt, Zd⟩
  ·rw [if_neg c5] at H
   have c5b0 : (a0 == 6) = false := beq_eq_false_iff_ne.mpr c5
   have c5b1 : (a0 != 6) = true := bne_iff_ne.mpr c5
   replace H := Option.bind_eq_some_iff.mp H
   obtain ⟨t236, A70, H⟩ := H
   replace H : (some t236) = some r := H
   have A7 := Aside0.mk A70
   clear A70
   obtain rfl := Option.some.inj H
   go_enter Tryz.func62, Tryz.ntmps62
   go_wp2_with (first | ((with_reducible refine gate_callee (f := 108) rfl ?_); refine goesL_ (some 15) rfl rfl Tryz.func108 (by kernel_rfl) rfl #[.int .u8 a1] rfl Zl ?_; (with_reducible refine (effect_event.calls a1 t236 _ A7.out).mono ?_); rintro e w' ⟨rfl, ⟨nd, rfl⟩⟩; refine ⟨_, rfl, ?_⟩))
   go_ret
   exact ⟨Zt, Zd⟩
end Go.Proofs.YtfpcideomanbbaaGreatDoor.PA
end
section
namespace Go.Proofs.YtfpcideomanbbaaGreatDoor.PA
open Go.RowKit Go.Proofs.YtfpcideomanbbaaGreatDoorW.PrintWords Go.Proofs.YtfpcideomanbbaaGreatDoorW.PrintLast Go.Proofs.YtfpcideomanbbaaGreatDoorW.PrintMore
attribute [local go_sem] max2_int min2_int max_two min_two max_three min_three max_four min_four
set_option linter.unusedVariables false
set_option linter.unusedSimpArgs false
def effect_about.j0 : Nat → Bool → Int → Int → Int → Int → Int → Int → Int → ByteArray → Option (Bool)
 | 0, _, _, _, _, _, _, _, _, _ => none
 | k + 1, x3, x238000, x238001, x238002, x238003, x238004, x238005, x238006, x238007 => (effect_standing.f x238001).bind fun t238 => (if t238 = true then (if x3 = true then (some false) else (some (x238002 != 3))) else ((effect_swapping.f x238001).bind fun t239 => (if t239 = true then (some (x238002 != 3)) else (if x238002 = 3 then (some (x238000 == 1)) else (if x3 = true then (if x238001 = 6 then (some false) else (if x238001 = 8 then (some false) else (some (x238001 != 9)))) else (some true))))))
def effect_about.f (k : Nat) (a0_0 : Int) (a0_1 : Int) (a0_2 : Int) (a0_3 : Int) (a0_4 : Int) (a0_5 : Int) (a0_6 : Int) (a0_7 : ByteArray) : Option (Bool) := if a0_2 = 1 then (effect_about.j0 k true a0_0 a0_1 a0_2 a0_3 a0_4 a0_5 a0_6 a0_7) else (effect_about.j0 k (a0_2 == 2) a0_0 a0_1 a0_2 a0_3 a0_4 a0_5 a0_6 a0_7)
theorem effect_about.mono_l : ∀ k, (∀ y0 y1 y2 y3 y4 y5 y6 y7 y8, LeO (effect_about.j0 k y0 y1 y2 y3 y4 y5 y6 y7 y8) (effect_about.j0 (k + 1) y0 y1 y2 y3 y4 y5 y6 y7 y8))
 | 0 => fun _ _ _ _ _ _ _ _ _ r h => by simp [effect_about.j0] at h
 | k + 1 => by
  have ih0 := effect_about.mono_l k
  ·intro y0 y1 y2 y3 y4 y5 y6 y7 y8
   unfold effect_about.j0
   repeat' first
   | (with_reducible exact ih0 _ _ _ _ _ _ _ _ _)
   | (with_reducible exact LeO.refl _)
   | (with_reducible exact LeO.none _)
   | (with_reducible refine LeO.ite ?_ ?_)
   | (with_reducible refine LeO.bind ?_ (fun _ => ?_))
   | exact ih0 _ _ _ _ _ _ _ _ _
   | exact LeO.none _
   | refine LeO.ite ?_ ?_
   | refine LeO.bind ?_ (fun _ => ?_)
theorem effect_about.mono : ∀ a0 a1 a2 a3 a4 a5 a6 a7 k, LeO (effect_about.f k a0 a1 a2 a3 a4 a5 a6 a7) (effect_about.f (k + 1) a0 a1 a2 a3 a4 a5 a6 a7) := by
 intro a0 a1 a2 a3 a4 a5 a6 a7 k
 have ih0 := effect_about.mono_l k
 unfold effect_about.f
 repeat' first
   | (with_reducible exact ih0 _ _ _ _ _ _ _ _ _)
   | (with_reducible exact LeO.refl _)
   | (with_reducible exact LeO.none _)
   | (with_reducible refine LeO.ite ?_ ?_)
   | (with_reducible refine LeO.bind ?_ (fun _ => ?_))
   | exact ih0 _ _ _ _ _ _ _ _ _
   | exact LeO.none _
   | refine LeO.ite ?_ ?_
   | refine LeO.bind ?_ (fun _ => ?_)
set_option maxHeartbeats 8000000 in
set_option maxRecDepth 100000 in
theorem effect_about.calls (k : Nat) (a0_0 : Int) (a0_1 : Int) (a0_2 : Int) (a0_3 : Int) (a0_4 : Int) (a0_5 : Int) (a0_6 : Int) (a0_7 : ByteArray) (r : Bool) (w : World) (h : effect_about.f k a0_0 a0_1 a0_2 a0_3 a0_4 a0_5 a0_6 a0_7 = some r) :
  Calls Tryz.prog 63 #[.agg #[.int .u8 a0_0, .int .u8 a0_1, .int .u8 a0_2, .int .i64 a0_3, .int .u8 a0_4, .int .u8 a0_5, .int .u8 a0_6, .string a0_7]] w fun e w' => e = .returned (.bool r) ∧ Below w.heap.size w w' := by
 have hu48 := Tryz.underlying48
 have HB := Aside0.mk (Below.refl w.heap.size w)
 have H : (if a0_2 = 1 then (effect_about.j0 k true a0_0 a0_1 a0_2 a0_3 a0_4 a0_5 a0_6 a0_7) else (effect_about.j0 k (a0_2 == 2) a0_0 a0_1 a0_2 a0_3 a0_4 a0_5 a0_6 a0_7)) = some r := h
 clear h
 have HC2 := Aside0.mk H
 clear H
 go_enter Tryz.func63, Tryz.ntmps63
 go_upto_region 1 with (first | ((with_reducible refine gate_dst (N := 1) rfl ?_); refine box_event ?hg (N := 1) ?hd (cs := #[.int .u8 a0_0, .int .u8 a0_1, .int .u8 a0_2, .int .i64 a0_3, .int .u8 a0_4, .int .u8 a0_5, .int .u8 a0_6, .string a0_7]) (t := 48) ?hr ?_; (case hd => rfl); (case hg => rfl); (case hr => first | (go_simp; done) | (go_simp; rfl)); intro gb237 hg w3 hbox hb; have BK237 := Aside0.mk (hbox); have GW237 := Aside0.mk ((by rw [hg]; exact (below_size Zb) : w.heap.size ≤ gb237)); have GE237 := Aside0.mk ((by rw [hg]; exact (below_size Zb) : w.heap.size ≤ gb237)); replace HB := Aside0.mk (below_step Zb hb); clear hb hbox hg))
 (try simp only [Act.put, List.setIfInBounds_toArray, List.set_cons_zero, List.set_cons_succ])
 go_cut [3] (fun v3 wc => ∃ (kq : Nat) (x3_1 : Bool), v3 = .bool x3_1 ∧ Aside0 (effect_about.j0 kq x3_1 a0_0 a0_1 a0_2 a0_3 a0_4 a0_5 a0_6 a0_7 = some r) ∧ Aside0 (kq ≤ k) ∧ Aside0 (wc.heap[gb237]? = some (.cells #[.int .u8 a0_0, .int .u8 a0_1, .int .u8 a0_2, .int .i64 a0_3, .int .u8 a0_4, .int .u8 a0_5, .int .u8 a0_6, .string a0_7] 48 (0, 0))) ∧ Aside0 (Below w.heap.size w wc))
 case first =>
  have H := HC2.out
  clear HC2
  by_cases c4 : a0_2 = 1
  ·rw [if_pos c4] at H
   have c4b0 : (a0_2 == 1) = true := beq_iff_eq.mpr c4
   have c4b1 : (a0_2 != 1) = false := bne_eq_false_iff_eq.mpr c4
   clear c4
   (first | rw [c4b0] | (simp only [i64_w, i32_w]; rw [c4b0]) | skip)
   have H' := Aside0.mk H
   clear H
   have hcz5_0 := Zc BK237.out 0 (.int .u8 a0_0) rfl
   have hcz5_1 := Zc BK237.out 1 (.int .u8 a0_1) rfl
   have hcz5_2 := Zc BK237.out 2 (.int .u8 a0_2) rfl
   have hcz5_3 := Zc BK237.out 3 (.int .i64 a0_3) rfl
   have hcz5_4 := Zc BK237.out 4 (.int .u8 a0_4) rfl
   have hcz5_5 := Zc BK237.out 5 (.int .u8 a0_5) rfl
   have hcz5_6 := Zc BK237.out 6 (.int .u8 a0_6) rfl
   have hcz5_7 := Zc BK237.out 7 (.string a0_7) rfl
   have hfz5_0 := blk_frozen BK237.out 0
   have hfz5_1 := blk_frozen BK237.out 1
   have hfz5_2 := blk_frozen BK237.out 2
   have hfz5_3 := blk_frozen BK237.out 3
   have hfz5_4 := blk_frozen BK237.out 4
   have hfz5_5 := blk_frozen BK237.out 5
   have hfz5_6 := blk_frozen BK237.out 6
   have hfz5_7 := blk_frozen BK237.out 7
   go_wp2
   go_meet
   case rel => exact ⟨_, (true), Zs, H', ⟨by first | omega | exact Nat.le_refl _⟩, ⟨Zk BK237.out⟩, ⟨Zb1 GE237.out⟩⟩
  ·rw [if_neg c4] at H
   have c4b0 : (a0_2 == 1) = false := beq_eq_false_iff_ne.mpr c4
   have c4b1 : (a0_2 != 1) = true := bne_iff_ne.mpr c4
   (first | rw [c4b0] | (simp only [i64_w, i32_w]; rw [c4b0]) | skip)
   have H' := Aside0.mk H
   clear H
   have hcz6_0 := Zc BK237.out 0 (.int .u8 a0_0) rfl
   have hcz6_1 := Zc BK237.out 1 (.int .u8 a0_1) rfl
   have hcz6_2 := Zc BK237.out 2 (.int .u8 a0_2) rfl
   have hcz6_3 := Zc BK237.out 3 (.int .i64 a0_3) rfl
   have hcz6_4 := Zc BK237.out 4 (.int .u8 a0_4) rfl
   have hcz6_5 := Zc BK237.out 5 (.int .u8 a0_5) rfl
   have hcz6_6 := Zc BK237.out 6 (.int .u8 a0_6) rfl
   have hcz6_7 := Zc BK237.out 7 (.string a0_7) rfl
   have hfz6_0 := blk_frozen BK237.out 0
   have hfz6_1 := blk_frozen BK237.out 1
   have hfz6_2 := blk_frozen BK237.out 2
   have hfz6_3 := blk_frozen BK237.out 3
   have hfz6_4 := blk_frozen BK237.out 4
   have hfz6_5 := blk_frozen BK237.out 5
   have hfz6_6 := blk_frozen BK237.out 6
   have hfz6_7 := blk_frozen BK237.out 7
   go_wp2
   go_meet
   case rel => exact ⟨_, ((a0_2 == 2)), Zs, H', ⟨by first | omega | exact Nat.le_refl _⟩, ⟨Zk BK237.out⟩, ⟨Zb1 GE237.out⟩⟩
 case rest =>
  clear HC2
  try clear p2
  try clear c4
  try clear c4b0
  try clear c4b1
  try clear c6
  try clear hcz5_0
  try clear hcz5_1
  try clear hcz5_2
  try clear hcz5_3
  try clear hcz5_4
  try clear hcz5_5
  try clear hcz5_6
  try clear hcz5_7
  try clear hcz6_0
  try clear hcz6_1
  try clear hcz6_2
  try clear hcz6_3
  try clear hcz6_4
  try clear hcz6_5
  try clear hcz6_6
  try clear hcz6_7
  try clear hfz5_0
  try clear hfz5_1
  try clear hfz5_2
  try clear hfz5_3
  try clear hfz5_4
  try clear hfz5_5
  try clear hfz5_6
  try clear hfz5_7
  try clear hfz6_0
  try clear hfz6_1
  try clear hfz6_2
  try clear hfz6_3
  try clear hfz6_4
  try clear hfz6_5
  try clear hfz6_6
  try clear hfz6_7
  obtain ⟨kq, x3_1, rfl, HA, HJ1, BK237, HB⟩ := hcut
  cases kq with
  | zero => exact absurd HA.out (by simp [effect_about.j0])
  | succ kj1 =>
   have H := HA.out
   clear HA
   simp only [effect_about.j0] at H
   replace H := Option.bind_eq_some_iff.mp H
   obtain ⟨t238, A70, H⟩ := H
   replace H : (if t238 = true then (if x3_1 = true then (some false) else (some (a0_2 != 3))) else ((effect_swapping.f a0_1).bind fun t239 => (if t239 = true then (some (a0_2 != 3)) else (if a0_2 = 3 then (some (a0_0 == 1)) else (if x3_1 = true then (if a0_1 = 6 then (some false) else (if a0_1 = 8 then (some false) else (some (a0_1 != 9)))) else (some true)))))) = some r := H
   have A7 := Aside0.mk A70
   clear A70
   by_cases c8 : t238 = true
   ·subst c8
    have H1 : (if x3_1 = true then (some false) else (some (a0_2 != 3))) = some r := by rw [if_pos rfl] at H; exact H
    clear H
    have H := H1
    clear H1
    by_cases c9 : x3_1 = true
    ·subst c9
     have H1 : (some false) = some r := by rw [if_pos rfl] at H; exact H
     clear H
     have H := H1
     clear H1
     obtain rfl := Option.some.inj H
     have hcz10_0 := Zc BK237.out 0 (.int .u8 a0_0) rfl
     have hcz10_1 := Zc BK237.out 1 (.int .u8 a0_1) rfl
     have hcz10_2 := Zc BK237.out 2 (.int .u8 a0_2) rfl
     have hcz10_3 := Zc BK237.out 3 (.int .i64 a0_3) rfl
     have hcz10_4 := Zc BK237.out 4 (.int .u8 a0_4) rfl
     have hcz10_5 := Zc BK237.out 5 (.int .u8 a0_5) rfl
     have hcz10_6 := Zc BK237.out 6 (.int .u8 a0_6) rfl
     have hcz10_7 := Zc BK237.out 7 (.string a0_7) rfl
     have hfz10_0 := blk_frozen BK237.out 0
     have hfz10_1 := blk_frozen BK237.out 1
     have hfz10_2 := blk_frozen BK237.out 2
     have hfz10_3 := blk_frozen BK237.out 3
     have hfz10_4 := blk_frozen BK237.out 4
     have hfz10_5 := blk_frozen BK237.out 5
     have hfz10_6 := blk_frozen BK237.out 6
     have hfz10_7 := blk_frozen BK237.out 7
     go_wp2_with (first | ((with_reducible refine gate_callee (f := 106) rfl ?_); refine goesL_ (some 15) rfl rfl Tryz.func106 (by kernel_rfl) rfl #[.int .u8 a0_1] rfl Zl ?_; (with_reducible refine (effect_standing.calls a0_1 true _ A7.out).mono ?_); rintro e w' ⟨rfl, ⟨nd, rfl⟩⟩; refine ⟨_, rfl, ?_⟩))
     go_ret
     exact ⟨Ze, Zb1 GE237.out⟩
    ·replace c9 := Bool.eq_false_iff.mpr c9
     subst c9
     have H1 : (some (a0_2 != 3)) = some r := by rw [if_neg (show ¬ (false = true) by decide)] at H; exact H
     clear H
     have H := H1
     clear H1
     obtain rfl := Option.some.inj H
     have hcz11_0 := Zc BK237.out 0 (.int .u8 a0_0) rfl
     have hcz11_1 := Zc BK237.out 1 (.int .u8 a0_1) rfl
     have hcz11_2 := Zc BK237.out 2 (.int .u8 a0_2) rfl
     have hcz11_3 := Zc BK237.out 3 (.int .i64 a0_3) rfl
     have hcz11_4 := Zc BK237.out 4 (.int .u8 a0_4) rfl
     have hcz11_5 := Zc BK237.out 5 (.int .u8 a0_5) rfl
     have hcz11_6 := Zc BK237.out 6 (.int .u8 a0_6) rfl
     have hcz11_7 := Zc BK237.out 7 (.string a0_7) rfl
     have hfz11_0 := blk_frozen BK237.out 0
     have hfz11_1 := blk_frozen BK237.out 1
     have hfz11_2 := blk_frozen BK237.out 2
     have hfz11_3 := blk_frozen BK237.out 3
     have hfz11_4 := blk_frozen BK237.out 4
     have hfz11_5 := blk_frozen BK237.out 5
     have hfz11_6 := blk_frozen BK237.out 6
     have hfz11_7 := blk_frozen BK237.out 7
     go_wp2_with (first | ((with_reducible refine gate_callee (f := 106) rfl ?_); refine goesL_ (some 15) rfl rfl Tryz.func106 (by kernel_rfl) rfl #[.int .u8 a0_1] rfl Zl ?_; (with_reducible refine (effect_standing.calls a0_1 true _ A7.out).mono ?_); rintro e w' ⟨rfl, ⟨nd, rfl⟩⟩; refine ⟨_, rfl, ?_⟩))
     go_ret
     exact ⟨Ze, Zb1 GE237.out⟩
   ·replace c8 := Bool.eq_false_iff.mpr c8
    subst c8
    have H1 : ((effect_swapping.f a0_1).bind fun t239 => (if t239 = true then (some (a0_2 != 3)) else (if a0_2 = 3 then (some (a0_0 == 1)) else (if x3_1 = true then (if a0_1 = 6 then (some false) else (if a0_1 = 8 then (some false) else (some (a0_1 != 9)))) else (some true))))) = some r := by rw [if_neg (show ¬ (false = true) by decide)] at H; exact H
    clear H
    have H := H1
    clear H1
    replace H := Option.bind_eq_some_iff.mp H
    obtain ⟨t239, A120, H⟩ := H
    replace H : (if t239 = true then (some (a0_2 != 3)) else (if a0_2 = 3 then (some (a0_0 == 1)) else (if x3_1 = true then (if a0_1 = 6 then (some false) else (if a0_1 = 8 then (some false) else (some (a0_1 != 9)))) else (some true)))) = some r := H
    have A12 := Aside0.mk A120
    clear A120
    by_cases c13 : t239 = true
    ·subst c13
     have H1 : (some (a0_2 != 3)) = some r := by rw [if_pos rfl] at H; exact H
     clear H
     have H := H1
     clear H1
     obtain rfl := Option.some.inj H
     have hcz14_0 := Zc BK237.out 0 (.int .u8 a0_0) rfl
     have hcz14_1 := Zc BK237.out 1 (.int .u8 a0_1) rfl
     have hcz14_2 := Zc BK237.out 2 (.int .u8 a0_2) rfl
     have hcz14_3 := Zc BK237.out 3 (.int .i64 a0_3) rfl
     have hcz14_4 := Zc BK237.out 4 (.int .u8 a0_4) rfl
     have hcz14_5 := Zc BK237.out 5 (.int .u8 a0_5) rfl
     have hcz14_6 := Zc BK237.out 6 (.int .u8 a0_6) rfl
     have hcz14_7 := Zc BK237.out 7 (.string a0_7) rfl
     have hfz14_0 := blk_frozen BK237.out 0
     have hfz14_1 := blk_frozen BK237.out 1
     have hfz14_2 := blk_frozen BK237.out 2
     have hfz14_3 := blk_frozen BK237.out 3
     have hfz14_4 := blk_frozen BK237.out 4
     have hfz14_5 := blk_frozen BK237.out 5
     have hfz14_6 := blk_frozen BK237.out 6
     have hfz14_7 := blk_frozen BK237.out 7
     go_wp2_with (first | ((with_reducible refine gate_callee (f := 106) rfl ?_); refine goesL_ (some 15) rfl rfl Tryz.func106 (by kernel_rfl) rfl #[.int .u8 a0_1] rfl Zl ?_; (with_reducible refine (effect_standing.calls a0_1 false _ A7.out).mono ?_); rintro e w' ⟨rfl, ⟨nd, rfl⟩⟩; refine ⟨_, rfl, ?_⟩) | ((with_reducible refine gate_callee (f := 107) rfl ?_); refine goesL_ (some 26) rfl rfl Tryz.func107 (by kernel_rfl) rfl #[.int .u8 a0_1] rfl Zl ?_; (with_reducible refine (effect_swapping.calls a0_1 true _ A12.out).mono ?_); rintro e w' ⟨rfl, ⟨nd, rfl⟩⟩; refine ⟨_, rfl, ?_⟩))
     go_ret
     exact ⟨Ze, Zb1 GE237.out⟩
    ·replace c13 := Bool.eq_false_iff.mpr c13
     subst c13
     have H1 : (if a0_2 = 3 then (some (a0_0 == 1)) else (if x3_1 = true then (if a0_1 = 6 then (some false) else (if a0_1 = 8 then (some false) else (some (a0_1 != 9)))) else (some true))) = some r := by rw [if_neg (show ¬ (false = true) by decide)] at H; exact H
     clear H
     have H := H1
     clear H1
     by_cases c15 : a0_2 = 3
     ·rw [if_pos c15] at H
      have c15b0 : (a0_2 == 3) = true := beq_iff_eq.mpr c15
      have c15b1 : (a0_2 != 3) = false := bne_eq_false_iff_eq.mpr c15
      clear c15
      obtain rfl := Option.some.inj H
      have hcz16_0 := Zc BK237.out 0 (.int .u8 a0_0) rfl
      have hcz16_1 := Zc BK237.out 1 (.int .u8 a0_1) rfl
      have hcz16_2 := Zc BK237.out 2 (.int .u8 a0_2) rfl
      have hcz16_3 := Zc BK237.out 3 (.int .i64 a0_3) rfl
      have hcz16_4 := Zc BK237.out 4 (.int .u8 a0_4) rfl
      have hcz16_5 := Zc BK237.out 5 (.int .u8 a0_5) rfl
      have hcz16_6 := Zc BK237.out 6 (.int .u8 a0_6) rfl
      have hcz16_7 := Zc BK237.out 7 (.string a0_7) rfl
      have hfz16_0 := blk_frozen BK237.out 0
      have hfz16_1 := blk_frozen BK237.out 1
      have hfz16_2 := blk_frozen BK237.out 2
      have hfz16_3 := blk_frozen BK237.out 3
      have hfz16_4 := blk_frozen BK237.out 4
      have hfz16_5 := blk_frozen BK237.out 5
      have hfz16_6 := blk_frozen BK237.out 6
      have hfz16_7 := blk_frozen BK237.out 7
      go_wp2_with (first | ((with_reducible refine gate_callee (f := 106) rfl ?_); refine goesL_ (some 15) rfl rfl Tryz.func106 (by kernel_rfl) rfl #[.int .u8 a0_1] rfl Zl ?_; (with_reducible refine (effect_standing.calls a0_1 false _ A7.out).mono ?_); rintro e w' ⟨rfl, ⟨nd, rfl⟩⟩; refine ⟨_, rfl, ?_⟩) | ((with_reducible refine gate_callee (f := 107) rfl ?_); refine goesL_ (some 26) rfl rfl Tryz.func107 (by kernel_rfl) rfl #[.int .u8 a0_1] rfl Zl ?_; (with_reducible refine (effect_swapping.calls a0_1 false _ A12.out).mono ?_); rintro e w' ⟨rfl, ⟨nd, rfl⟩⟩; refine ⟨_, rfl, ?_⟩))
      go_ret
      exact ⟨Ze, Zb1 GE237.out⟩
     ·rw [if_neg c15] at H
      have c15b0 : (a0_2 == 3) = false := beq_eq_false_iff_ne.mpr c15
      have c15b1 : (a0_2 != 3) = true := bne_iff_ne.mpr c15
      by_cases c17 : x3_1 = true
      ·subst c17
       have H1 : (if a0_1 = 6 then (some false) else (if a0_1 = 8 then (some false) else (some (a0_1 != 9)))) = some r := by rw [if_pos rfl] at H; exact H
       clear H
       have H := H1
       clear H1
       by_cases c18 : a0_1 = 6
       ·rw [if_pos c18] at H
        have c18b0 : (a0_1 == 6) = true := beq_iff_eq.mpr c18
        have c18b1 : (a0_1 != 6) = false := bne_eq_false_iff_eq.mpr c18
        clear c18
        obtain rfl := Option.some.inj H
        have hcz19_0 := Zc BK237.out 0 (.int .u8 a0_0) rfl
        have hcz19_1 := Zc BK237.out 1 (.int .u8 a0_1) rfl
        have hcz19_2 := Zc BK237.out 2 (.int .u8 a0_2) rfl
        have hcz19_3 := Zc BK237.out 3 (.int .i64 a0_3) rfl
        have hcz19_4 := Zc BK237.out 4 (.int .u8 a0_4) rfl
        have hcz19_5 := Zc BK237.out 5 (.int .u8 a0_5) rfl
        have hcz19_6 := Zc BK237.out 6 (.int .u8 a0_6) rfl
        have hcz19_7 := Zc BK237.out 7 (.string a0_7) rfl
        have hfz19_0 := blk_frozen BK237.out 0
        have hfz19_1 := blk_frozen BK237.out 1
        have hfz19_2 := blk_frozen BK237.out 2
        have hfz19_3 := blk_frozen BK237.out 3
        have hfz19_4 := blk_frozen BK237.out 4
        have hfz19_5 := blk_frozen BK237.out 5
        have hfz19_6 := blk_frozen BK237.out 6
        have hfz19_7 := blk_frozen BK237.out 7
        go_wp2_with (first | ((with_reducible refine gate_callee (f := 106) rfl ?_); refine goesL_ (some 15) rfl rfl Tryz.func106 (by kernel_rfl) rfl #[.int .u8 a0_1] rfl Zl ?_; (with_reducible refine (effect_standing.calls a0_1 false _ A7.out).mono ?_); rintro e w' ⟨rfl, ⟨nd, rfl⟩⟩; refine ⟨_, rfl, ?_⟩) | ((with_reducible refine gate_callee (f := 107) rfl ?_); refine goesL_ (some 26) rfl rfl Tryz.func107 (by kernel_rfl) rfl #[.int .u8 a0_1] rfl Zl ?_; (with_reducible refine (effect_swapping.calls a0_1 false _ A12.out).mono ?_); rintro e w' ⟨rfl, ⟨nd, rfl⟩⟩; refine ⟨_, rfl, ?_⟩))
        go_ret
        exact ⟨Ze, Zb1 GE237.out⟩
       ·rw [if_neg c18] at H
        have c18b0 : (a0_1 == 6) = false := beq_eq_false_iff_ne.mpr c18
        have c18b1 : (a0_1 != 6) = true := bne_iff_ne.mpr c18
        by_cases c20 : a0_1 = 8
        ·rw [if_pos c20] at H
         have c20b0 : (a0_1 == 8) = true := beq_iff_eq.mpr c20
         have c20b1 : (a0_1 != 8) = false := bne_eq_false_iff_eq.mpr c20
         clear c20
         obtain rfl := Option.some.inj H
         have hcz21_0 := Zc BK237.out 0 (.int .u8 a0_0) rfl
         have hcz21_1 := Zc BK237.out 1 (.int .u8 a0_1) rfl
         have hcz21_2 := Zc BK237.out 2 (.int .u8 a0_2) rfl
         have hcz21_3 := Zc BK237.out 3 (.int .i64 a0_3) rfl
         have hcz21_4 := Zc BK237.out 4 (.int .u8 a0_4) rfl
         have hcz21_5 := Zc BK237.out 5 (.int .u8 a0_5) rfl
         have hcz21_6 := Zc BK237.out 6 (.int .u8 a0_6) rfl
         have hcz21_7 := Zc BK237.out 7 (.string a0_7) rfl
         have hfz21_0 := blk_frozen BK237.out 0
         have hfz21_1 := blk_frozen BK237.out 1
         have hfz21_2 := blk_frozen BK237.out 2
         have hfz21_3 := blk_frozen BK237.out 3
         have hfz21_4 := blk_frozen BK237.out 4
         have hfz21_5 := blk_frozen BK237.out 5
         have hfz21_6 := blk_frozen BK237.out 6
         have hfz21_7 := blk_frozen BK237.out 7
         go_wp2_with (first | ((with_reducible refine gate_callee (f := 106) rfl ?_); refine goesL_ (some 15) rfl rfl Tryz.func106 (by kernel_rfl) rfl #[.int .u8 a0_1] rfl Zl ?_; (with_reducible refine (effect_standing.calls a0_1 false _ A7.out).mono ?_); rintro e w' ⟨rfl, ⟨nd, rfl⟩⟩; refine ⟨_, rfl, ?_⟩) | ((with_reducible refine gate_callee (f := 107) rfl ?_); refine goesL_ (some 26) rfl rfl Tryz.func107 (by kernel_rfl) rfl #[.int .u8 a0_1] rfl Zl ?_; (with_reducible refine (effect_swapping.calls a0_1 false _ A12.out).mono ?_); rintro e w' ⟨rfl, ⟨nd, rfl⟩⟩; refine ⟨_, rfl, ?_⟩))
         go_ret
         exact ⟨Ze, Zb1 GE237.out⟩
        ·rw [if_neg c20] at H
         have c20b0 : (a0_1 == 8) = false := beq_eq_false_iff_ne.mpr c20
         have c20b1 : (a0_1 != 8) = true := bne_iff_ne.mpr c20
         obtain rfl := Option.some.inj H
         have hcz22_0 := Zc BK237.out 0 (.int .u8 a0_0) rfl
         have hcz22_1 := Zc BK237.out 1 (.int .u8 a0_1) rfl
         have hcz22_2 := Zc BK237.out 2 (.int .u8 a0_2) rfl
         have hcz22_3 := Zc BK237.out 3 (.int .i64 a0_3) rfl
         have hcz22_4 := Zc BK237.out 4 (.int .u8 a0_4) rfl
         have hcz22_5 := Zc BK237.out 5 (.int .u8 a0_5) rfl
         have hcz22_6 := Zc BK237.out 6 (.int .u8 a0_6) rfl
         have hcz22_7 := Zc BK237.out 7 (.string a0_7) rfl
         have hfz22_0 := blk_frozen BK237.out 0
         have hfz22_1 := blk_frozen BK237.out 1
         have hfz22_2 := blk_frozen BK237.out 2
         have hfz22_3 := blk_frozen BK237.out 3
         have hfz22_4 := blk_frozen BK237.out 4
         have hfz22_5 := blk_frozen BK237.out 5
         have hfz22_6 := blk_frozen BK237.out 6
         have hfz22_7 := blk_frozen BK237.out 7
         go_wp2_with (first | ((with_reducible refine gate_callee (f := 106) rfl ?_); refine goesL_ (some 15) rfl rfl Tryz.func106 (by kernel_rfl) rfl #[.int .u8 a0_1] rfl Zl ?_; (with_reducible refine (effect_standing.calls a0_1 false _ A7.out).mono ?_); rintro e w' ⟨rfl, ⟨nd, rfl⟩⟩; refine ⟨_, rfl, ?_⟩) | ((with_reducible refine gate_callee (f := 107) rfl ?_); refine goesL_ (some 26) rfl rfl Tryz.func107 (by kernel_rfl) rfl #[.int .u8 a0_1] rfl Zl ?_; (with_reducible refine (effect_swapping.calls a0_1 false _ A12.out).mono ?_); rintro e w' ⟨rfl, ⟨nd, rfl⟩⟩; refine ⟨_, rfl, ?_⟩))
         go_ret
         exact ⟨Ze, Zb1 GE237.out⟩
      ·replace c17 := Bool.eq_false_iff.mpr c17
       subst c17
       have H1 : (some true) = some r := by rw [if_neg (show ¬ (false = true) by decide)] at H; exact H
       clear H
       have H := H1
       clear H1
       obtain rfl := Option.some.inj H
       have hcz23_0 := Zc BK237.out 0 (.int .u8 a0_0) rfl
       have hcz23_1 := Zc BK237.out 1 (.int .u8 a0_1) rfl
       have hcz23_2 := Zc BK237.out 2 (.int .u8 a0_2) rfl
       have hcz23_3 := Zc BK237.out 3 (.int .i64 a0_3) rfl
       have hcz23_4 := Zc BK237.out 4 (.int .u8 a0_4) rfl
       have hcz23_5 := Zc BK237.out 5 (.int .u8 a0_5) rfl
       have hcz23_6 := Zc BK237.out 6 (.int .u8 a0_6) rfl
       have hcz23_7 := Zc BK237.out 7 (.string a0_7) rfl
       have hfz23_0 := blk_frozen BK237.out 0
       have hfz23_1 := blk_frozen BK237.out 1
       have hfz23_2 := blk_frozen BK237.out 2
       have hfz23_3 := blk_frozen BK237.out 3
       have hfz23_4 := blk_frozen BK237.out 4
       have hfz23_5 := blk_frozen BK237.out 5
       have hfz23_6 := blk_frozen BK237.out 6
       have hfz23_7 := blk_frozen BK237.out 7
       go_wp2_with (first | ((with_reducible refine gate_callee (f := 106) rfl ?_); refine goesL_ (some 15) rfl rfl Tryz.func106 (by kernel_rfl) rfl #[.int .u8 a0_1] rfl Zl ?_; (with_reducible refine (effect_standing.calls a0_1 false _ A7.out).mono ?_); rintro e w' ⟨rfl, ⟨nd, rfl⟩⟩; refine ⟨_, rfl, ?_⟩) | ((with_reducible refine gate_callee (f := 107) rfl ?_); refine goesL_ (some 26) rfl rfl Tryz.func107 (by kernel_rfl) rfl #[.int .u8 a0_1] rfl Zl ?_; (with_reducible refine (effect_swapping.calls a0_1 false _ A12.out).mono ?_); rintro e w' ⟨rfl, ⟨nd, rfl⟩⟩; refine ⟨_, rfl, ?_⟩))
       go_ret
       exact ⟨Ze, Zb1 GE237.out⟩
end Go.Proofs.YtfpcideomanbbaaGreatDoor.PA
end
section
namespace Go.Proofs.YtfpcideomanbbaaGreatDoor.PA
open Go.RowKit Go.Proofs.YtfpcideomanbbaaGreatDoorW.PrintWords Go.Proofs.YtfpcideomanbbaaGreatDoorW.PrintLast Go.Proofs.YtfpcideomanbbaaGreatDoorW.PrintMore
attribute [local go_sem] max2_int min2_int max_two min_two max_three min_three max_four min_four
set_option linter.unusedVariables false
set_option linter.unusedSimpArgs false
def effect_within_int.f (a0 : Int) (a1 : Bool) (a2 : Int) (a3 : Int) : Option (Bool) := if a1 = true then (if a0 ≥ a2 then (some (decide (a0 ≤ a3))) else (some false)) else (some (a0 == 0))
set_option maxHeartbeats 8000000 in
set_option maxRecDepth 100000 in
theorem effect_within_int.calls (a0 : Int) (a1 : Bool) (a2 : Int) (a3 : Int) (r : Bool) (w : World) (h : effect_within_int.f a0 a1 a2 a3 = some r) :
  Calls Tryz.prog 64 #[.int .i64 a0, .bool a1, .int .i64 a2, .int .i64 a3] w fun e w' => e = .returned (.bool r) ∧ Drawn0 w w' := by
 have H : (if a1 = true then (if a0 ≥ a2 then (some (decide (a0 ≤ a3))) else (some false)) else (some (a0 == 0))) = some r := h
 clear h
 by_cases c5 : a1 = true
 ·subst c5
  have H1 : (if a0 ≥ a2 then (some (decide (a0 ≤ a3))) else (some false)) = some r := by rw [if_pos rfl] at H; exact H
  clear H
  have H := H1
  clear H1
  by_cases c6 : a0 ≥ a2
  ·rw [if_pos c6] at H
   have c6b0 : decide (a2 ≤ a0) = true := decide_eq_true c6
   clear c6
   obtain rfl := Option.some.inj H
   go_enter Tryz.func64, Tryz.ntmps64
   go_wp2
   go_ret
   exact ⟨Zt, Zd⟩
  ·rw [if_neg c6] at H
   have c6b0 : decide (a2 ≤ a0) = false := decide_eq_false c6
   clear c6
   obtain rfl := Option.some.inj H
   go_enter Tryz.func64, Tryz.ntmps64
   go_wp2
   go_ret
   exact ⟨Zt, Zd⟩
 ·replace c5 := Bool.eq_false_iff.mpr c5
  subst c5
  have H1 : (some (a0 == 0)) = some r := by rw [if_neg (show ¬ (false = true) by decide)] at H; exact H
  clear H
  have H := H1
  clear H1
  obtain rfl := Option.some.inj H
  go_enter Tryz.func64, Tryz.ntmps64
  go_wp2
  go_ret
  exact ⟨Zt, Zd⟩
end Go.Proofs.YtfpcideomanbbaaGreatDoor.PA
end
section
namespace Go.Proofs.YtfpcideomanbbaaGreatDoor.PA
open Go.RowKit Go.Proofs.YtfpcideomanbbaaGreatDoorW.PrintWords Go.Proofs.YtfpcideomanbbaaGreatDoorW.PrintLast Go.Proofs.YtfpcideomanbbaaGreatDoorW.PrintMore
attribute [local go_sem] max2_int min2_int max_two min_two max_three min_three max_four min_four
set_option linter.unusedVariables false
set_option linter.unusedSimpArgs false
def api_Suit.f (a0 : Int) (a1 : Bool) (a2 : Int) (a3 : Int) : Option (Bool) := if a1 = true then (if a0 ≥ a2 then (some (decide (a0 ≤ a3))) else (some false)) else (some (a0 == 0))
set_option maxHeartbeats 8000000 in
set_option maxRecDepth 100000 in
theorem api_Suit.calls (a0 : Int) (a1 : Bool) (a2 : Int) (a3 : Int) (r : Bool) (w : World) (h : api_Suit.f a0 a1 a2 a3 = some r) :
  Calls Tryz.prog 65 #[.int .u8 a0, .bool a1, .int .u8 a2, .int .u8 a3] w fun e w' => e = .returned (.bool r) ∧ Drawn0 w w' := by
 have H : (if a1 = true then (if a0 ≥ a2 then (some (decide (a0 ≤ a3))) else (some false)) else (some (a0 == 0))) = some r := h
 clear h
 by_cases c5 : a1 = true
 ·subst c5
  have H1 : (if a0 ≥ a2 then (some (decide (a0 ≤ a3))) else (some false)) = some r := by rw [if_pos rfl] at H; exact H
  clear H
  have H := H1
  clear H1
  by_cases c6 : a0 ≥ a2
  ·rw [if_pos c6] at H
   have c6b0 : decide (a2 ≤ a0) = true := decide_eq_true c6
   clear c6
   obtain rfl := Option.some.inj H
   go_enter Tryz.func65, Tryz.ntmps65
   go_wp2
   go_ret
   exact ⟨Zt, Zd⟩
  ·rw [if_neg c6] at H
   have c6b0 : decide (a2 ≤ a0) = false := decide_eq_false c6
   clear c6
   obtain rfl := Option.some.inj H
   go_enter Tryz.func65, Tryz.ntmps65
   go_wp2
   go_ret
   exact ⟨Zt, Zd⟩
 ·replace c5 := Bool.eq_false_iff.mpr c5
  subst c5
  have H1 : (some (a0 == 0)) = some r := by rw [if_neg (show ¬ (false = true) by decide)] at H; exact H
  clear H
  have H := H1
  clear H1
  obtain rfl := Option.some.inj H
  go_enter Tryz.func65, Tryz.ntmps65
  go_wp2
  go_ret
  exact ⟨Zt, Zd⟩
end Go.Proofs.YtfpcideomanbbaaGreatDoor.PA
end
section
namespace Go.Proofs.YtfpcideomanbbaaGreatDoor.PA
open Go.RowKit Go.Proofs.YtfpcideomanbbaaGreatDoorW.PrintWords Go.Proofs.YtfpcideomanbbaaGreatDoorW.PrintLast Go.Proofs.YtfpcideomanbbaaGreatDoorW.PrintMore
attribute [local go_sem] max2_int min2_int max_two min_two max_three min_three max_four min_four
set_option linter.unusedVariables false
set_option linter.unusedSimpArgs false
def api_Trait.f (a0 : Int) (a1 : Bool) (a2 : Int) (a3 : Int) : Option (Bool) := if a1 = true then (if a0 ≥ a2 then (some (decide (a0 ≤ a3))) else (some false)) else (some (a0 == 0))
set_option maxHeartbeats 8000000 in
set_option maxRecDepth 100000 in
theorem api_Trait.calls (a0 : Int) (a1 : Bool) (a2 : Int) (a3 : Int) (r : Bool) (w : World) (h : api_Trait.f a0 a1 a2 a3 = some r) :
  Calls Tryz.prog 66 #[.int .u8 a0, .bool a1, .int .u8 a2, .int .u8 a3] w fun e w' => e = .returned (.bool r) ∧ Drawn0 w w' := by
 have H : (if a1 = true then (if a0 ≥ a2 then (some (decide (a0 ≤ a3))) else (some false)) else (some (a0 == 0))) = some r := h
 clear h
 by_cases c5 : a1 = true
 ·subst c5
  have H1 : (if a0 ≥ a2 then (some (decide (a0 ≤ a3))) else (some false)) = some r := by rw [if_pos rfl] at H; exact H
  clear H
  have H := H1
  clear H1
  by_cases c6 : a0 ≥ a2
  ·rw [if_pos c6] at H
   have c6b0 : decide (a2 ≤ a0) = true := decide_eq_true c6
   clear c6
   obtain rfl := Option.some.inj H
   go_enter Tryz.func66, Tryz.ntmps66
   go_wp2
   go_ret
   exact ⟨Zt, Zd⟩
  ·rw [if_neg c6] at H
   have c6b0 : decide (a2 ≤ a0) = false := decide_eq_false c6
   clear c6
   obtain rfl := Option.some.inj H
   go_enter Tryz.func66, Tryz.ntmps66
   go_wp2
   go_ret
   exact ⟨Zt, Zd⟩
 ·replace c5 := Bool.eq_false_iff.mpr c5
  subst c5
  have H1 : (some (a0 == 0)) = some r := by rw [if_neg (show ¬ (false = true) by decide)] at H; exact H
  clear H
  have H := H1
  clear H1
  obtain rfl := Option.some.inj H
  go_enter Tryz.func66, Tryz.ntmps66
  go_wp2
  go_ret
  exact ⟨Zt, Zd⟩
end Go.Proofs.YtfpcideomanbbaaGreatDoor.PA
end
section
namespace Go.Proofs.YtfpcideomanbbaaGreatDoor.PA
open Go.RowKit Go.Proofs.YtfpcideomanbbaaGreatDoorW.PrintWords Go.Proofs.YtfpcideomanbbaaGreatDoorW.PrintLast Go.Proofs.YtfpcideomanbbaaGreatDoorW.PrintMore
attribute [local go_sem] max2_int min2_int max_two min_two max_three min_three max_four min_four
set_option linter.unusedVariables false
set_option linter.unusedSimpArgs false
def api_Mark.f (a0 : Int) (a1 : Bool) (a2 : Int) (a3 : Int) : Option (Bool) := if a1 = true then (if a0 ≥ a2 then (some (decide (a0 ≤ a3))) else (some false)) else (some (a0 == 0))
set_option maxHeartbeats 8000000 in
set_option maxRecDepth 100000 in
theorem api_Mark.calls (a0 : Int) (a1 : Bool) (a2 : Int) (a3 : Int) (r : Bool) (w : World) (h : api_Mark.f a0 a1 a2 a3 = some r) :
  Calls Tryz.prog 67 #[.int .u8 a0, .bool a1, .int .u8 a2, .int .u8 a3] w fun e w' => e = .returned (.bool r) ∧ Drawn0 w w' := by
 have H : (if a1 = true then (if a0 ≥ a2 then (some (decide (a0 ≤ a3))) else (some false)) else (some (a0 == 0))) = some r := h
 clear h
 by_cases c5 : a1 = true
 ·subst c5
  have H1 : (if a0 ≥ a2 then (some (decide (a0 ≤ a3))) else (some false)) = some r := by rw [if_pos rfl] at H; exact H
  clear H
  have H := H1
  clear H1
  by_cases c6 : a0 ≥ a2
  ·rw [if_pos c6] at H
   have c6b0 : decide (a2 ≤ a0) = true := decide_eq_true c6
   clear c6
   obtain rfl := Option.some.inj H
   go_enter Tryz.func67, Tryz.ntmps67
   go_wp2
   go_ret
   exact ⟨Zt, Zd⟩
  ·rw [if_neg c6] at H
   have c6b0 : decide (a2 ≤ a0) = false := decide_eq_false c6
   clear c6
   obtain rfl := Option.some.inj H
   go_enter Tryz.func67, Tryz.ntmps67
   go_wp2
   go_ret
   exact ⟨Zt, Zd⟩
 ·replace c5 := Bool.eq_false_iff.mpr c5
  subst c5
  have H1 : (some (a0 == 0)) = some r := by rw [if_neg (show ¬ (false = true) by decide)] at H; exact H
  clear H
  have H := H1
  clear H1
  obtain rfl := Option.some.inj H
  go_enter Tryz.func67, Tryz.ntmps67
  go_wp2
  go_ret
  exact ⟨Zt, Zd⟩
end Go.Proofs.YtfpcideomanbbaaGreatDoor.PA
end
section
namespace Go.Proofs.YtfpcideomanbbaaGreatDoor.PA
open Go.RowKit Go.Proofs.YtfpcideomanbbaaGreatDoorW.PrintWords Go.Proofs.YtfpcideomanbbaaGreatDoorW.PrintLast Go.Proofs.YtfpcideomanbbaaGreatDoorW.PrintMore
attribute [local go_sem] max2_int min2_int max_two min_two max_three min_three max_four min_four
set_option linter.unusedVariables false
set_option linter.unusedSimpArgs false
mutual
def gambitref05_counts.j0 : Nat → Int → Bool → Option (Int × Int)
 | 0, _, _ => none
 | k + 1, x4, x5 => if x5 = true then (some (1, 99)) else (if x4 = 9 then (gambitref05_counts.j1 k x4 (x4 == 9)) else (gambitref05_counts.j1 k x4 (x4 == 15)))
def gambitref05_counts.j1 : Nat → Int → Bool → Option (Int × Int)
 | 0, _, _ => none
 | k + 1, x4, x13 => if x13 = true then (some ((-99), 99)) else (if x4 = 5 then (some ((-9), 9)) else (if x4 = 14 then (some (0, 99)) else (some (0, 0))))
end
def gambitref05_counts.f (k : Nat) (a0 : Int) : Option (Int × Int) := if a0 = 1 then (gambitref05_counts.j0 k a0 (a0 == 1)) else (if a0 = 2 then (gambitref05_counts.j0 k a0 (a0 == 2)) else (if a0 = 3 then (gambitref05_counts.j0 k a0 (a0 == 3)) else (if a0 = 4 then (gambitref05_counts.j0 k a0 (a0 == 4)) else (if a0 = 7 then (gambitref05_counts.j0 k a0 (a0 == 7)) else (if a0 = 16 then (gambitref05_counts.j0 k a0 (a0 == 16)) else (gambitref05_counts.j0 k a0 (a0 == 19)))))))
theorem gambitref05_counts.mono_l : ∀ k, (∀ y0 y1, LeO (gambitref05_counts.j0 k y0 y1) (gambitref05_counts.j0 (k + 1) y0 y1)) ∧ (∀ y0 y1, LeO (gambitref05_counts.j1 k y0 y1) (gambitref05_counts.j1 (k + 1) y0 y1))
 | 0 => ⟨fun _ _ r h => by simp [gambitref05_counts.j0] at h, fun _ _ r h => by simp [gambitref05_counts.j1] at h⟩
 | k + 1 => by
  obtain ⟨ih0, ih1⟩ := gambitref05_counts.mono_l k
  refine ⟨?_, ?_⟩
  ·intro y0 y1
   unfold gambitref05_counts.j0
   repeat' first
   | (with_reducible exact ih0 _ _)
   | (with_reducible exact ih1 _ _)
   | (with_reducible exact LeO.refl _)
   | (with_reducible exact LeO.none _)
   | (with_reducible refine LeO.ite ?_ ?_)
   | (with_reducible refine LeO.bind ?_ (fun _ => ?_))
   | exact ih0 _ _
   | exact ih1 _ _
   | exact LeO.none _
   | refine LeO.ite ?_ ?_
   | refine LeO.bind ?_ (fun _ => ?_)
  ·intro y0 y1
   unfold gambitref05_counts.j1
   repeat' first
   | (with_reducible exact ih0 _ _)
   | (with_reducible exact ih1 _ _)
   | (with_reducible exact LeO.refl _)
   | (with_reducible exact LeO.none _)
   | (with_reducible refine LeO.ite ?_ ?_)
   | (with_reducible refine LeO.bind ?_ (fun _ => ?_))
   | exact ih0 _ _
   | exact ih1 _ _
   | exact LeO.none _
   | refine LeO.ite ?_ ?_
   | refine LeO.bind ?_ (fun _ => ?_)
theorem gambitref05_counts.mono : ∀ a0 k, LeO (gambitref05_counts.f k a0) (gambitref05_counts.f (k + 1) a0) := by
 intro a0 k
 obtain ⟨ih0, ih1⟩ := gambitref05_counts.mono_l k
 unfold gambitref05_counts.f
 repeat' first
   | (with_reducible exact ih0 _ _)
   | (with_reducible exact ih1 _ _)
   | (with_reducible exact LeO.refl _)
   | (with_reducible exact LeO.none _)
   | (with_reducible refine LeO.ite ?_ ?_)
   | (with_reducible refine LeO.bind ?_ (fun _ => ?_))
   | exact ih0 _ _
   | exact ih1 _ _
   | exact LeO.none _
   | refine LeO.ite ?_ ?_
   | refine LeO.bind ?_ (fun _ => ?_)
set_option maxHeartbeats 8000000 in
set_option maxRecDepth 100000 in
theorem gambitref05_counts.calls (k : Nat) (a0 : Int) (r1 : Int) (r2 : Int) (w : World) (h : gambitref05_counts.f k a0 = some (r1, r2)) :
  Calls Tryz.prog 121 #[.int .u8 a0] w fun e w' => e = .returned (.tuple #[.int .i64 r1, .int .i64 r2]) ∧ Drawn0 w w' := by
 have H : (if a0 = 1 then (gambitref05_counts.j0 k a0 (a0 == 1)) else (if a0 = 2 then (gambitref05_counts.j0 k a0 (a0 == 2)) else (if a0 = 3 then (gambitref05_counts.j0 k a0 (a0 == 3)) else (if a0 = 4 then (gambitref05_counts.j0 k a0 (a0 == 4)) else (if a0 = 7 then (gambitref05_counts.j0 k a0 (a0 == 7)) else (if a0 = 16 then (gambitref05_counts.j0 k a0 (a0 == 16)) else (gambitref05_counts.j0 k a0 (a0 == 19)))))))) = some (r1, r2) := h
 clear h
 have HC2 := Aside0.mk H
 clear H
 go_enter Tryz.func121, Tryz.ntmps121
 go_upto_if 5 with (fail)
 go_cut [5] (fun v5 wc => ∃ (kq : Nat) (x5_1 : Bool), v5 = .bool x5_1 ∧ Aside0 (gambitref05_counts.j0 kq a0 x5_1 = some (r1, r2)) ∧ Aside0 (kq ≤ k) ∧ Drawn0 w wc)
 case first =>
  have H := HC2.out
  clear HC2
  by_cases c3 : a0 = 1
  ·rw [if_pos c3] at H
   have c3b0 : (a0 == 1) = true := beq_iff_eq.mpr c3
   have c3b1 : (a0 != 1) = false := bne_eq_false_iff_eq.mpr c3
   clear c3
   (first | rw [c3b0] | (simp only [i64_w, i32_w]; rw [c3b0]) | skip)
   have H' := Aside0.mk H
   clear H
   go_wp2
   go_meet
   case rel => exact ⟨_, ((a0 == 1)), Zs, H', ⟨by first | omega | exact Nat.le_refl _⟩, Zd⟩
  ·rw [if_neg c3] at H
   have c3b0 : (a0 == 1) = false := beq_eq_false_iff_ne.mpr c3
   have c3b1 : (a0 != 1) = true := bne_iff_ne.mpr c3
   (first | rw [c3b0] | (simp only [i64_w, i32_w]; rw [c3b0]) | skip)
   by_cases c4 : a0 = 2
   ·rw [if_pos c4] at H
    have c4b0 : (a0 == 2) = true := beq_iff_eq.mpr c4
    have c4b1 : (a0 != 2) = false := bne_eq_false_iff_eq.mpr c4
    clear c4
    have H' := Aside0.mk H
    clear H
    go_wp2
    go_meet
    case rel => exact ⟨_, ((a0 == 2)), Zs, H', ⟨by first | omega | exact Nat.le_refl _⟩, Zd⟩
   ·rw [if_neg c4] at H
    have c4b0 : (a0 == 2) = false := beq_eq_false_iff_ne.mpr c4
    have c4b1 : (a0 != 2) = true := bne_iff_ne.mpr c4
    by_cases c5 : a0 = 3
    ·rw [if_pos c5] at H
     have c5b0 : (a0 == 3) = true := beq_iff_eq.mpr c5
     have c5b1 : (a0 != 3) = false := bne_eq_false_iff_eq.mpr c5
     clear c5
     have H' := Aside0.mk H
     clear H
     go_wp2
     go_meet
     case rel => exact ⟨_, ((a0 == 3)), Zs, H', ⟨by first | omega | exact Nat.le_refl _⟩, Zd⟩
    ·rw [if_neg c5] at H
     have c5b0 : (a0 == 3) = false := beq_eq_false_iff_ne.mpr c5
     have c5b1 : (a0 != 3) = true := bne_iff_ne.mpr c5
     by_cases c6 : a0 = 4
     ·rw [if_pos c6] at H
      have c6b0 : (a0 == 4) = true := beq_iff_eq.mpr c6
      have c6b1 : (a0 != 4) = false := bne_eq_false_iff_eq.mpr c6
      clear c6
      have H' := Aside0.mk H
      clear H
      go_wp2
      go_meet
      case rel => exact ⟨_, ((a0 == 4)), Zs, H', ⟨by first | omega | exact Nat.le_refl _⟩, Zd⟩
     ·rw [if_neg c6] at H
      have c6b0 : (a0 == 4) = false := beq_eq_false_iff_ne.mpr c6
      have c6b1 : (a0 != 4) = true := bne_iff_ne.mpr c6
      by_cases c7 : a0 = 7
      ·rw [if_pos c7] at H
       have c7b0 : (a0 == 7) = true := beq_iff_eq.mpr c7
       have c7b1 : (a0 != 7) = false := bne_eq_false_iff_eq.mpr c7
       clear c7
       have H' := Aside0.mk H
       clear H
       go_wp2
       go_meet
       case rel => exact ⟨_, ((a0 == 7)), Zs, H', ⟨by first | omega | exact Nat.le_refl _⟩, Zd⟩
      ·rw [if_neg c7] at H
       have c7b0 : (a0 == 7) = false := beq_eq_false_iff_ne.mpr c7
       have c7b1 : (a0 != 7) = true := bne_iff_ne.mpr c7
       by_cases c8 : a0 = 16
       ·rw [if_pos c8] at H
        have c8b0 : (a0 == 16) = true := beq_iff_eq.mpr c8
        have c8b1 : (a0 != 16) = false := bne_eq_false_iff_eq.mpr c8
        clear c8
        have H' := Aside0.mk H
        clear H
        go_wp2
        go_meet
        case rel => exact ⟨_, ((a0 == 16)), Zs, H', ⟨by first | omega | exact Nat.le_refl _⟩, Zd⟩
       ·rw [if_neg c8] at H
        have c8b0 : (a0 == 16) = false := beq_eq_false_iff_ne.mpr c8
        have c8b1 : (a0 != 16) = true := bne_iff_ne.mpr c8
        have H' := Aside0.mk H
        clear H
        go_wp2
        go_meet
        case rel => exact ⟨_, ((a0 == 19)), Zs, H', ⟨by first | omega | exact Nat.le_refl _⟩, Zd⟩
 case rest =>
  clear HC2
  try clear c1
  try clear p2
  try clear c3
  try clear c3b0
  try clear c3b1
  try clear c4
  try clear c4b0
  try clear c4b1
  try clear c5
  try clear c5b0
  try clear c5b1
  try clear c6
  try clear c6b0
  try clear c6b1
  try clear c7
  try clear c7b0
  try clear c7b1
  try clear c8
  try clear c8b0
  try clear c8b1
  obtain ⟨kq, x5_1, rfl, HA, HJ1, ⟨mc1, rfl⟩⟩ := hcut
  cases kq with
  | zero => exact absurd HA.out (by simp [gambitref05_counts.j0])
  | succ kj1 =>
   have H := HA.out
   clear HA
   simp only [gambitref05_counts.j0] at H
   by_cases c9 : x5_1 = true
   ·subst c9
    have H1 : (some (1, 99)) = some (r1, r2) := by rw [if_pos rfl] at H; exact H
    clear H
    have H := H1
    clear H1
    simp only [Option.some.injEq, Prod.mk.injEq] at H
    obtain ⟨rfl, rfl⟩ := H
    go_wp2
    go_ret2
    exact ⟨Zt, Zd⟩
   ·replace c9 := Bool.eq_false_iff.mpr c9
    subst c9
    have H1 : (if a0 = 9 then (gambitref05_counts.j1 kj1 a0 (a0 == 9)) else (gambitref05_counts.j1 kj1 a0 (a0 == 15))) = some (r1, r2) := by rw [if_neg (show ¬ (false = true) by decide)] at H; exact H
    clear H
    have H := H1
    clear H1
    have HC10 := Aside0.mk H
    clear H
    go_upto_if 13 with (fail)
    go_cut [13] (fun v13 wc => ∃ (kq : Nat) (x13_9 : Bool), v13 = .bool x13_9 ∧ Aside0 (gambitref05_counts.j1 kq a0 x13_9 = some (r1, r2)) ∧ Aside0 (kq ≤ kj1) ∧ Drawn0 w wc)
    case first =>
     have H := HC10.out
     clear HC10
     by_cases c11 : a0 = 9
     ·rw [if_pos c11] at H
      have c11b0 : (a0 == 9) = true := beq_iff_eq.mpr c11
      have c11b1 : (a0 != 9) = false := bne_eq_false_iff_eq.mpr c11
      clear c11
      (first | rw [c11b0] | (simp only [i64_w, i32_w]; rw [c11b0]) | skip)
      have H' := Aside0.mk H
      clear H
      go_wp2
      go_meet
      case rel => exact ⟨_, ((a0 == 9)), Zs, H', ⟨by have := HJ1.out; first | omega | exact Nat.le_refl _⟩, Zd⟩
     ·rw [if_neg c11] at H
      have c11b0 : (a0 == 9) = false := beq_eq_false_iff_ne.mpr c11
      have c11b1 : (a0 != 9) = true := bne_iff_ne.mpr c11
      (first | rw [c11b0] | (simp only [i64_w, i32_w]; rw [c11b0]) | skip)
      have H' := Aside0.mk H
      clear H
      go_wp2
      go_meet
      case rel => exact ⟨_, ((a0 == 15)), Zs, H', ⟨by have := HJ1.out; first | omega | exact Nat.le_refl _⟩, Zd⟩
    case rest =>
     clear HC10
     try clear c1
     try clear p2
     try clear c3
     try clear c3b0
     try clear c3b1
     try clear c4
     try clear c4b0
     try clear c4b1
     try clear c5
     try clear c5b0
     try clear c5b1
     try clear c6
     try clear c6b0
     try clear c6b1
     try clear c7
     try clear c7b0
     try clear c7b1
     try clear c8
     try clear c8b0
     try clear c8b1
     try clear c9
     try clear c11
     try clear c11b0
     try clear c11b1
     try clear p2
     obtain ⟨kq, x13_9, rfl, HA, HJ9, ⟨mc9, rfl⟩⟩ := hcut
     cases kq with
     | zero => exact absurd HA.out (by simp [gambitref05_counts.j1])
     | succ kj9 =>
      have H := HA.out
      clear HA
      simp only [gambitref05_counts.j1] at H
      by_cases c12 : x13_9 = true
      ·subst c12
       have H1 : (some ((-99), 99)) = some (r1, r2) := by rw [if_pos rfl] at H; exact H
       clear H
       have H := H1
       clear H1
       simp only [Option.some.injEq, Prod.mk.injEq] at H
       obtain ⟨rfl, rfl⟩ := H
       go_wp2
       go_ret2
       exact ⟨Zt, Zd⟩
      ·replace c12 := Bool.eq_false_iff.mpr c12
       subst c12
       have H1 : (if a0 = 5 then (some ((-9), 9)) else (if a0 = 14 then (some (0, 99)) else (some (0, 0)))) = some (r1, r2) := by rw [if_neg (show ¬ (false = true) by decide)] at H; exact H
       clear H
       have H := H1
       clear H1
       by_cases c13 : a0 = 5
       ·rw [if_pos c13] at H
        have c13b0 : (a0 == 5) = true := beq_iff_eq.mpr c13
        have c13b1 : (a0 != 5) = false := bne_eq_false_iff_eq.mpr c13
        clear c13
        simp only [Option.some.injEq, Prod.mk.injEq] at H
        obtain ⟨rfl, rfl⟩ := H
        go_wp2
        go_ret2
        exact ⟨Zt, Zd⟩
       ·rw [if_neg c13] at H
        have c13b0 : (a0 == 5) = false := beq_eq_false_iff_ne.mpr c13
        have c13b1 : (a0 != 5) = true := bne_iff_ne.mpr c13
        by_cases c14 : a0 = 14
        ·rw [if_pos c14] at H
         have c14b0 : (a0 == 14) = true := beq_iff_eq.mpr c14
         have c14b1 : (a0 != 14) = false := bne_eq_false_iff_eq.mpr c14
         clear c14
         simp only [Option.some.injEq, Prod.mk.injEq] at H
         obtain ⟨rfl, rfl⟩ := H
         go_wp2
         go_ret2
         exact ⟨Zt, Zd⟩
        ·rw [if_neg c14] at H
         have c14b0 : (a0 == 14) = false := beq_eq_false_iff_ne.mpr c14
         have c14b1 : (a0 != 14) = true := bne_iff_ne.mpr c14
         simp only [Option.some.injEq, Prod.mk.injEq] at H
         obtain ⟨rfl, rfl⟩ := H
         go_wp2
         go_ret2
         exact ⟨Zt, Zd⟩
end Go.Proofs.YtfpcideomanbbaaGreatDoor.PA
end
section
namespace Go.Proofs.YtfpcideomanbbaaGreatDoor.PA
open Go.RowKit Go.Proofs.YtfpcideomanbbaaGreatDoorW.PrintWords Go.Proofs.YtfpcideomanbbaaGreatDoorW.PrintLast Go.Proofs.YtfpcideomanbbaaGreatDoorW.PrintMore
attribute [local go_sem] max2_int min2_int max_two min_two max_three min_three max_four min_four
set_option linter.unusedVariables false
set_option linter.unusedSimpArgs false
def gambitref05_Uses.f (k : Nat) (a0 : Int) (a1 : Int) : Option (Bool × Bool × Bool × Bool × Bool) := (gambitref05_counts.f k a0).bind fun bt116 => (if a0 = 11 then (if a0 = 12 then (some (decide (bt116.2 > 0), true, true, (a0 == 9), (a0 == 7))) else (if a0 = 13 then (some (decide (bt116.2 > 0), true, true, (a0 == 9), (a0 == 7))) else (some (decide (bt116.2 > 0), true, (a1 == 10), (a0 == 9), (a0 == 7))))) else (if a0 = 12 then (some (decide (bt116.2 > 0), (a1 == 9), true, (a0 == 9), (a0 == 7))) else (if a0 = 13 then (some (decide (bt116.2 > 0), (a1 == 9), true, (a0 == 9), (a0 == 7))) else (some (decide (bt116.2 > 0), (a1 == 9), (a1 == 10), (a0 == 9), (a0 == 7))))))
theorem gambitref05_Uses.mono : ∀ a0 a1 k, LeO (gambitref05_Uses.f k a0 a1) (gambitref05_Uses.f (k + 1) a0 a1) := by
 intro a0 a1 k
 unfold gambitref05_Uses.f
 repeat' first
   | (with_reducible exact gambitref05_counts.mono _ _)
   | (with_reducible exact LeO.refl _)
   | (with_reducible exact LeO.none _)
   | (with_reducible refine LeO.ite ?_ ?_)
   | (with_reducible refine LeO.bind ?_ (fun _ => ?_))
   | exact gambitref05_counts.mono _ _
   | exact LeO.none _
   | refine LeO.ite ?_ ?_
   | refine LeO.bind ?_ (fun _ => ?_)
set_option maxHeartbeats 8000000 in
set_option maxRecDepth 100000 in
theorem gambitref05_Uses.calls (k : Nat) (a0 : Int) (a1 : Int) (r1 : Bool) (r2 : Bool) (r3 : Bool) (r4 : Bool) (r5 : Bool) (w : World) (h : gambitref05_Uses.f k a0 a1 = some (r1, r2, r3, r4, r5)) :
  Calls Tryz.prog 89 #[.int .u8 a0, .int .u8 a1] w fun e w' => e = .returned (.tuple #[.bool r1, .bool r2, .bool r3, .bool r4, .bool r5]) ∧ Drawn0 w w' := by
 have H : ((gambitref05_counts.f k a0).bind fun bt116 => (if a0 = 11 then (if a0 = 12 then (some (decide (bt116.2 > 0), true, true, (a0 == 9), (a0 == 7))) else (if a0 = 13 then (some (decide (bt116.2 > 0), true, true, (a0 == 9), (a0 == 7))) else (some (decide (bt116.2 > 0), true, (a1 == 10), (a0 == 9), (a0 == 7))))) else (if a0 = 12 then (some (decide (bt116.2 > 0), (a1 == 9), true, (a0 == 9), (a0 == 7))) else (if a0 = 13 then (some (decide (bt116.2 > 0), (a1 == 9), true, (a0 == 9), (a0 == 7))) else (some (decide (bt116.2 > 0), (a1 == 9), (a1 == 10), (a0 == 9), (a0 == 7))))))) = some (r1, r2, r3, r4, r5) := h
 clear h
 replace H := Option.bind_eq_some_iff.mp H
 obtain ⟨⟨t116, t117⟩, A30, H⟩ := H
 replace H : (if a0 = 11 then (if a0 = 12 then (some (decide (t117 > 0), true, true, (a0 == 9), (a0 == 7))) else (if a0 = 13 then (some (decide (t117 > 0), true, true, (a0 == 9), (a0 == 7))) else (some (decide (t117 > 0), true, (a1 == 10), (a0 == 9), (a0 == 7))))) else (if a0 = 12 then (some (decide (t117 > 0), (a1 == 9), true, (a0 == 9), (a0 == 7))) else (if a0 = 13 then (some (decide (t117 > 0), (a1 == 9), true, (a0 == 9), (a0 == 7))) else (some (decide (t117 > 0), (a1 == 9), (a1 == 10), (a0 == 9), (a0 == 7)))))) = some (r1, r2, r3, r4, r5) := H
 have A3 := Aside0.mk A30
 clear A30
 by_cases c4 : a0 = 11
 ·rw [if_pos c4] at H
  have c4b0 : (a0 == 11) = true := beq_iff_eq.mpr c4
  have c4b1 : (a0 != 11) = false := bne_eq_false_iff_eq.mpr c4
  clear c4
  by_cases c5 : a0 = 12
  ·rw [if_pos c5] at H
   have c5b0 : (a0 == 12) = true := beq_iff_eq.mpr c5
   have c5b1 : (a0 != 12) = false := bne_eq_false_iff_eq.mpr c5
   clear c5
   simp only [Option.some.injEq, Prod.mk.injEq] at H
   obtain ⟨rfl, rfl, rfl, rfl, rfl⟩ := H
   go_enter Tryz.func89, Tryz.ntmps89
   go_wp2_with (first | ((with_reducible refine gate_callee (f := 121) rfl ?_); refine goesL_ (some 13) rfl rfl Tryz.func121 (by kernel_rfl) rfl #[.int .u8 a0] rfl Zl ?_; (with_reducible refine (gambitref05_counts.calls k a0 t116 t117 _ A3.out).mono ?_); rintro e w' ⟨rfl, ⟨nd, rfl⟩⟩; refine ⟨_, rfl, ?_⟩))
   refine bodyPost_ret (results_list (rs := [.tmp 4, .tmp 5, .tmp 6, .tmp 7, .tmp 8]) rfl (by simp) (.tmp (.tmp (.tmp (.tmp (.tmp .nil)))))) rfl ?_
   exact ⟨Zt, Zd⟩
  ·rw [if_neg c5] at H
   have c5b0 : (a0 == 12) = false := beq_eq_false_iff_ne.mpr c5
   have c5b1 : (a0 != 12) = true := bne_iff_ne.mpr c5
   by_cases c6 : a0 = 13
   ·rw [if_pos c6] at H
    have c6b0 : (a0 == 13) = true := beq_iff_eq.mpr c6
    have c6b1 : (a0 != 13) = false := bne_eq_false_iff_eq.mpr c6
    clear c6
    simp only [Option.some.injEq, Prod.mk.injEq] at H
    obtain ⟨rfl, rfl, rfl, rfl, rfl⟩ := H
    go_enter Tryz.func89, Tryz.ntmps89
    go_wp2_with (first | ((with_reducible refine gate_callee (f := 121) rfl ?_); refine goesL_ (some 13) rfl rfl Tryz.func121 (by kernel_rfl) rfl #[.int .u8 a0] rfl Zl ?_; (with_reducible refine (gambitref05_counts.calls k a0 t116 t117 _ A3.out).mono ?_); rintro e w' ⟨rfl, ⟨nd, rfl⟩⟩; refine ⟨_, rfl, ?_⟩))
    refine bodyPost_ret (results_list (rs := [.tmp 4, .tmp 5, .tmp 6, .tmp 7, .tmp 8]) rfl (by simp) (.tmp (.tmp (.tmp (.tmp (.tmp .nil)))))) rfl ?_
    exact ⟨Zt, Zd⟩
   ·rw [if_neg c6] at H
    have c6b0 : (a0 == 13) = false := beq_eq_false_iff_ne.mpr c6
    have c6b1 : (a0 != 13) = true := bne_iff_ne.mpr c6
    simp only [Option.some.injEq, Prod.mk.injEq] at H
    obtain ⟨rfl, rfl, rfl, rfl, rfl⟩ := H
    go_enter Tryz.func89, Tryz.ntmps89
    go_wp2_with (first | ((with_reducible refine gate_callee (f := 121) rfl ?_); refine goesL_ (some 13) rfl rfl Tryz.func121 (by kernel_rfl) rfl #[.int .u8 a0] rfl Zl ?_; (with_reducible refine (gambitref05_counts.calls k a0 t116 t117 _ A3.out).mono ?_); rintro e w' ⟨rfl, ⟨nd, rfl⟩⟩; refine ⟨_, rfl, ?_⟩))
    refine bodyPost_ret (results_list (rs := [.tmp 4, .tmp 5, .tmp 6, .tmp 7, .tmp 8]) rfl (by simp) (.tmp (.tmp (.tmp (.tmp (.tmp .nil)))))) rfl ?_
    exact ⟨Zt, Zd⟩
 ·rw [if_neg c4] at H
  have c4b0 : (a0 == 11) = false := beq_eq_false_iff_ne.mpr c4
  have c4b1 : (a0 != 11) = true := bne_iff_ne.mpr c4
  by_cases c7 : a0 = 12
  ·rw [if_pos c7] at H
   have c7b0 : (a0 == 12) = true := beq_iff_eq.mpr c7
   have c7b1 : (a0 != 12) = false := bne_eq_false_iff_eq.mpr c7
   clear c7
   simp only [Option.some.injEq, Prod.mk.injEq] at H
   obtain ⟨rfl, rfl, rfl, rfl, rfl⟩ := H
   go_enter Tryz.func89, Tryz.ntmps89
   go_wp2_with (first | ((with_reducible refine gate_callee (f := 121) rfl ?_); refine goesL_ (some 13) rfl rfl Tryz.func121 (by kernel_rfl) rfl #[.int .u8 a0] rfl Zl ?_; (with_reducible refine (gambitref05_counts.calls k a0 t116 t117 _ A3.out).mono ?_); rintro e w' ⟨rfl, ⟨nd, rfl⟩⟩; refine ⟨_, rfl, ?_⟩))
   refine bodyPost_ret (results_list (rs := [.tmp 4, .tmp 5, .tmp 6, .tmp 7, .tmp 8]) rfl (by simp) (.tmp (.tmp (.tmp (.tmp (.tmp .nil)))))) rfl ?_
   exact ⟨Zt, Zd⟩
  ·rw [if_neg c7] at H
   have c7b0 : (a0 == 12) = false := beq_eq_false_iff_ne.mpr c7
   have c7b1 : (a0 != 12) = true := bne_iff_ne.mpr c7
   by_cases c8 : a0 = 13
   ·rw [if_pos c8] at H
    have c8b0 : (a0 == 13) = true := beq_iff_eq.mpr c8
    have c8b1 : (a0 != 13) = false := bne_eq_false_iff_eq.mpr c8
    clear c8
    simp only [Option.some.injEq, Prod.mk.injEq] at H
    obtain ⟨rfl, rfl, rfl, rfl, rfl⟩ := H
    go_enter Tryz.func89, Tryz.ntmps89
    go_wp2_with (first | ((with_reducible refine gate_callee (f := 121) rfl ?_); refine goesL_ (some 13) rfl rfl Tryz.func121 (by kernel_rfl) rfl #[.int .u8 a0] rfl Zl ?_; (with_reducible refine (gambitref05_counts.calls k a0 t116 t117 _ A3.out).mono ?_); rintro e w' ⟨rfl, ⟨nd, rfl⟩⟩; refine ⟨_, rfl, ?_⟩))
    refine bodyPost_ret (results_list (rs := [.tmp 4, .tmp 5, .tmp 6, .tmp 7, .tmp 8]) rfl (by simp) (.tmp (.tmp (.tmp (.tmp (.tmp .nil)))))) rfl ?_
    exact ⟨Zt, Zd⟩
   ·rw [if_neg c8] at H
    have c8b0 : (a0 == 13) = false := beq_eq_false_iff_ne.mpr c8
    have c8b1 : (a0 != 13) = true := bne_iff_ne.mpr c8
    simp only [Option.some.injEq, Prod.mk.injEq] at H
    obtain ⟨rfl, rfl, rfl, rfl, rfl⟩ := H
    go_enter Tryz.func89, Tryz.ntmps89
    go_wp2_with (first | ((with_reducible refine gate_callee (f := 121) rfl ?_); refine goesL_ (some 13) rfl rfl Tryz.func121 (by kernel_rfl) rfl #[.int .u8 a0] rfl Zl ?_; (with_reducible refine (gambitref05_counts.calls k a0 t116 t117 _ A3.out).mono ?_); rintro e w' ⟨rfl, ⟨nd, rfl⟩⟩; refine ⟨_, rfl, ?_⟩))
    refine bodyPost_ret (results_list (rs := [.tmp 4, .tmp 5, .tmp 6, .tmp 7, .tmp 8]) rfl (by simp) (.tmp (.tmp (.tmp (.tmp (.tmp .nil)))))) rfl ?_
    exact ⟨Zt, Zd⟩
end Go.Proofs.YtfpcideomanbbaaGreatDoor.PA
end
section
namespace Go.Proofs.YtfpcideomanbbaaGreatDoor.PA
open Go.RowKit Go.Proofs.YtfpcideomanbbaaGreatDoorW.PrintWords Go.Proofs.YtfpcideomanbbaaGreatDoorW.PrintLast Go.Proofs.YtfpcideomanbbaaGreatDoorW.PrintMore
attribute [local go_sem] max2_int min2_int max_two min_two max_three min_three max_four min_four
set_option linter.unusedVariables false
set_option linter.unusedSimpArgs false
mutual
def gambitref05_kind.j0 : Nat → Int → Bool → Option (Int)
 | 0, _, _ => none
 | k + 1, x0, x3 => if x3 = true then (some 1) else (if x0 ≥ 10 then (gambitref05_kind.j1 k x0 (decide (x0 ≤ 15))) else (gambitref05_kind.j1 k x0 false))
def gambitref05_kind.j1 : Nat → Int → Bool → Option (Int)
 | 0, _, _ => none
 | k + 1, x0, x10 => if x10 = true then (some 2) else (if x0 ≥ 16 then (if x0 ≤ 19 then (some 3) else (some 0)) else (some 0))
end
def gambitref05_kind.f (k : Nat) (a0 : Int) : Option (Int) := if a0 ≥ 1 then (gambitref05_kind.j0 k a0 (decide (a0 ≤ 9))) else (gambitref05_kind.j0 k a0 false)
theorem gambitref05_kind.mono_l : ∀ k, (∀ y0 y1, LeO (gambitref05_kind.j0 k y0 y1) (gambitref05_kind.j0 (k + 1) y0 y1)) ∧ (∀ y0 y1, LeO (gambitref05_kind.j1 k y0 y1) (gambitref05_kind.j1 (k + 1) y0 y1))
 | 0 => ⟨fun _ _ r h => by simp [gambitref05_kind.j0] at h, fun _ _ r h => by simp [gambitref05_kind.j1] at h⟩
 | k + 1 => by
  obtain ⟨ih0, ih1⟩ := gambitref05_kind.mono_l k
  refine ⟨?_, ?_⟩
  ·intro y0 y1
   unfold gambitref05_kind.j0
   repeat' first
   | (with_reducible exact ih0 _ _)
   | (with_reducible exact ih1 _ _)
   | (with_reducible exact LeO.refl _)
   | (with_reducible exact LeO.none _)
   | (with_reducible refine LeO.ite ?_ ?_)
   | (with_reducible refine LeO.bind ?_ (fun _ => ?_))
   | exact ih0 _ _
   | exact ih1 _ _
   | exact LeO.none _
   | refine LeO.ite ?_ ?_
   | refine LeO.bind ?_ (fun _ => ?_)
  ·intro y0 y1
   unfold gambitref05_kind.j1
   repeat' first
   | (with_reducible exact ih0 _ _)
   | (with_reducible exact ih1 _ _)
   | (with_reducible exact LeO.refl _)
   | (with_reducible exact LeO.none _)
   | (with_reducible refine LeO.ite ?_ ?_)
   | (with_reducible refine LeO.bind ?_ (fun _ => ?_))
   | exact ih0 _ _
   | exact ih1 _ _
   | exact LeO.none _
   | refine LeO.ite ?_ ?_
   | refine LeO.bind ?_ (fun _ => ?_)
theorem gambitref05_kind.mono : ∀ a0 k, LeO (gambitref05_kind.f k a0) (gambitref05_kind.f (k + 1) a0) := by
 intro a0 k
 obtain ⟨ih0, ih1⟩ := gambitref05_kind.mono_l k
 unfold gambitref05_kind.f
 repeat' first
   | (with_reducible exact ih0 _ _)
   | (with_reducible exact ih1 _ _)
   | (with_reducible exact LeO.refl _)
   | (with_reducible exact LeO.none _)
   | (with_reducible refine LeO.ite ?_ ?_)
   | (with_reducible refine LeO.bind ?_ (fun _ => ?_))
   | exact ih0 _ _
   | exact ih1 _ _
   | exact LeO.none _
   | refine LeO.ite ?_ ?_
   | refine LeO.bind ?_ (fun _ => ?_)
set_option maxHeartbeats 8000000 in
set_option maxRecDepth 100000 in
theorem gambitref05_kind.calls (k : Nat) (a0 : Int) (r : Int) (w : World) (h : gambitref05_kind.f k a0 = some r) :
  Calls Tryz.prog 91 #[.int .u8 a0] w fun e w' => e = .returned (.int .i64 r) ∧ Drawn0 w w' := by
 have H : (if a0 ≥ 1 then (gambitref05_kind.j0 k a0 (decide (a0 ≤ 9))) else (gambitref05_kind.j0 k a0 false)) = some r := h
 clear h
 have HC2 := Aside0.mk H
 clear H
 go_enter Tryz.func91, Tryz.ntmps91
 go_upto_region 1 with (fail)
 go_cut [3] (fun v3 wc => ∃ (kq : Nat) (x3_1 : Bool), v3 = .bool x3_1 ∧ Aside0 (gambitref05_kind.j0 kq a0 x3_1 = some r) ∧ Aside0 (kq ≤ k) ∧ Drawn0 w wc)
 case first =>
  have H := HC2.out
  clear HC2
  by_cases c3 : a0 ≥ 1
  ·rw [if_pos c3] at H
   have c3b0 : decide (1 ≤ a0) = true := decide_eq_true c3
   clear c3
   (first | rw [c3b0] | (simp only [i64_w, i32_w]; rw [c3b0]) | skip)
   have H' := Aside0.mk H
   clear H
   go_wp2
   go_meet
   case rel => exact ⟨_, (decide (a0 ≤ 9)), Zs, H', ⟨by first | omega | exact Nat.le_refl _⟩, Zd⟩
  ·rw [if_neg c3] at H
   have c3b0 : decide (1 ≤ a0) = false := decide_eq_false c3
   clear c3
   (first | rw [c3b0] | (simp only [i64_w, i32_w]; rw [c3b0]) | skip)
   have H' := Aside0.mk H
   clear H
   go_wp2
   go_meet
   case rel => exact ⟨_, (false), Zs, H', ⟨by first | omega | exact Nat.le_refl _⟩, Zd⟩
 case rest =>
  clear HC2
  try clear p2
  try clear c3
  try clear c3b0
  obtain ⟨kq, x3_1, rfl, HA, HJ1, ⟨mc1, rfl⟩⟩ := hcut
  cases kq with
  | zero => exact absurd HA.out (by simp [gambitref05_kind.j0])
  | succ kj1 =>
   have H := HA.out
   clear HA
   simp only [gambitref05_kind.j0] at H
   by_cases c4 : x3_1 = true
   ·subst c4
    have H1 : (some 1) = some r := by rw [if_pos rfl] at H; exact H
    clear H
    have H := H1
    clear H1
    obtain rfl := Option.some.inj H
    go_wp2
    go_ret
    exact ⟨Zt, Zd⟩
   ·replace c4 := Bool.eq_false_iff.mpr c4
    subst c4
    have H1 : (if a0 ≥ 10 then (gambitref05_kind.j1 kj1 a0 (decide (a0 ≤ 15))) else (gambitref05_kind.j1 kj1 a0 false)) = some r := by rw [if_neg (show ¬ (false = true) by decide)] at H; exact H
    clear H
    have H := H1
    clear H1
    have HC5 := Aside0.mk H
    clear H
    go_upto_region 3 with (fail)
    go_cut [10] (fun v10 wc => ∃ (kq : Nat) (x10_4 : Bool), v10 = .bool x10_4 ∧ Aside0 (gambitref05_kind.j1 kq a0 x10_4 = some r) ∧ Aside0 (kq ≤ kj1) ∧ Drawn0 w wc)
    case first =>
     have H := HC5.out
     clear HC5
     by_cases c6 : a0 ≥ 10
     ·rw [if_pos c6] at H
      have c6b0 : decide (10 ≤ a0) = true := decide_eq_true c6
      clear c6
      (first | rw [c6b0] | (simp only [i64_w, i32_w]; rw [c6b0]) | skip)
      have H' := Aside0.mk H
      clear H
      go_wp2
      go_meet
      case rel => exact ⟨_, (decide (a0 ≤ 15)), Zs, H', ⟨by have := HJ1.out; first | omega | exact Nat.le_refl _⟩, Zd⟩
     ·rw [if_neg c6] at H
      have c6b0 : decide (10 ≤ a0) = false := decide_eq_false c6
      clear c6
      (first | rw [c6b0] | (simp only [i64_w, i32_w]; rw [c6b0]) | skip)
      have H' := Aside0.mk H
      clear H
      go_wp2
      go_meet
      case rel => exact ⟨_, (false), Zs, H', ⟨by have := HJ1.out; first | omega | exact Nat.le_refl _⟩, Zd⟩
    case rest =>
     clear HC5
     try clear c1
     try clear p2
     try clear c3
     try clear c3b0
     try clear c4
     try clear c6
     try clear c6b0
     try clear p2
     obtain ⟨kq, x10_4, rfl, HA, HJ4, ⟨mc4, rfl⟩⟩ := hcut
     cases kq with
     | zero => exact absurd HA.out (by simp [gambitref05_kind.j1])
     | succ kj4 =>
      have H := HA.out
      clear HA
      simp only [gambitref05_kind.j1] at H
      by_cases c7 : x10_4 = true
      ·subst c7
       have H1 : (some 2) = some r := by rw [if_pos rfl] at H; exact H
       clear H
       have H := H1
       clear H1
       obtain rfl := Option.some.inj H
       go_wp2
       go_ret
       exact ⟨Zt, Zd⟩
      ·replace c7 := Bool.eq_false_iff.mpr c7
       subst c7
       have H1 : (if a0 ≥ 16 then (if a0 ≤ 19 then (some 3) else (some 0)) else (some 0)) = some r := by rw [if_neg (show ¬ (false = true) by decide)] at H; exact H
       clear H
       have H := H1
       clear H1
       by_cases c8 : a0 ≥ 16
       ·rw [if_pos c8] at H
        have c8b0 : decide (16 ≤ a0) = true := decide_eq_true c8
        clear c8
        by_cases c9 : a0 ≤ 19
        ·rw [if_pos c9] at H
         have c9b0 : decide (a0 ≤ 19) = true := decide_eq_true c9
         clear c9
         obtain rfl := Option.some.inj H
         go_wp2
         go_ret
         exact ⟨Zt, Zd⟩
        ·rw [if_neg c9] at H
         have c9b0 : decide (a0 ≤ 19) = false := decide_eq_false c9
         clear c9
         obtain rfl := Option.some.inj H
         go_wp2
         go_ret
         exact ⟨Zt, Zd⟩
       ·rw [if_neg c8] at H
        have c8b0 : decide (16 ≤ a0) = false := decide_eq_false c8
        clear c8
        obtain rfl := Option.some.inj H
        go_wp2
        go_ret
        exact ⟨Zt, Zd⟩
end Go.Proofs.YtfpcideomanbbaaGreatDoor.PA
end
section
namespace Go.Proofs.YtfpcideomanbbaaGreatDoor.PA
open Go.RowKit Go.Proofs.YtfpcideomanbbaaGreatDoorW.PrintWords Go.Proofs.YtfpcideomanbbaaGreatDoorW.PrintLast Go.Proofs.YtfpcideomanbbaaGreatDoorW.PrintMore
attribute [local go_sem] max2_int min2_int max_two min_two max_three min_three max_four min_four
set_option linter.unusedVariables false
set_option linter.unusedSimpArgs false
def gambitref05_wants.j0 : Nat → Int → Bool → Option (Int)
 | 0, _, _ => none
 | k + 1, x0, x3 => if x3 = true then (some 1) else (if x0 = 5 then (some 2) else (if x0 = 6 then (some 3) else (some 0)))
def gambitref05_wants.f (k : Nat) (a0 : Int) : Option (Int) := if a0 ≥ 1 then (gambitref05_wants.j0 k a0 (decide (a0 ≤ 4))) else (gambitref05_wants.j0 k a0 false)
theorem gambitref05_wants.mono_l : ∀ k, (∀ y0 y1, LeO (gambitref05_wants.j0 k y0 y1) (gambitref05_wants.j0 (k + 1) y0 y1))
 | 0 => fun _ _ r h => by simp [gambitref05_wants.j0] at h
 | k + 1 => by
  have ih0 := gambitref05_wants.mono_l k
  ·intro y0 y1
   unfold gambitref05_wants.j0
   repeat' first
   | (with_reducible exact ih0 _ _)
   | (with_reducible exact LeO.refl _)
   | (with_reducible exact LeO.none _)
   | (with_reducible refine LeO.ite ?_ ?_)
   | (with_reducible refine LeO.bind ?_ (fun _ => ?_))
   | exact ih0 _ _
   | exact LeO.none _
   | refine LeO.ite ?_ ?_
   | refine LeO.bind ?_ (fun _ => ?_)
theorem gambitref05_wants.mono : ∀ a0 k, LeO (gambitref05_wants.f k a0) (gambitref05_wants.f (k + 1) a0) := by
 intro a0 k
 have ih0 := gambitref05_wants.mono_l k
 unfold gambitref05_wants.f
 repeat' first
   | (with_reducible exact ih0 _ _)
   | (with_reducible exact LeO.refl _)
   | (with_reducible exact LeO.none _)
   | (with_reducible refine LeO.ite ?_ ?_)
   | (with_reducible refine LeO.bind ?_ (fun _ => ?_))
   | exact ih0 _ _
   | exact LeO.none _
   | refine LeO.ite ?_ ?_
   | refine LeO.bind ?_ (fun _ => ?_)
set_option maxHeartbeats 8000000 in
set_option maxRecDepth 100000 in
theorem gambitref05_wants.calls (k : Nat) (a0 : Int) (r : Int) (w : World) (h : gambitref05_wants.f k a0 = some r) :
  Calls Tryz.prog 92 #[.int .u8 a0] w fun e w' => e = .returned (.int .i64 r) ∧ Drawn0 w w' := by
 have H : (if a0 ≥ 1 then (gambitref05_wants.j0 k a0 (decide (a0 ≤ 4))) else (gambitref05_wants.j0 k a0 false)) = some r := h
 clear h
 have HC2 := Aside0.mk H
 clear H
 go_enter Tryz.func92, Tryz.ntmps92
 go_upto_region 1 with (fail)
 go_cut [3] (fun v3 wc => ∃ (kq : Nat) (x3_1 : Bool), v3 = .bool x3_1 ∧ Aside0 (gambitref05_wants.j0 kq a0 x3_1 = some r) ∧ Aside0 (kq ≤ k) ∧ Drawn0 w wc)
 case first =>
  have H := HC2.out
  clear HC2
  by_cases c3 : a0 ≥ 1
  ·rw [if_pos c3] at H
   have c3b0 : decide (1 ≤ a0) = true := decide_eq_true c3
   clear c3
   (first | rw [c3b0] | (simp only [i64_w, i32_w]; rw [c3b0]) | skip)
   have H' := Aside0.mk H
   clear H
   go_wp2
   go_meet
   case rel => exact ⟨_, (decide (a0 ≤ 4)), Zs, H', ⟨by first | omega | exact Nat.le_refl _⟩, Zd⟩
  ·rw [if_neg c3] at H
   have c3b0 : decide (1 ≤ a0) = false := decide_eq_false c3
   clear c3
   (first | rw [c3b0] | (simp only [i64_w, i32_w]; rw [c3b0]) | skip)
   have H' := Aside0.mk H
   clear H
   go_wp2
   go_meet
   case rel => exact ⟨_, (false), Zs, H', ⟨by first | omega | exact Nat.le_refl _⟩, Zd⟩
 case rest =>
  clear HC2
  try clear p2
  try clear c3
  try clear c3b0
  obtain ⟨kq, x3_1, rfl, HA, HJ1, ⟨mc1, rfl⟩⟩ := hcut
  cases kq with
  | zero => exact absurd HA.out (by simp [gambitref05_wants.j0])
  | succ kj1 =>
   have H := HA.out
   clear HA
   simp only [gambitref05_wants.j0] at H
   by_cases c4 : x3_1 = true
   ·subst c4
    have H1 : (some 1) = some r := by rw [if_pos rfl] at H; exact H
    clear H
    have H := H1
    clear H1
    obtain rfl := Option.some.inj H
    go_wp2
    go_ret
    exact ⟨Zt, Zd⟩
   ·replace c4 := Bool.eq_false_iff.mpr c4
    subst c4
    have H1 : (if a0 = 5 then (some 2) else (if a0 = 6 then (some 3) else (some 0))) = some r := by rw [if_neg (show ¬ (false = true) by decide)] at H; exact H
    clear H
    have H := H1
    clear H1
    by_cases c5 : a0 = 5
    ·rw [if_pos c5] at H
     have c5b0 : (a0 == 5) = true := beq_iff_eq.mpr c5
     have c5b1 : (a0 != 5) = false := bne_eq_false_iff_eq.mpr c5
     clear c5
     obtain rfl := Option.some.inj H
     go_wp2
     go_ret
     exact ⟨Zt, Zd⟩
    ·rw [if_neg c5] at H
     have c5b0 : (a0 == 5) = false := beq_eq_false_iff_ne.mpr c5
     have c5b1 : (a0 != 5) = true := bne_iff_ne.mpr c5
     by_cases c6 : a0 = 6
     ·rw [if_pos c6] at H
      have c6b0 : (a0 == 6) = true := beq_iff_eq.mpr c6
      have c6b1 : (a0 != 6) = false := bne_eq_false_iff_eq.mpr c6
      clear c6
      obtain rfl := Option.some.inj H
      go_wp2
      go_ret
      exact ⟨Zt, Zd⟩
     ·rw [if_neg c6] at H
      have c6b0 : (a0 == 6) = false := beq_eq_false_iff_ne.mpr c6
      have c6b1 : (a0 != 6) = true := bne_iff_ne.mpr c6
      obtain rfl := Option.some.inj H
      go_wp2
      go_ret
      exact ⟨Zt, Zd⟩
end Go.Proofs.YtfpcideomanbbaaGreatDoor.PA
end
section
namespace Go.Proofs.YtfpcideomanbbaaGreatDoor.PA
open Go.RowKit Go.Proofs.YtfpcideomanbbaaGreatDoorW.PrintWords Go.Proofs.YtfpcideomanbbaaGreatDoorW.PrintLast Go.Proofs.YtfpcideomanbbaaGreatDoorW.PrintMore
attribute [local go_sem] max2_int min2_int max_two min_two max_three min_three max_four min_four
set_option linter.unusedVariables false
set_option linter.unusedSimpArgs false
def gambitref05_about.j0 : Nat → Bool → Int → Int → Int → Int → Int → Int → Int → ByteArray → Option (Bool)
 | 0, _, _, _, _, _, _, _, _, _ => none
 | k + 1, x3, x119000, x119001, x119002, x119003, x119004, x119005, x119006, x119007 => (gambitref05_kind.f k x119001).bind fun t119 => (if t119 = 1 then (if x3 = true then (if x119001 = 6 then (some false) else (if x119001 = 8 then (some false) else (if x119001 = 9 then (some false) else (if x119002 = 3 then (some (x119000 == 1)) else (some true))))) else (if x119002 = 3 then (some (x119000 == 1)) else (some true))) else (if t119 = 2 then (if x3 = true then (some false) else (some (x119002 != 3))) else (some (x119002 != 3))))
def gambitref05_about.f (k : Nat) (a0_0 : Int) (a0_1 : Int) (a0_2 : Int) (a0_3 : Int) (a0_4 : Int) (a0_5 : Int) (a0_6 : Int) (a0_7 : ByteArray) : Option (Bool) := if a0_2 = 1 then (gambitref05_about.j0 k true a0_0 a0_1 a0_2 a0_3 a0_4 a0_5 a0_6 a0_7) else (gambitref05_about.j0 k (a0_2 == 2) a0_0 a0_1 a0_2 a0_3 a0_4 a0_5 a0_6 a0_7)
theorem gambitref05_about.mono_l : ∀ k, (∀ y0 y1 y2 y3 y4 y5 y6 y7 y8, LeO (gambitref05_about.j0 k y0 y1 y2 y3 y4 y5 y6 y7 y8) (gambitref05_about.j0 (k + 1) y0 y1 y2 y3 y4 y5 y6 y7 y8))
 | 0 => fun _ _ _ _ _ _ _ _ _ r h => by simp [gambitref05_about.j0] at h
 | k + 1 => by
  have ih0 := gambitref05_about.mono_l k
  ·intro y0 y1 y2 y3 y4 y5 y6 y7 y8
   unfold gambitref05_about.j0
   repeat' first
   | (with_reducible exact ih0 _ _ _ _ _ _ _ _ _)
   | (with_reducible exact gambitref05_kind.mono _ _)
   | (with_reducible exact LeO.refl _)
   | (with_reducible exact LeO.none _)
   | (with_reducible refine LeO.ite ?_ ?_)
   | (with_reducible refine LeO.bind ?_ (fun _ => ?_))
   | exact ih0 _ _ _ _ _ _ _ _ _
   | exact gambitref05_kind.mono _ _
   | exact LeO.none _
   | refine LeO.ite ?_ ?_
   | refine LeO.bind ?_ (fun _ => ?_)
theorem gambitref05_about.mono : ∀ a0 a1 a2 a3 a4 a5 a6 a7 k, LeO (gambitref05_about.f k a0 a1 a2 a3 a4 a5 a6 a7) (gambitref05_about.f (k + 1) a0 a1 a2 a3 a4 a5 a6 a7) := by
 intro a0 a1 a2 a3 a4 a5 a6 a7 k
 have ih0 := gambitref05_about.mono_l k
 unfold gambitref05_about.f
 repeat' first
   | (with_reducible exact ih0 _ _ _ _ _ _ _ _ _)
   | (with_reducible exact gambitref05_kind.mono _ _)
   | (with_reducible exact LeO.refl _)
   | (with_reducible exact LeO.none _)
   | (with_reducible refine LeO.ite ?_ ?_)
   | (with_reducible refine LeO.bind ?_ (fun _ => ?_))
   | exact ih0 _ _ _ _ _ _ _ _ _
   | exact gambitref05_kind.mono _ _
   | exact LeO.none _
   | refine LeO.ite ?_ ?_
   | refine LeO.bind ?_ (fun _ => ?_)
set_option maxHeartbeats 8000000 in
set_option maxRecDepth 100000 in
theorem gambitref05_about.calls (k : Nat) (a0_0 : Int) (a0_1 : Int) (a0_2 : Int) (a0_3 : Int) (a0_4 : Int) (a0_5 : Int) (a0_6 : Int) (a0_7 : ByteArray) (r : Bool) (w : World) (h : gambitref05_about.f k a0_0 a0_1 a0_2 a0_3 a0_4 a0_5 a0_6 a0_7 = some r) :
  Calls Tryz.prog 93 #[.agg #[.int .u8 a0_0, .int .u8 a0_1, .int .u8 a0_2, .int .i64 a0_3, .int .u8 a0_4, .int .u8 a0_5, .int .u8 a0_6, .string a0_7]] w fun e w' => e = .returned (.bool r) ∧ Below w.heap.size w w' := by
 have hu48 := Tryz.underlying48
 have HB := Aside0.mk (Below.refl w.heap.size w)
 have H : (if a0_2 = 1 then (gambitref05_about.j0 k true a0_0 a0_1 a0_2 a0_3 a0_4 a0_5 a0_6 a0_7) else (gambitref05_about.j0 k (a0_2 == 2) a0_0 a0_1 a0_2 a0_3 a0_4 a0_5 a0_6 a0_7)) = some r := h
 clear h
 have HC2 := Aside0.mk H
 clear H
 go_enter Tryz.func93, Tryz.ntmps93
 go_upto_region 1 with (first | ((with_reducible refine gate_dst (N := 1) rfl ?_); refine box_event ?hg (N := 1) ?hd (cs := #[.int .u8 a0_0, .int .u8 a0_1, .int .u8 a0_2, .int .i64 a0_3, .int .u8 a0_4, .int .u8 a0_5, .int .u8 a0_6, .string a0_7]) (t := 48) ?hr ?_; (case hd => rfl); (case hg => rfl); (case hr => first | (go_simp; done) | (go_simp; rfl)); intro gb118 hg w3 hbox hb; have BK118 := Aside0.mk (hbox); have GW118 := Aside0.mk ((by rw [hg]; exact (below_size Zb) : w.heap.size ≤ gb118)); have GE118 := Aside0.mk ((by rw [hg]; exact (below_size Zb) : w.heap.size ≤ gb118)); replace HB := Aside0.mk (below_step Zb hb); clear hb hbox hg))
 (try simp only [Act.put, List.setIfInBounds_toArray, List.set_cons_zero, List.set_cons_succ])
 go_cut [3] (fun v3 wc => ∃ (kq : Nat) (x3_1 : Bool), v3 = .bool x3_1 ∧ Aside0 (gambitref05_about.j0 kq x3_1 a0_0 a0_1 a0_2 a0_3 a0_4 a0_5 a0_6 a0_7 = some r) ∧ Aside0 (kq ≤ k) ∧ Aside0 (wc.heap[gb118]? = some (.cells #[.int .u8 a0_0, .int .u8 a0_1, .int .u8 a0_2, .int .i64 a0_3, .int .u8 a0_4, .int .u8 a0_5, .int .u8 a0_6, .string a0_7] 48 (0, 0))) ∧ Aside0 (Below w.heap.size w wc))
 case first =>
  have H := HC2.out
  clear HC2
  by_cases c4 : a0_2 = 1
  ·rw [if_pos c4] at H
   have c4b0 : (a0_2 == 1) = true := beq_iff_eq.mpr c4
   have c4b1 : (a0_2 != 1) = false := bne_eq_false_iff_eq.mpr c4
   clear c4
   (first | rw [c4b0] | (simp only [i64_w, i32_w]; rw [c4b0]) | skip)
   have H' := Aside0.mk H
   clear H
   have hcz5_0 := Zc BK118.out 0 (.int .u8 a0_0) rfl
   have hcz5_1 := Zc BK118.out 1 (.int .u8 a0_1) rfl
   have hcz5_2 := Zc BK118.out 2 (.int .u8 a0_2) rfl
   have hcz5_3 := Zc BK118.out 3 (.int .i64 a0_3) rfl
   have hcz5_4 := Zc BK118.out 4 (.int .u8 a0_4) rfl
   have hcz5_5 := Zc BK118.out 5 (.int .u8 a0_5) rfl
   have hcz5_6 := Zc BK118.out 6 (.int .u8 a0_6) rfl
   have hcz5_7 := Zc BK118.out 7 (.string a0_7) rfl
   have hfz5_0 := blk_frozen BK118.out 0
   have hfz5_1 := blk_frozen BK118.out 1
   have hfz5_2 := blk_frozen BK118.out 2
   have hfz5_3 := blk_frozen BK118.out 3
   have hfz5_4 := blk_frozen BK118.out 4
   have hfz5_5 := blk_frozen BK118.out 5
   have hfz5_6 := blk_frozen BK118.out 6
   have hfz5_7 := blk_frozen BK118.out 7
   go_wp2
   go_meet
   case rel => exact ⟨_, (true), Zs, H', ⟨by first | omega | exact Nat.le_refl _⟩, ⟨Zk BK118.out⟩, ⟨Zb1 GE118.out⟩⟩
  ·rw [if_neg c4] at H
   have c4b0 : (a0_2 == 1) = false := beq_eq_false_iff_ne.mpr c4
   have c4b1 : (a0_2 != 1) = true := bne_iff_ne.mpr c4
   (first | rw [c4b0] | (simp only [i64_w, i32_w]; rw [c4b0]) | skip)
   have H' := Aside0.mk H
   clear H
   have hcz6_0 := Zc BK118.out 0 (.int .u8 a0_0) rfl
   have hcz6_1 := Zc BK118.out 1 (.int .u8 a0_1) rfl
   have hcz6_2 := Zc BK118.out 2 (.int .u8 a0_2) rfl
   have hcz6_3 := Zc BK118.out 3 (.int .i64 a0_3) rfl
   have hcz6_4 := Zc BK118.out 4 (.int .u8 a0_4) rfl
   have hcz6_5 := Zc BK118.out 5 (.int .u8 a0_5) rfl
   have hcz6_6 := Zc BK118.out 6 (.int .u8 a0_6) rfl
   have hcz6_7 := Zc BK118.out 7 (.string a0_7) rfl
   have hfz6_0 := blk_frozen BK118.out 0
   have hfz6_1 := blk_frozen BK118.out 1
   have hfz6_2 := blk_frozen BK118.out 2
   have hfz6_3 := blk_frozen BK118.out 3
   have hfz6_4 := blk_frozen BK118.out 4
   have hfz6_5 := blk_frozen BK118.out 5
   have hfz6_6 := blk_frozen BK118.out 6
   have hfz6_7 := blk_frozen BK118.out 7
   go_wp2
   go_meet
   case rel => exact ⟨_, ((a0_2 == 2)), Zs, H', ⟨by first | omega | exact Nat.le_refl _⟩, ⟨Zk BK118.out⟩, ⟨Zb1 GE118.out⟩⟩
 case rest =>
  clear HC2
  try clear p2
  try clear c4
  try clear c4b0
  try clear c4b1
  try clear hcz5_0
  try clear hcz5_1
  try clear hcz5_2
  try clear hcz5_3
  try clear hcz5_4
  try clear hcz5_5
  try clear hcz5_6
  try clear hcz5_7
  try clear hcz6_0
  try clear hcz6_1
  try clear hcz6_2
  try clear hcz6_3
  try clear hcz6_4
  try clear hcz6_5
  try clear hcz6_6
  try clear hcz6_7
  try clear hfz5_0
  try clear hfz5_1
  try clear hfz5_2
  try clear hfz5_3
  try clear hfz5_4
  try clear hfz5_5
  try clear hfz5_6
  try clear hfz5_7
  try clear hfz6_0
  try clear hfz6_1
  try clear hfz6_2
  try clear hfz6_3
  try clear hfz6_4
  try clear hfz6_5
  try clear hfz6_6
  try clear hfz6_7
  obtain ⟨kq, x3_1, rfl, HA, HJ1, BK118, HB⟩ := hcut
  cases kq with
  | zero => exact absurd HA.out (by simp [gambitref05_about.j0])
  | succ kj1 =>
   have H := HA.out
   clear HA
   simp only [gambitref05_about.j0] at H
   replace H := Option.bind_eq_some_iff.mp H
   obtain ⟨t119, A70, H⟩ := H
   replace H : (if t119 = 1 then (if x3_1 = true then (if a0_1 = 6 then (some false) else (if a0_1 = 8 then (some false) else (if a0_1 = 9 then (some false) else (if a0_2 = 3 then (some (a0_0 == 1)) else (some true))))) else (if a0_2 = 3 then (some (a0_0 == 1)) else (some true))) else (if t119 = 2 then (if x3_1 = true then (some false) else (some (a0_2 != 3))) else (some (a0_2 != 3)))) = some r := H
   have A7 := Aside0.mk A70
   clear A70
   by_cases c8 : t119 = 1
   ·rw [if_pos c8] at H
    have c8b0 : (t119 == 1) = true := beq_iff_eq.mpr c8
    have c8b1 : (t119 != 1) = false := bne_eq_false_iff_eq.mpr c8
    clear c8
    by_cases c9 : x3_1 = true
    ·subst c9
     have H1 : (if a0_1 = 6 then (some false) else (if a0_1 = 8 then (some false) else (if a0_1 = 9 then (some false) else (if a0_2 = 3 then (some (a0_0 == 1)) else (some true))))) = some r := by rw [if_pos rfl] at H; exact H
     clear H
     have H := H1
     clear H1
     by_cases c10 : a0_1 = 6
     ·rw [if_pos c10] at H
      have c10b0 : (a0_1 == 6) = true := beq_iff_eq.mpr c10
      have c10b1 : (a0_1 != 6) = false := bne_eq_false_iff_eq.mpr c10
      clear c10
      obtain rfl := Option.some.inj H
      have hcz11_0 := Zc BK118.out 0 (.int .u8 a0_0) rfl
      have hcz11_1 := Zc BK118.out 1 (.int .u8 a0_1) rfl
      have hcz11_2 := Zc BK118.out 2 (.int .u8 a0_2) rfl
      have hcz11_3 := Zc BK118.out 3 (.int .i64 a0_3) rfl
      have hcz11_4 := Zc BK118.out 4 (.int .u8 a0_4) rfl
      have hcz11_5 := Zc BK118.out 5 (.int .u8 a0_5) rfl
      have hcz11_6 := Zc BK118.out 6 (.int .u8 a0_6) rfl
      have hcz11_7 := Zc BK118.out 7 (.string a0_7) rfl
      have hfz11_0 := blk_frozen BK118.out 0
      have hfz11_1 := blk_frozen BK118.out 1
      have hfz11_2 := blk_frozen BK118.out 2
      have hfz11_3 := blk_frozen BK118.out 3
      have hfz11_4 := blk_frozen BK118.out 4
      have hfz11_5 := blk_frozen BK118.out 5
      have hfz11_6 := blk_frozen BK118.out 6
      have hfz11_7 := blk_frozen BK118.out 7
      go_wp2_with (first | ((with_reducible refine gate_callee (f := 91) rfl ?_); refine goesL_ (some 14) rfl rfl Tryz.func91 (by kernel_rfl) rfl #[.int .u8 a0_1] rfl Zl ?_; (with_reducible refine (gambitref05_kind.calls kj1 a0_1 t119 _ A7.out).mono ?_); rintro e w' ⟨rfl, ⟨nd, rfl⟩⟩; refine ⟨_, rfl, ?_⟩))
      go_ret
      exact ⟨Ze, Zb1 GE118.out⟩
     ·rw [if_neg c10] at H
      have c10b0 : (a0_1 == 6) = false := beq_eq_false_iff_ne.mpr c10
      have c10b1 : (a0_1 != 6) = true := bne_iff_ne.mpr c10
      by_cases c12 : a0_1 = 8
      ·rw [if_pos c12] at H
       have c12b0 : (a0_1 == 8) = true := beq_iff_eq.mpr c12
       have c12b1 : (a0_1 != 8) = false := bne_eq_false_iff_eq.mpr c12
       clear c12
       obtain rfl := Option.some.inj H
       have hcz13_0 := Zc BK118.out 0 (.int .u8 a0_0) rfl
       have hcz13_1 := Zc BK118.out 1 (.int .u8 a0_1) rfl
       have hcz13_2 := Zc BK118.out 2 (.int .u8 a0_2) rfl
       have hcz13_3 := Zc BK118.out 3 (.int .i64 a0_3) rfl
       have hcz13_4 := Zc BK118.out 4 (.int .u8 a0_4) rfl
       have hcz13_5 := Zc BK118.out 5 (.int .u8 a0_5) rfl
       have hcz13_6 := Zc BK118.out 6 (.int .u8 a0_6) rfl
       have hcz13_7 := Zc BK118.out 7 (.string a0_7) rfl
       have hfz13_0 := blk_frozen BK118.out 0
       have hfz13_1 := blk_frozen BK118.out 1
       have hfz13_2 := blk_frozen BK118.out 2
       have hfz13_3 := blk_frozen BK118.out 3
       have hfz13_4 := blk_frozen BK118.out 4
       have hfz13_5 := blk_frozen BK118.out 5
       have hfz13_6 := blk_frozen BK118.out 6
       have hfz13_7 := blk_frozen BK118.out 7
       go_wp2_with (first | ((with_reducible refine gate_callee (f := 91) rfl ?_); refine goesL_ (some 14) rfl rfl Tryz.func91 (by kernel_rfl) rfl #[.int .u8 a0_1] rfl Zl ?_; (with_reducible refine (gambitref05_kind.calls kj1 a0_1 t119 _ A7.out).mono ?_); rintro e w' ⟨rfl, ⟨nd, rfl⟩⟩; refine ⟨_, rfl, ?_⟩))
       go_ret
       exact ⟨Ze, Zb1 GE118.out⟩
      ·rw [if_neg c12] at H
       have c12b0 : (a0_1 == 8) = false := beq_eq_false_iff_ne.mpr c12
       have c12b1 : (a0_1 != 8) = true := bne_iff_ne.mpr c12
       by_cases c14 : a0_1 = 9
       ·rw [if_pos c14] at H
        have c14b0 : (a0_1 == 9) = true := beq_iff_eq.mpr c14
        have c14b1 : (a0_1 != 9) = false := bne_eq_false_iff_eq.mpr c14
        clear c14
        obtain rfl := Option.some.inj H
        have hcz15_0 := Zc BK118.out 0 (.int .u8 a0_0) rfl
        have hcz15_1 := Zc BK118.out 1 (.int .u8 a0_1) rfl
        have hcz15_2 := Zc BK118.out 2 (.int .u8 a0_2) rfl
        have hcz15_3 := Zc BK118.out 3 (.int .i64 a0_3) rfl
        have hcz15_4 := Zc BK118.out 4 (.int .u8 a0_4) rfl
        have hcz15_5 := Zc BK118.out 5 (.int .u8 a0_5) rfl
        have hcz15_6 := Zc BK118.out 6 (.int .u8 a0_6) rfl
        have hcz15_7 := Zc BK118.out 7 (.string a0_7) rfl
        have hfz15_0 := blk_frozen BK118.out 0
        have hfz15_1 := blk_frozen BK118.out 1
        have hfz15_2 := blk_frozen BK118.out 2
        have hfz15_3 := blk_frozen BK118.out 3
        have hfz15_4 := blk_frozen BK118.out 4
        have hfz15_5 := blk_frozen BK118.out 5
        have hfz15_6 := blk_frozen BK118.out 6
        have hfz15_7 := blk_frozen BK118.out 7
        go_wp2_with (first | ((with_reducible refine gate_callee (f := 91) rfl ?_); refine goesL_ (some 14) rfl rfl Tryz.func91 (by kernel_rfl) rfl #[.int .u8 a0_1] rfl Zl ?_; (with_reducible refine (gambitref05_kind.calls kj1 a0_1 t119 _ A7.out).mono ?_); rintro e w' ⟨rfl, ⟨nd, rfl⟩⟩; refine ⟨_, rfl, ?_⟩))
        go_ret
        exact ⟨Ze, Zb1 GE118.out⟩
       ·rw [if_neg c14] at H
        have c14b0 : (a0_1 == 9) = false := beq_eq_false_iff_ne.mpr c14
        have c14b1 : (a0_1 != 9) = true := bne_iff_ne.mpr c14
        by_cases c16 : a0_2 = 3
        ·rw [if_pos c16] at H
         have c16b0 : (a0_2 == 3) = true := beq_iff_eq.mpr c16
         have c16b1 : (a0_2 != 3) = false := bne_eq_false_iff_eq.mpr c16
         clear c16
         obtain rfl := Option.some.inj H
         have hcz17_0 := Zc BK118.out 0 (.int .u8 a0_0) rfl
         have hcz17_1 := Zc BK118.out 1 (.int .u8 a0_1) rfl
         have hcz17_2 := Zc BK118.out 2 (.int .u8 a0_2) rfl
         have hcz17_3 := Zc BK118.out 3 (.int .i64 a0_3) rfl
         have hcz17_4 := Zc BK118.out 4 (.int .u8 a0_4) rfl
         have hcz17_5 := Zc BK118.out 5 (.int .u8 a0_5) rfl
         have hcz17_6 := Zc BK118.out 6 (.int .u8 a0_6) rfl
         have hcz17_7 := Zc BK118.out 7 (.string a0_7) rfl
         have hfz17_0 := blk_frozen BK118.out 0
         have hfz17_1 := blk_frozen BK118.out 1
         have hfz17_2 := blk_frozen BK118.out 2
         have hfz17_3 := blk_frozen BK118.out 3
         have hfz17_4 := blk_frozen BK118.out 4
         have hfz17_5 := blk_frozen BK118.out 5
         have hfz17_6 := blk_frozen BK118.out 6
         have hfz17_7 := blk_frozen BK118.out 7
         go_wp2_with (first | ((with_reducible refine gate_callee (f := 91) rfl ?_); refine goesL_ (some 14) rfl rfl Tryz.func91 (by kernel_rfl) rfl #[.int .u8 a0_1] rfl Zl ?_; (with_reducible refine (gambitref05_kind.calls kj1 a0_1 t119 _ A7.out).mono ?_); rintro e w' ⟨rfl, ⟨nd, rfl⟩⟩; refine ⟨_, rfl, ?_⟩))
         go_ret
         exact ⟨Ze, Zb1 GE118.out⟩
        ·rw [if_neg c16] at H
         have c16b0 : (a0_2 == 3) = false := beq_eq_false_iff_ne.mpr c16
         have c16b1 : (a0_2 != 3) = true := bne_iff_ne.mpr c16
         obtain rfl := Option.some.inj H
         have hcz18_0 := Zc BK118.out 0 (.int .u8 a0_0) rfl
         have hcz18_1 := Zc BK118.out 1 (.int .u8 a0_1) rfl
         have hcz18_2 := Zc BK118.out 2 (.int .u8 a0_2) rfl
         have hcz18_3 := Zc BK118.out 3 (.int .i64 a0_3) rfl
         have hcz18_4 := Zc BK118.out 4 (.int .u8 a0_4) rfl
         have hcz18_5 := Zc BK118.out 5 (.int .u8 a0_5) rfl
         have hcz18_6 := Zc BK118.out 6 (.int .u8 a0_6) rfl
         have hcz18_7 := Zc BK118.out 7 (.string a0_7) rfl
         have hfz18_0 := blk_frozen BK118.out 0
         have hfz18_1 := blk_frozen BK118.out 1
         have hfz18_2 := blk_frozen BK118.out 2
         have hfz18_3 := blk_frozen BK118.out 3
         have hfz18_4 := blk_frozen BK118.out 4
         have hfz18_5 := blk_frozen BK118.out 5
         have hfz18_6 := blk_frozen BK118.out 6
         have hfz18_7 := blk_frozen BK118.out 7
         go_wp2_with (first | ((with_reducible refine gate_callee (f := 91) rfl ?_); refine goesL_ (some 14) rfl rfl Tryz.func91 (by kernel_rfl) rfl #[.int .u8 a0_1] rfl Zl ?_; (with_reducible refine (gambitref05_kind.calls kj1 a0_1 t119 _ A7.out).mono ?_); rintro e w' ⟨rfl, ⟨nd, rfl⟩⟩; refine ⟨_, rfl, ?_⟩))
         go_ret
         exact ⟨Ze, Zb1 GE118.out⟩
    ·replace c9 := Bool.eq_false_iff.mpr c9
     subst c9
     have H1 : (if a0_2 = 3 then (some (a0_0 == 1)) else (some true)) = some r := by rw [if_neg (show ¬ (false = true) by decide)] at H; exact H
     clear H
     have H := H1
     clear H1
     by_cases c19 : a0_2 = 3
     ·rw [if_pos c19] at H
      have c19b0 : (a0_2 == 3) = true := beq_iff_eq.mpr c19
      have c19b1 : (a0_2 != 3) = false := bne_eq_false_iff_eq.mpr c19
      clear c19
      obtain rfl := Option.some.inj H
      have hcz20_0 := Zc BK118.out 0 (.int .u8 a0_0) rfl
      have hcz20_1 := Zc BK118.out 1 (.int .u8 a0_1) rfl
      have hcz20_2 := Zc BK118.out 2 (.int .u8 a0_2) rfl
      have hcz20_3 := Zc BK118.out 3 (.int .i64 a0_3) rfl
      have hcz20_4 := Zc BK118.out 4 (.int .u8 a0_4) rfl
      have hcz20_5 := Zc BK118.out 5 (.int .u8 a0_5) rfl
      have hcz20_6 := Zc BK118.out 6 (.int .u8 a0_6) rfl
      have hcz20_7 := Zc BK118.out 7 (.string a0_7) rfl
      have hfz20_0 := blk_frozen BK118.out 0
      have hfz20_1 := blk_frozen BK118.out 1
      have hfz20_2 := blk_frozen BK118.out 2
      have hfz20_3 := blk_frozen BK118.out 3
      have hfz20_4 := blk_frozen BK118.out 4
      have hfz20_5 := blk_frozen BK118.out 5
      have hfz20_6 := blk_frozen BK118.out 6
      have hfz20_7 := blk_frozen BK118.out 7
      go_wp2_with (first | ((with_reducible refine gate_callee (f := 91) rfl ?_); refine goesL_ (some 14) rfl rfl Tryz.func91 (by kernel_rfl) rfl #[.int .u8 a0_1] rfl Zl ?_; (with_reducible refine (gambitref05_kind.calls kj1 a0_1 t119 _ A7.out).mono ?_); rintro e w' ⟨rfl, ⟨nd, rfl⟩⟩; refine ⟨_, rfl, ?_⟩))
      go_ret
      exact ⟨Ze, Zb1 GE118.out⟩
     ·rw [if_neg c19] at H
      have c19b0 : (a0_2 == 3) = false := beq_eq_false_iff_ne.mpr c19
      have c19b1 : (a0_2 != 3) = true := bne_iff_ne.mpr c19
      obtain rfl := Option.some.inj H
      have hcz21_0 := Zc BK118.out 0 (.int .u8 a0_0) rfl
      have hcz21_1 := Zc BK118.out 1 (.int .u8 a0_1) rfl
      have hcz21_2 := Zc BK118.out 2 (.int .u8 a0_2) rfl
      have hcz21_3 := Zc BK118.out 3 (.int .i64 a0_3) rfl
      have hcz21_4 := Zc BK118.out 4 (.int .u8 a0_4) rfl
      have hcz21_5 := Zc BK118.out 5 (.int .u8 a0_5) rfl
      have hcz21_6 := Zc BK118.out 6 (.int .u8 a0_6) rfl
      have hcz21_7 := Zc BK118.out 7 (.string a0_7) rfl
      have hfz21_0 := blk_frozen BK118.out 0
      have hfz21_1 := blk_frozen BK118.out 1
      have hfz21_2 := blk_frozen BK118.out 2
      have hfz21_3 := blk_frozen BK118.out 3
      have hfz21_4 := blk_frozen BK118.out 4
      have hfz21_5 := blk_frozen BK118.out 5
      have hfz21_6 := blk_frozen BK118.out 6
      have hfz21_7 := blk_frozen BK118.out 7
      go_wp2_with (first | ((with_reducible refine gate_callee (f := 91) rfl ?_); refine goesL_ (some 14) rfl rfl Tryz.func91 (by kernel_rfl) rfl #[.int .u8 a0_1] rfl Zl ?_; (with_reducible refine (gambitref05_kind.calls kj1 a0_1 t119 _ A7.out).mono ?_); rintro e w' ⟨rfl, ⟨nd, rfl⟩⟩; refine ⟨_, rfl, ?_⟩))
      go_ret
      exact ⟨Ze, Zb1 GE118.out⟩
   ·rw [if_neg c8] at H
    have c8b0 : (t119 == 1) = false := beq_eq_false_iff_ne.mpr c8
    have c8b1 : (t119 != 1) = true := bne_iff_ne.mpr c8
    by_cases c22 : t119 = 2
    ·rw [if_pos c22] at H
     have c22b0 : (t119 == 2) = true := beq_iff_eq.mpr c22
     have c22b1 : (t119 != 2) = false := bne_eq_false_iff_eq.mpr c22
     clear c22
     by_cases c23 : x3_1 = true
     ·subst c23
      have H1 : (some false) = some r := by rw [if_pos rfl] at H; exact H
      clear H
      have H := H1
      clear H1
      obtain rfl := Option.some.inj H
      have hcz24_0 := Zc BK118.out 0 (.int .u8 a0_0) rfl
      have hcz24_1 := Zc BK118.out 1 (.int .u8 a0_1) rfl
      have hcz24_2 := Zc BK118.out 2 (.int .u8 a0_2) rfl
      have hcz24_3 := Zc BK118.out 3 (.int .i64 a0_3) rfl
      have hcz24_4 := Zc BK118.out 4 (.int .u8 a0_4) rfl
      have hcz24_5 := Zc BK118.out 5 (.int .u8 a0_5) rfl
      have hcz24_6 := Zc BK118.out 6 (.int .u8 a0_6) rfl
      have hcz24_7 := Zc BK118.out 7 (.string a0_7) rfl
      have hfz24_0 := blk_frozen BK118.out 0
      have hfz24_1 := blk_frozen BK118.out 1
      have hfz24_2 := blk_frozen BK118.out 2
      have hfz24_3 := blk_frozen BK118.out 3
      have hfz24_4 := blk_frozen BK118.out 4
      have hfz24_5 := blk_frozen BK118.out 5
      have hfz24_6 := blk_frozen BK118.out 6
      have hfz24_7 := blk_frozen BK118.out 7
      go_wp2_with (first | ((with_reducible refine gate_callee (f := 91) rfl ?_); refine goesL_ (some 14) rfl rfl Tryz.func91 (by kernel_rfl) rfl #[.int .u8 a0_1] rfl Zl ?_; (with_reducible refine (gambitref05_kind.calls kj1 a0_1 t119 _ A7.out).mono ?_); rintro e w' ⟨rfl, ⟨nd, rfl⟩⟩; refine ⟨_, rfl, ?_⟩))
      go_ret
      exact ⟨Ze, Zb1 GE118.out⟩
     ·replace c23 := Bool.eq_false_iff.mpr c23
      subst c23
      have H1 : (some (a0_2 != 3)) = some r := by rw [if_neg (show ¬ (false = true) by decide)] at H; exact H
      clear H
      have H := H1
      clear H1
      obtain rfl := Option.some.inj H
      have hcz25_0 := Zc BK118.out 0 (.int .u8 a0_0) rfl
      have hcz25_1 := Zc BK118.out 1 (.int .u8 a0_1) rfl
      have hcz25_2 := Zc BK118.out 2 (.int .u8 a0_2) rfl
      have hcz25_3 := Zc BK118.out 3 (.int .i64 a0_3) rfl
      have hcz25_4 := Zc BK118.out 4 (.int .u8 a0_4) rfl
      have hcz25_5 := Zc BK118.out 5 (.int .u8 a0_5) rfl
      have hcz25_6 := Zc BK118.out 6 (.int .u8 a0_6) rfl
      have hcz25_7 := Zc BK118.out 7 (.string a0_7) rfl
      have hfz25_0 := blk_frozen BK118.out 0
      have hfz25_1 := blk_frozen BK118.out 1
      have hfz25_2 := blk_frozen BK118.out 2
      have hfz25_3 := blk_frozen BK118.out 3
      have hfz25_4 := blk_frozen BK118.out 4
      have hfz25_5 := blk_frozen BK118.out 5
      have hfz25_6 := blk_frozen BK118.out 6
      have hfz25_7 := blk_frozen BK118.out 7
      go_wp2_with (first | ((with_reducible refine gate_callee (f := 91) rfl ?_); refine goesL_ (some 14) rfl rfl Tryz.func91 (by kernel_rfl) rfl #[.int .u8 a0_1] rfl Zl ?_; (with_reducible refine (gambitref05_kind.calls kj1 a0_1 t119 _ A7.out).mono ?_); rintro e w' ⟨rfl, ⟨nd, rfl⟩⟩; refine ⟨_, rfl, ?_⟩))
      go_ret
      exact ⟨Ze, Zb1 GE118.out⟩
    ·rw [if_neg c22] at H
     have c22b0 : (t119 == 2) = false := beq_eq_false_iff_ne.mpr c22
     have c22b1 : (t119 != 2) = true := bne_iff_ne.mpr c22
     obtain rfl := Option.some.inj H
     have hcz26_0 := Zc BK118.out 0 (.int .u8 a0_0) rfl
     have hcz26_1 := Zc BK118.out 1 (.int .u8 a0_1) rfl
     have hcz26_2 := Zc BK118.out 2 (.int .u8 a0_2) rfl
     have hcz26_3 := Zc BK118.out 3 (.int .i64 a0_3) rfl
     have hcz26_4 := Zc BK118.out 4 (.int .u8 a0_4) rfl
     have hcz26_5 := Zc BK118.out 5 (.int .u8 a0_5) rfl
     have hcz26_6 := Zc BK118.out 6 (.int .u8 a0_6) rfl
     have hcz26_7 := Zc BK118.out 7 (.string a0_7) rfl
     have hfz26_0 := blk_frozen BK118.out 0
     have hfz26_1 := blk_frozen BK118.out 1
     have hfz26_2 := blk_frozen BK118.out 2
     have hfz26_3 := blk_frozen BK118.out 3
     have hfz26_4 := blk_frozen BK118.out 4
     have hfz26_5 := blk_frozen BK118.out 5
     have hfz26_6 := blk_frozen BK118.out 6
     have hfz26_7 := blk_frozen BK118.out 7
     go_wp2_with (first | ((with_reducible refine gate_callee (f := 91) rfl ?_); refine goesL_ (some 14) rfl rfl Tryz.func91 (by kernel_rfl) rfl #[.int .u8 a0_1] rfl Zl ?_; (with_reducible refine (gambitref05_kind.calls kj1 a0_1 t119 _ A7.out).mono ?_); rintro e w' ⟨rfl, ⟨nd, rfl⟩⟩; refine ⟨_, rfl, ?_⟩))
     go_ret
     exact ⟨Ze, Zb1 GE118.out⟩
end Go.Proofs.YtfpcideomanbbaaGreatDoor.PA
end
section
namespace Go.Proofs.YtfpcideomanbbaaGreatDoor.PA
open Go.RowKit Go.Proofs.YtfpcideomanbbaaGreatDoorW.PrintWords Go.Proofs.YtfpcideomanbbaaGreatDoorW.PrintLast Go.Proofs.YtfpcideomanbbaaGreatDoorW.PrintMore
attribute [local go_sem] max2_int min2_int max_two min_two max_three min_three max_four min_four
set_option linter.unusedVariables false
set_option linter.unusedSimpArgs false
def gambitref05_counted.f (k : Nat) (a0_0 : Int) (a0_1 : Int) (a0_2 : Int) (a0_3 : Int) (a0_4 : Int) (a0_5 : Int) (a0_6 : Int) (a0_7 : ByteArray) : Option (Bool) := (gambitref05_counts.f k a0_1).bind fun bt121 => (if a0_3 ≥ bt121.1 then (if a0_3 ≤ bt121.2 then (if bt121.1 ≥ 0 then (some true) else (some (a0_3 != 0))) else (some false)) else (some false))
theorem gambitref05_counted.mono : ∀ a0 a1 a2 a3 a4 a5 a6 a7 k, LeO (gambitref05_counted.f k a0 a1 a2 a3 a4 a5 a6 a7) (gambitref05_counted.f (k + 1) a0 a1 a2 a3 a4 a5 a6 a7) := by
 intro a0 a1 a2 a3 a4 a5 a6 a7 k
 unfold gambitref05_counted.f
 repeat' first
   | (with_reducible exact gambitref05_counts.mono _ _)
   | (with_reducible exact LeO.refl _)
   | (with_reducible exact LeO.none _)
   | (with_reducible refine LeO.ite ?_ ?_)
   | (with_reducible refine LeO.bind ?_ (fun _ => ?_))
   | exact gambitref05_counts.mono _ _
   | exact LeO.none _
   | refine LeO.ite ?_ ?_
   | refine LeO.bind ?_ (fun _ => ?_)
set_option maxHeartbeats 8000000 in
set_option maxRecDepth 100000 in
theorem gambitref05_counted.calls (k : Nat) (a0_0 : Int) (a0_1 : Int) (a0_2 : Int) (a0_3 : Int) (a0_4 : Int) (a0_5 : Int) (a0_6 : Int) (a0_7 : ByteArray) (r : Bool) (w : World) (h : gambitref05_counted.f k a0_0 a0_1 a0_2 a0_3 a0_4 a0_5 a0_6 a0_7 = some r) :
  Calls Tryz.prog 94 #[.agg #[.int .u8 a0_0, .int .u8 a0_1, .int .u8 a0_2, .int .i64 a0_3, .int .u8 a0_4, .int .u8 a0_5, .int .u8 a0_6, .string a0_7]] w fun e w' => e = .returned (.bool r) ∧ Below w.heap.size w w' := by
 have hu48 := Tryz.underlying48
 have HB := Aside0.mk (Below.refl w.heap.size w)
 have H : ((gambitref05_counts.f k a0_1).bind fun bt121 => (if a0_3 ≥ bt121.1 then (if a0_3 ≤ bt121.2 then (if bt121.1 ≥ 0 then (some true) else (some (a0_3 != 0))) else (some false)) else (some false))) = some r := h
 clear h
 replace H := Option.bind_eq_some_iff.mp H
 obtain ⟨⟨t121, t122⟩, A20, H⟩ := H
 replace H : (if a0_3 ≥ t121 then (if a0_3 ≤ t122 then (if t121 ≥ 0 then (some true) else (some (a0_3 != 0))) else (some false)) else (some false)) = some r := H
 have A2 := Aside0.mk A20
 clear A20
 by_cases c3 : a0_3 ≥ t121
 ·rw [if_pos c3] at H
  have c3b0 : decide (t121 ≤ a0_3) = true := decide_eq_true c3
  clear c3
  by_cases c4 : a0_3 ≤ t122
  ·rw [if_pos c4] at H
   have c4b0 : decide (a0_3 ≤ t122) = true := decide_eq_true c4
   clear c4
   by_cases c5 : t121 ≥ 0
   ·rw [if_pos c5] at H
    have c5b0 : decide (0 ≤ t121) = true := decide_eq_true c5
    clear c5
    obtain rfl := Option.some.inj H
    go_enter Tryz.func94, Tryz.ntmps94
    go_wp2_with (first | ((with_reducible refine gate_dst (N := 1) rfl ?_); refine box_event ?hg (N := 1) ?hd (cs := #[.int .u8 a0_0, .int .u8 a0_1, .int .u8 a0_2, .int .i64 a0_3, .int .u8 a0_4, .int .u8 a0_5, .int .u8 a0_6, .string a0_7]) (t := 48) ?hr ?_; (case hd => rfl); (case hg => rfl); (case hr => first | (go_simp; done) | (go_simp; rfl)); intro gb120 hg w6 hbox hb; have BK120 := Aside0.mk (hbox); have GW120 := Aside0.mk ((by rw [hg]; exact (below_size Zb) : w.heap.size ≤ gb120)); have GE120 := Aside0.mk ((by rw [hg]; exact (below_size Zb) : w.heap.size ≤ gb120)); replace HB := Aside0.mk (below_step Zb hb); clear hb hbox hg; have hcz7_0 := Zc BK120.out 0 (.int .u8 a0_0) rfl; have hcz7_1 := Zc BK120.out 1 (.int .u8 a0_1) rfl; have hcz7_2 := Zc BK120.out 2 (.int .u8 a0_2) rfl; have hcz7_3 := Zc BK120.out 3 (.int .i64 a0_3) rfl; have hcz7_4 := Zc BK120.out 4 (.int .u8 a0_4) rfl; have hcz7_5 := Zc BK120.out 5 (.int .u8 a0_5) rfl; have hcz7_6 := Zc BK120.out 6 (.int .u8 a0_6) rfl; have hcz7_7 := Zc BK120.out 7 (.string a0_7) rfl; have hfz7_0 := blk_frozen BK120.out 0; have hfz7_1 := blk_frozen BK120.out 1; have hfz7_2 := blk_frozen BK120.out 2; have hfz7_3 := blk_frozen BK120.out 3; have hfz7_4 := blk_frozen BK120.out 4; have hfz7_5 := blk_frozen BK120.out 5; have hfz7_6 := blk_frozen BK120.out 6; have hfz7_7 := blk_frozen BK120.out 7) | ((with_reducible refine gate_callee (f := 121) rfl ?_); refine goesL_ (some 8) rfl rfl Tryz.func121 (by kernel_rfl) rfl #[.int .u8 a0_1] rfl Zl ?_; (with_reducible refine (gambitref05_counts.calls k a0_1 t121 t122 _ A2.out).mono ?_); rintro e w' ⟨rfl, ⟨nd, rfl⟩⟩; refine ⟨_, rfl, ?_⟩))
    go_ret
    exact ⟨Ze, Zb1 GE120.out⟩
   ·rw [if_neg c5] at H
    have c5b0 : decide (0 ≤ t121) = false := decide_eq_false c5
    clear c5
    obtain rfl := Option.some.inj H
    go_enter Tryz.func94, Tryz.ntmps94
    go_wp2_with (first | ((with_reducible refine gate_dst (N := 1) rfl ?_); refine box_event ?hg (N := 1) ?hd (cs := #[.int .u8 a0_0, .int .u8 a0_1, .int .u8 a0_2, .int .i64 a0_3, .int .u8 a0_4, .int .u8 a0_5, .int .u8 a0_6, .string a0_7]) (t := 48) ?hr ?_; (case hd => rfl); (case hg => rfl); (case hr => first | (go_simp; done) | (go_simp; rfl)); intro gb120 hg w8 hbox hb; have BK120 := Aside0.mk (hbox); have GW120 := Aside0.mk ((by rw [hg]; exact (below_size Zb) : w.heap.size ≤ gb120)); have GE120 := Aside0.mk ((by rw [hg]; exact (below_size Zb) : w.heap.size ≤ gb120)); replace HB := Aside0.mk (below_step Zb hb); clear hb hbox hg; have hcz9_0 := Zc BK120.out 0 (.int .u8 a0_0) rfl; have hcz9_1 := Zc BK120.out 1 (.int .u8 a0_1) rfl; have hcz9_2 := Zc BK120.out 2 (.int .u8 a0_2) rfl; have hcz9_3 := Zc BK120.out 3 (.int .i64 a0_3) rfl; have hcz9_4 := Zc BK120.out 4 (.int .u8 a0_4) rfl; have hcz9_5 := Zc BK120.out 5 (.int .u8 a0_5) rfl; have hcz9_6 := Zc BK120.out 6 (.int .u8 a0_6) rfl; have hcz9_7 := Zc BK120.out 7 (.string a0_7) rfl; have hfz9_0 := blk_frozen BK120.out 0; have hfz9_1 := blk_frozen BK120.out 1; have hfz9_2 := blk_frozen BK120.out 2; have hfz9_3 := blk_frozen BK120.out 3; have hfz9_4 := blk_frozen BK120.out 4; have hfz9_5 := blk_frozen BK120.out 5; have hfz9_6 := blk_frozen BK120.out 6; have hfz9_7 := blk_frozen BK120.out 7) | ((with_reducible refine gate_callee (f := 121) rfl ?_); refine goesL_ (some 8) rfl rfl Tryz.func121 (by kernel_rfl) rfl #[.int .u8 a0_1] rfl Zl ?_; (with_reducible refine (gambitref05_counts.calls k a0_1 t121 t122 _ A2.out).mono ?_); rintro e w' ⟨rfl, ⟨nd, rfl⟩⟩; refine ⟨_, rfl, ?_⟩))
    go_ret
    exact ⟨Ze, Zb1 GE120.out⟩
  ·rw [if_neg c4] at H
   have c4b0 : decide (a0_3 ≤ t122) = false := decide_eq_false c4
   clear c4
   obtain rfl := Option.some.inj H
   go_enter Tryz.func94, Tryz.ntmps94
   go_wp2_with (first | ((with_reducible refine gate_dst (N := 1) rfl ?_); refine box_event ?hg (N := 1) ?hd (cs := #[.int .u8 a0_0, .int .u8 a0_1, .int .u8 a0_2, .int .i64 a0_3, .int .u8 a0_4, .int .u8 a0_5, .int .u8 a0_6, .string a0_7]) (t := 48) ?hr ?_; (case hd => rfl); (case hg => rfl); (case hr => first | (go_simp; done) | (go_simp; rfl)); intro gb120 hg w10 hbox hb; have BK120 := Aside0.mk (hbox); have GW120 := Aside0.mk ((by rw [hg]; exact (below_size Zb) : w.heap.size ≤ gb120)); have GE120 := Aside0.mk ((by rw [hg]; exact (below_size Zb) : w.heap.size ≤ gb120)); replace HB := Aside0.mk (below_step Zb hb); clear hb hbox hg; have hcz11_0 := Zc BK120.out 0 (.int .u8 a0_0) rfl; have hcz11_1 := Zc BK120.out 1 (.int .u8 a0_1) rfl; have hcz11_2 := Zc BK120.out 2 (.int .u8 a0_2) rfl; have hcz11_3 := Zc BK120.out 3 (.int .i64 a0_3) rfl; have hcz11_4 := Zc BK120.out 4 (.int .u8 a0_4) rfl; have hcz11_5 := Zc BK120.out 5 (.int .u8 a0_5) rfl; have hcz11_6 := Zc BK120.out 6 (.int .u8 a0_6) rfl; have hcz11_7 := Zc BK120.out 7 (.string a0_7) rfl; have hfz11_0 := blk_frozen BK120.out 0; have hfz11_1 := blk_frozen BK120.out 1; have hfz11_2 := blk_frozen BK120.out 2; have hfz11_3 := blk_frozen BK120.out 3; have hfz11_4 := blk_frozen BK120.out 4; have hfz11_5 := blk_frozen BK120.out 5; have hfz11_6 := blk_frozen BK120.out 6; have hfz11_7 := blk_frozen BK120.out 7) | ((with_reducible refine gate_callee (f := 121) rfl ?_); refine goesL_ (some 8) rfl rfl Tryz.func121 (by kernel_rfl) rfl #[.int .u8 a0_1] rfl Zl ?_; (with_reducible refine (gambitref05_counts.calls k a0_1 t121 t122 _ A2.out).mono ?_); rintro e w' ⟨rfl, ⟨nd, rfl⟩⟩; refine ⟨_, rfl, ?_⟩))
   go_ret
   exact ⟨Ze, Zb1 GE120.out⟩
 ·rw [if_neg c3] at H
  have c3b0 : decide (t121 ≤ a0_3) = false := decide_eq_false c3
  clear c3
  obtain rfl := Option.some.inj H
  go_enter Tryz.func94, Tryz.ntmps94
  go_wp2_with (first | ((with_reducible refine gate_dst (N := 1) rfl ?_); refine box_event ?hg (N := 1) ?hd (cs := #[.int .u8 a0_0, .int .u8 a0_1, .int .u8 a0_2, .int .i64 a0_3, .int .u8 a0_4, .int .u8 a0_5, .int .u8 a0_6, .string a0_7]) (t := 48) ?hr ?_; (case hd => rfl); (case hg => rfl); (case hr => first | (go_simp; done) | (go_simp; rfl)); intro gb120 hg w12 hbox hb; have BK120 := Aside0.mk (hbox); have GW120 := Aside0.mk ((by rw [hg]; exact (below_size Zb) : w.heap.size ≤ gb120)); have GE120 := Aside0.mk ((by rw [hg]; exact (below_size Zb) : w.heap.size ≤ gb120)); replace HB := Aside0.mk (below_step Zb hb); clear hb hbox hg; have hcz13_0 := Zc BK120.out 0 (.int .u8 a0_0) rfl; have hcz13_1 := Zc BK120.out 1 (.int .u8 a0_1) rfl; have hcz13_2 := Zc BK120.out 2 (.int .u8 a0_2) rfl; have hcz13_3 := Zc BK120.out 3 (.int .i64 a0_3) rfl; have hcz13_4 := Zc BK120.out 4 (.int .u8 a0_4) rfl; have hcz13_5 := Zc BK120.out 5 (.int .u8 a0_5) rfl; have hcz13_6 := Zc BK120.out 6 (.int .u8 a0_6) rfl; have hcz13_7 := Zc BK120.out 7 (.string a0_7) rfl; have hfz13_0 := blk_frozen BK120.out 0; have hfz13_1 := blk_frozen BK120.out 1; have hfz13_2 := blk_frozen BK120.out 2; have hfz13_3 := blk_frozen BK120.out 3; have hfz13_4 := blk_frozen BK120.out 4; have hfz13_5 := blk_frozen BK120.out 5; have hfz13_6 := blk_frozen BK120.out 6; have hfz13_7 := blk_frozen BK120.out 7) | ((with_reducible refine gate_callee (f := 121) rfl ?_); refine goesL_ (some 8) rfl rfl Tryz.func121 (by kernel_rfl) rfl #[.int .u8 a0_1] rfl Zl ?_; (with_reducible refine (gambitref05_counts.calls k a0_1 t121 t122 _ A2.out).mono ?_); rintro e w' ⟨rfl, ⟨nd, rfl⟩⟩; refine ⟨_, rfl, ?_⟩))
  go_ret
  exact ⟨Ze, Zb1 GE120.out⟩
end Go.Proofs.YtfpcideomanbbaaGreatDoor.PA
end
section
namespace Go.Proofs.YtfpcideomanbbaaGreatDoor.PA
open Go.RowKit Go.Proofs.YtfpcideomanbbaaGreatDoorW.PrintWords Go.Proofs.YtfpcideomanbbaaGreatDoorW.PrintLast Go.Proofs.YtfpcideomanbbaaGreatDoorW.PrintMore
attribute [local go_sem] max2_int min2_int max_two min_two max_three min_three max_four min_four
set_option linter.unusedVariables false
set_option linter.unusedSimpArgs false
def gambitref05_within.f (a0 : Bool) (a1 : Int) (a2 : Int) : Option (Bool) := if a0 = true then (if a1 ≥ 1 then (some (decide (a1 ≤ a2))) else (some false)) else (some (a1 == 0))
set_option maxHeartbeats 8000000 in
set_option maxRecDepth 100000 in
theorem gambitref05_within.calls (a0 : Bool) (a1 : Int) (a2 : Int) (r : Bool) (w : World) (h : gambitref05_within.f a0 a1 a2 = some r) :
  Calls Tryz.prog 95 #[.bool a0, .int .i64 a1, .int .i64 a2] w fun e w' => e = .returned (.bool r) ∧ Drawn0 w w' := by
 have H : (if a0 = true then (if a1 ≥ 1 then (some (decide (a1 ≤ a2))) else (some false)) else (some (a1 == 0))) = some r := h
 clear h
 by_cases c4 : a0 = true
 ·subst c4
  have H1 : (if a1 ≥ 1 then (some (decide (a1 ≤ a2))) else (some false)) = some r := by rw [if_pos rfl] at H; exact H
  clear H
  have H := H1
  clear H1
  by_cases c5 : a1 ≥ 1
  ·rw [if_pos c5] at H
   have c5b0 : decide (1 ≤ a1) = true := decide_eq_true c5
   clear c5
   obtain rfl := Option.some.inj H
   go_enter Tryz.func95, Tryz.ntmps95
   go_wp2
   go_ret
   exact ⟨Zt, Zd⟩
  ·rw [if_neg c5] at H
   have c5b0 : decide (1 ≤ a1) = false := decide_eq_false c5
   clear c5
   obtain rfl := Option.some.inj H
   go_enter Tryz.func95, Tryz.ntmps95
   go_wp2
   go_ret
   exact ⟨Zt, Zd⟩
 ·replace c4 := Bool.eq_false_iff.mpr c4
  subst c4
  have H1 : (some (a1 == 0)) = some r := by rw [if_neg (show ¬ (false = true) by decide)] at H; exact H
  clear H
  have H := H1
  clear H1
  obtain rfl := Option.some.inj H
  go_enter Tryz.func95, Tryz.ntmps95
  go_wp2
  go_ret
  exact ⟨Zt, Zd⟩
end Go.Proofs.YtfpcideomanbbaaGreatDoor.PA
end
section
namespace Go.Proofs.YtfpcideomanbbaaGreatDoor.PA
open Go.RowKit Go.Proofs.YtfpcideomanbbaaGreatDoorW.PrintWords Go.Proofs.YtfpcideomanbbaaGreatDoorW.PrintLast Go.Proofs.YtfpcideomanbbaaGreatDoorW.PrintMore
attribute [local go_sem] max2_int min2_int max_two min_two max_three min_three max_four min_four
set_option linter.unusedVariables false
set_option linter.unusedSimpArgs false
mutual
def gambitref05_Name.j0 : Nat → ByteArray → Bool → Option (Bool)
 | 0, _, _ => none
 | k + 1, x0, x16 => if x16 = true then (some false) else (gambitref05_Name.l0 k x0 0)
def gambitref05_Name.l0 : Nat → ByteArray → Int → Option (Bool)
 | 0, _, _ => none
 | k + 1, x0, x3 => if x3 < (x0.size : Int) then (if 0 ≤ x3 then (if (bt x0 x3) < 97 then (if (bt x0 x3) = 45 then (gambitref05_Name.l0 k x0 (wrap64 (x3 + 1))) else (some false)) else (if (bt x0 x3) > 122 then (if (bt x0 x3) = 45 then (gambitref05_Name.l0 k x0 (wrap64 (x3 + 1))) else (some false)) else (gambitref05_Name.l0 k x0 (wrap64 (x3 + 1))))) else (none)) else (some true)
end
def gambitref05_Name.f (k : Nat) (a0 : ByteArray) : Option (Bool) := if (a0.size : Int) < 1 then (gambitref05_Name.j0 k a0 true) else (if (a0.size : Int) > 20 then (gambitref05_Name.j0 k a0 true) else (if 0 < (a0.size : Int) then (gambitref05_Name.j0 k a0 ((bt a0 0) == 45)) else (none)))
theorem gambitref05_Name.mono_l : ∀ k, (∀ y0 y1, LeO (gambitref05_Name.j0 k y0 y1) (gambitref05_Name.j0 (k + 1) y0 y1)) ∧ (∀ y0 y1, LeO (gambitref05_Name.l0 k y0 y1) (gambitref05_Name.l0 (k + 1) y0 y1))
 | 0 => ⟨fun _ _ r h => by simp [gambitref05_Name.j0] at h, fun _ _ r h => by simp [gambitref05_Name.l0] at h⟩
 | k + 1 => by
  obtain ⟨ih0, ih1⟩ := gambitref05_Name.mono_l k
  refine ⟨?_, ?_⟩
  ·intro y0 y1
   unfold gambitref05_Name.j0
   repeat' first
   | (with_reducible exact ih0 _ _)
   | (with_reducible exact ih1 _ _)
   | (with_reducible exact LeO.refl _)
   | (with_reducible exact LeO.none _)
   | (with_reducible refine LeO.ite ?_ ?_)
   | (with_reducible refine LeO.bind ?_ (fun _ => ?_))
   | exact ih0 _ _
   | exact ih1 _ _
   | exact LeO.none _
   | refine LeO.ite ?_ ?_
   | refine LeO.bind ?_ (fun _ => ?_)
  ·intro y0 y1
   unfold gambitref05_Name.l0
   repeat' first
   | (with_reducible exact ih0 _ _)
   | (with_reducible exact ih1 _ _)
   | (with_reducible exact LeO.refl _)
   | (with_reducible exact LeO.none _)
   | (with_reducible refine LeO.ite ?_ ?_)
   | (with_reducible refine LeO.bind ?_ (fun _ => ?_))
   | exact ih0 _ _
   | exact ih1 _ _
   | exact LeO.none _
   | refine LeO.ite ?_ ?_
   | refine LeO.bind ?_ (fun _ => ?_)
theorem gambitref05_Name.mono : ∀ a0 k, LeO (gambitref05_Name.f k a0) (gambitref05_Name.f (k + 1) a0) := by
 intro a0 k
 obtain ⟨ih0, ih1⟩ := gambitref05_Name.mono_l k
 unfold gambitref05_Name.f
 repeat' first
   | (with_reducible exact ih0 _ _)
   | (with_reducible exact ih1 _ _)
   | (with_reducible exact LeO.refl _)
   | (with_reducible exact LeO.none _)
   | (with_reducible refine LeO.ite ?_ ?_)
   | (with_reducible refine LeO.bind ?_ (fun _ => ?_))
   | exact ih0 _ _
   | exact ih1 _ _
   | exact LeO.none _
   | refine LeO.ite ?_ ?_
   | refine LeO.bind ?_ (fun _ => ?_)
set_option maxHeartbeats 8000000 in
set_option maxRecDepth 100000 in
theorem gambitref05_Name.calls (k : Nat) (a0 : ByteArray) (r : Bool) (w : World) (h : gambitref05_Name.f k a0 = some r) :
  Calls Tryz.prog 96 #[.string a0] w fun e w' => e = .returned (.bool r) ∧ Drawn0 w w' := by
 have H : (if (a0.size : Int) < 1 then (gambitref05_Name.j0 k a0 true) else (if (a0.size : Int) > 20 then (gambitref05_Name.j0 k a0 true) else (if 0 < (a0.size : Int) then (gambitref05_Name.j0 k a0 ((bt a0 0) == 45)) else (none)))) = some r := h
 clear h
 have HC2 := Aside0.mk H
 clear H
 go_enter Tryz.func96, Tryz.ntmps96
 go_upto_region 1 with (fail)
 go_cut [16] (fun v16 wc => ∃ (kq : Nat) (x16_1 : Bool), v16 = .bool x16_1 ∧ Aside0 (gambitref05_Name.j0 kq a0 x16_1 = some r) ∧ Aside0 (kq ≤ k) ∧ Drawn0 w wc)
 case first =>
  have H := HC2.out
  clear HC2
  by_cases c3 : (a0.size : Int) < 1
  ·rw [if_pos c3] at H
   have c3b0 : decide ((a0.size : Int) < 1) = true := decide_eq_true c3
   have c3b1 : decide (a0.size < 1) = true := decide_eq_true (by omega)
   clear c3
   (first | rw [c3b0] | (simp only [i64_w, i32_w]; rw [c3b0]) | skip)
   have H' := Aside0.mk H
   clear H
   go_wp2
   go_meet
   case rel => exact ⟨_, (true), Zs, H', ⟨by first | omega | exact Nat.le_refl _⟩, Zd⟩
  ·rw [if_neg c3] at H
   have c3b0 : decide ((a0.size : Int) < 1) = false := decide_eq_false c3
   have c3b1 : decide (a0.size < 1) = false := decide_eq_false (by omega)
   clear c3
   (first | rw [c3b0] | (simp only [i64_w, i32_w]; rw [c3b0]) | skip)
   by_cases c4 : (a0.size : Int) > 20
   ·rw [if_pos c4] at H
    have c4b0 : decide (20 < (a0.size : Int)) = true := decide_eq_true c4
    have c4b1 : decide (20 < a0.size) = true := decide_eq_true (by omega)
    clear c4
    have H' := Aside0.mk H
    clear H
    go_wp2
    go_meet
    case rel => exact ⟨_, (true), Zs, H', ⟨by first | omega | exact Nat.le_refl _⟩, Zd⟩
   ·rw [if_neg c4] at H
    have c4b0 : decide (20 < (a0.size : Int)) = false := decide_eq_false c4
    have c4b1 : decide (20 < a0.size) = false := decide_eq_false (by omega)
    clear c4
    by_cases c5 : 0 < (a0.size : Int)
    ·rw [if_pos c5] at H
     have c5b0 : decide (0 < (a0.size : Int)) = true := decide_eq_true c5
     have c5b1 : decide (0 < a0.size) = true := decide_eq_true (by omega)
     clear c5
     have H' := Aside0.mk H
     clear H
     have p6 : 0 ≤ (0 : Int) := (by omega)
     have q6 : 0 < a0.size := (by have : (0 : Int) < (a0.size : Int) := of_decide_eq_true Za; omega)
     have hx6 : ∀ h : 0 < a0.size, ((a0[0]'h).toNat : Int) = bt a0 0 := bt_at a0 0
     clear p6
     have qi6 : (0 < (a0.size : Int)) = True := eq_true (of_decide_eq_true Za)
     replace q6 := eq_true q6
     go_wp2
     go_meet
     case rel => exact ⟨_, (((bt a0 0) == 45)), Zs, H', ⟨by first | omega | exact Nat.le_refl _⟩, Zd⟩
    ·rw [if_neg c5] at H
     exact absurd H (by simp)
 case rest =>
  clear HC2
  try clear p2
  try clear c3
  try clear c3b0
  try clear c3b1
  try clear c4
  try clear c4b0
  try clear c4b1
  try clear c5
  try clear c5b0
  try clear c5b1
  try clear p6
  try clear q6
  try clear hx6
  try clear qi6
  try clear p6
  try clear q6
  obtain ⟨kq, x16_1, rfl, HA, HJ1, ⟨mc1, rfl⟩⟩ := hcut
  cases kq with
  | zero => exact absurd HA.out (by simp [gambitref05_Name.j0])
  | succ kj1 =>
   have H := HA.out
   clear HA
   simp only [gambitref05_Name.j0] at H
   by_cases c7 : x16_1 = true
   ·subst c7
    have H1 : (some false) = some r := by rw [if_pos rfl] at H; exact H
    clear H
    have H := H1
    clear H1
    obtain rfl := Option.some.inj H
    go_wp2
    go_ret
    exact ⟨Zt, Zd⟩
   ·replace c7 := Bool.eq_false_iff.mpr c7
    subst c7
    have H1 : (gambitref05_Name.l0 kj1 a0 0) = some r := by rw [if_neg (show ¬ (false = true) by decide)] at H; exact H
    clear H
    have H := H1
    clear H1
    have H' := Aside0.mk H
    clear H
    go_wp2
    go_loopg [3] kj1 (fun kq v3 w' => ∃ (x3_2 : Int), v3 = .int .i64 x3_2 ∧ Aside0 (gambitref05_Name.l0 kq a0 x3_2 = some r) ∧ Aside0 (kq ≤ kj1) ∧ Drawn0 w w')
    case atStart => exact ⟨(0), Zs, H', ⟨Nat.le_refl _⟩, Zd⟩
    case round =>
     clear H'
     try clear c1
     try clear p2
     try clear c3
     try clear c3b0
     try clear c3b1
     try clear c4
     try clear c4b0
     try clear c4b1
     try clear c5
     try clear c5b0
     try clear c5b1
     try clear p6
     try clear q6
     try clear hx6
     try clear qi6
     try clear c7
     try clear p2
     try clear p6
     try clear q6
     obtain ⟨x3_2, rfl, HA, HK2, ⟨m2, rfl⟩⟩ := hrel
     cases gk with
     | zero => exact absurd HA.out (by simp [gambitref05_Name.l0])
     | succ k2 =>
      have H := HA.out
      clear HA
      simp only [gambitref05_Name.l0] at H
      by_cases c8 : x3_2 < (a0.size : Int)
      ·rw [if_pos c8] at H
       have c8b0 : decide (x3_2 < (a0.size : Int)) = true := decide_eq_true c8
       clear c8
       by_cases c9 : 0 ≤ x3_2
       ·rw [if_pos c9] at H
        have c9b0 : decide (0 ≤ x3_2) = true := decide_eq_true c9
        clear c9
        by_cases c11 : (bt a0 x3_2) < 97
        ·rw [if_pos c11] at H
         have c11b0 : decide ((bt a0 x3_2) < 97) = true := decide_eq_true c11
         clear c11
         by_cases c13 : (bt a0 x3_2) = 45
         ·rw [if_pos c13] at H
          have c13b0 : ((bt a0 x3_2) == 45) = true := beq_iff_eq.mpr c13
          have c13b1 : ((bt a0 x3_2) != 45) = false := bne_eq_false_iff_eq.mpr c13
          clear c13
          have H' := Aside0.mk H
          clear H
          have p10 : 0 ≤ (x3_2 : Int) := of_decide_eq_true Za
          have q10 : x3_2 < (a0.size : Int) := of_decide_eq_true Za
          have hx10 := bt_at a0 x3_2
          replace p10 := eq_true p10
          replace q10 := eq_true q10
          have p12 : 0 ≤ (x3_2 : Int) := of_decide_eq_true Za
          have q12 : x3_2 < (a0.size : Int) := of_decide_eq_true Za
          have hx12 := bt_at a0 x3_2
          replace p12 := eq_true p12
          replace q12 := eq_true q12
          go_wp2
          go_roundg k2
          case measure => have := HJ1.out; have := HK2.out; omega
          case rel => exact ⟨(wrap64 (x3_2 + 1)), Zs, H', ⟨by have := HJ1.out; have := HK2.out; omega⟩, Zd⟩
         ·rw [if_neg c13] at H
          have c13b0 : ((bt a0 x3_2) == 45) = false := beq_eq_false_iff_ne.mpr c13
          have c13b1 : ((bt a0 x3_2) != 45) = true := bne_iff_ne.mpr c13
          obtain rfl := Option.some.inj H
          have p10 : 0 ≤ (x3_2 : Int) := of_decide_eq_true Za
          have q10 : x3_2 < (a0.size : Int) := of_decide_eq_true Za
          have hx10 := bt_at a0 x3_2
          replace p10 := eq_true p10
          replace q10 := eq_true q10
          have p12 : 0 ≤ (x3_2 : Int) := of_decide_eq_true Za
          have q12 : x3_2 < (a0.size : Int) := of_decide_eq_true Za
          have hx12 := bt_at a0 x3_2
          replace p12 := eq_true p12
          replace q12 := eq_true q12
          go_wp2
          go_ret
          exact ⟨Zt, Zd⟩
        ·rw [if_neg c11] at H
         have c11b0 : decide ((bt a0 x3_2) < 97) = false := decide_eq_false c11
         clear c11
         by_cases c15 : (bt a0 x3_2) > 122
         ·rw [if_pos c15] at H
          have c15b0 : decide (122 < (bt a0 x3_2)) = true := decide_eq_true c15
          clear c15
          by_cases c17 : (bt a0 x3_2) = 45
          ·rw [if_pos c17] at H
           have c17b0 : ((bt a0 x3_2) == 45) = true := beq_iff_eq.mpr c17
           have c17b1 : ((bt a0 x3_2) != 45) = false := bne_eq_false_iff_eq.mpr c17
           clear c17
           have H' := Aside0.mk H
           clear H
           have p10 : 0 ≤ (x3_2 : Int) := of_decide_eq_true Za
           have q10 : x3_2 < (a0.size : Int) := of_decide_eq_true Za
           have hx10 := bt_at a0 x3_2
           replace p10 := eq_true p10
           replace q10 := eq_true q10
           have p14 : 0 ≤ (x3_2 : Int) := of_decide_eq_true Za
           have q14 : x3_2 < (a0.size : Int) := of_decide_eq_true Za
           have hx14 := bt_at a0 x3_2
           replace p14 := eq_true p14
           replace q14 := eq_true q14
           have p16 : 0 ≤ (x3_2 : Int) := of_decide_eq_true Za
           have q16 : x3_2 < (a0.size : Int) := of_decide_eq_true Za
           have hx16 := bt_at a0 x3_2
           replace p16 := eq_true p16
           replace q16 := eq_true q16
           go_wp2
           go_roundg k2
           case measure => have := HJ1.out; have := HK2.out; omega
           case rel => exact ⟨(wrap64 (x3_2 + 1)), Zs, H', ⟨by have := HJ1.out; have := HK2.out; omega⟩, Zd⟩
          ·rw [if_neg c17] at H
           have c17b0 : ((bt a0 x3_2) == 45) = false := beq_eq_false_iff_ne.mpr c17
           have c17b1 : ((bt a0 x3_2) != 45) = true := bne_iff_ne.mpr c17
           obtain rfl := Option.some.inj H
           have p10 : 0 ≤ (x3_2 : Int) := of_decide_eq_true Za
           have q10 : x3_2 < (a0.size : Int) := of_decide_eq_true Za
           have hx10 := bt_at a0 x3_2
           replace p10 := eq_true p10
           replace q10 := eq_true q10
           have p14 : 0 ≤ (x3_2 : Int) := of_decide_eq_true Za
           have q14 : x3_2 < (a0.size : Int) := of_decide_eq_true Za
           have hx14 := bt_at a0 x3_2
           replace p14 := eq_true p14
           replace q14 := eq_true q14
           have p16 : 0 ≤ (x3_2 : Int) := of_decide_eq_true Za
           have q16 : x3_2 < (a0.size : Int) := of_decide_eq_true Za
           have hx16 := bt_at a0 x3_2
           replace p16 := eq_true p16
           replace q16 := eq_true q16
           go_wp2
           go_ret
           exact ⟨Zt, Zd⟩
         ·rw [if_neg c15] at H
          have c15b0 : decide (122 < (bt a0 x3_2)) = false := decide_eq_false c15
          clear c15
          have H' := Aside0.mk H
          clear H
          have p10 : 0 ≤ (x3_2 : Int) := of_decide_eq_true Za
          have q10 : x3_2 < (a0.size : Int) := of_decide_eq_true Za
          have hx10 := bt_at a0 x3_2
          replace p10 := eq_true p10
          replace q10 := eq_true q10
          have p14 : 0 ≤ (x3_2 : Int) := of_decide_eq_true Za
          have q14 : x3_2 < (a0.size : Int) := of_decide_eq_true Za
          have hx14 := bt_at a0 x3_2
          replace p14 := eq_true p14
          replace q14 := eq_true q14
          go_wp2
          go_roundg k2
          case measure => have := HJ1.out; have := HK2.out; omega
          case rel => exact ⟨(wrap64 (x3_2 + 1)), Zs, H', ⟨by have := HJ1.out; have := HK2.out; omega⟩, Zd⟩
       ·rw [if_neg c9] at H
        exact absurd H (by simp)
      ·rw [if_neg c8] at H
       have c8b0 : decide (x3_2 < (a0.size : Int)) = false := decide_eq_false c8
       clear c8
       obtain rfl := Option.some.inj H
       go_wp2
       go_ret
       exact ⟨Zt, Zd⟩
end Go.Proofs.YtfpcideomanbbaaGreatDoor.PA
end
