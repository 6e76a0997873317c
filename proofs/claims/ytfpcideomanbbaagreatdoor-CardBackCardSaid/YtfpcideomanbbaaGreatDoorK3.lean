/-
  Part 3 of a proof in 8 parts: lemmas, contracts and plain laws that its last part joins; no conditions of its own.
-/
import Derived.Test.YtfpcideomanbbaaGreatDoorRows
import Derived.Test.YtfpcideomanbbaaGreatDoorKZ
import Derived.Test.YtfpcideomanbbaaGreatDoorK1
import Derived.Test.YtfpcideomanbbaaGreatDoorK2
import Derived.LaidSub
import Derived.Lib.LaidU8
import Derived.Shelf.Vars
import Derived.Deep.DeepHandedRow
import Derived.Lib.LaidIn
import Derived.Deep.DeepWitnessRowRef
import Derived.Shelf.Strings.Builder1
import Derived.Shelf.Strings.Builder2
import Derived.Shelf.Strings.OnBuilder
import Derived.Shelf.Strings.Trim
import Derived.Shelf.Small.Utf8
import Derived.Shelf.Small.Strs
import Derived.Shelf.Strconv.Atoi
import Derived.Shelf.Strconv.Itoa0
import Derived.Shelf.Strconv.Itoa1
import Derived.Shelf.LaysM
import Derived.Shelf.Strconv.Itoa2
import Derived.Shelf.Strconv.Itoa3
import Derived.Shelf.Strconv.AtoiErrFast
import Derived.Shelf.Strconv.ParseIntEmpty
import Derived.Shelf.Strconv.AtoiFail
import Derived.Shelf.Strconv.Clone
import Derived.Shelf.Strconv.SyntaxError
import Derived.Shelf.LaysC
import Derived.Shelf.Strconv.ToError
import Derived.Shelf.Strconv.Lower
import Derived.Shelf.Strconv.ParseUint10
import Derived.Shelf.Strconv.ParseUint10Empty
import Derived.Shelf.Strconv.ParseUint10Any
import Derived.Shelf.Strconv.ParseInt10
import Derived.Shelf.Strconv.AtoiLong
import Derived.Shelf.Strconv.AtoiInnerAll
import Derived.Shelf.Strconv.RangeError
import Derived.Shelf.Strconv.ToErrorRange
import Derived.Shelf.Strconv.AtoiAll
import Derived.Shelf.Strconv.ErrVarAll
import Derived.Shelf.Strings.Search1
import Derived.Shelf.Strings.Search2
import Derived.Shelf.Strings.Search3
import Derived.Shelf.Strings.Cut
import Derived.Shelf.Strings.Count
import Derived.Shelf.Strings.Shaped
import Derived.Shelf.Strings.Prefix
import Derived.Shelf.Strings.Split
import Derived.Shelf.Strings.Fields
import Derived.Shelf.Strings.SplitShaped
import Derived.Shelf.Unicode.Latin
import Derived.Shelf.Strings.Runes
import Derived.Shelf.Strings.AsciiSet
import Derived.Shelf.Unicode.DecodeSlow
import Derived.Shelf.Unicode.Is16White
import Derived.Shelf.Unicode.IsSpaceAny
import Derived.Shelf.Unicode.Is16Any
import Derived.Shelf.Unicode.Is32Any
import Derived.Shelf.Unicode.ExclAny
import Derived.Shelf.Slices.Turned
import Derived.Lib.AppendIntMem
import Derived.Lib.SplitLaws
import Derived.Lib.IndexMore
import Derived.Shelf.Strings.SlTrimAscii
import Derived.WalkLawsBesides
import Derived.Lib.Hide
import Derived.RangeFuncNested
import Derived.RangeFuncBound
import Derived.RangeFuncCalls
import Derived.RangeFuncLeaves
import Derived.RangeFuncFrom
import Derived.Shelf.Abstract
import Derived.Shelf.RegionOpen
import Derived.OwnWalkIn
import Derived.TacticsInMore
import Derived.LoopNIn
import Derived.LoopIn
import Derived.Lib.SlicesS
set_option linter.unusedVariables false
set_option linter.unusedSimpArgs false
section
namespace Go.Proofs.YtfpcideomanbbaaGreatDoor
open Go.RowKit Go.ChangeShapes Go.WideShapes Go.ChangeAt
set_option maxRecDepth 100000
theorem rowPow {W : World} (h : laidMet Tryz.prog Rows.effectParsesRow.laid W) : Lib.TabIs Tryz.prog W "internal/strconv.uint64pow10" .u64 Lib.pow10Tab := by
  have h1 := laidMet.filter (fun x => x.1 == "internal/strconv.uint64pow10") h
  rw [show Rows.effectParsesRow.laid.filter (fun x => x.1 == "internal/strconv.uint64pow10") = [("internal/strconv.uint64pow10", Lib.tabData .u64 Lib.pow10Tab)] by kernel_rfl] at h1
  exact Lib.tabIs_of_head (rest := []) (n := 20) (t := (Tryz.prog.globals[6]?.map (·.type)).getD 0) (e := match Tryz.prog.underlying ((Tryz.prog.globals[6]?.map (·.type)).getD 0) with | some (.array _ e) => e | _ => 0) gPow (by kernel_rfl) (by kernel_rfl) (by kernel_rfl) (by kernel_rfl) (by kernel_rfl) h1
theorem rowSpace {W : World} (h : laidMet Tryz.prog Rows.effectParsesRow.laid W) : Lib.TabIs Tryz.prog W "strings.asciiSpace" .u8 Lib.asciiSpaceTab := by
  have h1 := laidMet.filter (fun x => x.1 == "strings.asciiSpace") h
  rw [show Rows.effectParsesRow.laid.filter (fun x => x.1 == "strings.asciiSpace") = [("strings.asciiSpace", Lib.tabData .u8 Lib.asciiSpaceTab)] by kernel_rfl] at h1
  exact Lib.tabIs_of_head (rest := []) (n := 256) (t := (Tryz.prog.globals[1]?.map (·.type)).getD 0) (e := match Tryz.prog.underlying ((Tryz.prog.globals[1]?.map (·.type)).getD 0) with | some (.array _ e) => e | _ => 0) gSpace (by kernel_rfl) (by kernel_rfl) (by kernel_rfl) (by kernel_rfl) (by kernel_rfl) h1
theorem rowMaxLen {W : World} (h : W.ShapedOpen Tryz.prog) : ∃ m, W.cell? ⟨5, 0, none⟩ = some (.int .i64 m) := by
  exact cell_of_shapedOpen_int (t := 3) (zero := #[.int .i64 0]) h (by decide +kernel) (by kernel_rfl) rfl (by kernel_rfl) (by kernel_rfl) (by kernel_rfl)
theorem rowErr {W : World} {n s : String} {d : DataW Unit} {g : Nat} {t : TypeId} {ms : Array (String × TypeId)} (h : Lib.VarReads Tryz.prog W n (.iface s d)) (hg : Tryz.prog.globalNamed n = some g)
    (hty : (Tryz.prog.globals[g]?).map (·.type) = some t) (ht : Tryz.prog.underlying t = some (.interface ms)) : ∃ ev, W.cell? ⟨g, 0, none⟩ = some ev ∧ (ev = .nilIface ∨ ∃ te pe, ev = .iface te pe) := by
  obtain ⟨g', t', cs, fuel, p, h1, h2, h3, h4⟩ := h
  obtain rfl := Option.some.inj (hg.symm.trans h1)
  obtain rfl := Option.some.inj (hty.symm.trans h2)
  have hc := World.var?_cell hg h3 0
  have key : ∃ ev, cs.toList = [ev] ∧ (ev = .nilIface ∨ ∃ te pe, ev = .iface te pe) := by
    cases fuel with
    | zero => simp [DataW.trod] at h4
    | succ fuel =>
      unfold DataW.trod at h4
      rw [ht] at h4
      split at h4 <;> first
        | (rename_i hcs; exact ⟨_, hcs, .inl rfl⟩)
        | (rename_i hcs; exact ⟨_, hcs, .inr ⟨_, _, rfl⟩⟩)
        | (simp_all; done)
        | exact ⟨_, by assumption, .inl rfl⟩
        | exact ⟨_, by assumption, .inr ⟨_, _, rfl⟩⟩
        | skip
  obtain ⟨ev, h5, h6⟩ := key
  refine ⟨ev, ?_, h6⟩
  rw [hc, ← Array.getElem?_toList, h5]; rfl
theorem rowNames {W : World} (h : Lib.VarReads Tryz.prog W "gambit/trait.names" Rows.laid_gambit_trait_names) (hg : Tryz.prog.globalNamed "gambit/trait.names" = some 0) {t e : TypeId}
    (hty : (Tryz.prog.globals[0]?).map (·.type) = some t) (ht : Tryz.prog.underlying t = some (.array 9 e)) (he : Tryz.prog.underlying e = some .string) (hce : Tryz.prog.cellsOf e = 1) (hct : Tryz.prog.cellsOf t = 9) :
    ∀ i, i < 9 → W.cell? ⟨0, i, none⟩ = some (.string ⟨(traitNames.getD i []).toArray⟩) := by
  obtain ⟨g', t', cs, fuel, p, h1, h2, h3, h4⟩ := h
  obtain rfl := Option.some.inj (hg.symm.trans h1)
  obtain rfl := Option.some.inj (hty.symm.trans h2)
  intro i hi
  have hc := World.var?_cell hg h3 i
  rw [hc, ← Array.getElem?_toList]
  cases fuel with
  | zero => simp [DataW.trod] at h4
  | succ fuel =>
    simp only [DataW.trod, ht, hce, hct, Nat.mul_one] at h4
    split at h4
    · obtain ⟨xs, hm, hx⟩ := Option.map_eq_some_iff.1 h4
      have hxs : xs.map (·.1) = traitNames.map fun z => (DataW.lit (.string z) : DataW Unit) := by
        have := congrArg Prod.fst hx
        simpa [Rows.laid_gambit_trait_names, traitNames] using this
      obtain ⟨b, hb, hf⟩ := Lib.mapM_at hm i i (by simp [hi])
      obtain ⟨z, hc, rfl, _⟩ := DataW.trod_string he hf
      have e1 : cs.toList[i]? = some (.string z) := by
        have := congrArg (·[0]?) hc
        simpa [List.getElem?_take, List.getElem?_drop] using this
      have e2 : (xs.map (·.1))[i]? = some (DataW.lit (.string z.data.toList) : DataW Unit) := by simp [hb]
      rw [hxs] at e2
      have e3 : traitNames[i]? = some z.data.toList := by simpa using e2
      rw [e1, List.getD_eq_getElem?_getD, e3]
      simp
    · cases h4
theorem GP_of_row {W : World} (h : laidMet Tryz.prog Rows.effectParsesRow.laid W) (hs : W.ShapedOpen Tryz.prog) : GP W where
  maxLen := rowMaxLen hs
  errSyntax := rowErr (t := (Tryz.prog.globals[3]?.map (·.type)).getD 0) (ms := match Tryz.prog.underlying ((Tryz.prog.globals[3]?.map (·.type)).getD 0) with | some (.interface ms) => ms | _ => #[]) (Lib.laidMet.reads h (n := "strconv.ErrSyntax") (d := Rows.laid_strconv_ErrSyntax) (by simp [Rows.effectParsesRow])) (by kernel_rfl) (by kernel_rfl) (by kernel_rfl)
  errRange := rowErr (t := (Tryz.prog.globals[4]?.map (·.type)).getD 0) (ms := match Tryz.prog.underlying ((Tryz.prog.globals[4]?.map (·.type)).getD 0) with | some (.interface ms) => ms | _ => #[]) (Lib.laidMet.reads h (n := "strconv.ErrRange") (d := Rows.laid_strconv_ErrRange) (by simp [Rows.effectParsesRow])) (by kernel_rfl) (by kernel_rfl) (by kernel_rfl)
  pow := rowPow h
  space := rowSpace h
  names := rowNames (t := (Tryz.prog.globals[0]?.map (·.type)).getD 0) (e := 9) (Lib.laidMet.reads h (by simp [Rows.effectParsesRow])) (by kernel_rfl) (by kernel_rfl) (by kernel_rfl) (by kernel_rfl) (by kernel_rfl) (by kernel_rfl)
end Go.Proofs.YtfpcideomanbbaaGreatDoor
end
section
namespace Go.Proofs.YtfpcideomanbbaaGreatDoor
open Go.RowKit Go.ChangeShapes Go.WideShapes Go.ChangeAt
def litCells : DataW Unit → Array Value
  | .agg ds => (ds.map fun d => match d with | .lit (.int k z) => Value.int k z | _ => undef).toArray
  | _ => #[]
noncomputable def laidWorld (os : Os) : World :=
  let N := (World.settled Tryz.prog os).heap.size
  let w0 := World.holding Tryz.prog os ⟨#[.cells (Lib.whiteT.map fun (z : Nat) => Value.int .u16 (z : Int)).toArray 198, .cells #[.slice (some ⟨N, 0, none⟩) 7 7, .slice none 0 0, .int .i64 2] 196,
    .cells #[.string ⟨#[105, 110, 118, 97, 108, 105, 100, 32, 115, 121, 110, 116, 97, 120]⟩] 206, .cells #[.string ⟨#[118, 97, 108, 117, 101, 32, 111, 117, 116, 32, 111, 102, 32, 114, 97, 110, 103, 101]⟩] 206], #[], []⟩
  let put (h : Array Obj) (g : Nat) (cs : Array Value) : Array Obj := h.modify g fun
    | .cells _ t frozen => .cells cs t frozen
    | o => o
  let h0 := put w0.heap 0 (traitNames.map fun z => Value.string ⟨z.toArray⟩).toArray
  let h1 := put h0 1 (Lib.asciiSpaceTab.map fun z => Value.int .u8 z).toArray
  let h2 := put h1 2 #[.pointer (some ⟨N + 1, 0, none⟩)]
  let h3 := put h2 3 #[.iface 204 (.pointer (some ⟨N + 2, 0, none⟩))]
  let h4 := put h3 4 #[.iface 204 (.pointer (some ⟨N + 3, 0, none⟩))]
  let h6 := put h4 6 (Lib.pow10Tab.map fun z => Value.int .u64 z).toArray
  let h7 := put h6 7 (Lib.firstTab.map fun z => Value.int .u8 z).toArray
  let h8 := put h7 8 ((List.range 16).flatMap fun i => [Value.int .u8 (Lib.accLo i), Value.int .u8 (Lib.accHi i)]).toArray
  let h9 := put h8 9 (litCells Rows.laid_math_bits_deBruijn32tab)
  let h10 := put h9 10 (litCells Rows.laid_math_bits_deBruijn64tab)
  { w0 with heap := h10 }
set_option maxRecDepth 100000 in
theorem laid_met (os : Os) (args : Array Value) : laidMet Tryz.prog Rows.effectParsesRow.laid ((laidWorld os).forCall (fun _ _ => 0) ⟨#[], args, []⟩).memory :=
  (LaidIn.of_run (l := Rows.effectParsesRow.laid) [0, 1, 2, 3, 4, 6, 7, 8, 9, 10, (World.settled Tryz.prog default).heap.size, (World.settled Tryz.prog default).heap.size + 1, (World.settled Tryz.prog default).heap.size + 2, (World.settled Tryz.prog default).heap.size + 3] 10 (by kernel_rfl) (by kernel_rfl) (by kernel_rfl) (by kernel_rfl)).met
end Go.Proofs.YtfpcideomanbbaaGreatDoor
end
section
namespace Go.Proofs
open Go.Shelf
def Tryz.lays156_ren : Go.Shelf.Ren := ⟨fun | 156 => 35 | 165 => 80 | 166 => 81 | 169 => 82 | 240 => 117 | 241 => 118 | 276 => 146 | 277 => 147 | n => n, fun | 31 => 63 | 9 => 9 | 3 => 3 | 4 => 4 | 0 => 0 | 20 => 20 | 72 => 111 | 76 => 82 | 70 => 108 | 37 => 109 | 75 => 81 | 127 => 137 | 164 => 167 | 5 => 5 | 80 => 113 | n => n, fun | n => n⟩
theorem Tryz.lays156 : Go.Proofs.Lays.n156 Tryz.prog Tryz.lays156_ren := {
  mixed := by kernel_rfl
  f156 := Tryz.func35.trans (congrArg some (by kernel_rfl))
  f165 := Tryz.func80.trans (congrArg some (by kernel_rfl))
  f166 := Tryz.func81.trans (congrArg some (by kernel_rfl))
  f169 := Tryz.func82.trans (congrArg some (by kernel_rfl))
  f240 := Tryz.func117.trans (congrArg some (by kernel_rfl))
  f241 := Tryz.func118.trans (congrArg some (by kernel_rfl))
  f276 := Tryz.func146.trans (congrArg some (by kernel_rfl))
  f277 := Tryz.func147.trans (congrArg some (by kernel_rfl))
  t0 := Tryz.underlying0
  a0 := Tryz.isAgg0
  z0 := Tryz.sizeOf0
  v0 := Tryz.zeroValue0
  t3 := Tryz.underlying3
  a3 := Tryz.isAgg3
  z3 := Tryz.sizeOf3
  v3 := Tryz.zeroValue3
  t4 := Tryz.underlying4
  a4 := Tryz.isAgg4
  z4 := Tryz.sizeOf4
  v4 := Tryz.zeroValue4
  t9 := Tryz.underlying9
  a9 := Tryz.isAgg9
  z9 := Tryz.sizeOf9
  v9 := Tryz.zeroValue9
  t20 := Tryz.underlying20
  a20 := Tryz.isAgg20
  z20 := Tryz.sizeOf20
  v20 := Tryz.zeroValue20
  t31 := Tryz.underlying63
  a31 := Tryz.isAgg63
  z31 := Tryz.sizeOf63
  v31 := Tryz.zeroValue63
  t37 := Tryz.underlying109
  a37 := Tryz.isAgg109
  z37 := Tryz.sizeOf109
  v37 := Tryz.zeroValue109
  t70 := Tryz.underlying108
  a70 := Tryz.isAgg108
  z70 := Tryz.sizeOf108
  v70 := Tryz.zeroValue108
  t72 := Tryz.underlying111
  a72 := Tryz.isAgg111
  z72 := Tryz.sizeOf111
  v72 := Tryz.zeroValue111
  t75 := Tryz.underlying81
  a75 := Tryz.isAgg81
  z75 := Tryz.sizeOf81
  v75 := Tryz.zeroValue81
  t76 := Tryz.underlying82
  a76 := Tryz.isAgg82
  z76 := Tryz.sizeOf82
  v76 := Tryz.zeroValue82
  t127 := Tryz.underlying137
  a127 := Tryz.isAgg137
  z127 := Tryz.sizeOf137
  v127 := Tryz.zeroValue137
  t164 := Tryz.underlying167
  a164 := Tryz.isAgg167
  z164 := Tryz.sizeOf167
  v164 := Tryz.zeroValue167 }
theorem Tryz.Builder_Extra_156 : Builder.Extra Tryz.prog Tryz.lays156_ren := {
  sizeBuilder := by kernel_rfl
  liesBuilder := by kernel_rfl
  t5 := Tryz.underlying5
  a5 := Tryz.isAgg5
  z5 := Tryz.sizeOf5
  v5 := Tryz.zeroValue5
  infoByte := by kernel_rfl
  cellsByte := by kernel_rfl
  sizeByte := by kernel_rfl
  neB5 := by decide }
open Go.RowKit in
theorem Tryz.strings_Join_none (a : Option Addr) (c : Nat) (sep : ByteArray) (w : World) :
    Calls Tryz.prog 35 #[.slice a 0 c, .string sep] w fun e w' => e = .returned (.string ⟨#[]⟩) ∧ w' = w := Any.strings_Join_none Tryz.lays156 Tryz.Builder_Extra_156 a c sep w
open Go.RowKit in
theorem Tryz.strings_Join (bk o c : Nat) (xs : List ByteArray) (sep : ByteArray) (w : World) (hcells : ∀ (j : Nat) x, xs[j]? = some x → w.cell? ⟨bk, o + j, none⟩ = some (.string x)) (hbk : bk < w.heap.size) (hN : xs.length ≤ 140737488355328) (hcap : xs.length ≤ c) (hlen : (Lib.join (xs.map (·.data.toList)) sep.data.toList).length ≤ 140737488355328) :
    Calls Tryz.prog 35 #[.slice (some ⟨bk, o, none⟩) xs.length c, .string sep] w fun e w' => e = .returned (.string ⟨(Lib.join (xs.map (·.data.toList)) sep.data.toList).toArray⟩) ∧ Below w.heap.size w w' := Any.strings_Join Tryz.lays156 Tryz.Builder_Extra_156 bk o c xs sep w hcells hbk hN hcap hlen
def Tryz.lays160_ren : Go.Shelf.Ren := ⟨fun | 160 => 109 | 232 => 134 | 231 => 133 | 227 => 135 | 234 => 137 | 233 => 136 | 236 => 139 | 235 => 138 | 228 => 155 | 271 => 157 | 151 => 156 | 197 => 149 | 120 => 173 | 152 => 172 | 260 => 167 | 137 => 178 | 119 => 179 | 224 => 160 | 225 => 159 | 217 => 158 | 266 => 174 | n => n, fun | 9 => 9 | 4 => 4 | 3 => 3 | 5 => 5 | 117 => 157 | 116 => 156 | 0 => 0 | 124 => 160 | 21 => 21 | 105 => 170 | 46 => 134 | 119 => 144 | 139 => 213 | 138 => 212 | n => n, fun | 3 => 7 | 4 => 8 | n => n⟩
theorem Tryz.lays160 : Go.Proofs.Lays.n160 Tryz.prog Tryz.lays160_ren := {
  mixed := by kernel_rfl
  f119 := Tryz.func179.trans (congrArg some (by kernel_rfl))
  f120 := Tryz.func173.trans (congrArg some (by kernel_rfl))
  f137 := Tryz.func178.trans (congrArg some (by kernel_rfl))
  f151 := Tryz.func156.trans (congrArg some (by kernel_rfl))
  f152 := Tryz.func172.trans (congrArg some (by kernel_rfl))
  f160 := Tryz.func109.trans (congrArg some (by kernel_rfl))
  f197 := Tryz.func149.trans (congrArg some (by kernel_rfl))
  f217 := Tryz.func158.trans (congrArg some (by kernel_rfl))
  f224 := Tryz.func160.trans (congrArg some (by kernel_rfl))
  f225 := Tryz.func159.trans (congrArg some (by kernel_rfl))
  f227 := Tryz.func135.trans (congrArg some (by kernel_rfl))
  f228 := Tryz.func155.trans (congrArg some (by kernel_rfl))
  f231 := Tryz.func133.trans (congrArg some (by kernel_rfl))
  f232 := Tryz.func134.trans (congrArg some (by kernel_rfl))
  f233 := Tryz.func136.trans (congrArg some (by kernel_rfl))
  f234 := Tryz.func137.trans (congrArg some (by kernel_rfl))
  f235 := Tryz.func138.trans (congrArg some (by kernel_rfl))
  f236 := Tryz.func139.trans (congrArg some (by kernel_rfl))
  f260 := Tryz.func167.trans (congrArg some (by kernel_rfl))
  f266 := Tryz.func174.trans (congrArg some (by kernel_rfl))
  f271 := Tryz.func157.trans (congrArg some (by kernel_rfl))
  t0 := Tryz.underlying0
  a0 := Tryz.isAgg0
  z0 := Tryz.sizeOf0
  v0 := Tryz.zeroValue0
  t3 := Tryz.underlying3
  a3 := Tryz.isAgg3
  z3 := Tryz.sizeOf3
  v3 := Tryz.zeroValue3
  t4 := Tryz.underlying4
  a4 := Tryz.isAgg4
  z4 := Tryz.sizeOf4
  v4 := Tryz.zeroValue4
  t5 := Tryz.underlying5
  a5 := Tryz.isAgg5
  z5 := Tryz.sizeOf5
  v5 := Tryz.zeroValue5
  t9 := Tryz.underlying9
  a9 := Tryz.isAgg9
  z9 := Tryz.sizeOf9
  v9 := Tryz.zeroValue9
  t21 := Tryz.underlying21
  a21 := Tryz.isAgg21
  z21 := Tryz.sizeOf21
  v21 := Tryz.zeroValue21
  t46 := Tryz.underlying134
  a46 := Tryz.isAgg134
  z46 := Tryz.sizeOf134
  v46 := Tryz.zeroValue134
  t105 := Tryz.underlying170
  a105 := Tryz.isAgg170
  z105 := Tryz.sizeOf170
  v105 := Tryz.zeroValue170
  t116 := Tryz.underlying156
  a116 := Tryz.isAgg156
  z116 := Tryz.sizeOf156
  t117 := Tryz.underlying157
  a117 := Tryz.isAgg157
  z117 := Tryz.sizeOf157
  v117 := Tryz.zeroValue157
  t119 := Tryz.underlying144
  a119 := Tryz.isAgg144
  z119 := Tryz.sizeOf144
  t124 := Tryz.underlying160
  a124 := Tryz.isAgg160
  z124 := Tryz.sizeOf160
  v124 := Tryz.zeroValue160
  t138 := Tryz.underlying212
  a138 := Tryz.isAgg212
  z138 := Tryz.sizeOf212
  v138 := Tryz.zeroValue212
  t139 := Tryz.underlying213
  a139 := Tryz.isAgg213
  z139 := Tryz.sizeOf213
  v139 := Tryz.zeroValue213
  g3 := by kernel_rfl
  g4 := by kernel_rfl }
def Tryz.laysM171_ren : Go.Shelf.Ren := ⟨fun | 171 => 32 | 243 => 77 | 246 => 115 | 283 => 142 | 284 => 143 | 285 => 144 | 286 => 145 | 129 => 163 | 317 => 162 | 318 => 164 | 319 => 165 | 320 => 166 | 337 => 176 | 338 => 177 | n => n, fun | 3 => 3 | 9 => 9 | 2 => 2 | 4 => 4 | 171 => 161 | 0 => 0 | 53 => 162 | 37 => 109 | 5 => 5 | 173 => 165 | 212 => 189 | 51 => 176 | 20 => 20 | 213 => 190 | 46 => 134 | 232 => 216 | 233 => 217 | n => n, fun | 17 => 6 | 18 => 9 | 19 => 10 | n => n⟩
theorem Tryz.laysM171 : Go.Proofs.LaysM.n171 Tryz.prog Tryz.laysM171_ren := {
  mixed := by kernel_rfl
  f129 := Tryz.func163.trans (congrArg some (by kernel_rfl))
  f171 := Tryz.func32.trans (congrArg some (by kernel_rfl))
  f243 := Tryz.func77.trans (congrArg some (by kernel_rfl))
  f246 := Tryz.func115.trans (congrArg some (by kernel_rfl))
  f283 := Tryz.func142.trans (congrArg some (by kernel_rfl))
  f284 := Tryz.func143.trans (congrArg some (by kernel_rfl))
  f285 := Tryz.func144.trans (congrArg some (by kernel_rfl))
  f286 := Tryz.func145.trans (congrArg some (by kernel_rfl))
  f317 := Tryz.func162.trans (congrArg some (by kernel_rfl))
  f318 := Tryz.func164.trans (congrArg some (by kernel_rfl))
  f319 := Tryz.func165.trans (congrArg some (by kernel_rfl))
  f320 := Tryz.func166.trans (congrArg some (by kernel_rfl))
  f337 := Tryz.func176.trans (congrArg some (by kernel_rfl))
  f338 := Tryz.func177.trans (congrArg some (by kernel_rfl))
  t0 := Tryz.underlying0
  a0 := Tryz.isAgg0
  z0 := Tryz.sizeOf0
  v0 := Tryz.zeroValue0
  t2 := Tryz.underlying2
  a2 := Tryz.isAgg2
  z2 := Tryz.sizeOf2
  v2 := Tryz.zeroValue2
  t3 := Tryz.underlying3
  a3 := Tryz.isAgg3
  z3 := Tryz.sizeOf3
  v3 := Tryz.zeroValue3
  t4 := Tryz.underlying4
  a4 := Tryz.isAgg4
  z4 := Tryz.sizeOf4
  v4 := Tryz.zeroValue4
  t5 := Tryz.underlying5
  a5 := Tryz.isAgg5
  z5 := Tryz.sizeOf5
  v5 := Tryz.zeroValue5
  t9 := Tryz.underlying9
  a9 := Tryz.isAgg9
  z9 := Tryz.sizeOf9
  v9 := Tryz.zeroValue9
  t20 := Tryz.underlying20
  a20 := Tryz.isAgg20
  z20 := Tryz.sizeOf20
  v20 := Tryz.zeroValue20
  t37 := Tryz.underlying109
  a37 := Tryz.isAgg109
  z37 := Tryz.sizeOf109
  v37 := Tryz.zeroValue109
  t46 := Tryz.underlying134
  a46 := Tryz.isAgg134
  z46 := Tryz.sizeOf134
  v46 := Tryz.zeroValue134
  t51 := Tryz.underlying176
  a51 := Tryz.isAgg176
  z51 := Tryz.sizeOf176
  v51 := Tryz.zeroValue176
  t53 := Tryz.underlying162
  a53 := Tryz.isAgg162
  z53 := Tryz.sizeOf162
  v53 := Tryz.zeroValue162
  t171 := Tryz.underlying161
  a171 := Tryz.isAgg161
  z171 := Tryz.sizeOf161
  v171 := Tryz.zeroValue161
  t173 := Tryz.underlying165
  a173 := Tryz.isAgg165
  z173 := Tryz.sizeOf165
  v173 := Tryz.zeroValue165
  t212 := Tryz.underlying189
  a212 := Tryz.isAgg189
  z212 := Tryz.sizeOf189
  v212 := Tryz.zeroValue189
  t213 := Tryz.underlying190
  a213 := Tryz.isAgg190
  z213 := Tryz.sizeOf190
  t232 := Tryz.underlying216
  a232 := Tryz.isAgg216
  z232 := Tryz.sizeOf216
  v232 := Tryz.zeroValue216
  t233 := Tryz.underlying217
  a233 := Tryz.isAgg217
  z233 := Tryz.sizeOf217
  v233 := Tryz.zeroValue217
  g17 := by kernel_rfl
  g18 := by kernel_rfl
  g19 := by kernel_rfl
  i0 := by kernel_rfl
  i2 := by kernel_rfl
  i3 := by kernel_rfl
  i4 := by kernel_rfl
  i5 := by kernel_rfl
  i9 := by kernel_rfl
  i20 := by kernel_rfl
  i37 := by kernel_rfl
  i46 := by kernel_rfl
  i51 := by kernel_rfl
  i53 := by kernel_rfl
  i171 := by kernel_rfl
  i173 := by kernel_rfl
  i212 := by kernel_rfl
  i232 := by kernel_rfl
  i233 := by kernel_rfl
  m17 := by kernel_rfl
  m18 := by kernel_rfl
  m19 := by kernel_rfl }
open Go.RowKit Go.Sort Go.Lib in
theorem Tryz.strconv_Itoa (n : Int) (h0 : -9223372036854775808 ≤ n) (h1 : n ≤ 9223372036854775807) (w : World) (htab : Lib.TabIs Tryz.prog w "internal/strconv.uint64pow10" .u64 Lib.pow10Tab) :
    Calls Tryz.prog 32 #[.int .i64 n] w fun e w' => e = .returned (.string ⟨(Lib.itoa n).toArray⟩) ∧ ∃ k os, w' = grow (w.drewN k) os := Any.strconv_Itoa Tryz.laysM171 n h0 h1 w htab
def Tryz.laysC172_ren : Go.Shelf.Ren := ⟨fun | 172 => 55 | 244 => 99 | 245 => 100 | 247 => 127 | 279 => 128 | 280 => 129 | 281 => 130 | 282 => 131 | 287 => 152 | 316 => 153 | 171 => 32 | 205 => 154 | 321 => 170 | 322 => 171 | 243 => 77 | 246 => 115 | 283 => 142 | 284 => 143 | 285 => 144 | 286 => 145 | 129 => 163 | 317 => 162 | 318 => 164 | 319 => 165 | 320 => 166 | 337 => 176 | 338 => 177 | n => n, fun | 9 => 9 | 3 => 3 | 75 => 81 | 76 => 82 | 4 => 4 | 5 => 5 | 167 => 147 | 37 => 109 | 0 => 0 | 85 => 148 | 2 => 2 | 168 => 150 | 53 => 162 | 175 => 179 | 46 => 134 | 210 => 183 | 127 => 137 | 145 => 206 | 143 => 204 | 21 => 21 | 171 => 161 | 173 => 165 | 212 => 189 | 51 => 176 | 20 => 20 | 213 => 190 | 232 => 216 | 233 => 217 | 80 => 113 | n => n, fun | 15 => 3 | 16 => 4 | 17 => 6 | 18 => 9 | 19 => 10 | n => n⟩
theorem Tryz.laysC172 : Go.Proofs.LaysC.n172 Tryz.prog Tryz.laysC172_ren := {
  mixed := by kernel_rfl
  f129 := Tryz.func163.trans (congrArg some (by kernel_rfl))
  f171 := Tryz.func32.trans (congrArg some (by kernel_rfl))
  f172 := Tryz.func55.trans (congrArg some (by kernel_rfl))
  f205 := Tryz.func154.trans (congrArg some (by kernel_rfl))
  f243 := Tryz.func77.trans (congrArg some (by kernel_rfl))
  f244 := Tryz.func99.trans (congrArg some (by kernel_rfl))
  f245 := Tryz.func100.trans (congrArg some (by kernel_rfl))
  f246 := Tryz.func115.trans (congrArg some (by kernel_rfl))
  f247 := Tryz.func127.trans (congrArg some (by kernel_rfl))
  f279 := Tryz.func128.trans (congrArg some (by kernel_rfl))
  f280 := Tryz.func129.trans (congrArg some (by kernel_rfl))
  f281 := Tryz.func130.trans (congrArg some (by kernel_rfl))
  f282 := Tryz.func131.trans (congrArg some (by kernel_rfl))
  f283 := Tryz.func142.trans (congrArg some (by kernel_rfl))
  f284 := Tryz.func143.trans (congrArg some (by kernel_rfl))
  f285 := Tryz.func144.trans (congrArg some (by kernel_rfl))
  f286 := Tryz.func145.trans (congrArg some (by kernel_rfl))
  f287 := Tryz.func152.trans (congrArg some (by kernel_rfl))
  f316 := Tryz.func153.trans (congrArg some (by kernel_rfl))
  f317 := Tryz.func162.trans (congrArg some (by kernel_rfl))
  f318 := Tryz.func164.trans (congrArg some (by kernel_rfl))
  f319 := Tryz.func165.trans (congrArg some (by kernel_rfl))
  f320 := Tryz.func166.trans (congrArg some (by kernel_rfl))
  f321 := Tryz.func170.trans (congrArg some (by kernel_rfl))
  f322 := Tryz.func171.trans (congrArg some (by kernel_rfl))
  f337 := Tryz.func176.trans (congrArg some (by kernel_rfl))
  f338 := Tryz.func177.trans (congrArg some (by kernel_rfl))
  t0 := Tryz.underlying0
  a0 := Tryz.isAgg0
  z0 := Tryz.sizeOf0
  v0 := Tryz.zeroValue0
  t2 := Tryz.underlying2
  a2 := Tryz.isAgg2
  z2 := Tryz.sizeOf2
  v2 := Tryz.zeroValue2
  t3 := Tryz.underlying3
  a3 := Tryz.isAgg3
  z3 := Tryz.sizeOf3
  v3 := Tryz.zeroValue3
  t4 := Tryz.underlying4
  a4 := Tryz.isAgg4
  z4 := Tryz.sizeOf4
  v4 := Tryz.zeroValue4
  t5 := Tryz.underlying5
  a5 := Tryz.isAgg5
  z5 := Tryz.sizeOf5
  v5 := Tryz.zeroValue5
  t9 := Tryz.underlying9
  a9 := Tryz.isAgg9
  z9 := Tryz.sizeOf9
  v9 := Tryz.zeroValue9
  t20 := Tryz.underlying20
  a20 := Tryz.isAgg20
  z20 := Tryz.sizeOf20
  v20 := Tryz.zeroValue20
  t21 := Tryz.underlying21
  a21 := Tryz.isAgg21
  z21 := Tryz.sizeOf21
  v21 := Tryz.zeroValue21
  t37 := Tryz.underlying109
  a37 := Tryz.isAgg109
  z37 := Tryz.sizeOf109
  v37 := Tryz.zeroValue109
  t46 := Tryz.underlying134
  a46 := Tryz.isAgg134
  z46 := Tryz.sizeOf134
  v46 := Tryz.zeroValue134
  t51 := Tryz.underlying176
  a51 := Tryz.isAgg176
  z51 := Tryz.sizeOf176
  v51 := Tryz.zeroValue176
  t53 := Tryz.underlying162
  a53 := Tryz.isAgg162
  z53 := Tryz.sizeOf162
  v53 := Tryz.zeroValue162
  t75 := Tryz.underlying81
  a75 := Tryz.isAgg81
  z75 := Tryz.sizeOf81
  v75 := Tryz.zeroValue81
  t76 := Tryz.underlying82
  a76 := Tryz.isAgg82
  z76 := Tryz.sizeOf82
  v76 := Tryz.zeroValue82
  t85 := Tryz.underlying148
  a85 := Tryz.isAgg148
  z85 := Tryz.sizeOf148
  v85 := Tryz.zeroValue148
  t127 := Tryz.underlying137
  a127 := Tryz.isAgg137
  z127 := Tryz.sizeOf137
  v127 := Tryz.zeroValue137
  t143 := Tryz.underlying204
  a143 := Tryz.isAgg204
  z143 := Tryz.sizeOf204
  v143 := Tryz.zeroValue204
  t145 := Tryz.underlying206
  a145 := Tryz.isAgg206
  z145 := Tryz.sizeOf206
  v145 := Tryz.zeroValue206
  t167 := Tryz.underlying147
  a167 := Tryz.isAgg147
  z167 := Tryz.sizeOf147
  v167 := Tryz.zeroValue147
  t168 := Tryz.underlying150
  a168 := Tryz.isAgg150
  z168 := Tryz.sizeOf150
  v168 := Tryz.zeroValue150
  t171 := Tryz.underlying161
  a171 := Tryz.isAgg161
  z171 := Tryz.sizeOf161
  v171 := Tryz.zeroValue161
  t173 := Tryz.underlying165
  a173 := Tryz.isAgg165
  z173 := Tryz.sizeOf165
  v173 := Tryz.zeroValue165
  t175 := Tryz.underlying179
  a175 := Tryz.isAgg179
  z175 := Tryz.sizeOf179
  v175 := Tryz.zeroValue179
  t210 := Tryz.underlying183
  a210 := Tryz.isAgg183
  z210 := Tryz.sizeOf183
  v210 := Tryz.zeroValue183
  t212 := Tryz.underlying189
  a212 := Tryz.isAgg189
  z212 := Tryz.sizeOf189
  v212 := Tryz.zeroValue189
  t213 := Tryz.underlying190
  a213 := Tryz.isAgg190
  z213 := Tryz.sizeOf190
  t232 := Tryz.underlying216
  a232 := Tryz.isAgg216
  z232 := Tryz.sizeOf216
  v232 := Tryz.zeroValue216
  t233 := Tryz.underlying217
  a233 := Tryz.isAgg217
  z233 := Tryz.sizeOf217
  v233 := Tryz.zeroValue217
  g15 := by kernel_rfl
  g16 := by kernel_rfl
  g17 := by kernel_rfl
  g18 := by kernel_rfl
  g19 := by kernel_rfl
  t80 := Tryz.underlying113
  a80 := Tryz.isAgg113
  z80 := Tryz.sizeOf113
  v80 := Tryz.zeroValue113
  i0 := by kernel_rfl
  i2 := by kernel_rfl
  i3 := by kernel_rfl
  i4 := by kernel_rfl
  i5 := by kernel_rfl
  i9 := by kernel_rfl
  i20 := by kernel_rfl
  i21 := by kernel_rfl
  i37 := by kernel_rfl
  i46 := by kernel_rfl
  i51 := by kernel_rfl
  i53 := by kernel_rfl
  i75 := by kernel_rfl
  i76 := by kernel_rfl
  i80 := by kernel_rfl
  i85 := by kernel_rfl
  i127 := by kernel_rfl
  i143 := by kernel_rfl
  i145 := by kernel_rfl
  i167 := by kernel_rfl
  i168 := by kernel_rfl
  i171 := by kernel_rfl
  i173 := by kernel_rfl
  i175 := by kernel_rfl
  i210 := by kernel_rfl
  i212 := by kernel_rfl
  i232 := by kernel_rfl
  i233 := by kernel_rfl
  m15 := by kernel_rfl
  m16 := by kernel_rfl
  m17 := by kernel_rfl
  m18 := by kernel_rfl
  m19 := by kernel_rfl
  c0 := by kernel_rfl
  c2 := by kernel_rfl
  c3 := by kernel_rfl
  c4 := by kernel_rfl
  c5 := by kernel_rfl
  c9 := by kernel_rfl
  c20 := by kernel_rfl
  c21 := by kernel_rfl
  c37 := by kernel_rfl
  c46 := by kernel_rfl
  c51 := by kernel_rfl
  c53 := by kernel_rfl
  c75 := by kernel_rfl
  c76 := by kernel_rfl
  c80 := by kernel_rfl
  c85 := by kernel_rfl
  c127 := by kernel_rfl
  c143 := by kernel_rfl
  c145 := by kernel_rfl
  c167 := by kernel_rfl
  c168 := by kernel_rfl
  c171 := by kernel_rfl
  c173 := by kernel_rfl
  c175 := by kernel_rfl
  c210 := by kernel_rfl
  c212 := by kernel_rfl
  c213 := by kernel_rfl
  c232 := by kernel_rfl
  c233 := by kernel_rfl }
open Go.RowKit in
theorem Tryz.strconv_Atoi_ok (s : ByteArray) (hmax : s.size ≤ 9223372036854775806) (v : Int) (h : Lib.atoiAll s.data.toList = .ok v) (w : World) :
    Calls Tryz.prog 55 #[.string s] w fun e w' => e = .returned (.tuple #[.int .i64 v, .nilIface]) ∧ (w' = w ∨ ∃ t, w' = Lib.bytesWorld w 5 t) := Any.strconv_Atoi_ok Tryz.laysC172 s hmax v h w
open Go.RowKit in
theorem Tryz.strconv_Atoi_range (s : ByteArray) (hlim : s.size ≤ 281474976710656) (h : Lib.atoiAll s.data.toList = .range) (ev : Value) (w : World) (hv : w.cell? ⟨4, 0, none⟩ = some ev) (hev : ev = .nilIface ∨ ∃ te pe, ev = .iface te pe) :
    Calls Tryz.prog 55 #[.string s] w fun e w' => ∃ N, e = .returned (.tuple #[.int .i64 (Lib.atoiSat s.data.toList), .iface 150 (.pointer (some ⟨N, 0, none⟩))]) ∧ w.heap.size ≤ N ∧ w'.heap[N]? = some (.cells #[.string ⟨#[65, 116, 111, 105]⟩, .string s, ev] 183 (0, 0)) ∧ Below w.heap.size w w' := Any.strconv_Atoi_range Tryz.laysC172 s hlim h ev w hv hev
def Tryz.lays145_ren : Go.Shelf.Ren := ⟨fun | 145 => 69 | 220 => 110 | 219 => 140 | 217 => 158 | 225 => 159 | 224 => 160 | 267 => 161 | 266 => 174 | 314 => 175 | n => n, fun | 9 => 9 | 4 => 4 | 59 => 98 | 3 => 3 | 5 => 5 | 46 => 134 | 146 => 208 | 51 => 176 | n => n, fun | 1 => 5 | n => n⟩
theorem Tryz.lays145 : Go.Proofs.Lays.n145 Tryz.prog Tryz.lays145_ren := {
  mixed := by kernel_rfl
  f145 := Tryz.func69.trans (congrArg some (by kernel_rfl))
  f217 := Tryz.func158.trans (congrArg some (by kernel_rfl))
  f219 := Tryz.func140.trans (congrArg some (by kernel_rfl))
  f220 := Tryz.func110.trans (congrArg some (by kernel_rfl))
  f224 := Tryz.func160.trans (congrArg some (by kernel_rfl))
  f225 := Tryz.func159.trans (congrArg some (by kernel_rfl))
  f266 := Tryz.func174.trans (congrArg some (by kernel_rfl))
  f267 := Tryz.func161.trans (congrArg some (by kernel_rfl))
  f314 := Tryz.func175.trans (congrArg some (by kernel_rfl))
  t3 := Tryz.underlying3
  a3 := Tryz.isAgg3
  z3 := Tryz.sizeOf3
  v3 := Tryz.zeroValue3
  t4 := Tryz.underlying4
  a4 := Tryz.isAgg4
  z4 := Tryz.sizeOf4
  v4 := Tryz.zeroValue4
  t5 := Tryz.underlying5
  a5 := Tryz.isAgg5
  z5 := Tryz.sizeOf5
  v5 := Tryz.zeroValue5
  t9 := Tryz.underlying9
  a9 := Tryz.isAgg9
  z9 := Tryz.sizeOf9
  v9 := Tryz.zeroValue9
  t46 := Tryz.underlying134
  a46 := Tryz.isAgg134
  z46 := Tryz.sizeOf134
  v46 := Tryz.zeroValue134
  t51 := Tryz.underlying176
  a51 := Tryz.isAgg176
  z51 := Tryz.sizeOf176
  v51 := Tryz.zeroValue176
  t59 := Tryz.underlying98
  a59 := Tryz.isAgg98
  z59 := Tryz.sizeOf98
  v59 := Tryz.zeroValue98
  t146 := Tryz.underlying208
  a146 := Tryz.isAgg208
  z146 := Tryz.sizeOf208
  v146 := Tryz.zeroValue208
  g1 := by kernel_rfl }
open Go.RowKit Go.Lib in
theorem Tryz.strings_Cut (s sep : ByteArray) (m : Int) (w : World) (hs : s.size < 4294967281) (hm : w.cell? ⟨5, 0, none⟩ = some (.int .i64 m)) :
    Calls Tryz.prog 69 #[.string s, .string sep] w fun e w' => e = .returned (.tuple #[.string ⟨(Lib.cut s.data.toList sep.data.toList).1.toArray⟩, .string ⟨(Lib.cut s.data.toList sep.data.toList).2.1.toArray⟩, .bool (Lib.cut s.data.toList sep.data.toList).2.2]) ∧ ∃ n, w' = w.drewN n := Any.strings_Cut Tryz.lays145 s sep m w hs hm
def Tryz.lays99_ren : Go.Shelf.Ren := ⟨fun | 99 => 111 | 206 => 141 | n => n, fun | 9 => 9 | 4 => 4 | 3 => 3 | n => n, fun | n => n⟩
theorem Tryz.lays99 : Go.Proofs.Lays.n99 Tryz.prog Tryz.lays99_ren := {
  mixed := by kernel_rfl
  f99 := Tryz.func111.trans (congrArg some (by kernel_rfl))
  f206 := Tryz.func141.trans (congrArg some (by kernel_rfl))
  t3 := Tryz.underlying3
  a3 := Tryz.isAgg3
  z3 := Tryz.sizeOf3
  v3 := Tryz.zeroValue3
  t4 := Tryz.underlying4
  a4 := Tryz.isAgg4
  z4 := Tryz.sizeOf4
  v4 := Tryz.zeroValue4
  t9 := Tryz.underlying9
  a9 := Tryz.isAgg9
  z9 := Tryz.sizeOf9
  v9 := Tryz.zeroValue9 }
open Go.RowKit Go.Lib in
theorem Tryz.strings_HasPrefix (s p : ByteArray) (w : World) :
    Calls Tryz.prog 111 #[.string s, .string p] w fun e w' => e = .returned (.bool (Lib.hasPrefix s.data.toList p.data.toList)) ∧ w' = w := Any.strings_HasPrefix Tryz.lays99 s p w
def Tryz.lays146_ren : Go.Shelf.Ren := ⟨fun | 146 => 50 | 221 => 97 | 268 => 122 | 138 => 123 | 143 => 124 | 195 => 148 | 197 => 149 | 218 => 150 | 219 => 140 | 260 => 167 | 217 => 158 | 225 => 159 | 224 => 160 | 267 => 161 | 266 => 174 | 314 => 175 | n => n, fun | 9 => 9 | 31 => 63 | 3 => 3 | 4 => 4 | 0 => 0 | 105 => 170 | 21 => 21 | 5 => 5 | 46 => 134 | 119 => 144 | 139 => 213 | 138 => 212 | 146 => 208 | 51 => 176 | n => n, fun | 1 => 5 | 3 => 7 | 4 => 8 | n => n⟩
theorem Tryz.lays146 : Go.Proofs.Lays.n146 Tryz.prog Tryz.lays146_ren := {
  mixed := by kernel_rfl
  f138 := Tryz.func123.trans (congrArg some (by kernel_rfl))
  f143 := Tryz.func124.trans (congrArg some (by kernel_rfl))
  f146 := Tryz.func50.trans (congrArg some (by kernel_rfl))
  f195 := Tryz.func148.trans (congrArg some (by kernel_rfl))
  f197 := Tryz.func149.trans (congrArg some (by kernel_rfl))
  f217 := Tryz.func158.trans (congrArg some (by kernel_rfl))
  f218 := Tryz.func150.trans (congrArg some (by kernel_rfl))
  f219 := Tryz.func140.trans (congrArg some (by kernel_rfl))
  f221 := Tryz.func97.trans (congrArg some (by kernel_rfl))
  f224 := Tryz.func160.trans (congrArg some (by kernel_rfl))
  f225 := Tryz.func159.trans (congrArg some (by kernel_rfl))
  f260 := Tryz.func167.trans (congrArg some (by kernel_rfl))
  f266 := Tryz.func174.trans (congrArg some (by kernel_rfl))
  f267 := Tryz.func161.trans (congrArg some (by kernel_rfl))
  f268 := Tryz.func122.trans (congrArg some (by kernel_rfl))
  f314 := Tryz.func175.trans (congrArg some (by kernel_rfl))
  t0 := Tryz.underlying0
  a0 := Tryz.isAgg0
  z0 := Tryz.sizeOf0
  v0 := Tryz.zeroValue0
  t3 := Tryz.underlying3
  a3 := Tryz.isAgg3
  z3 := Tryz.sizeOf3
  v3 := Tryz.zeroValue3
  t4 := Tryz.underlying4
  a4 := Tryz.isAgg4
  z4 := Tryz.sizeOf4
  v4 := Tryz.zeroValue4
  t5 := Tryz.underlying5
  a5 := Tryz.isAgg5
  z5 := Tryz.sizeOf5
  v5 := Tryz.zeroValue5
  t9 := Tryz.underlying9
  a9 := Tryz.isAgg9
  z9 := Tryz.sizeOf9
  v9 := Tryz.zeroValue9
  t21 := Tryz.underlying21
  a21 := Tryz.isAgg21
  z21 := Tryz.sizeOf21
  v21 := Tryz.zeroValue21
  t31 := Tryz.underlying63
  a31 := Tryz.isAgg63
  z31 := Tryz.sizeOf63
  v31 := Tryz.zeroValue63
  t46 := Tryz.underlying134
  a46 := Tryz.isAgg134
  z46 := Tryz.sizeOf134
  v46 := Tryz.zeroValue134
  t51 := Tryz.underlying176
  a51 := Tryz.isAgg176
  z51 := Tryz.sizeOf176
  v51 := Tryz.zeroValue176
  t105 := Tryz.underlying170
  a105 := Tryz.isAgg170
  z105 := Tryz.sizeOf170
  v105 := Tryz.zeroValue170
  t119 := Tryz.underlying144
  a119 := Tryz.isAgg144
  z119 := Tryz.sizeOf144
  t138 := Tryz.underlying212
  a138 := Tryz.isAgg212
  z138 := Tryz.sizeOf212
  v138 := Tryz.zeroValue212
  t139 := Tryz.underlying213
  a139 := Tryz.isAgg213
  z139 := Tryz.sizeOf213
  v139 := Tryz.zeroValue213
  t146 := Tryz.underlying208
  a146 := Tryz.isAgg208
  z146 := Tryz.sizeOf208
  v146 := Tryz.zeroValue208
  g1 := by kernel_rfl
  g3 := by kernel_rfl
  g4 := by kernel_rfl }
open Go.RowKit Go.Lib in
theorem Tryz.strings_Split (s sep : ByteArray) (m : Int) (w : World) (hs : s.size < 4294967281) (hm : w.cell? ⟨5, 0, none⟩ = some (.int .i64 m)) (h1 : 1 ≤ sep.size) :
    Calls Tryz.prog 50 #[.string s, .string sep] w fun e w' =>
      e = .returned (.slice (some ⟨w.heap.size, 0, none⟩) (Lib.countB s sep + 1) (Lib.countB s sep + 1)) ∧ w' = w.alloc (.cells ((Lib.splitB sep 0 (Lib.countB s sep) s).map Value.string).toArray 9) := Any.strings_Split Tryz.lays146 (by kernel_rfl) s sep m w hs hm h1
def Tryz.lays157_ren : Go.Shelf.Ren := ⟨fun | 157 => 98 | 229 => 125 | 199 => 126 | 261 => 151 | 311 => 168 | 312 => 169 | n => n, fun | 9 => 9 | 31 => 63 | 3 => 3 | 5 => 5 | 4 => 4 | 119 => 144 | 0 => 0 | 40 => 146 | 152 => 173 | 21 => 21 | 154 => 175 | 51 => 176 | 141 => 178 | 196 => 196 | 193 => 193 | 198 => 198 | 49 => 24 | 194 => 194 | 201 => 201 | 226 => 214 | 46 => 134 | 227 => 215 | n => n, fun | 0 => 1 | 6 => 2 | n => n⟩
theorem Tryz.lays157 : Go.Proofs.Lays.n157 Tryz.prog Tryz.lays157_ren := {
  mixed := by kernel_rfl
  f157 := Tryz.func98.trans (congrArg some (by kernel_rfl))
  f199 := Tryz.func126.trans (congrArg some (by kernel_rfl))
  f229 := Tryz.func125.trans (congrArg some (by kernel_rfl))
  f261 := Tryz.func151.trans (congrArg some (by kernel_rfl))
  f311 := Tryz.func168.trans (congrArg some (by kernel_rfl))
  f312 := Tryz.func169.trans (congrArg some (by kernel_rfl))
  t0 := Tryz.underlying0
  a0 := Tryz.isAgg0
  z0 := Tryz.sizeOf0
  v0 := Tryz.zeroValue0
  t3 := Tryz.underlying3
  a3 := Tryz.isAgg3
  z3 := Tryz.sizeOf3
  v3 := Tryz.zeroValue3
  t4 := Tryz.underlying4
  a4 := Tryz.isAgg4
  z4 := Tryz.sizeOf4
  v4 := Tryz.zeroValue4
  t5 := Tryz.underlying5
  a5 := Tryz.isAgg5
  z5 := Tryz.sizeOf5
  v5 := Tryz.zeroValue5
  t9 := Tryz.underlying9
  a9 := Tryz.isAgg9
  z9 := Tryz.sizeOf9
  v9 := Tryz.zeroValue9
  t21 := Tryz.underlying21
  a21 := Tryz.isAgg21
  z21 := Tryz.sizeOf21
  v21 := Tryz.zeroValue21
  t31 := Tryz.underlying63
  a31 := Tryz.isAgg63
  z31 := Tryz.sizeOf63
  v31 := Tryz.zeroValue63
  t40 := Tryz.underlying146
  a40 := Tryz.isAgg146
  z40 := Tryz.sizeOf146
  v40 := Tryz.zeroValue146
  t46 := Tryz.underlying134
  a46 := Tryz.isAgg134
  z46 := Tryz.sizeOf134
  v46 := Tryz.zeroValue134
  t49 := Tryz.underlying24
  a49 := Tryz.isAgg24
  z49 := Tryz.sizeOf24
  v49 := Tryz.zeroValue24
  t51 := Tryz.underlying176
  a51 := Tryz.isAgg176
  z51 := Tryz.sizeOf176
  v51 := Tryz.zeroValue176
  t119 := Tryz.underlying144
  a119 := Tryz.isAgg144
  z119 := Tryz.sizeOf144
  t141 := Tryz.underlying178
  a141 := Tryz.isAgg178
  z141 := Tryz.sizeOf178
  v141 := Tryz.zeroValue178
  t152 := Tryz.underlying173
  a152 := Tryz.isAgg173
  z152 := Tryz.sizeOf173
  v152 := Tryz.zeroValue173
  t154 := Tryz.underlying175
  a154 := Tryz.isAgg175
  z154 := Tryz.sizeOf175
  v154 := Tryz.zeroValue175
  t193 := Tryz.underlying193
  a193 := Tryz.isAgg193
  z193 := Tryz.sizeOf193
  v193 := Tryz.zeroValue193
  t194 := Tryz.underlying194
  a194 := Tryz.isAgg194
  z194 := Tryz.sizeOf194
  v194 := Tryz.zeroValue194
  t196 := Tryz.underlying196
  a196 := Tryz.isAgg196
  z196 := Tryz.sizeOf196
  v196 := Tryz.zeroValue196
  t198 := Tryz.underlying198
  a198 := Tryz.isAgg198
  z198 := Tryz.sizeOf198
  v198 := Tryz.zeroValue198
  t201 := Tryz.underlying201
  a201 := Tryz.isAgg201
  z201 := Tryz.sizeOf201
  v201 := Tryz.zeroValue201
  t226 := Tryz.underlying214
  a226 := Tryz.isAgg214
  z226 := Tryz.sizeOf214
  v226 := Tryz.zeroValue214
  t227 := Tryz.underlying215
  a227 := Tryz.isAgg215
  z227 := Tryz.sizeOf215
  v227 := Tryz.zeroValue215
  g0 := by kernel_rfl
  g6 := by kernel_rfl }
open Go.RowKit Go.Lib in
theorem Tryz.strings_Fields (s : ByteArray) (w : World) (hs : s.size < 4294967281) (hascii : ∀ (j : Nat) b, s.data.toList[j]? = some b → b.toNat < 128) (htab : Lib.TabIs Tryz.prog w "strings.asciiSpace" .u8 Lib.asciiSpaceTab) :
    Calls Tryz.prog 98 #[.string s] w fun e w' =>
      e = .returned (.slice (some ⟨w.heap.size, 0, none⟩) (Lib.fields s.data.toList).length (Lib.fields s.data.toList).length) ∧ w' = w.alloc (.cells ((Lib.fields s.data.toList).map fun l => Value.string ⟨l.toArray⟩).toArray 9) := Any.strings_Fields Tryz.lays157 (by kernel_rfl) (by kernel_rfl) s w hs hascii htab
def Tryz.lays109_ren : Go.Shelf.Ren := ⟨fun | 109 => 52 | n => n, fun | 31 => 63 | 9 => 9 | 3 => 3 | 0 => 0 | 4 => 4 | n => n, fun | n => n⟩
theorem Tryz.lays109 : Go.Proofs.Lays.n109 Tryz.prog Tryz.lays109_ren := {
  mixed := by kernel_rfl
  f109 := Tryz.func52.trans (congrArg some (by kernel_rfl))
  t0 := Tryz.underlying0
  a0 := Tryz.isAgg0
  z0 := Tryz.sizeOf0
  v0 := Tryz.zeroValue0
  t3 := Tryz.underlying3
  a3 := Tryz.isAgg3
  z3 := Tryz.sizeOf3
  v3 := Tryz.zeroValue3
  t4 := Tryz.underlying4
  a4 := Tryz.isAgg4
  z4 := Tryz.sizeOf4
  v4 := Tryz.zeroValue4
  t9 := Tryz.underlying9
  a9 := Tryz.isAgg9
  z9 := Tryz.sizeOf9
  v9 := Tryz.zeroValue9
  t31 := Tryz.underlying63
  a31 := Tryz.isAgg63
  z31 := Tryz.sizeOf63
  v31 := Tryz.zeroValue63 }
open Go.Lib in
theorem Tryz.slices_Index_string (b off n c : Nat) (zs : List ByteArray) (x : ByteArray) (w : World) (hz : n ≤ zs.length) (hbig : n ≤ 9223372036854775807) (hc : ∀ j, j < zs.length → w.cell? ⟨b, off + j, none⟩ = some (.string (zs.getD j ByteArray.empty))) :
    Calls Tryz.prog 52 #[.slice (some ⟨b, off, none⟩) n c, .string x] w fun e w' => e = .returned (.int .i64 (Lib.idxOfS (zs.take n) x)) ∧ w' = w := Any.slices_Index_string Tryz.lays109 b off n c zs x w hz hbig hc
open Go.Lib in
theorem Tryz.slices_Index_string_empty (a : Option Addr) (c : Nat) (x : ByteArray) (w : World) :
    Calls Tryz.prog 52 #[.slice a 0 c, .string x] w fun e w' => e = .returned (.int .i64 (Lib.idxOfS [] x)) ∧ w' = w := Any.slices_Index_string_empty Tryz.lays109 a c x w
end Go.Proofs
end
section
namespace Go.Proofs.YtfpcideomanbbaaGreatDoor.PA
open Go.RowKit Go.Proofs.YtfpcideomanbbaaGreatDoorW.PrintWords Go.Proofs.YtfpcideomanbbaaGreatDoorW.PrintLast Go.Proofs.YtfpcideomanbbaaGreatDoorW.PrintMore
def strconv_Itoa.f (a0 : Int) : Option (ByteArray) := if -9223372036854775808 ≤ a0 ∧ a0 ≤ 9223372036854775807 then some ⟨(Lib.itoa a0).toArray⟩ else none
theorem strconv_Itoa.calls (a0 : Int) (r : ByteArray) (w : World) (hG_ : GP w) (h : strconv_Itoa.f a0 = some r) :
    Calls Tryz.prog 32 #[.int .i64 a0] w fun e w' => e = .returned (.string r) ∧ Below w.heap.size w w' := by
  unfold strconv_Itoa.f at h
  split at h
  · rename_i hb
    obtain rfl := Option.some.inj h
    refine (Tryz.strconv_Itoa a0 hb.1 hb.2 w hG_.pow).mono ?_
    rintro e w' ⟨rfl, k, os, rfl⟩
    exact ⟨rfl, Lib.below_grow _ _ (Nat.le_refl _) _ _⟩
  · cases h
def strings_Split.f (a0 : ByteArray) (a1 : ByteArray) : Option (List ByteArray) := if a0.size < 4294967281 ∧ 1 ≤ a1.size then some (Lib.splitB a1 0 (Lib.countB a0 a1) a0) else none
theorem strings_Split.calls (a0 : ByteArray) (a1 : ByteArray) (r : List ByteArray) (w : World) (hG_ : GP w) (h : strings_Split.f a0 a1 = some r) :
    Calls Tryz.prog 50 #[.string a0, .string a1] w fun e w' => ∃ v0_ : Value, e = .returned (v0_) ∧ Kd.R Kd.string 9 w' w.heap.size (fun _ => True) v0_ r ∧ Below w.heap.size w w' := by
  unfold strings_Split.f at h
  split at h
  · rename_i hb
    obtain rfl := Option.some.inj h
    obtain ⟨m, hm⟩ := hG_.maxLen
    refine (Tryz.strings_Split a0 a1 m w hb.1 hm hb.2).mono ?_
    rintro e w' ⟨rfl, rfl⟩
    have hlen := Lib.splitB_all a1 hb.2 0 _ a0 rfl
    have hle := Lib.countB_le a1 hb.2 a0.size a0 (Nat.le_refl _)
    refine ⟨_, rfl, ?_, below_alloc (Below.refl _ _) _⟩
    have ho := World.ownsRow_lit (base := w.heap.size) (e := 9) (size := 1) w ((Lib.splitB a1 0 (Lib.countB a0 a1) a0).map Value.string).toArray (Lib.countB a0 a1 + 1) (Nat.le_refl _) (by unfold maxLen; omega) (by simp [hlen])
    refine Kd.R_of_own ?_ (fun _ _ => trivial)
    rw [hlen]
    simpa [encs] using ho
  · cases h
def strings_Join.f (l0 : List ByteArray) (a1 : ByteArray) : Option (ByteArray) := if l0.length ≤ 140737488355328 ∧ (Lib.join (l0.map (·.data.toList)) a1.data.toList).length ≤ 140737488355328 then some ⟨(Lib.join (l0.map (·.data.toList)) a1.data.toList).toArray⟩ else none
theorem strings_Join.calls (A0 : Option Addr) (c0 : Nat) (l0 : List ByteArray) (a1 : ByteArray) (r : ByteArray) (w : World) (hr0 : Kd.C Kd.string w A0 l0.length l0) (hc0 : l0.length ≤ c0) (h : strings_Join.f l0 a1 = some r) :
    Calls Tryz.prog 35 #[.slice A0 l0.length c0, .string a1] w fun e w' => e = .returned (.string r) ∧ Below w.heap.size w w' := by
  unfold strings_Join.f at h
  split at h
  · rename_i hb
    obtain rfl := Option.some.inj h
    cases l0 with
    | nil =>
      refine (Any.strings_Join_none Tryz.lays156 Tryz.Builder_Extra_156 A0 c0 a1 w).mono ?_
      rintro e w' ⟨rfl, rfl⟩
      exact ⟨rfl, Below.refl _ _⟩
    | cons x l =>
      obtain ⟨ad, rfl, hc⟩ := hr0.2.2 (by simp)
      have hcell : ∀ (j : Nat) (p : ByteArray), (x :: l)[j]? = some p → w.cell? (ad.add j) = some (.string p) := fun j p hp => by
        obtain ⟨c, _, rfl, hcc⟩ := hc j p hp
        have h1 : w.cell? (ad.add (j * 1 + 0)) = some (.string p) := hcc 0 _ rfl
        simpa using h1
      obtain ⟨b, off, spot⟩ := ad
      have hspot : spot = none := by simpa [Addr.add] using World.cell?_spot (hcell 0 x rfl)
      subst hspot
      have hc2 : ∀ (j : Nat) (p : ByteArray), (x :: l)[j]? = some p → w.cell? ⟨b, off + j, none⟩ = some (.string p) := fun j p hp => by
        rw [← Go.WideShapes.add_plain]; exact hcell j p hp
      refine (Tryz.strings_Join b off c0 (x :: l) a1 w hc2 (Lib.lt_of_cell (hc2 0 x rfl)) hb.1 hc0 hb.2).mono ?_
      rintro e w' ⟨rfl, hw⟩
      exact ⟨rfl, hw⟩
  · cases h
end Go.Proofs.YtfpcideomanbbaaGreatDoor.PA
end
section
namespace Go.Proofs.YtfpcideomanbbaaGreatDoor.PA
open Go.RowKit Go.Proofs.YtfpcideomanbbaaGreatDoorW.PrintWords Go.Proofs.YtfpcideomanbbaaGreatDoorW.PrintLast Go.Proofs.YtfpcideomanbbaaGreatDoorW.PrintMore
def spl : List UInt8 → List (List UInt8)
  | [] => [[]]
  | c :: t => if c = 32 then [] :: spl t else ((c :: (spl t).headD []) :: (spl t).tail)
theorem spl_ne (l : List UInt8) : ∃ w r, spl l = w :: r := by
  cases l with
  | nil => exact ⟨[], [], rfl⟩
  | cons c t => by_cases h : c = 32 <;> simp [spl, h]
def glue (p : List UInt8) (L : List (List UInt8)) : List (List UInt8) := (p ++ L.headD []) :: L.tail
theorem glue_nil (l : List UInt8) : glue [] (spl l) = spl l := by
  obtain ⟨w, r, h⟩ := spl_ne l
  simp [glue, h]
theorem glue_blank (p : List UInt8) (t : List UInt8) : glue p (spl (32 :: t)) = p :: spl t := by
  simp [glue, spl]
theorem spl_word (p t : List UInt8) (h : (32 : UInt8) ∉ p) : spl (p ++ t) = glue p (spl t) := by
  induction p with
  | nil => simp [glue_nil]
  | cons c p ih =>
    have hc : c ≠ 32 := fun e => h (by simp [e])
    rw [List.cons_append, spl, if_neg hc, ih (fun e => h (by simp [e]))]
    simp [glue]
theorem spl_one (p : List UInt8) (h : (32 : UInt8) ∉ p) : spl p = [p] := by
  have := spl_word p [] h
  simpa [spl, glue] using this
theorem spl_join : ∀ (L : List (List UInt8)), L ≠ [] → (∀ w ∈ L, (32 : UInt8) ∉ w) → spl (Lib.join L [32]) = L
  | [], h, _ => absurd rfl h
  | [w], _, h => by simpa [Lib.join] using spl_one w (h w (by simp))
  | w :: v :: L, _, h => by
    have ih := spl_join (v :: L) (by simp) (fun x hx => h x (by simp [hx]))
    have e : Lib.join (w :: v :: L) [32] = w ++ (32 :: Lib.join (v :: L) [32]) := by simp [Lib.join]
    rw [e, spl_word w _ (h w (by simp)), glue_blank, ih]
theorem index_blank (t : List UInt8) : Lib.index (32 :: t) [32] = 0 := by
  rw [Lib.index]; simp [List.isPrefixOf]
theorem index_other (c : UInt8) (t : List UInt8) (h : c ≠ 32) : Lib.index (c :: t) [32] = if Lib.index t [32] == -1 then -1 else Lib.index t [32] + 1 := by
  rw [Lib.index]
  simp [List.isPrefixOf, Ne.symm h]
theorem splitK_spl : ∀ (l : List UInt8), Lib.splitK [32] 0 (Lib.count l [32]) l = spl l
  | [] => by
    have : Lib.count [] [32] = 0 := Lib.count_miss (by simp [Lib.index])
    rw [this]; rfl
  | c :: t => by
    have ih := splitK_spl t
    by_cases hc : c = 32
    · subst hc
      rw [Lib.count_cons_eq, Nat.add_comm, Lib.splitK, index_blank]
      simp [spl, ih]
    · rw [Lib.count_cons_ne c 32 t hc]
      have hi := index_other c t hc
      rw [spl, if_neg hc, ← ih]
      cases hn : Lib.count t [32] with
      | zero => simp [Lib.splitK]
      | succ n =>
        have hne : Lib.index t [32] ≠ -1 := fun e => by rw [Lib.count_miss e] at hn; omega
        have hge := Lib.index_ge t [32]
        obtain ⟨j, hj⟩ : ∃ j : Nat, Lib.index t [32] = j := ⟨(Lib.index t [32]).toNat, by omega⟩
        have hi' : Lib.index (c :: t) [32] = ((j + 1 : Nat) : Int) := by rw [hi, if_neg (fun e => hne (beq_iff_eq.1 e)), hj]; omega
        rw [Lib.splitK, Lib.splitK, hi', hj]
        have h1 : ¬ ((((j + 1 : Nat) : Int) == -1) = true) := fun e => by have := beq_iff_eq.1 e; omega
        have h2 : ¬ (((j : Int) == -1) = true) := fun e => by have := beq_iff_eq.1 e; omega
        rw [if_neg h1, if_neg h2]
        simp
theorem split_spl (s : ByteArray) : (Lib.splitB ⟨#[32]⟩ 0 (Lib.countB s ⟨#[32]⟩) s).map (·.data.toList) = spl s.data.toList := by
  rw [Lib.splitB_data]
  exact splitK_spl _
theorem w64 {x : Int} (h0 : -9223372036854775808 ≤ x) (h1 : x < 9223372036854775808) : wrap64 x = x := by
  unfold wrap64; omega
theorem bytes_eq {a b : ByteArray} (h : a.data.toList = b.data.toList) : a = b := ByteArray.ext (Array.toList_inj.1 h)
theorem words_eq : ∀ {L M : List ByteArray}, L.map (·.data.toList) = M.map (·.data.toList) → L = M
  | [], [], _ => rfl
  | [], _ :: _, h => by simp at h
  | _ :: _, [], h => by simp at h
  | a :: L, b :: M, h => by
    simp only [List.map_cons, List.cons.injEq] at h
    rw [bytes_eq h.1, words_eq h.2]
end Go.Proofs.YtfpcideomanbbaaGreatDoor.PA
end
section
namespace Go.Proofs.YtfpcideomanbbaaGreatDoor.PA
open Go.RowKit Go.Proofs.YtfpcideomanbbaaGreatDoorW.PrintWords Go.Proofs.YtfpcideomanbbaaGreatDoorW.PrintLast Go.Proofs.YtfpcideomanbbaaGreatDoorW.PrintMore
def strings_Trim.f (a0 : ByteArray) (a1 : ByteArray) : Option (ByteArray) := if a0.size ≤ 9223372036854775807 ∧ a1.size < 4294967281 ∧ (a1.data.toList.all fun b => decide (b.toNat < 128)) = true then some ⟨(Lib.trimS a0.data.toList a1.data.toList).toArray⟩ else none
theorem strings_Trim.calls (a0 : ByteArray) (a1 : ByteArray) (r : ByteArray) (w : World) (h : strings_Trim.f a0 a1 = some r) :
    Calls Tryz.prog 109 #[.string a0, .string a1] w fun e w' => e = .returned (.string r) ∧ Below w.heap.size w w' := by
  unfold strings_Trim.f at h
  split at h
  · rename_i hb
    obtain rfl := Option.some.inj h
    exact Any.strings_Trim_laid Tryz.lays160 (by kernel_rfl) a0 a1 w hb.1 hb.2.1 (ascii_of_all hb.2.2)
  · cases h
end Go.Proofs.YtfpcideomanbbaaGreatDoor.PA
end
section
namespace Go.Proofs.YtfpcideomanbbaaGreatDoor.PA
open Go.RowKit Go.Proofs.YtfpcideomanbbaaGreatDoorW.PrintWords Go.Proofs.YtfpcideomanbbaaGreatDoorW.PrintLast Go.Proofs.YtfpcideomanbbaaGreatDoorW.PrintMore
attribute [local go_sem] max2_int min2_int max_two min_two max_three min_three max_four min_four
set_option linter.unusedVariables false
set_option linter.unusedSimpArgs false
def effect_name.f (a0 : ByteArray) : Option (Bool) := if (a0.size : Int) ≥ 1 then (if (a0.size : Int) ≤ 20 then (if 0 < (a0.size : Int) then (if (bt a0 0) = 45 then (some false) else ((strings_Trim.f a0 (⟨#[97, 98, 99, 100, 101, 102, 103, 104, 105, 106, 107, 108, 109, 110, 111, 112, 113, 114, 115, 116, 117, 118, 119, 120, 121, 122, 45]⟩ : ByteArray)).bind fun t240 => (some (t240.toList == ([] : List UInt8))))) else (none)) else (some false)) else (some false)
set_option maxHeartbeats 8000000 in
set_option maxRecDepth 100000 in
theorem effect_name.calls (a0 : ByteArray) (r : Bool) (w : World) (h : effect_name.f a0 = some r) :
  Calls Tryz.prog 68 #[.string a0] w fun e w' => e = .returned (.bool r) ∧ Below w.heap.size w w' := by
 have HB := Aside0.mk (Below.refl w.heap.size w)
 have H : (if (a0.size : Int) ≥ 1 then (if (a0.size : Int) ≤ 20 then (if 0 < (a0.size : Int) then (if (bt a0 0) = 45 then (some false) else ((strings_Trim.f a0 (⟨#[97, 98, 99, 100, 101, 102, 103, 104, 105, 106, 107, 108, 109, 110, 111, 112, 113, 114, 115, 116, 117, 118, 119, 120, 121, 122, 45]⟩ : ByteArray)).bind fun t240 => (some (t240.toList == ([] : List UInt8))))) else (none)) else (some false)) else (some false)) = some r := h
 clear h
 by_cases c2 : (a0.size : Int) ≥ 1
 ·rw [if_pos c2] at H
  have c2b0 : decide (1 ≤ (a0.size : Int)) = true := decide_eq_true c2
  have c2b1 : decide (1 ≤ a0.size) = true := decide_eq_true (by omega)
  clear c2
  by_cases c3 : (a0.size : Int) ≤ 20
  ·rw [if_pos c3] at H
   have c3b0 : decide ((a0.size : Int) ≤ 20) = true := decide_eq_true c3
   have c3b1 : decide (a0.size ≤ 20) = true := decide_eq_true (by omega)
   clear c3
   by_cases c4 : 0 < (a0.size : Int)
   ·rw [if_pos c4] at H
    have c4b0 : decide (0 < (a0.size : Int)) = true := decide_eq_true c4
    have c4b1 : decide (0 < a0.size) = true := decide_eq_true (by omega)
    clear c4
    by_cases c6 : (bt a0 0) = 45
    ·rw [if_pos c6] at H
     have c6b0 : ((bt a0 0) == 45) = true := beq_iff_eq.mpr c6
     have c6b1 : ((bt a0 0) != 45) = false := bne_eq_false_iff_eq.mpr c6
     clear c6
     obtain rfl := Option.some.inj H
     have p5 : 0 ≤ (0 : Int) := (by omega)
     have q5 : 0 < a0.size := (by have : (0 : Int) < (a0.size : Int) := of_decide_eq_true Za; omega)
     have hx5 : ∀ h : 0 < a0.size, ((a0[0]'h).toNat : Int) = bt a0 0 := bt_at a0 0
     clear p5
     have qi5 : (0 < (a0.size : Int)) = True := eq_true (of_decide_eq_true Za)
     replace q5 := eq_true q5
     go_enter Tryz.func68, Tryz.ntmps68
     go_wp2
     go_ret
     exact ⟨Ze, Zb⟩
    ·rw [if_neg c6] at H
     have c6b0 : ((bt a0 0) == 45) = false := beq_eq_false_iff_ne.mpr c6
     have c6b1 : ((bt a0 0) != 45) = true := bne_iff_ne.mpr c6
     replace H := Option.bind_eq_some_iff.mp H
     obtain ⟨t240, A70, H⟩ := H
     replace H : (some (t240.toList == ([] : List UInt8))) = some r := H
     have A7 := Aside0.mk A70
     clear A70
     obtain rfl := Option.some.inj H
     have p5 : 0 ≤ (0 : Int) := (by omega)
     have q5 : 0 < a0.size := (by have : (0 : Int) < (a0.size : Int) := of_decide_eq_true Za; omega)
     have hx5 : ∀ h : 0 < a0.size, ((a0[0]'h).toNat : Int) = bt a0 0 := bt_at a0 0
     clear p5
     have qi5 : (0 < (a0.size : Int)) = True := eq_true (of_decide_eq_true Za)
     replace q5 := eq_true q5
     go_enter Tryz.func68, Tryz.ntmps68
     go_wp2_with (first | (go_at_call 109; (with_reducible refine (strings_Trim.calls a0 (⟨#[97, 98, 99, 100, 101, 102, 103, 104, 105, 106, 107, 108, 109, 110, 111, 112, 113, 114, 115, 116, 117, 118, 119, 120, 121, 122, 45]⟩ : ByteArray) t240 _ A7.out).mono ?_); rintro e w8 ⟨rfl, hb⟩; replace HB := Aside0.mk (below_step Zb hb); (try clear hb); (try clear hb2); (try clear hk); (try clear hi)))
     go_ret
     exact ⟨Ze, Zb⟩
   ·rw [if_neg c4] at H
    exact absurd H (by simp)
  ·rw [if_neg c3] at H
   have c3b0 : decide ((a0.size : Int) ≤ 20) = false := decide_eq_false c3
   have c3b1 : decide (a0.size ≤ 20) = false := decide_eq_false (by omega)
   clear c3
   obtain rfl := Option.some.inj H
   go_enter Tryz.func68, Tryz.ntmps68
   go_wp2
   go_ret
   exact ⟨Ze, Zb⟩
 ·rw [if_neg c2] at H
  have c2b0 : decide (1 ≤ (a0.size : Int)) = false := decide_eq_false c2
  have c2b1 : decide (1 ≤ a0.size) = false := decide_eq_false (by omega)
  clear c2
  obtain rfl := Option.some.inj H
  go_enter Tryz.func68, Tryz.ntmps68
  go_wp2
  go_ret
  exact ⟨Ze, Zb⟩
mutual
def effect_Check.j0 : Nat → Bool → Bool → Bool → Bool → Bool → Int → Int → Bool → Bool → Int → Int → Int → Int → Int → Int → Int → ByteArray → Option (Int)
 | 0, _, _, _, _, _, _, _, _, _, _, _, _, _, _, _, _, _ => none
 | k + 1, x3, x4, x5, x6, x7, x8, x9, x10, x29, x242000, x242001, x242002, x242003, x242004, x242005, x242006, x242007 => if x29 = true then (some 2) else ((effect_wanted.f x242000 x242001).bind fun t250 => (if t250 = true then (if x242001 = 11 then (effect_Check.j1 k x3 x4 x5 x6 x7 x8 x9 x10 (x242002 == 9) x242000 x242001 x242002 x242003 x242004 x242005 x242006 x242007) else (effect_Check.j1 k x3 x4 x5 x6 x7 x8 x9 x10 false x242000 x242001 x242002 x242003 x242004 x242005 x242006 x242007)) else (effect_Check.j1 k x3 x4 x5 x6 x7 x8 x9 x10 true x242000 x242001 x242002 x242003 x242004 x242005 x242006 x242007)))
def effect_Check.j1 : Nat → Bool → Bool → Bool → Bool → Bool → Int → Int → Bool → Bool → Int → Int → Int → Int → Int → Int → Int → ByteArray → Option (Int)
 | 0, _, _, _, _, _, _, _, _, _, _, _, _, _, _, _, _, _ => none
 | k + 1, x3, x4, x5, x6, x7, x8, x9, x10, x58, x242000, x242001, x242002, x242003, x242004, x242005, x242006, x242007 => if x58 = true then (some 8) else ((effect_about.f k x242000 x242001 x242002 x242003 x242004 x242005 x242006 x242007).bind fun t251 => (if t251 = true then ((effect_within_int.f x242003 x3 x8 x9).bind fun t252 => (if t252 = true then (if x3 = true then (if x10 = true then (effect_Check.j2 k x4 x5 x6 x7 false x242000 x242001 x242002 x242003 x242004 x242005 x242006 x242007) else (effect_Check.j2 k x4 x5 x6 x7 (x242003 == 0) x242000 x242001 x242002 x242003 x242004 x242005 x242006 x242007)) else (effect_Check.j2 k x4 x5 x6 x7 false x242000 x242001 x242002 x242003 x242004 x242005 x242006 x242007)) else (effect_Check.j2 k x4 x5 x6 x7 true x242000 x242001 x242002 x242003 x242004 x242005 x242006 x242007))) else (some 13)))
def effect_Check.j2 : Nat → Bool → Bool → Bool → Bool → Bool → Int → Int → Int → Int → Int → Int → Int → ByteArray → Option (Int)
 | 0, _, _, _, _, _, _, _, _, _, _, _, _, _ => none
 | k + 1, x4, x5, x6, x7, x79, x242000, x242001, x242002, x242003, x242004, x242005, x242006, x242007 => if x79 = true then (some 2) else ((api_Suit.f x242004 x4 1 6).bind fun t253 => (if t253 = true then ((api_Trait.f x242005 x5 1 8).bind fun t254 => (if t254 = true then ((api_Mark.f x242006 x6 1 4).bind fun t255 => (effect_Check.j3 k x7 (!t255) x242000 x242001 x242002 x242003 x242004 x242005 x242006 x242007)) else (effect_Check.j3 k x7 true x242000 x242001 x242002 x242003 x242004 x242005 x242006 x242007))) else (effect_Check.j3 k x7 true x242000 x242001 x242002 x242003 x242004 x242005 x242006 x242007)))
def effect_Check.j3 : Nat → Bool → Bool → Int → Int → Int → Int → Int → Int → Int → ByteArray → Option (Int)
 | 0, _, _, _, _, _, _, _, _, _, _ => none
 | k + 1, x7, x99, x242000, x242001, x242002, x242003, x242004, x242005, x242006, x242007 => if x99 = true then (some 2) else (if x242007.toList = ([] : List UInt8) then (if x7 = true then (some 4) else (some 0)) else (if x7 = true then ((effect_name.f x242007).bind fun t256 => (if t256 = true then (some 0) else (some 4))) else (some 4)))
end
def effect_Check.f (k : Nat) (a0_0 : Int) (a0_1 : Int) (a0_2 : Int) (a0_3 : Int) (a0_4 : Int) (a0_5 : Int) (a0_6 : Int) (a0_7 : ByteArray) : Option (Int) := (effect_Uses.f k a0_1 a0_2).bind fun bt242 => ((effect_bounds.f k a0_1).bind fun bt247 => (if a0_0 < 1 then (effect_Check.j0 k bt242.1 bt242.2.1 bt242.2.2.1 bt242.2.2.2.1 bt242.2.2.2.2 bt247.1 bt247.2.1 bt247.2.2 true a0_0 a0_1 a0_2 a0_3 a0_4 a0_5 a0_6 a0_7) else (if a0_0 > 6 then (effect_Check.j0 k bt242.1 bt242.2.1 bt242.2.2.1 bt242.2.2.2.1 bt242.2.2.2.2 bt247.1 bt247.2.1 bt247.2.2 true a0_0 a0_1 a0_2 a0_3 a0_4 a0_5 a0_6 a0_7) else (if a0_1 < 1 then (effect_Check.j0 k bt242.1 bt242.2.1 bt242.2.2.1 bt242.2.2.2.1 bt242.2.2.2.2 bt247.1 bt247.2.1 bt247.2.2 true a0_0 a0_1 a0_2 a0_3 a0_4 a0_5 a0_6 a0_7) else (if a0_1 > 19 then (effect_Check.j0 k bt242.1 bt242.2.1 bt242.2.2.1 bt242.2.2.2.1 bt242.2.2.2.2 bt247.1 bt247.2.1 bt247.2.2 true a0_0 a0_1 a0_2 a0_3 a0_4 a0_5 a0_6 a0_7) else (if a0_2 < 1 then (effect_Check.j0 k bt242.1 bt242.2.1 bt242.2.2.1 bt242.2.2.2.1 bt242.2.2.2.2 bt247.1 bt247.2.1 bt247.2.2 true a0_0 a0_1 a0_2 a0_3 a0_4 a0_5 a0_6 a0_7) else (effect_Check.j0 k bt242.1 bt242.2.1 bt242.2.2.1 bt242.2.2.2.1 bt242.2.2.2.2 bt247.1 bt247.2.1 bt247.2.2 (decide (a0_2 > 10)) a0_0 a0_1 a0_2 a0_3 a0_4 a0_5 a0_6 a0_7)))))))
theorem effect_Check.mono_l : ∀ k, (∀ y0 y1 y2 y3 y4 y5 y6 y7 y8 y9 y10 y11 y12 y13 y14 y15 y16, LeO (effect_Check.j0 k y0 y1 y2 y3 y4 y5 y6 y7 y8 y9 y10 y11 y12 y13 y14 y15 y16) (effect_Check.j0 (k + 1) y0 y1 y2 y3 y4 y5 y6 y7 y8 y9 y10 y11 y12 y13 y14 y15 y16)) ∧ (∀ y0 y1 y2 y3 y4 y5 y6 y7 y8 y9 y10 y11 y12 y13 y14 y15 y16, LeO (effect_Check.j1 k y0 y1 y2 y3 y4 y5 y6 y7 y8 y9 y10 y11 y12 y13 y14 y15 y16) (effect_Check.j1 (k + 1) y0 y1 y2 y3 y4 y5 y6 y7 y8 y9 y10 y11 y12 y13 y14 y15 y16)) ∧ (∀ y0 y1 y2 y3 y4 y5 y6 y7 y8 y9 y10 y11 y12, LeO (effect_Check.j2 k y0 y1 y2 y3 y4 y5 y6 y7 y8 y9 y10 y11 y12) (effect_Check.j2 (k + 1) y0 y1 y2 y3 y4 y5 y6 y7 y8 y9 y10 y11 y12)) ∧ (∀ y0 y1 y2 y3 y4 y5 y6 y7 y8 y9, LeO (effect_Check.j3 k y0 y1 y2 y3 y4 y5 y6 y7 y8 y9) (effect_Check.j3 (k + 1) y0 y1 y2 y3 y4 y5 y6 y7 y8 y9))
 | 0 => ⟨fun _ _ _ _ _ _ _ _ _ _ _ _ _ _ _ _ _ r h => by simp [effect_Check.j0] at h, fun _ _ _ _ _ _ _ _ _ _ _ _ _ _ _ _ _ r h => by simp [effect_Check.j1] at h, fun _ _ _ _ _ _ _ _ _ _ _ _ _ r h => by simp [effect_Check.j2] at h, fun _ _ _ _ _ _ _ _ _ _ r h => by simp [effect_Check.j3] at h⟩
 | k + 1 => by
  obtain ⟨ih0, ih1, ih2, ih3⟩ := effect_Check.mono_l k
  refine ⟨?_, ?_, ?_, ?_⟩
  ·intro y0 y1 y2 y3 y4 y5 y6 y7 y8 y9 y10 y11 y12 y13 y14 y15 y16
   unfold effect_Check.j0
   repeat' first
   | (with_reducible exact ih0 _ _ _ _ _ _ _ _ _ _ _ _ _ _ _ _ _)
   | (with_reducible exact ih1 _ _ _ _ _ _ _ _ _ _ _ _ _ _ _ _ _)
   | (with_reducible exact ih2 _ _ _ _ _ _ _ _ _ _ _ _ _)
   | (with_reducible exact ih3 _ _ _ _ _ _ _ _ _ _)
   | (with_reducible exact effect_Uses.mono _ _ _)
   | (with_reducible exact effect_about.mono _ _ _ _ _ _ _ _ _)
   | (with_reducible exact effect_bounds.mono _ _)
   | (with_reducible exact LeO.refl _)
   | (with_reducible exact LeO.none _)
   | (with_reducible refine LeO.ite ?_ ?_)
   | (with_reducible refine LeO.bind ?_ (fun _ => ?_))
   | exact ih0 _ _ _ _ _ _ _ _ _ _ _ _ _ _ _ _ _
   | exact ih1 _ _ _ _ _ _ _ _ _ _ _ _ _ _ _ _ _
   | exact ih2 _ _ _ _ _ _ _ _ _ _ _ _ _
   | exact ih3 _ _ _ _ _ _ _ _ _ _
   | exact effect_Uses.mono _ _ _
   | exact effect_about.mono _ _ _ _ _ _ _ _ _
   | exact effect_bounds.mono _ _
   | exact LeO.none _
   | refine LeO.ite ?_ ?_
   | refine LeO.bind ?_ (fun _ => ?_)
  ·intro y0 y1 y2 y3 y4 y5 y6 y7 y8 y9 y10 y11 y12 y13 y14 y15 y16
   unfold effect_Check.j1
   repeat' first
   | (with_reducible exact ih0 _ _ _ _ _ _ _ _ _ _ _ _ _ _ _ _ _)
   | (with_reducible exact ih1 _ _ _ _ _ _ _ _ _ _ _ _ _ _ _ _ _)
   | (with_reducible exact ih2 _ _ _ _ _ _ _ _ _ _ _ _ _)
   | (with_reducible exact ih3 _ _ _ _ _ _ _ _ _ _)
   | (with_reducible exact effect_Uses.mono _ _ _)
   | (with_reducible exact effect_about.mono _ _ _ _ _ _ _ _ _)
   | (with_reducible exact effect_bounds.mono _ _)
   | (with_reducible exact LeO.refl _)
   | (with_reducible exact LeO.none _)
   | (with_reducible refine LeO.ite ?_ ?_)
   | (with_reducible refine LeO.bind ?_ (fun _ => ?_))
   | exact ih0 _ _ _ _ _ _ _ _ _ _ _ _ _ _ _ _ _
   | exact ih1 _ _ _ _ _ _ _ _ _ _ _ _ _ _ _ _ _
   | exact ih2 _ _ _ _ _ _ _ _ _ _ _ _ _
   | exact ih3 _ _ _ _ _ _ _ _ _ _
   | exact effect_Uses.mono _ _ _
   | exact effect_about.mono _ _ _ _ _ _ _ _ _
   | exact effect_bounds.mono _ _
   | exact LeO.none _
   | refine LeO.ite ?_ ?_
   | refine LeO.bind ?_ (fun _ => ?_)
  ·intro y0 y1 y2 y3 y4 y5 y6 y7 y8 y9 y10 y11 y12
   unfold effect_Check.j2
   repeat' first
   | (with_reducible exact ih0 _ _ _ _ _ _ _ _ _ _ _ _ _ _ _ _ _)
   | (with_reducible exact ih1 _ _ _ _ _ _ _ _ _ _ _ _ _ _ _ _ _)
   | (with_reducible exact ih2 _ _ _ _ _ _ _ _ _ _ _ _ _)
   | (with_reducible exact ih3 _ _ _ _ _ _ _ _ _ _)
   | (with_reducible exact effect_Uses.mono _ _ _)
   | (with_reducible exact effect_about.mono _ _ _ _ _ _ _ _ _)
   | (with_reducible exact effect_bounds.mono _ _)
   | (with_reducible exact LeO.refl _)
   | (with_reducible exact LeO.none _)
   | (with_reducible refine LeO.ite ?_ ?_)
   | (with_reducible refine LeO.bind ?_ (fun _ => ?_))
   | exact ih0 _ _ _ _ _ _ _ _ _ _ _ _ _ _ _ _ _
   | exact ih1 _ _ _ _ _ _ _ _ _ _ _ _ _ _ _ _ _
   | exact ih2 _ _ _ _ _ _ _ _ _ _ _ _ _
   | exact ih3 _ _ _ _ _ _ _ _ _ _
   | exact effect_Uses.mono _ _ _
   | exact effect_about.mono _ _ _ _ _ _ _ _ _
   | exact effect_bounds.mono _ _
   | exact LeO.none _
   | refine LeO.ite ?_ ?_
   | refine LeO.bind ?_ (fun _ => ?_)
  ·intro y0 y1 y2 y3 y4 y5 y6 y7 y8 y9
   unfold effect_Check.j3
   repeat' first
   | (with_reducible exact ih0 _ _ _ _ _ _ _ _ _ _ _ _ _ _ _ _ _)
   | (with_reducible exact ih1 _ _ _ _ _ _ _ _ _ _ _ _ _ _ _ _ _)
   | (with_reducible exact ih2 _ _ _ _ _ _ _ _ _ _ _ _ _)
   | (with_reducible exact ih3 _ _ _ _ _ _ _ _ _ _)
   | (with_reducible exact effect_Uses.mono _ _ _)
   | (with_reducible exact effect_about.mono _ _ _ _ _ _ _ _ _)
   | (with_reducible exact effect_bounds.mono _ _)
   | (with_reducible exact LeO.refl _)
   | (with_reducible exact LeO.none _)
   | (with_reducible refine LeO.ite ?_ ?_)
   | (with_reducible refine LeO.bind ?_ (fun _ => ?_))
   | exact ih0 _ _ _ _ _ _ _ _ _ _ _ _ _ _ _ _ _
   | exact ih1 _ _ _ _ _ _ _ _ _ _ _ _ _ _ _ _ _
   | exact ih2 _ _ _ _ _ _ _ _ _ _ _ _ _
   | exact ih3 _ _ _ _ _ _ _ _ _ _
   | exact effect_Uses.mono _ _ _
   | exact effect_about.mono _ _ _ _ _ _ _ _ _
   | exact effect_bounds.mono _ _
   | exact LeO.none _
   | refine LeO.ite ?_ ?_
   | refine LeO.bind ?_ (fun _ => ?_)
theorem effect_Check.mono : ∀ a0 a1 a2 a3 a4 a5 a6 a7 k, LeO (effect_Check.f k a0 a1 a2 a3 a4 a5 a6 a7) (effect_Check.f (k + 1) a0 a1 a2 a3 a4 a5 a6 a7) := by
 intro a0 a1 a2 a3 a4 a5 a6 a7 k
 obtain ⟨ih0, ih1, ih2, ih3⟩ := effect_Check.mono_l k
 unfold effect_Check.f
 repeat' first
   | (with_reducible exact ih0 _ _ _ _ _ _ _ _ _ _ _ _ _ _ _ _ _)
   | (with_reducible exact ih1 _ _ _ _ _ _ _ _ _ _ _ _ _ _ _ _ _)
   | (with_reducible exact ih2 _ _ _ _ _ _ _ _ _ _ _ _ _)
   | (with_reducible exact ih3 _ _ _ _ _ _ _ _ _ _)
   | (with_reducible exact effect_Uses.mono _ _ _)
   | (with_reducible exact effect_about.mono _ _ _ _ _ _ _ _ _)
   | (with_reducible exact effect_bounds.mono _ _)
   | (with_reducible exact LeO.refl _)
   | (with_reducible exact LeO.none _)
   | (with_reducible refine LeO.ite ?_ ?_)
   | (with_reducible refine LeO.bind ?_ (fun _ => ?_))
   | exact ih0 _ _ _ _ _ _ _ _ _ _ _ _ _ _ _ _ _
   | exact ih1 _ _ _ _ _ _ _ _ _ _ _ _ _ _ _ _ _
   | exact ih2 _ _ _ _ _ _ _ _ _ _ _ _ _
   | exact ih3 _ _ _ _ _ _ _ _ _ _
   | exact effect_Uses.mono _ _ _
   | exact effect_about.mono _ _ _ _ _ _ _ _ _
   | exact effect_bounds.mono _ _
   | exact LeO.none _
   | refine LeO.ite ?_ ?_
   | refine LeO.bind ?_ (fun _ => ?_)
set_option maxHeartbeats 8000000 in
set_option maxRecDepth 100000 in
theorem effect_Check.calls (k : Nat) (a0_0 : Int) (a0_1 : Int) (a0_2 : Int) (a0_3 : Int) (a0_4 : Int) (a0_5 : Int) (a0_6 : Int) (a0_7 : ByteArray) (r : Int) (w : World) (h : effect_Check.f k a0_0 a0_1 a0_2 a0_3 a0_4 a0_5 a0_6 a0_7 = some r) :
  Calls Tryz.prog 24 #[.agg #[.int .u8 a0_0, .int .u8 a0_1, .int .u8 a0_2, .int .i64 a0_3, .int .u8 a0_4, .int .u8 a0_5, .int .u8 a0_6, .string a0_7]] w fun e w' => e = .returned (.int .i64 r) ∧ Below w.heap.size w w' := by
 have hu48 := Tryz.underlying48
 have HB := Aside0.mk (Below.refl w.heap.size w)
 have H : ((effect_Uses.f k a0_1 a0_2).bind fun bt242 => ((effect_bounds.f k a0_1).bind fun bt247 => (if a0_0 < 1 then (effect_Check.j0 k bt242.1 bt242.2.1 bt242.2.2.1 bt242.2.2.2.1 bt242.2.2.2.2 bt247.1 bt247.2.1 bt247.2.2 true a0_0 a0_1 a0_2 a0_3 a0_4 a0_5 a0_6 a0_7) else (if a0_0 > 6 then (effect_Check.j0 k bt242.1 bt242.2.1 bt242.2.2.1 bt242.2.2.2.1 bt242.2.2.2.2 bt247.1 bt247.2.1 bt247.2.2 true a0_0 a0_1 a0_2 a0_3 a0_4 a0_5 a0_6 a0_7) else (if a0_1 < 1 then (effect_Check.j0 k bt242.1 bt242.2.1 bt242.2.2.1 bt242.2.2.2.1 bt242.2.2.2.2 bt247.1 bt247.2.1 bt247.2.2 true a0_0 a0_1 a0_2 a0_3 a0_4 a0_5 a0_6 a0_7) else (if a0_1 > 19 then (effect_Check.j0 k bt242.1 bt242.2.1 bt242.2.2.1 bt242.2.2.2.1 bt242.2.2.2.2 bt247.1 bt247.2.1 bt247.2.2 true a0_0 a0_1 a0_2 a0_3 a0_4 a0_5 a0_6 a0_7) else (if a0_2 < 1 then (effect_Check.j0 k bt242.1 bt242.2.1 bt242.2.2.1 bt242.2.2.2.1 bt242.2.2.2.2 bt247.1 bt247.2.1 bt247.2.2 true a0_0 a0_1 a0_2 a0_3 a0_4 a0_5 a0_6 a0_7) else (effect_Check.j0 k bt242.1 bt242.2.1 bt242.2.2.1 bt242.2.2.2.1 bt242.2.2.2.2 bt247.1 bt247.2.1 bt247.2.2 (decide (a0_2 > 10)) a0_0 a0_1 a0_2 a0_3 a0_4 a0_5 a0_6 a0_7)))))))) = some r := h
 clear h
 replace H := Option.bind_eq_some_iff.mp H
 obtain ⟨⟨t242, t243, t244, t245, t246⟩, A20, H⟩ := H
 replace H : ((effect_bounds.f k a0_1).bind fun bt247 => (if a0_0 < 1 then (effect_Check.j0 k t242 t243 t244 t245 t246 bt247.1 bt247.2.1 bt247.2.2 true a0_0 a0_1 a0_2 a0_3 a0_4 a0_5 a0_6 a0_7) else (if a0_0 > 6 then (effect_Check.j0 k t242 t243 t244 t245 t246 bt247.1 bt247.2.1 bt247.2.2 true a0_0 a0_1 a0_2 a0_3 a0_4 a0_5 a0_6 a0_7) else (if a0_1 < 1 then (effect_Check.j0 k t242 t243 t244 t245 t246 bt247.1 bt247.2.1 bt247.2.2 true a0_0 a0_1 a0_2 a0_3 a0_4 a0_5 a0_6 a0_7) else (if a0_1 > 19 then (effect_Check.j0 k t242 t243 t244 t245 t246 bt247.1 bt247.2.1 bt247.2.2 true a0_0 a0_1 a0_2 a0_3 a0_4 a0_5 a0_6 a0_7) else (if a0_2 < 1 then (effect_Check.j0 k t242 t243 t244 t245 t246 bt247.1 bt247.2.1 bt247.2.2 true a0_0 a0_1 a0_2 a0_3 a0_4 a0_5 a0_6 a0_7) else (effect_Check.j0 k t242 t243 t244 t245 t246 bt247.1 bt247.2.1 bt247.2.2 (decide (a0_2 > 10)) a0_0 a0_1 a0_2 a0_3 a0_4 a0_5 a0_6 a0_7))))))) = some r := H
 have A2 := Aside0.mk A20
 clear A20
 replace H := Option.bind_eq_some_iff.mp H
 obtain ⟨⟨t247, t248, t249⟩, A30, H⟩ := H
 replace H : (if a0_0 < 1 then (effect_Check.j0 k t242 t243 t244 t245 t246 t247 t248 t249 true a0_0 a0_1 a0_2 a0_3 a0_4 a0_5 a0_6 a0_7) else (if a0_0 > 6 then (effect_Check.j0 k t242 t243 t244 t245 t246 t247 t248 t249 true a0_0 a0_1 a0_2 a0_3 a0_4 a0_5 a0_6 a0_7) else (if a0_1 < 1 then (effect_Check.j0 k t242 t243 t244 t245 t246 t247 t248 t249 true a0_0 a0_1 a0_2 a0_3 a0_4 a0_5 a0_6 a0_7) else (if a0_1 > 19 then (effect_Check.j0 k t242 t243 t244 t245 t246 t247 t248 t249 true a0_0 a0_1 a0_2 a0_3 a0_4 a0_5 a0_6 a0_7) else (if a0_2 < 1 then (effect_Check.j0 k t242 t243 t244 t245 t246 t247 t248 t249 true a0_0 a0_1 a0_2 a0_3 a0_4 a0_5 a0_6 a0_7) else (effect_Check.j0 k t242 t243 t244 t245 t246 t247 t248 t249 (decide (a0_2 > 10)) a0_0 a0_1 a0_2 a0_3 a0_4 a0_5 a0_6 a0_7)))))) = some r := H
 have A3 := Aside0.mk A30
 clear A30
 have HC4 := Aside0.mk H
 clear H
 go_enter Tryz.func24, Tryz.ntmps24
 go_upto_region 3 with (first | ((with_reducible refine gate_dst (N := 1) rfl ?_); refine box_event ?hg (N := 1) ?hd (cs := #[.int .u8 a0_0, .int .u8 a0_1, .int .u8 a0_2, .int .i64 a0_3, .int .u8 a0_4, .int .u8 a0_5, .int .u8 a0_6, .string a0_7]) (t := 48) ?hr ?_; (case hd => rfl); (case hg => rfl); (case hr => first | (go_simp; done) | (go_simp; rfl)); intro gb241 hg w5 hbox hb; have BK241 := Aside0.mk (hbox); have GW241 := Aside0.mk ((by rw [hg]; exact (below_size Zb) : w.heap.size ≤ gb241)); have GE241 := Aside0.mk ((by rw [hg]; exact (below_size Zb) : w.heap.size ≤ gb241)); replace HB := Aside0.mk (below_step Zb hb); clear hb hbox hg; obtain ⟨hcz6_0, hcz6_1, hcz6_2, hcz6_3, hcz6_4, hcz6_5, hcz6_6, hcz6_7, hfz6_0, hfz6_1, hfz6_2, hfz6_3, hfz6_4, hfz6_5, hfz6_6, hfz6_7⟩ := Z8 BK241.out) | ((with_reducible refine gate_callee (f := 54) rfl ?_); refine goesL_ (some 16) rfl rfl Tryz.func54 (by kernel_rfl) rfl #[.int .u8 a0_1, .int .u8 a0_2] rfl Zl ?_; (with_reducible refine (effect_Uses.calls k a0_1 a0_2 t242 t243 t244 t245 t246 _ A2.out).mono ?_); rintro e w' ⟨rfl, ⟨nd, rfl⟩⟩; refine ⟨_, rfl, ?_⟩) | ((with_reducible refine gate_callee (f := 61) rfl ?_); refine goesL_ (some 25) rfl rfl Tryz.func61 (by kernel_rfl) rfl #[.int .u8 a0_1] rfl Zl ?_; (with_reducible refine (effect_bounds.calls k a0_1 t247 t248 t249 _ A3.out).mono ?_); rintro e w' ⟨rfl, ⟨nd, rfl⟩⟩; refine ⟨_, rfl, ?_⟩))
 (try simp only [Act.put, List.setIfInBounds_toArray, List.set_cons_zero, List.set_cons_succ])
 go_cut [29] (fun v29 wc => ∃ (kq : Nat) (x29_3 : Bool), v29 = .bool x29_3 ∧ Aside0 (effect_Check.j0 kq t242 t243 t244 t245 t246 t247 t248 t249 x29_3 a0_0 a0_1 a0_2 a0_3 a0_4 a0_5 a0_6 a0_7 = some r) ∧ Aside0 (kq ≤ k) ∧ Aside0 (wc.heap[gb241]? = some (.cells #[.int .u8 a0_0, .int .u8 a0_1, .int .u8 a0_2, .int .i64 a0_3, .int .u8 a0_4, .int .u8 a0_5, .int .u8 a0_6, .string a0_7] 48 (0, 0))) ∧ Aside0 (Below w.heap.size w wc))
 case first =>
  have H := HC4.out
  clear HC4
  by_cases c7 : a0_0 < 1
  ·rw [if_pos c7] at H
   have c7b0 : decide (a0_0 < 1) = true := decide_eq_true c7
   clear c7
   (first | rw [c7b0] | (simp only [i64_w, i32_w]; rw [c7b0]) | skip)
   have H' := Aside0.mk H
   clear H
   obtain ⟨hcz8_0, hcz8_1, hcz8_2, hcz8_3, hcz8_4, hcz8_5, hcz8_6, hcz8_7, hfz8_0, hfz8_1, hfz8_2, hfz8_3, hfz8_4, hfz8_5, hfz8_6, hfz8_7⟩ := Z8 BK241.out
   go_wp2
   go_meet
   case rel => exact ⟨_, (true), Zs, H', ⟨by first | omega | exact Nat.le_refl _⟩, ⟨Zk BK241.out⟩, ⟨Zb1 GE241.out⟩⟩
  ·rw [if_neg c7] at H
   have c7b0 : decide (a0_0 < 1) = false := decide_eq_false c7
   clear c7
   (first | rw [c7b0] | (simp only [i64_w, i32_w]; rw [c7b0]) | skip)
   by_cases c9 : a0_0 > 6
   ·rw [if_pos c9] at H
    have c9b0 : decide (6 < a0_0) = true := decide_eq_true c9
    clear c9
    have H' := Aside0.mk H
    clear H
    obtain ⟨hcz10_0, hcz10_1, hcz10_2, hcz10_3, hcz10_4, hcz10_5, hcz10_6, hcz10_7, hfz10_0, hfz10_1, hfz10_2, hfz10_3, hfz10_4, hfz10_5, hfz10_6, hfz10_7⟩ := Z8 BK241.out
    go_wp2
    go_meet
    case rel => exact ⟨_, (true), Zs, H', ⟨by first | omega | exact Nat.le_refl _⟩, ⟨Zk BK241.out⟩, ⟨Zb1 GE241.out⟩⟩
   ·rw [if_neg c9] at H
    have c9b0 : decide (6 < a0_0) = false := decide_eq_false c9
    clear c9
    by_cases c11 : a0_1 < 1
    ·rw [if_pos c11] at H
     have c11b0 : decide (a0_1 < 1) = true := decide_eq_true c11
     clear c11
     have H' := Aside0.mk H
     clear H
     obtain ⟨hcz12_0, hcz12_1, hcz12_2, hcz12_3, hcz12_4, hcz12_5, hcz12_6, hcz12_7, hfz12_0, hfz12_1, hfz12_2, hfz12_3, hfz12_4, hfz12_5, hfz12_6, hfz12_7⟩ := Z8 BK241.out
     go_wp2
     go_meet
     case rel => exact ⟨_, (true), Zs, H', ⟨by first | omega | exact Nat.le_refl _⟩, ⟨Zk BK241.out⟩, ⟨Zb1 GE241.out⟩⟩
    ·rw [if_neg c11] at H
     have c11b0 : decide (a0_1 < 1) = false := decide_eq_false c11
     clear c11
     by_cases c13 : a0_1 > 19
     ·rw [if_pos c13] at H
      have c13b0 : decide (19 < a0_1) = true := decide_eq_true c13
      clear c13
      have H' := Aside0.mk H
      clear H
      obtain ⟨hcz14_0, hcz14_1, hcz14_2, hcz14_3, hcz14_4, hcz14_5, hcz14_6, hcz14_7, hfz14_0, hfz14_1, hfz14_2, hfz14_3, hfz14_4, hfz14_5, hfz14_6, hfz14_7⟩ := Z8 BK241.out
      go_wp2
      go_meet
      case rel => exact ⟨_, (true), Zs, H', ⟨by first | omega | exact Nat.le_refl _⟩, ⟨Zk BK241.out⟩, ⟨Zb1 GE241.out⟩⟩
     ·rw [if_neg c13] at H
      have c13b0 : decide (19 < a0_1) = false := decide_eq_false c13
      clear c13
      by_cases c15 : a0_2 < 1
      ·rw [if_pos c15] at H
       have c15b0 : decide (a0_2 < 1) = true := decide_eq_true c15
       clear c15
       have H' := Aside0.mk H
       clear H
       obtain ⟨hcz16_0, hcz16_1, hcz16_2, hcz16_3, hcz16_4, hcz16_5, hcz16_6, hcz16_7, hfz16_0, hfz16_1, hfz16_2, hfz16_3, hfz16_4, hfz16_5, hfz16_6, hfz16_7⟩ := Z8 BK241.out
       go_wp2
       go_meet
       case rel => exact ⟨_, (true), Zs, H', ⟨by first | omega | exact Nat.le_refl _⟩, ⟨Zk BK241.out⟩, ⟨Zb1 GE241.out⟩⟩
      ·rw [if_neg c15] at H
       have c15b0 : decide (a0_2 < 1) = false := decide_eq_false c15
       clear c15
       have H' := Aside0.mk H
       clear H
       obtain ⟨hcz17_0, hcz17_1, hcz17_2, hcz17_3, hcz17_4, hcz17_5, hcz17_6, hcz17_7, hfz17_0, hfz17_1, hfz17_2, hfz17_3, hfz17_4, hfz17_5, hfz17_6, hfz17_7⟩ := Z8 BK241.out
       go_wp2
       go_meet
       case rel => exact ⟨_, (decide (a0_2 > 10)), Zs, H', ⟨by first | omega | exact Nat.le_refl _⟩, ⟨Zk BK241.out⟩, ⟨Zb1 GE241.out⟩⟩
 case rest =>
  clear HC4
  try clear c1
  try clear c2
  try clear p2
  try clear c5
  try clear c6
  try clear c7
  try clear c7b0
  try clear c9
  try clear c9b0
  try clear c11
  try clear c11b0
  try clear c13
  try clear c13b0
  try clear c15
  try clear c15b0
  try clear hcz10_0
  try clear hcz10_1
  try clear hcz10_2
  try clear hcz10_3
  try clear hcz10_4
  try clear hcz10_5
  try clear hcz10_6
  try clear hcz10_7
  try clear hcz12_0
  try clear hcz12_1
  try clear hcz12_2
  try clear hcz12_3
  try clear hcz12_4
  try clear hcz12_5
  try clear hcz12_6
  try clear hcz12_7
  try clear hcz14_0
  try clear hcz14_1
  try clear hcz14_2
  try clear hcz14_3
  try clear hcz14_4
  try clear hcz14_5
  try clear hcz14_6
  try clear hcz14_7
  try clear hcz16_0
  try clear hcz16_1
  try clear hcz16_2
  try clear hcz16_3
  try clear hcz16_4
  try clear hcz16_5
  try clear hcz16_6
  try clear hcz16_7
  try clear hcz17_0
  try clear hcz17_1
  try clear hcz17_2
  try clear hcz17_3
  try clear hcz17_4
  try clear hcz17_5
  try clear hcz17_6
  try clear hcz17_7
  try clear hcz6_0
  try clear hcz6_1
  try clear hcz6_2
  try clear hcz6_3
  try clear hcz6_4
  try clear hcz6_5
  try clear hcz6_6
  try clear hcz6_7
  try clear hcz8_0
  try clear hcz8_1
  try clear hcz8_2
  try clear hcz8_3
  try clear hcz8_4
  try clear hcz8_5
  try clear hcz8_6
  try clear hcz8_7
  try clear hfz10_0
  try clear hfz10_1
  try clear hfz10_2
  try clear hfz10_3
  try clear hfz10_4
  try clear hfz10_5
  try clear hfz10_6
  try clear hfz10_7
  try clear hfz12_0
  try clear hfz12_1
  try clear hfz12_2
  try clear hfz12_3
  try clear hfz12_4
  try clear hfz12_5
  try clear hfz12_6
  try clear hfz12_7
  try clear hfz14_0
  try clear hfz14_1
  try clear hfz14_2
  try clear hfz14_3
  try clear hfz14_4
  try clear hfz14_5
  try clear hfz14_6
  try clear hfz14_7
  try clear hfz16_0
  try clear hfz16_1
  try clear hfz16_2
  try clear hfz16_3
  try clear hfz16_4
  try clear hfz16_5
  try clear hfz16_6
  try clear hfz16_7
  try clear hfz17_0
  try clear hfz17_1
  try clear hfz17_2
  try clear hfz17_3
  try clear hfz17_4
  try clear hfz17_5
  try clear hfz17_6
  try clear hfz17_7
  try clear hfz6_0
  try clear hfz6_1
  try clear hfz6_2
  try clear hfz6_3
  try clear hfz6_4
  try clear hfz6_5
  try clear hfz6_6
  try clear hfz6_7
  try clear hfz8_0
  try clear hfz8_1
  try clear hfz8_2
  try clear hfz8_3
  try clear hfz8_4
  try clear hfz8_5
  try clear hfz8_6
  try clear hfz8_7
  obtain ⟨kq, x29_3, rfl, HA, HJ3, BK241, HB⟩ := hcut
  cases kq with
  | zero => exact absurd HA.out (by simp [effect_Check.j0])
  | succ kj3 =>
   have H := HA.out
   clear HA
   simp only [effect_Check.j0] at H
   by_cases c18 : x29_3 = true
   ·subst c18
    have H1 : (some 2) = some r := by rw [if_pos rfl] at H; exact H
    clear H
    have H := H1
    clear H1
    obtain rfl := Option.some.inj H
    go_wp2
    go_ret
    exact ⟨Ze, Zb1 GE241.out⟩
   ·replace c18 := Bool.eq_false_iff.mpr c18
    subst c18
    have H1 : ((effect_wanted.f a0_0 a0_1).bind fun t250 => (if t250 = true then (if a0_1 = 11 then (effect_Check.j1 kj3 t242 t243 t244 t245 t246 t247 t248 t249 (a0_2 == 9) a0_0 a0_1 a0_2 a0_3 a0_4 a0_5 a0_6 a0_7) else (effect_Check.j1 kj3 t242 t243 t244 t245 t246 t247 t248 t249 false a0_0 a0_1 a0_2 a0_3 a0_4 a0_5 a0_6 a0_7)) else (effect_Check.j1 kj3 t242 t243 t244 t245 t246 t247 t248 t249 true a0_0 a0_1 a0_2 a0_3 a0_4 a0_5 a0_6 a0_7))) = some r := by rw [if_neg (show ¬ (false = true) by decide)] at H; exact H
    clear H
    have H := H1
    clear H1
    have HC19 := Aside0.mk H
    clear H
    go_upto_region 5 with (fail)
    go_cut [58] (fun v58 wc => ∃ (kq : Nat) (x58_18 : Bool), v58 = .bool x58_18 ∧ Aside0 (effect_Check.j1 kq t242 t243 t244 t245 t246 t247 t248 t249 x58_18 a0_0 a0_1 a0_2 a0_3 a0_4 a0_5 a0_6 a0_7 = some r) ∧ Aside0 (kq ≤ kj3) ∧ Aside0 (wc.heap[gb241]? = some (.cells #[.int .u8 a0_0, .int .u8 a0_1, .int .u8 a0_2, .int .i64 a0_3, .int .u8 a0_4, .int .u8 a0_5, .int .u8 a0_6, .string a0_7] 48 (0, 0))) ∧ Aside0 (Below w.heap.size w wc))
    case first =>
     have H := HC19.out
     clear HC19
     replace H := Option.bind_eq_some_iff.mp H
     obtain ⟨t250, A200, H⟩ := H
     replace H : (if t250 = true then (if a0_1 = 11 then (effect_Check.j1 kj3 t242 t243 t244 t245 t246 t247 t248 t249 (a0_2 == 9) a0_0 a0_1 a0_2 a0_3 a0_4 a0_5 a0_6 a0_7) else (effect_Check.j1 kj3 t242 t243 t244 t245 t246 t247 t248 t249 false a0_0 a0_1 a0_2 a0_3 a0_4 a0_5 a0_6 a0_7)) else (effect_Check.j1 kj3 t242 t243 t244 t245 t246 t247 t248 t249 true a0_0 a0_1 a0_2 a0_3 a0_4 a0_5 a0_6 a0_7)) = some r := H
     have A20 := Aside0.mk A200
     clear A200
     by_cases c21 : t250 = true
     ·subst c21
      have H1 : (if a0_1 = 11 then (effect_Check.j1 kj3 t242 t243 t244 t245 t246 t247 t248 t249 (a0_2 == 9) a0_0 a0_1 a0_2 a0_3 a0_4 a0_5 a0_6 a0_7) else (effect_Check.j1 kj3 t242 t243 t244 t245 t246 t247 t248 t249 false a0_0 a0_1 a0_2 a0_3 a0_4 a0_5 a0_6 a0_7)) = some r := by rw [if_pos rfl] at H; exact H
      clear H
      have H := H1
      clear H1
      by_cases c22 : a0_1 = 11
      ·rw [if_pos c22] at H
       have c22b0 : (a0_1 == 11) = true := beq_iff_eq.mpr c22
       have c22b1 : (a0_1 != 11) = false := bne_eq_false_iff_eq.mpr c22
       clear c22
       (first | rw [c22b0] | (simp only [i64_w, i32_w]; rw [c22b0]) | skip)
       have H' := Aside0.mk H
       clear H
       obtain ⟨hcz23_0, hcz23_1, hcz23_2, hcz23_3, hcz23_4, hcz23_5, hcz23_6, hcz23_7, hfz23_0, hfz23_1, hfz23_2, hfz23_3, hfz23_4, hfz23_5, hfz23_6, hfz23_7⟩ := Z8 BK241.out
       go_wp2_with (first | ((with_reducible refine gate_callee (f := 62) rfl ?_); refine goesL_ (some 63) rfl rfl Tryz.func62 (by kernel_rfl) rfl #[.int .u8 a0_0, .int .u8 a0_1] rfl Zl ?_; (with_reducible refine (effect_wanted.calls a0_0 a0_1 true _ A20.out).mono ?_); rintro e w' ⟨rfl, ⟨nd, rfl⟩⟩; refine ⟨_, rfl, ?_⟩))
       go_meet
       case rel => exact ⟨_, ((a0_2 == 9)), Zs, H', ⟨by have := HJ3.out; first | omega | exact Nat.le_refl _⟩, ⟨Zk BK241.out⟩, ⟨Zb1 GE241.out⟩⟩
      ·rw [if_neg c22] at H
       have c22b0 : (a0_1 == 11) = false := beq_eq_false_iff_ne.mpr c22
       have c22b1 : (a0_1 != 11) = true := bne_iff_ne.mpr c22
       (first | rw [c22b0] | (simp only [i64_w, i32_w]; rw [c22b0]) | skip)
       have H' := Aside0.mk H
       clear H
       obtain ⟨hcz24_0, hcz24_1, hcz24_2, hcz24_3, hcz24_4, hcz24_5, hcz24_6, hcz24_7, hfz24_0, hfz24_1, hfz24_2, hfz24_3, hfz24_4, hfz24_5, hfz24_6, hfz24_7⟩ := Z8 BK241.out
       go_wp2_with (first | ((with_reducible refine gate_callee (f := 62) rfl ?_); refine goesL_ (some 63) rfl rfl Tryz.func62 (by kernel_rfl) rfl #[.int .u8 a0_0, .int .u8 a0_1] rfl Zl ?_; (with_reducible refine (effect_wanted.calls a0_0 a0_1 true _ A20.out).mono ?_); rintro e w' ⟨rfl, ⟨nd, rfl⟩⟩; refine ⟨_, rfl, ?_⟩))
       go_meet
       case rel => exact ⟨_, (false), Zs, H', ⟨by have := HJ3.out; first | omega | exact Nat.le_refl _⟩, ⟨Zk BK241.out⟩, ⟨Zb1 GE241.out⟩⟩
     ·replace c21 := Bool.eq_false_iff.mpr c21
      subst c21
      have H1 : (effect_Check.j1 kj3 t242 t243 t244 t245 t246 t247 t248 t249 true a0_0 a0_1 a0_2 a0_3 a0_4 a0_5 a0_6 a0_7) = some r := by rw [if_neg (show ¬ (false = true) by decide)] at H; exact H
      clear H
      have H := H1
      clear H1
      have H' := Aside0.mk H
      clear H
      obtain ⟨hcz25_0, hcz25_1, hcz25_2, hcz25_3, hcz25_4, hcz25_5, hcz25_6, hcz25_7, hfz25_0, hfz25_1, hfz25_2, hfz25_3, hfz25_4, hfz25_5, hfz25_6, hfz25_7⟩ := Z8 BK241.out
      go_wp2_with (first | ((with_reducible refine gate_callee (f := 62) rfl ?_); refine goesL_ (some 63) rfl rfl Tryz.func62 (by kernel_rfl) rfl #[.int .u8 a0_0, .int .u8 a0_1] rfl Zl ?_; (with_reducible refine (effect_wanted.calls a0_0 a0_1 false _ A20.out).mono ?_); rintro e w' ⟨rfl, ⟨nd, rfl⟩⟩; refine ⟨_, rfl, ?_⟩))
      go_meet
      case rel => exact ⟨_, (true), Zs, H', ⟨by have := HJ3.out; first | omega | exact Nat.le_refl _⟩, ⟨Zk BK241.out⟩, ⟨Zb1 GE241.out⟩⟩
    case rest =>
     clear HC19
     try clear c1
     try clear c2
     try clear p2
     try clear c5
     try clear c6
     try clear c7
     try clear c7b0
     try clear c9
     try clear c9b0
     try clear c11
     try clear c11b0
     try clear c13
     try clear c13b0
     try clear c15
     try clear c15b0
     try clear c18
     try clear c21
     try clear c22
     try clear c22b0
     try clear c22b1
     try clear c24
     try clear hcz10_0
     try clear hcz10_1
     try clear hcz10_2
     try clear hcz10_3
     try clear hcz10_4
     try clear hcz10_5
     try clear hcz10_6
     try clear hcz10_7
     try clear hcz12_0
     try clear hcz12_1
     try clear hcz12_2
     try clear hcz12_3
     try clear hcz12_4
     try clear hcz12_5
     try clear hcz12_6
     try clear hcz12_7
     try clear hcz14_0
     try clear hcz14_1
     try clear hcz14_2
     try clear hcz14_3
     try clear hcz14_4
     try clear hcz14_5
     try clear hcz14_6
     try clear hcz14_7
     try clear hcz16_0
     try clear hcz16_1
     try clear hcz16_2
     try clear hcz16_3
     try clear hcz16_4
     try clear hcz16_5
     try clear hcz16_6
     try clear hcz16_7
     try clear hcz17_0
     try clear hcz17_1
     try clear hcz17_2
     try clear hcz17_3
     try clear hcz17_4
     try clear hcz17_5
     try clear hcz17_6
     try clear hcz17_7
     try clear hcz23_0
     try clear hcz23_1
     try clear hcz23_2
     try clear hcz23_3
     try clear hcz23_4
     try clear hcz23_5
     try clear hcz23_6
     try clear hcz23_7
     try clear hcz24_0
     try clear hcz24_1
     try clear hcz24_2
     try clear hcz24_3
     try clear hcz24_4
     try clear hcz24_5
     try clear hcz24_6
     try clear hcz24_7
     try clear hcz25_0
     try clear hcz25_1
     try clear hcz25_2
     try clear hcz25_3
     try clear hcz25_4
     try clear hcz25_5
     try clear hcz25_6
     try clear hcz25_7
     try clear hcz6_0
     try clear hcz6_1
     try clear hcz6_2
     try clear hcz6_3
     try clear hcz6_4
     try clear hcz6_5
     try clear hcz6_6
     try clear hcz6_7
     try clear hcz8_0
     try clear hcz8_1
     try clear hcz8_2
     try clear hcz8_3
     try clear hcz8_4
     try clear hcz8_5
     try clear hcz8_6
     try clear hcz8_7
     try clear hfz10_0
     try clear hfz10_1
     try clear hfz10_2
     try clear hfz10_3
     try clear hfz10_4
     try clear hfz10_5
     try clear hfz10_6
     try clear hfz10_7
     try clear hfz12_0
     try clear hfz12_1
     try clear hfz12_2
     try clear hfz12_3
     try clear hfz12_4
     try clear hfz12_5
     try clear hfz12_6
     try clear hfz12_7
     try clear hfz14_0
     try clear hfz14_1
     try clear hfz14_2
     try clear hfz14_3
     try clear hfz14_4
     try clear hfz14_5
     try clear hfz14_6
     try clear hfz14_7
     try clear hfz16_0
     try clear hfz16_1
     try clear hfz16_2
     try clear hfz16_3
     try clear hfz16_4
     try clear hfz16_5
     try clear hfz16_6
     try clear hfz16_7
     try clear hfz17_0
     try clear hfz17_1
     try clear hfz17_2
     try clear hfz17_3
     try clear hfz17_4
     try clear hfz17_5
     try clear hfz17_6
     try clear hfz17_7
     try clear hfz23_0
     try clear hfz23_1
     try clear hfz23_2
     try clear hfz23_3
     try clear hfz23_4
     try clear hfz23_5
     try clear hfz23_6
     try clear hfz23_7
     try clear hfz24_0
     try clear hfz24_1
     try clear hfz24_2
     try clear hfz24_3
     try clear hfz24_4
     try clear hfz24_5
     try clear hfz24_6
     try clear hfz24_7
     try clear hfz25_0
     try clear hfz25_1
     try clear hfz25_2
     try clear hfz25_3
     try clear hfz25_4
     try clear hfz25_5
     try clear hfz25_6
     try clear hfz25_7
     try clear hfz6_0
     try clear hfz6_1
     try clear hfz6_2
     try clear hfz6_3
     try clear hfz6_4
     try clear hfz6_5
     try clear hfz6_6
     try clear hfz6_7
     try clear hfz8_0
     try clear hfz8_1
     try clear hfz8_2
     try clear hfz8_3
     try clear hfz8_4
     try clear hfz8_5
     try clear hfz8_6
     try clear hfz8_7
     try clear p2
     obtain ⟨kq, x58_18, rfl, HA, HJ18, BK241, HB⟩ := hcut
     cases kq with
     | zero => exact absurd HA.out (by simp [effect_Check.j1])
     | succ kj18 =>
      have H := HA.out
      clear HA
      simp only [effect_Check.j1] at H
      by_cases c26 : x58_18 = true
      ·subst c26
       have H1 : (some 8) = some r := by rw [if_pos rfl] at H; exact H
       clear H
       have H := H1
       clear H1
       obtain rfl := Option.some.inj H
       go_wp2
       go_ret
       exact ⟨Ze, Zb1 GE241.out⟩
      ·replace c26 := Bool.eq_false_iff.mpr c26
       subst c26
       have H1 : ((effect_about.f kj18 a0_0 a0_1 a0_2 a0_3 a0_4 a0_5 a0_6 a0_7).bind fun t251 => (if t251 = true then ((effect_within_int.f a0_3 t242 t247 t248).bind fun t252 => (if t252 = true then (if t242 = true then (if t249 = true then (effect_Check.j2 kj18 t243 t244 t245 t246 false a0_0 a0_1 a0_2 a0_3 a0_4 a0_5 a0_6 a0_7) else (effect_Check.j2 kj18 t243 t244 t245 t246 (a0_3 == 0) a0_0 a0_1 a0_2 a0_3 a0_4 a0_5 a0_6 a0_7)) else (effect_Check.j2 kj18 t243 t244 t245 t246 false a0_0 a0_1 a0_2 a0_3 a0_4 a0_5 a0_6 a0_7)) else (effect_Check.j2 kj18 t243 t244 t245 t246 true a0_0 a0_1 a0_2 a0_3 a0_4 a0_5 a0_6 a0_7))) else (some 13))) = some r := by rw [if_neg (show ¬ (false = true) by decide)] at H; exact H
       clear H
       have H := H1
       clear H1
       replace H := Option.bind_eq_some_iff.mp H
       obtain ⟨t251, A270, H⟩ := H
       replace H : (if t251 = true then ((effect_within_int.f a0_3 t242 t247 t248).bind fun t252 => (if t252 = true then (if t242 = true then (if t249 = true then (effect_Check.j2 kj18 t243 t244 t245 t246 false a0_0 a0_1 a0_2 a0_3 a0_4 a0_5 a0_6 a0_7) else (effect_Check.j2 kj18 t243 t244 t245 t246 (a0_3 == 0) a0_0 a0_1 a0_2 a0_3 a0_4 a0_5 a0_6 a0_7)) else (effect_Check.j2 kj18 t243 t244 t245 t246 false a0_0 a0_1 a0_2 a0_3 a0_4 a0_5 a0_6 a0_7)) else (effect_Check.j2 kj18 t243 t244 t245 t246 true a0_0 a0_1 a0_2 a0_3 a0_4 a0_5 a0_6 a0_7))) else (some 13)) = some r := H
       have A27 := Aside0.mk A270
       clear A270
       by_cases c28 : t251 = true
       ·subst c28
        have H1 : ((effect_within_int.f a0_3 t242 t247 t248).bind fun t252 => (if t252 = true then (if t242 = true then (if t249 = true then (effect_Check.j2 kj18 t243 t244 t245 t246 false a0_0 a0_1 a0_2 a0_3 a0_4 a0_5 a0_6 a0_7) else (effect_Check.j2 kj18 t243 t244 t245 t246 (a0_3 == 0) a0_0 a0_1 a0_2 a0_3 a0_4 a0_5 a0_6 a0_7)) else (effect_Check.j2 kj18 t243 t244 t245 t246 false a0_0 a0_1 a0_2 a0_3 a0_4 a0_5 a0_6 a0_7)) else (effect_Check.j2 kj18 t243 t244 t245 t246 true a0_0 a0_1 a0_2 a0_3 a0_4 a0_5 a0_6 a0_7))) = some r := by rw [if_pos rfl] at H; exact H
        clear H
        have H := H1
        clear H1
        have HC29 := Aside0.mk H
        clear H
        obtain ⟨hcz30_0, hcz30_1, hcz30_2, hcz30_3, hcz30_4, hcz30_5, hcz30_6, hcz30_7, hfz30_0, hfz30_1, hfz30_2, hfz30_3, hfz30_4, hfz30_5, hfz30_6, hfz30_7⟩ := Z8 BK241.out
        go_upto_region 9 with (first | ((with_reducible refine gate_callee (f := 63) rfl ?_); refine goesL_ (some 77) rfl rfl Tryz.func63 (by kernel_rfl) rfl #[.agg #[.int .u8 a0_0, .int .u8 a0_1, .int .u8 a0_2, .int .i64 a0_3, .int .u8 a0_4, .int .u8 a0_5, .int .u8 a0_6, .string a0_7]] rfl Zl ?_; (with_reducible refine (effect_about.calls kj18 a0_0 a0_1 a0_2 a0_3 a0_4 a0_5 a0_6 a0_7 true _ A27.out).mono ?_); rintro e w31 ⟨rfl, hb⟩; refine ⟨_, rfl, ?_⟩; replace BK241 := Aside0.mk (blk_below (Zj BK241.out) hb); replace HB := Aside0.mk (below_step (Zb1 GE241.out) hb); (try clear hb); (try clear hb2); (try clear hk); (try clear hi)))
        (try simp only [Act.put, List.setIfInBounds_toArray, List.set_cons_zero, List.set_cons_succ])
        go_cut [79] (fun v79 wc => ∃ (kq : Nat) (x79_28 : Bool), v79 = .bool x79_28 ∧ Aside0 (effect_Check.j2 kq t243 t244 t245 t246 x79_28 a0_0 a0_1 a0_2 a0_3 a0_4 a0_5 a0_6 a0_7 = some r) ∧ Aside0 (kq ≤ kj18) ∧ Aside0 (wc.heap[gb241]? = some (.cells #[.int .u8 a0_0, .int .u8 a0_1, .int .u8 a0_2, .int .i64 a0_3, .int .u8 a0_4, .int .u8 a0_5, .int .u8 a0_6, .string a0_7] 48 (0, 0))) ∧ Aside0 (Below w.heap.size w wc))
        case first =>
         have H := HC29.out
         clear HC29
         replace H := Option.bind_eq_some_iff.mp H
         obtain ⟨t252, A320, H⟩ := H
         replace H : (if t252 = true then (if t242 = true then (if t249 = true then (effect_Check.j2 kj18 t243 t244 t245 t246 false a0_0 a0_1 a0_2 a0_3 a0_4 a0_5 a0_6 a0_7) else (effect_Check.j2 kj18 t243 t244 t245 t246 (a0_3 == 0) a0_0 a0_1 a0_2 a0_3 a0_4 a0_5 a0_6 a0_7)) else (effect_Check.j2 kj18 t243 t244 t245 t246 false a0_0 a0_1 a0_2 a0_3 a0_4 a0_5 a0_6 a0_7)) else (effect_Check.j2 kj18 t243 t244 t245 t246 true a0_0 a0_1 a0_2 a0_3 a0_4 a0_5 a0_6 a0_7)) = some r := H
         have A32 := Aside0.mk A320
         clear A320
         by_cases c33 : t252 = true
         ·subst c33
          have H1 : (if t242 = true then (if t249 = true then (effect_Check.j2 kj18 t243 t244 t245 t246 false a0_0 a0_1 a0_2 a0_3 a0_4 a0_5 a0_6 a0_7) else (effect_Check.j2 kj18 t243 t244 t245 t246 (a0_3 == 0) a0_0 a0_1 a0_2 a0_3 a0_4 a0_5 a0_6 a0_7)) else (effect_Check.j2 kj18 t243 t244 t245 t246 false a0_0 a0_1 a0_2 a0_3 a0_4 a0_5 a0_6 a0_7)) = some r := by rw [if_pos rfl] at H; exact H
          clear H
          have H := H1
          clear H1
          by_cases c34 : t242 = true
          ·subst c34
           have H1 : (if t249 = true then (effect_Check.j2 kj18 t243 t244 t245 t246 false a0_0 a0_1 a0_2 a0_3 a0_4 a0_5 a0_6 a0_7) else (effect_Check.j2 kj18 t243 t244 t245 t246 (a0_3 == 0) a0_0 a0_1 a0_2 a0_3 a0_4 a0_5 a0_6 a0_7)) = some r := by rw [if_pos rfl] at H; exact H
           clear H
           have H := H1
           clear H1
           by_cases c35 : t249 = true
           ·subst c35
            have H1 : (effect_Check.j2 kj18 t243 t244 t245 t246 false a0_0 a0_1 a0_2 a0_3 a0_4 a0_5 a0_6 a0_7) = some r := by rw [if_pos rfl] at H; exact H
            clear H
            have H := H1
            clear H1
            have H' := Aside0.mk H
            clear H
            obtain ⟨hcz36_0, hcz36_1, hcz36_2, hcz36_3, hcz36_4, hcz36_5, hcz36_6, hcz36_7, hfz36_0, hfz36_1, hfz36_2, hfz36_3, hfz36_4, hfz36_5, hfz36_6, hfz36_7⟩ := Z8 BK241.out
            go_wp2_with (first | ((with_reducible refine gate_callee (f := 64) rfl ?_); refine goesL_ (some 85) rfl rfl Tryz.func64 (by kernel_rfl) rfl #[.int .i64 a0_3, .bool true, .int .i64 t247, .int .i64 t248] rfl Zl ?_; (with_reducible refine (effect_within_int.calls a0_3 true t247 t248 true _ A32.out).mono ?_); rintro e w' ⟨rfl, ⟨nd, rfl⟩⟩; refine ⟨_, rfl, ?_⟩))
            go_meet
            case rel => exact ⟨_, (false), Zs, H', ⟨by have := HJ3.out; have := HJ18.out; first | omega | exact Nat.le_refl _⟩, ⟨Zk BK241.out⟩, ⟨Zb1 GE241.out⟩⟩
           ·replace c35 := Bool.eq_false_iff.mpr c35
            subst c35
            have H1 : (effect_Check.j2 kj18 t243 t244 t245 t246 (a0_3 == 0) a0_0 a0_1 a0_2 a0_3 a0_4 a0_5 a0_6 a0_7) = some r := by rw [if_neg (show ¬ (false = true) by decide)] at H; exact H
            clear H
            have H := H1
            clear H1
            have H' := Aside0.mk H
            clear H
            obtain ⟨hcz37_0, hcz37_1, hcz37_2, hcz37_3, hcz37_4, hcz37_5, hcz37_6, hcz37_7, hfz37_0, hfz37_1, hfz37_2, hfz37_3, hfz37_4, hfz37_5, hfz37_6, hfz37_7⟩ := Z8 BK241.out
            go_wp2_with (first | ((with_reducible refine gate_callee (f := 64) rfl ?_); refine goesL_ (some 85) rfl rfl Tryz.func64 (by kernel_rfl) rfl #[.int .i64 a0_3, .bool true, .int .i64 t247, .int .i64 t248] rfl Zl ?_; (with_reducible refine (effect_within_int.calls a0_3 true t247 t248 true _ A32.out).mono ?_); rintro e w' ⟨rfl, ⟨nd, rfl⟩⟩; refine ⟨_, rfl, ?_⟩))
            go_meet
            case rel => exact ⟨_, ((a0_3 == 0)), Zs, H', ⟨by have := HJ3.out; have := HJ18.out; first | omega | exact Nat.le_refl _⟩, ⟨Zk BK241.out⟩, ⟨Zb1 GE241.out⟩⟩
          ·replace c34 := Bool.eq_false_iff.mpr c34
           subst c34
           have H1 : (effect_Check.j2 kj18 t243 t244 t245 t246 false a0_0 a0_1 a0_2 a0_3 a0_4 a0_5 a0_6 a0_7) = some r := by rw [if_neg (show ¬ (false = true) by decide)] at H; exact H
           clear H
           have H := H1
           clear H1
           have H' := Aside0.mk H
           clear H
           obtain ⟨hcz38_0, hcz38_1, hcz38_2, hcz38_3, hcz38_4, hcz38_5, hcz38_6, hcz38_7, hfz38_0, hfz38_1, hfz38_2, hfz38_3, hfz38_4, hfz38_5, hfz38_6, hfz38_7⟩ := Z8 BK241.out
           go_wp2_with (first | ((with_reducible refine gate_callee (f := 64) rfl ?_); refine goesL_ (some 85) rfl rfl Tryz.func64 (by kernel_rfl) rfl #[.int .i64 a0_3, .bool false, .int .i64 t247, .int .i64 t248] rfl Zl ?_; (with_reducible refine (effect_within_int.calls a0_3 false t247 t248 true _ A32.out).mono ?_); rintro e w' ⟨rfl, ⟨nd, rfl⟩⟩; refine ⟨_, rfl, ?_⟩))
           go_meet
           case rel => exact ⟨_, (false), Zs, H', ⟨by have := HJ3.out; have := HJ18.out; first | omega | exact Nat.le_refl _⟩, ⟨Zk BK241.out⟩, ⟨Zb1 GE241.out⟩⟩
         ·replace c33 := Bool.eq_false_iff.mpr c33
          subst c33
          have H1 : (effect_Check.j2 kj18 t243 t244 t245 t246 true a0_0 a0_1 a0_2 a0_3 a0_4 a0_5 a0_6 a0_7) = some r := by rw [if_neg (show ¬ (false = true) by decide)] at H; exact H
          clear H
          have H := H1
          clear H1
          have H' := Aside0.mk H
          clear H
          obtain ⟨hcz39_0, hcz39_1, hcz39_2, hcz39_3, hcz39_4, hcz39_5, hcz39_6, hcz39_7, hfz39_0, hfz39_1, hfz39_2, hfz39_3, hfz39_4, hfz39_5, hfz39_6, hfz39_7⟩ := Z8 BK241.out
          go_wp2_with (first | ((with_reducible refine gate_callee (f := 64) rfl ?_); refine goesL_ (some 85) rfl rfl Tryz.func64 (by kernel_rfl) rfl #[.int .i64 a0_3, .bool t242, .int .i64 t247, .int .i64 t248] rfl Zl ?_; (with_reducible refine (effect_within_int.calls a0_3 t242 t247 t248 false _ A32.out).mono ?_); rintro e w' ⟨rfl, ⟨nd, rfl⟩⟩; refine ⟨_, rfl, ?_⟩))
          go_meet
          case rel => exact ⟨_, (true), Zs, H', ⟨by have := HJ3.out; have := HJ18.out; first | omega | exact Nat.le_refl _⟩, ⟨Zk BK241.out⟩, ⟨Zb1 GE241.out⟩⟩
        case rest =>
         clear HC29
         try clear c1
         try clear c2
         try clear p2
         try clear c3
         try clear c5
         try clear c6
         try clear c7
         try clear c7b0
         try clear c9
         try clear c9b0
         try clear c11
         try clear c11b0
         try clear c13
         try clear c13b0
         try clear c15
         try clear c15b0
         try clear c18
         try clear c21
         try clear c22
         try clear c22b0
         try clear c22b1
         try clear c24
         try clear c26
         try clear c28
         try clear c33
         try clear c34
         try clear c35
         try clear hcz10_0
         try clear hcz10_1
         try clear hcz10_2
         try clear hcz10_3
         try clear hcz10_4
         try clear hcz10_5
         try clear hcz10_6
         try clear hcz10_7
         try clear hcz12_0
         try clear hcz12_1
         try clear hcz12_2
         try clear hcz12_3
         try clear hcz12_4
         try clear hcz12_5
         try clear hcz12_6
         try clear hcz12_7
         try clear hcz14_0
         try clear hcz14_1
         try clear hcz14_2
         try clear hcz14_3
         try clear hcz14_4
         try clear hcz14_5
         try clear hcz14_6
         try clear hcz14_7
         try clear hcz16_0
         try clear hcz16_1
         try clear hcz16_2
         try clear hcz16_3
         try clear hcz16_4
         try clear hcz16_5
         try clear hcz16_6
         try clear hcz16_7
         try clear hcz17_0
         try clear hcz17_1
         try clear hcz17_2
         try clear hcz17_3
         try clear hcz17_4
         try clear hcz17_5
         try clear hcz17_6
         try clear hcz17_7
         try clear hcz23_0
         try clear hcz23_1
         try clear hcz23_2
         try clear hcz23_3
         try clear hcz23_4
         try clear hcz23_5
         try clear hcz23_6
         try clear hcz23_7
         try clear hcz24_0
         try clear hcz24_1
         try clear hcz24_2
         try clear hcz24_3
         try clear hcz24_4
         try clear hcz24_5
         try clear hcz24_6
         try clear hcz24_7
         try clear hcz25_0
         try clear hcz25_1
         try clear hcz25_2
         try clear hcz25_3
         try clear hcz25_4
         try clear hcz25_5
         try clear hcz25_6
         try clear hcz25_7
         try clear hcz30_0
         try clear hcz30_1
         try clear hcz30_2
         try clear hcz30_3
         try clear hcz30_4
         try clear hcz30_5
         try clear hcz30_6
         try clear hcz30_7
         try clear hcz36_0
         try clear hcz36_1
         try clear hcz36_2
         try clear hcz36_3
         try clear hcz36_4
         try clear hcz36_5
         try clear hcz36_6
         try clear hcz36_7
         try clear hcz37_0
         try clear hcz37_1
         try clear hcz37_2
         try clear hcz37_3
         try clear hcz37_4
         try clear hcz37_5
         try clear hcz37_6
         try clear hcz37_7
         try clear hcz38_0
         try clear hcz38_1
         try clear hcz38_2
         try clear hcz38_3
         try clear hcz38_4
         try clear hcz38_5
         try clear hcz38_6
         try clear hcz38_7
         try clear hcz39_0
         try clear hcz39_1
         try clear hcz39_2
         try clear hcz39_3
         try clear hcz39_4
         try clear hcz39_5
         try clear hcz39_6
         try clear hcz39_7
         try clear hcz6_0
         try clear hcz6_1
         try clear hcz6_2
         try clear hcz6_3
         try clear hcz6_4
         try clear hcz6_5
         try clear hcz6_6
         try clear hcz6_7
         try clear hcz8_0
         try clear hcz8_1
         try clear hcz8_2
         try clear hcz8_3
         try clear hcz8_4
         try clear hcz8_5
         try clear hcz8_6
         try clear hcz8_7
         try clear hfz10_0
         try clear hfz10_1
         try clear hfz10_2
         try clear hfz10_3
         try clear hfz10_4
         try clear hfz10_5
         try clear hfz10_6
         try clear hfz10_7
         try clear hfz12_0
         try clear hfz12_1
         try clear hfz12_2
         try clear hfz12_3
         try clear hfz12_4
         try clear hfz12_5
         try clear hfz12_6
         try clear hfz12_7
         try clear hfz14_0
         try clear hfz14_1
         try clear hfz14_2
         try clear hfz14_3
         try clear hfz14_4
         try clear hfz14_5
         try clear hfz14_6
         try clear hfz14_7
         try clear hfz16_0
         try clear hfz16_1
         try clear hfz16_2
         try clear hfz16_3
         try clear hfz16_4
         try clear hfz16_5
         try clear hfz16_6
         try clear hfz16_7
         try clear hfz17_0
         try clear hfz17_1
         try clear hfz17_2
         try clear hfz17_3
         try clear hfz17_4
         try clear hfz17_5
         try clear hfz17_6
         try clear hfz17_7
         try clear hfz23_0
         try clear hfz23_1
         try clear hfz23_2
         try clear hfz23_3
         try clear hfz23_4
         try clear hfz23_5
         try clear hfz23_6
         try clear hfz23_7
         try clear hfz24_0
         try clear hfz24_1
         try clear hfz24_2
         try clear hfz24_3
         try clear hfz24_4
         try clear hfz24_5
         try clear hfz24_6
         try clear hfz24_7
         try clear hfz25_0
         try clear hfz25_1
         try clear hfz25_2
         try clear hfz25_3
         try clear hfz25_4
         try clear hfz25_5
         try clear hfz25_6
         try clear hfz25_7
         try clear hfz30_0
         try clear hfz30_1
         try clear hfz30_2
         try clear hfz30_3
         try clear hfz30_4
         try clear hfz30_5
         try clear hfz30_6
         try clear hfz30_7
         try clear hfz36_0
         try clear hfz36_1
         try clear hfz36_2
         try clear hfz36_3
         try clear hfz36_4
         try clear hfz36_5
         try clear hfz36_6
         try clear hfz36_7
         try clear hfz37_0
         try clear hfz37_1
         try clear hfz37_2
         try clear hfz37_3
         try clear hfz37_4
         try clear hfz37_5
         try clear hfz37_6
         try clear hfz37_7
         try clear hfz38_0
         try clear hfz38_1
         try clear hfz38_2
         try clear hfz38_3
         try clear hfz38_4
         try clear hfz38_5
         try clear hfz38_6
         try clear hfz38_7
         try clear hfz39_0
         try clear hfz39_1
         try clear hfz39_2
         try clear hfz39_3
         try clear hfz39_4
         try clear hfz39_5
         try clear hfz39_6
         try clear hfz39_7
         try clear hfz6_0
         try clear hfz6_1
         try clear hfz6_2
         try clear hfz6_3
         try clear hfz6_4
         try clear hfz6_5
         try clear hfz6_6
         try clear hfz6_7
         try clear hfz8_0
         try clear hfz8_1
         try clear hfz8_2
         try clear hfz8_3
         try clear hfz8_4
         try clear hfz8_5
         try clear hfz8_6
         try clear hfz8_7
         try clear p2
         obtain ⟨kq, x79_28, rfl, HA, HJ28, BK241, HB⟩ := hcut
         cases kq with
         | zero => exact absurd HA.out (by simp [effect_Check.j2])
         | succ kj28 =>
          have H := HA.out
          clear HA
          simp only [effect_Check.j2] at H
          by_cases c40 : x79_28 = true
          ·subst c40
           have H1 : (some 2) = some r := by rw [if_pos rfl] at H; exact H
           clear H
           have H := H1
           clear H1
           obtain rfl := Option.some.inj H
           go_wp2
           go_ret
           exact ⟨Ze, Zb1 GE241.out⟩
          ·replace c40 := Bool.eq_false_iff.mpr c40
           subst c40
           have H1 : ((api_Suit.f a0_4 t243 1 6).bind fun t253 => (if t253 = true then ((api_Trait.f a0_5 t244 1 8).bind fun t254 => (if t254 = true then ((api_Mark.f a0_6 t245 1 4).bind fun t255 => (effect_Check.j3 kj28 t246 (!t255) a0_0 a0_1 a0_2 a0_3 a0_4 a0_5 a0_6 a0_7)) else (effect_Check.j3 kj28 t246 true a0_0 a0_1 a0_2 a0_3 a0_4 a0_5 a0_6 a0_7))) else (effect_Check.j3 kj28 t246 true a0_0 a0_1 a0_2 a0_3 a0_4 a0_5 a0_6 a0_7))) = some r := by rw [if_neg (show ¬ (false = true) by decide)] at H; exact H
           clear H
           have H := H1
           clear H1
           have HC41 := Aside0.mk H
           clear H
           go_upto_region 11 with (fail)
           go_cut [99] (fun v99 wc => ∃ (kq : Nat) (x99_40 : Bool), v99 = .bool x99_40 ∧ Aside0 (effect_Check.j3 kq t246 x99_40 a0_0 a0_1 a0_2 a0_3 a0_4 a0_5 a0_6 a0_7 = some r) ∧ Aside0 (kq ≤ kj28) ∧ Aside0 (wc.heap[gb241]? = some (.cells #[.int .u8 a0_0, .int .u8 a0_1, .int .u8 a0_2, .int .i64 a0_3, .int .u8 a0_4, .int .u8 a0_5, .int .u8 a0_6, .string a0_7] 48 (0, 0))) ∧ Aside0 (Below w.heap.size w wc))
           case first =>
            have H := HC41.out
            clear HC41
            replace H := Option.bind_eq_some_iff.mp H
            obtain ⟨t253, A420, H⟩ := H
            replace H : (if t253 = true then ((api_Trait.f a0_5 t244 1 8).bind fun t254 => (if t254 = true then ((api_Mark.f a0_6 t245 1 4).bind fun t255 => (effect_Check.j3 kj28 t246 (!t255) a0_0 a0_1 a0_2 a0_3 a0_4 a0_5 a0_6 a0_7)) else (effect_Check.j3 kj28 t246 true a0_0 a0_1 a0_2 a0_3 a0_4 a0_5 a0_6 a0_7))) else (effect_Check.j3 kj28 t246 true a0_0 a0_1 a0_2 a0_3 a0_4 a0_5 a0_6 a0_7)) = some r := H
            have A42 := Aside0.mk A420
            clear A420
            by_cases c43 : t253 = true
            ·subst c43
             have H1 : ((api_Trait.f a0_5 t244 1 8).bind fun t254 => (if t254 = true then ((api_Mark.f a0_6 t245 1 4).bind fun t255 => (effect_Check.j3 kj28 t246 (!t255) a0_0 a0_1 a0_2 a0_3 a0_4 a0_5 a0_6 a0_7)) else (effect_Check.j3 kj28 t246 true a0_0 a0_1 a0_2 a0_3 a0_4 a0_5 a0_6 a0_7))) = some r := by rw [if_pos rfl] at H; exact H
             clear H
             have H := H1
             clear H1
             replace H := Option.bind_eq_some_iff.mp H
             obtain ⟨t254, A440, H⟩ := H
             replace H : (if t254 = true then ((api_Mark.f a0_6 t245 1 4).bind fun t255 => (effect_Check.j3 kj28 t246 (!t255) a0_0 a0_1 a0_2 a0_3 a0_4 a0_5 a0_6 a0_7)) else (effect_Check.j3 kj28 t246 true a0_0 a0_1 a0_2 a0_3 a0_4 a0_5 a0_6 a0_7)) = some r := H
             have A44 := Aside0.mk A440
             clear A440
             by_cases c45 : t254 = true
             ·subst c45
              have H1 : ((api_Mark.f a0_6 t245 1 4).bind fun t255 => (effect_Check.j3 kj28 t246 (!t255) a0_0 a0_1 a0_2 a0_3 a0_4 a0_5 a0_6 a0_7)) = some r := by rw [if_pos rfl] at H; exact H
              clear H
              have H := H1
              clear H1
              replace H := Option.bind_eq_some_iff.mp H
              obtain ⟨t255, A460, H⟩ := H
              replace H : (effect_Check.j3 kj28 t246 (!t255) a0_0 a0_1 a0_2 a0_3 a0_4 a0_5 a0_6 a0_7) = some r := H
              have A46 := Aside0.mk A460
              clear A460
              have H' := Aside0.mk H
              clear H
              obtain ⟨hcz47_0, hcz47_1, hcz47_2, hcz47_3, hcz47_4, hcz47_5, hcz47_6, hcz47_7, hfz47_0, hfz47_1, hfz47_2, hfz47_3, hfz47_4, hfz47_5, hfz47_6, hfz47_7⟩ := Z8 BK241.out
              go_wp2_with (first | ((with_reducible refine gate_callee (f := 65) rfl ?_); refine goesL_ (some 103) rfl rfl Tryz.func65 (by kernel_rfl) rfl #[.int .u8 a0_4, .bool t243, .int .u8 1, .int .u8 6] rfl Zl ?_; (with_reducible refine (api_Suit.calls a0_4 t243 1 6 true _ A42.out).mono ?_); rintro e w' ⟨rfl, ⟨nd, rfl⟩⟩; refine ⟨_, rfl, ?_⟩) | (go_at_call 66; (with_reducible refine (api_Trait.calls a0_5 t244 1 8 true _ A44.out).mono ?_); rintro e w' ⟨rfl, ⟨nd, rfl⟩⟩) | (go_at_call 67; (with_reducible refine (api_Mark.calls a0_6 t245 1 4 t255 _ A46.out).mono ?_); rintro e w' ⟨rfl, ⟨nd, rfl⟩⟩))
              go_meet
              case rel => exact ⟨_, (!t255), Zs, H', ⟨by have := HJ3.out; have := HJ18.out; have := HJ28.out; first | omega | exact Nat.le_refl _⟩, ⟨Zk BK241.out⟩, ⟨Zb1 GE241.out⟩⟩
             ·replace c45 := Bool.eq_false_iff.mpr c45
              subst c45
              have H1 : (effect_Check.j3 kj28 t246 true a0_0 a0_1 a0_2 a0_3 a0_4 a0_5 a0_6 a0_7) = some r := by rw [if_neg (show ¬ (false = true) by decide)] at H; exact H
              clear H
              have H := H1
              clear H1
              have H' := Aside0.mk H
              clear H
              obtain ⟨hcz48_0, hcz48_1, hcz48_2, hcz48_3, hcz48_4, hcz48_5, hcz48_6, hcz48_7, hfz48_0, hfz48_1, hfz48_2, hfz48_3, hfz48_4, hfz48_5, hfz48_6, hfz48_7⟩ := Z8 BK241.out
              go_wp2_with (first | ((with_reducible refine gate_callee (f := 65) rfl ?_); refine goesL_ (some 103) rfl rfl Tryz.func65 (by kernel_rfl) rfl #[.int .u8 a0_4, .bool t243, .int .u8 1, .int .u8 6] rfl Zl ?_; (with_reducible refine (api_Suit.calls a0_4 t243 1 6 true _ A42.out).mono ?_); rintro e w' ⟨rfl, ⟨nd, rfl⟩⟩; refine ⟨_, rfl, ?_⟩) | (go_at_call 66; (with_reducible refine (api_Trait.calls a0_5 t244 1 8 false _ A44.out).mono ?_); rintro e w' ⟨rfl, ⟨nd, rfl⟩⟩))
              go_meet
              case rel => exact ⟨_, (true), Zs, H', ⟨by have := HJ3.out; have := HJ18.out; have := HJ28.out; first | omega | exact Nat.le_refl _⟩, ⟨Zk BK241.out⟩, ⟨Zb1 GE241.out⟩⟩
            ·replace c43 := Bool.eq_false_iff.mpr c43
             subst c43
             have H1 : (effect_Check.j3 kj28 t246 true a0_0 a0_1 a0_2 a0_3 a0_4 a0_5 a0_6 a0_7) = some r := by rw [if_neg (show ¬ (false = true) by decide)] at H; exact H
             clear H
             have H := H1
             clear H1
             have H' := Aside0.mk H
             clear H
             obtain ⟨hcz49_0, hcz49_1, hcz49_2, hcz49_3, hcz49_4, hcz49_5, hcz49_6, hcz49_7, hfz49_0, hfz49_1, hfz49_2, hfz49_3, hfz49_4, hfz49_5, hfz49_6, hfz49_7⟩ := Z8 BK241.out
             go_wp2_with (first | ((with_reducible refine gate_callee (f := 65) rfl ?_); refine goesL_ (some 103) rfl rfl Tryz.func65 (by kernel_rfl) rfl #[.int .u8 a0_4, .bool t243, .int .u8 1, .int .u8 6] rfl Zl ?_; (with_reducible refine (api_Suit.calls a0_4 t243 1 6 false _ A42.out).mono ?_); rintro e w' ⟨rfl, ⟨nd, rfl⟩⟩; refine ⟨_, rfl, ?_⟩))
             go_meet
             case rel => exact ⟨_, (true), Zs, H', ⟨by have := HJ3.out; have := HJ18.out; have := HJ28.out; first | omega | exact Nat.le_refl _⟩, ⟨Zk BK241.out⟩, ⟨Zb1 GE241.out⟩⟩
           case rest =>
            clear HC41
            try clear c1
            try clear c2
            try clear p2
            try clear c3
            try clear c4
            try clear c5
            try clear c6
            try clear c7
            try clear c7b0
            try clear c9
            try clear c9b0
            try clear c11
            try clear c11b0
            try clear c13
            try clear c13b0
            try clear c15
            try clear c15b0
            try clear c18
            try clear c21
            try clear c22
            try clear c22b0
            try clear c22b1
            try clear c24
            try clear c26
            try clear c28
            try clear c33
            try clear c34
            try clear c35
            try clear c40
            try clear c43
            try clear c45
            try clear hcz10_0
            try clear hcz10_1
            try clear hcz10_2
            try clear hcz10_3
            try clear hcz10_4
            try clear hcz10_5
            try clear hcz10_6
            try clear hcz10_7
            try clear hcz12_0
            try clear hcz12_1
            try clear hcz12_2
            try clear hcz12_3
            try clear hcz12_4
            try clear hcz12_5
            try clear hcz12_6
            try clear hcz12_7
            try clear hcz14_0
            try clear hcz14_1
            try clear hcz14_2
            try clear hcz14_3
            try clear hcz14_4
            try clear hcz14_5
            try clear hcz14_6
            try clear hcz14_7
            try clear hcz16_0
            try clear hcz16_1
            try clear hcz16_2
            try clear hcz16_3
            try clear hcz16_4
            try clear hcz16_5
            try clear hcz16_6
            try clear hcz16_7
            try clear hcz17_0
            try clear hcz17_1
            try clear hcz17_2
            try clear hcz17_3
            try clear hcz17_4
            try clear hcz17_5
            try clear hcz17_6
            try clear hcz17_7
            try clear hcz23_0
            try clear hcz23_1
            try clear hcz23_2
            try clear hcz23_3
            try clear hcz23_4
            try clear hcz23_5
            try clear hcz23_6
            try clear hcz23_7
            try clear hcz24_0
            try clear hcz24_1
            try clear hcz24_2
            try clear hcz24_3
            try clear hcz24_4
            try clear hcz24_5
            try clear hcz24_6
            try clear hcz24_7
            try clear hcz25_0
            try clear hcz25_1
            try clear hcz25_2
            try clear hcz25_3
            try clear hcz25_4
            try clear hcz25_5
            try clear hcz25_6
            try clear hcz25_7
            try clear hcz30_0
            try clear hcz30_1
            try clear hcz30_2
            try clear hcz30_3
            try clear hcz30_4
            try clear hcz30_5
            try clear hcz30_6
            try clear hcz30_7
            try clear hcz36_0
            try clear hcz36_1
            try clear hcz36_2
            try clear hcz36_3
            try clear hcz36_4
            try clear hcz36_5
            try clear hcz36_6
            try clear hcz36_7
            try clear hcz37_0
            try clear hcz37_1
            try clear hcz37_2
            try clear hcz37_3
            try clear hcz37_4
            try clear hcz37_5
            try clear hcz37_6
            try clear hcz37_7
            try clear hcz38_0
            try clear hcz38_1
            try clear hcz38_2
            try clear hcz38_3
            try clear hcz38_4
            try clear hcz38_5
            try clear hcz38_6
            try clear hcz38_7
            try clear hcz39_0
            try clear hcz39_1
            try clear hcz39_2
            try clear hcz39_3
            try clear hcz39_4
            try clear hcz39_5
            try clear hcz39_6
            try clear hcz39_7
            try clear hcz47_0
            try clear hcz47_1
            try clear hcz47_2
            try clear hcz47_3
            try clear hcz47_4
            try clear hcz47_5
            try clear hcz47_6
            try clear hcz47_7
            try clear hcz48_0
            try clear hcz48_1
            try clear hcz48_2
            try clear hcz48_3
            try clear hcz48_4
            try clear hcz48_5
            try clear hcz48_6
            try clear hcz48_7
            try clear hcz49_0
            try clear hcz49_1
            try clear hcz49_2
            try clear hcz49_3
            try clear hcz49_4
            try clear hcz49_5
            try clear hcz49_6
            try clear hcz49_7
            try clear hcz6_0
            try clear hcz6_1
            try clear hcz6_2
            try clear hcz6_3
            try clear hcz6_4
            try clear hcz6_5
            try clear hcz6_6
            try clear hcz6_7
            try clear hcz8_0
            try clear hcz8_1
            try clear hcz8_2
            try clear hcz8_3
            try clear hcz8_4
            try clear hcz8_5
            try clear hcz8_6
            try clear hcz8_7
            try clear hfz10_0
            try clear hfz10_1
            try clear hfz10_2
            try clear hfz10_3
            try clear hfz10_4
            try clear hfz10_5
            try clear hfz10_6
            try clear hfz10_7
            try clear hfz12_0
            try clear hfz12_1
            try clear hfz12_2
            try clear hfz12_3
            try clear hfz12_4
            try clear hfz12_5
            try clear hfz12_6
            try clear hfz12_7
            try clear hfz14_0
            try clear hfz14_1
            try clear hfz14_2
            try clear hfz14_3
            try clear hfz14_4
            try clear hfz14_5
            try clear hfz14_6
            try clear hfz14_7
            try clear hfz16_0
            try clear hfz16_1
            try clear hfz16_2
            try clear hfz16_3
            try clear hfz16_4
            try clear hfz16_5
            try clear hfz16_6
            try clear hfz16_7
            try clear hfz17_0
            try clear hfz17_1
            try clear hfz17_2
            try clear hfz17_3
            try clear hfz17_4
            try clear hfz17_5
            try clear hfz17_6
            try clear hfz17_7
            try clear hfz23_0
            try clear hfz23_1
            try clear hfz23_2
            try clear hfz23_3
            try clear hfz23_4
            try clear hfz23_5
            try clear hfz23_6
            try clear hfz23_7
            try clear hfz24_0
            try clear hfz24_1
            try clear hfz24_2
            try clear hfz24_3
            try clear hfz24_4
            try clear hfz24_5
            try clear hfz24_6
            try clear hfz24_7
            try clear hfz25_0
            try clear hfz25_1
            try clear hfz25_2
            try clear hfz25_3
            try clear hfz25_4
            try clear hfz25_5
            try clear hfz25_6
            try clear hfz25_7
            try clear hfz30_0
            try clear hfz30_1
            try clear hfz30_2
            try clear hfz30_3
            try clear hfz30_4
            try clear hfz30_5
            try clear hfz30_6
            try clear hfz30_7
            try clear hfz36_0
            try clear hfz36_1
            try clear hfz36_2
            try clear hfz36_3
            try clear hfz36_4
            try clear hfz36_5
            try clear hfz36_6
            try clear hfz36_7
            try clear hfz37_0
            try clear hfz37_1
            try clear hfz37_2
            try clear hfz37_3
            try clear hfz37_4
            try clear hfz37_5
            try clear hfz37_6
            try clear hfz37_7
            try clear hfz38_0
            try clear hfz38_1
            try clear hfz38_2
            try clear hfz38_3
            try clear hfz38_4
            try clear hfz38_5
            try clear hfz38_6
            try clear hfz38_7
            try clear hfz39_0
            try clear hfz39_1
            try clear hfz39_2
            try clear hfz39_3
            try clear hfz39_4
            try clear hfz39_5
            try clear hfz39_6
            try clear hfz39_7
            try clear hfz47_0
            try clear hfz47_1
            try clear hfz47_2
            try clear hfz47_3
            try clear hfz47_4
            try clear hfz47_5
            try clear hfz47_6
            try clear hfz47_7
            try clear hfz48_0
            try clear hfz48_1
            try clear hfz48_2
            try clear hfz48_3
            try clear hfz48_4
            try clear hfz48_5
            try clear hfz48_6
            try clear hfz48_7
            try clear hfz49_0
            try clear hfz49_1
            try clear hfz49_2
            try clear hfz49_3
            try clear hfz49_4
            try clear hfz49_5
            try clear hfz49_6
            try clear hfz49_7
            try clear hfz6_0
            try clear hfz6_1
            try clear hfz6_2
            try clear hfz6_3
            try clear hfz6_4
            try clear hfz6_5
            try clear hfz6_6
            try clear hfz6_7
            try clear hfz8_0
            try clear hfz8_1
            try clear hfz8_2
            try clear hfz8_3
            try clear hfz8_4
            try clear hfz8_5
            try clear hfz8_6
            try clear hfz8_7
            try clear p2
            obtain ⟨kq, x99_40, rfl, HA, HJ40, BK241, HB⟩ := hcut
            cases kq with
            | zero => exact absurd HA.out (by simp [effect_Check.j3])
            | succ kj40 =>
             have H := HA.out
             clear HA
             simp only [effect_Check.j3] at H
             by_cases c50 : x99_40 = true
             ·subst c50
              have H1 : (some 2) = some r := by rw [if_pos rfl] at H; exact H
              clear H
              have H := H1
              clear H1
              obtain rfl := Option.some.inj H
              go_wp2
              go_ret
              exact ⟨Ze, Zb1 GE241.out⟩
             ·replace c50 := Bool.eq_false_iff.mpr c50
              subst c50
              have H1 : (if a0_7.toList = ([] : List UInt8) then (if t246 = true then (some 4) else (some 0)) else (if t246 = true then ((effect_name.f a0_7).bind fun t256 => (if t256 = true then (some 0) else (some 4))) else (some 4))) = some r := by rw [if_neg (show ¬ (false = true) by decide)] at H; exact H
              clear H
              have H := H1
              clear H1
              by_cases c51 : a0_7.toList = ([] : List UInt8)
              ·rw [if_pos c51] at H
               have c51b0 : (a0_7.toList == ([] : List UInt8)) = true := beq_iff_eq.mpr c51
               have c51b1 : (a0_7.toList != ([] : List UInt8)) = false := bne_eq_false_iff_eq.mpr c51
               clear c51
               by_cases c52 : t246 = true
               ·subst c52
                have H1 : (some 4) = some r := by rw [if_pos rfl] at H; exact H
                clear H
                have H := H1
                clear H1
                obtain rfl := Option.some.inj H
                obtain ⟨hcz53_0, hcz53_1, hcz53_2, hcz53_3, hcz53_4, hcz53_5, hcz53_6, hcz53_7, hfz53_0, hfz53_1, hfz53_2, hfz53_3, hfz53_4, hfz53_5, hfz53_6, hfz53_7⟩ := Z8 BK241.out
                go_wp2
                go_ret
                exact ⟨Ze, Zb1 GE241.out⟩
               ·replace c52 := Bool.eq_false_iff.mpr c52
                subst c52
                have H1 : (some 0) = some r := by rw [if_neg (show ¬ (false = true) by decide)] at H; exact H
                clear H
                have H := H1
                clear H1
                obtain rfl := Option.some.inj H
                obtain ⟨hcz54_0, hcz54_1, hcz54_2, hcz54_3, hcz54_4, hcz54_5, hcz54_6, hcz54_7, hfz54_0, hfz54_1, hfz54_2, hfz54_3, hfz54_4, hfz54_5, hfz54_6, hfz54_7⟩ := Z8 BK241.out
                go_wp2
                go_ret
                exact ⟨Ze, Zb1 GE241.out⟩
              ·rw [if_neg c51] at H
               have c51b0 : (a0_7.toList == ([] : List UInt8)) = false := beq_eq_false_iff_ne.mpr c51
               have c51b1 : (a0_7.toList != ([] : List UInt8)) = true := bne_iff_ne.mpr c51
               by_cases c55 : t246 = true
               ·subst c55
                have H1 : ((effect_name.f a0_7).bind fun t256 => (if t256 = true then (some 0) else (some 4))) = some r := by rw [if_pos rfl] at H; exact H
                clear H
                have H := H1
                clear H1
                replace H := Option.bind_eq_some_iff.mp H
                obtain ⟨t256, A560, H⟩ := H
                replace H : (if t256 = true then (some 0) else (some 4)) = some r := H
                have A56 := Aside0.mk A560
                clear A560
                by_cases c57 : t256 = true
                ·subst c57
                 have H1 : (some 0) = some r := by rw [if_pos rfl] at H; exact H
                 clear H
                 have H := H1
                 clear H1
                 obtain rfl := Option.some.inj H
                 obtain ⟨hcz58_0, hcz58_1, hcz58_2, hcz58_3, hcz58_4, hcz58_5, hcz58_6, hcz58_7, hfz58_0, hfz58_1, hfz58_2, hfz58_3, hfz58_4, hfz58_5, hfz58_6, hfz58_7⟩ := Z8 BK241.out
                 go_wp2_with (first | (go_at_call 68; (with_reducible refine (effect_name.calls a0_7 true _ A56.out).mono ?_); rintro e w59 ⟨rfl, hb⟩; replace BK241 := Aside0.mk (blk_below (Zj BK241.out) hb); replace HB := Aside0.mk (below_step (Zb1 GE241.out) hb); (try clear hb); (try clear hb2); (try clear hk); (try clear hi)))
                 go_ret
                 exact ⟨Ze, Zb1 GE241.out⟩
                ·replace c57 := Bool.eq_false_iff.mpr c57
                 subst c57
                 have H1 : (some 4) = some r := by rw [if_neg (show ¬ (false = true) by decide)] at H; exact H
                 clear H
                 have H := H1
                 clear H1
                 obtain rfl := Option.some.inj H
                 obtain ⟨hcz60_0, hcz60_1, hcz60_2, hcz60_3, hcz60_4, hcz60_5, hcz60_6, hcz60_7, hfz60_0, hfz60_1, hfz60_2, hfz60_3, hfz60_4, hfz60_5, hfz60_6, hfz60_7⟩ := Z8 BK241.out
                 go_wp2_with (first | (go_at_call 68; (with_reducible refine (effect_name.calls a0_7 false _ A56.out).mono ?_); rintro e w61 ⟨rfl, hb⟩; replace BK241 := Aside0.mk (blk_below (Zj BK241.out) hb); replace HB := Aside0.mk (below_step (Zb1 GE241.out) hb); (try clear hb); (try clear hb2); (try clear hk); (try clear hi)))
                 go_ret
                 exact ⟨Ze, Zb1 GE241.out⟩
               ·replace c55 := Bool.eq_false_iff.mpr c55
                subst c55
                have H1 : (some 4) = some r := by rw [if_neg (show ¬ (false = true) by decide)] at H; exact H
                clear H
                have H := H1
                clear H1
                obtain rfl := Option.some.inj H
                obtain ⟨hcz62_0, hcz62_1, hcz62_2, hcz62_3, hcz62_4, hcz62_5, hcz62_6, hcz62_7, hfz62_0, hfz62_1, hfz62_2, hfz62_3, hfz62_4, hfz62_5, hfz62_6, hfz62_7⟩ := Z8 BK241.out
                go_wp2
                go_ret
                exact ⟨Ze, Zb1 GE241.out⟩
       ·replace c28 := Bool.eq_false_iff.mpr c28
        subst c28
        have H1 : (some 13) = some r := by rw [if_neg (show ¬ (false = true) by decide)] at H; exact H
        clear H
        have H := H1
        clear H1
        obtain rfl := Option.some.inj H
        obtain ⟨hcz63_0, hcz63_1, hcz63_2, hcz63_3, hcz63_4, hcz63_5, hcz63_6, hcz63_7, hfz63_0, hfz63_1, hfz63_2, hfz63_3, hfz63_4, hfz63_5, hfz63_6, hfz63_7⟩ := Z8 BK241.out
        go_wp2_with (first | ((with_reducible refine gate_callee (f := 63) rfl ?_); refine goesL_ (some 77) rfl rfl Tryz.func63 (by kernel_rfl) rfl #[.agg #[.int .u8 a0_0, .int .u8 a0_1, .int .u8 a0_2, .int .i64 a0_3, .int .u8 a0_4, .int .u8 a0_5, .int .u8 a0_6, .string a0_7]] rfl Zl ?_; (with_reducible refine (effect_about.calls kj18 a0_0 a0_1 a0_2 a0_3 a0_4 a0_5 a0_6 a0_7 false _ A27.out).mono ?_); rintro e w64 ⟨rfl, hb⟩; refine ⟨_, rfl, ?_⟩; replace BK241 := Aside0.mk (blk_below (Zj BK241.out) hb); replace HB := Aside0.mk (below_step (Zb1 GE241.out) hb); (try clear hb); (try clear hb2); (try clear hk); (try clear hi)))
        go_ret
        exact ⟨Ze, Zb1 GE241.out⟩
end Go.Proofs.YtfpcideomanbbaaGreatDoor.PA
end
section
namespace Go.Proofs.YtfpcideomanbbaaGreatDoor.PA
open Go.RowKit Go.Proofs.YtfpcideomanbbaaGreatDoorW.PrintWords Go.Proofs.YtfpcideomanbbaaGreatDoorW.PrintLast Go.Proofs.YtfpcideomanbbaaGreatDoorW.PrintMore
def cntB (v : Int) : Bool := v == 1 || v == 2 || v == 3 || v == 4 || v == 5 || v == 7 || v == 9 || v == 14 || v == 15 || v == 16 || v == 19
def usesS (v h : Int) : Bool × Bool × Bool × Bool × Bool := (cntB v, h == 9 || v == 11 , h == 10 || (v == 12 || v == 13), v == 9, v == 7)
theorem range19 {v : Int} (h1 : 1 ≤ v) (h2 : v ≤ 19) : v = 1 ∨ v = 2 ∨ v = 3 ∨ v = 4 ∨ v = 5 ∨ v = 6 ∨ v = 7 ∨ v = 8 ∨ v = 9 ∨ v = 10 ∨ v = 11 ∨ v = 12 ∨ v = 13 ∨ v = 14 ∨ v = 15 ∨ v = 16 ∨ v = 17 ∨ v = 18 ∨ v = 19 := by omega
theorem uses_effect (v h : Int) (h1 : 1 ≤ v) (h2 : v ≤ 19) (k : Nat) : effect_Uses.f (k + 1) v h = some (usesS v h) := by
  rcases range19 h1 h2 with rfl | rfl | rfl | rfl | rfl | rfl | rfl | rfl | rfl | rfl | rfl | rfl | rfl | rfl | rfl | rfl | rfl | rfl | rfl <;> simp [effect_Uses.f, effect_Uses.j0, usesS, cntB]
def wantB (w v : Int) : Bool := if w = 5 then decide (10 ≤ v ∧ v ≤ 15) else if w = 6 then decide (16 ≤ v ∧ v ≤ 19) else decide (1 ≤ v ∧ v ≤ 9)
theorem want_effect (w v : Int) : effect_wanted.f w v = some (wantB w v) := by
  unfold effect_wanted.f effect_standing.f effect_swapping.f effect_event.f wantB
  by_cases a : w = 5
  · by_cases b : 10 ≤ v <;> simp [a, b]
  · by_cases a' : w = 6
    · by_cases b : 16 ≤ v <;> simp [a', b]
    · by_cases b : 1 ≤ v <;> simp [a, a', b]
def aboutB (w v h : Int) : Bool :=
  if 1 ≤ v ∧ v ≤ 9 then (if (h = 1 ∨ h = 2) ∧ (v = 6 ∨ v = 8 ∨ v = 9) then false else if h = 3 then w == 1 else true)
  else if 10 ≤ v ∧ v ≤ 15 then (if h = 1 ∨ h = 2 then false else h != 3)
  else h != 3
set_option maxHeartbeats 1000000 in
theorem about_effect (w v h c su tr mk : Int) (nm : ByteArray) (h1 : 1 ≤ v) (h2 : v ≤ 19) (k : Nat) : effect_about.f (k + 1) w v h c su tr mk nm = some (aboutB w v h) := by
  unfold effect_about.f aboutB
  simp only [effect_about.j0, effect_standing.f, effect_swapping.f]
  rcases range19 h1 h2 with rfl | rfl | rfl | rfl | rfl | rfl | rfl | rfl | rfl | rfl | rfl | rfl | rfl | rfl | rfl | rfl | rfl | rfl | rfl <;> by_cases a : h = 1 <;> by_cases b : h = 2 <;> by_cases d : h = 3 <;> simp [a, b, d] <;> omega
theorem suit_ok (u : Bool) (x m : Int) : api_Suit.f x u 1 m = some (if u = true then decide (1 ≤ x ∧ x ≤ m) else x == 0) := by
  unfold api_Suit.f; cases u <;> by_cases a : 1 ≤ x <;> simp [a]
theorem trait_ok (u : Bool) (x m : Int) : api_Trait.f x u 1 m = some (if u = true then decide (1 ≤ x ∧ x ≤ m) else x == 0) := by
  unfold api_Trait.f; cases u <;> by_cases a : 1 ≤ x <;> simp [a]
theorem mark_ok (u : Bool) (x m : Int) : api_Mark.f x u 1 m = some (if u = true then decide (1 ≤ x ∧ x ≤ m) else x == 0) := by
  unfold api_Mark.f; cases u <;> by_cases a : 1 ≤ x <;> simp [a]
def loI (v : Int) : Int := if v = 9 ∨ v = 15 then -99 else if v = 5 then -9 else if v = 14 then 0 else 1
def hiI (v : Int) : Int := if v = 5 then 9 else 99
theorem bounds_effect (v : Int) (k : Nat) : effect_bounds.f (k + 1) v = some (loI v, hiI v, v == 14) := by
  unfold effect_bounds.f loI hiI
  simp only [effect_bounds.j0]
  by_cases a : v = 9 <;> by_cases b : v = 15 <;> by_cases c : v = 5 <;> by_cases d : v = 14 <;> simp [a, b, c, d] <;> omega
def ctB (v c : Int) : Bool := if cntB v = true then decide (loI v ≤ c ∧ c ≤ hiI v) && (v == 14 || c != 0) else c == 0
end Go.Proofs.YtfpcideomanbbaaGreatDoor.PA
end
section
namespace Go.Proofs.YtfpcideomanbbaaGreatDoor.PA
open Go.RowKit Go.Proofs.YtfpcideomanbbaaGreatDoorW.PrintWords Go.Proofs.YtfpcideomanbbaaGreatDoorW.PrintLast Go.Proofs.YtfpcideomanbbaaGreatDoorW.PrintMore
def nmByte (b : UInt8) : Bool := (decide (97 ≤ b.toNat) && decide (b.toNat ≤ 122)) || b.toNat == 45
def nameB (s : ByteArray) : Bool := decide (1 ≤ s.size ∧ s.size ≤ 20) && (!(bt s 0 == 45) && s.data.toList.all nmByte)
theorem dropNil (p : UInt8 → Bool) : ∀ l : List UInt8, (l.dropWhile p = []) ↔ ∀ b ∈ l, p b = true
  | [] => by simp
  | a :: l => by
    have ih := dropNil p l
    cases h : p a <;> simp [List.dropWhile, h, ih]
theorem trimS_nil (l cs : List UInt8) : (Lib.trimS l cs = []) ↔ ∀ b ∈ l, cs.contains b = true := by
  unfold Lib.trimS Lib.trimLeftS Lib.trimRightS
  rw [dropNil]
  constructor
  · intro h b hb
    rcases Bool.eq_false_or_eq_true (cs.contains b) with hc | hc
    · exact hc
    · have hne : l.reverse.dropWhile (cs.contains ·) ≠ [] := by
        intro e
        rw [dropNil] at e
        rw [e b (by simpa using hb)] at hc; cases hc
      have h1 := List.head_dropWhile_not (cs.contains ·) hne
      have h2 := h _ (List.mem_reverse.2 (List.head_mem hne))
      have h3 := h1.symm.trans h2
      cases h3
  · intro h b hb
    have hb' := List.mem_reverse.1 hb
    exact h b (List.mem_reverse.1 ((List.dropWhile_sublist _).subset hb'))
def cutset : List UInt8 := [97, 98, 99, 100, 101, 102, 103, 104, 105, 106, 107, 108, 109, 110, 111, 112, 113, 114, 115, 116, 117, 118, 119, 120, 121, 122, 45]
theorem cutset_byte (b : UInt8) : cutset.contains b = nmByte b := by
  have h : ∀ n : Fin 256, cutset.contains (UInt8.ofNat n.val) = nmByte (UInt8.ofNat n.val) := by decide +kernel
  have := h ⟨b.toNat, b.toNat_lt⟩
  simpa using this
theorem name_effect (s : ByteArray) : effect_name.f s = some (nameB s) := by
  unfold effect_name.f nameB
  by_cases h1 : (s.size : Int) ≥ 1
  · rw [if_pos h1]
    by_cases h2 : (s.size : Int) ≤ 20
    · rw [if_pos h2, if_pos (by omega)]
      have hs : decide (1 ≤ s.size ∧ s.size ≤ 20) = true := decide_eq_true ⟨by omega, by omega⟩
      rw [hs]
      by_cases h3 : bt s 0 = 45
      · rw [if_pos h3]; simp [h3]
      · rw [if_neg h3]
        have hf : strings_Trim.f s (⟨#[97, 98, 99, 100, 101, 102, 103, 104, 105, 106, 107, 108, 109, 110, 111, 112, 113, 114, 115, 116, 117, 118, 119, 120, 121, 122, 45]⟩ : ByteArray) = some ⟨(Lib.trimS s.data.toList cutset).toArray⟩ := by
          unfold strings_Trim.f
          rw [if_pos ⟨by omega, by decide, by decide⟩]; rfl
        rw [hf]
        simp only [Option.bind_some, ByteArray.toList_eq]
        have hb : (bt s 0 == 45) = false := beq_eq_false_iff_ne.2 h3
        rw [hb]
        simp only [Bool.not_false, Bool.true_and]
        congr 1
        rw [Bool.eq_iff_iff, beq_iff_eq, trimS_nil, List.all_eq_true]
        simp only [cutset_byte]
    · rw [if_neg h2]
      have hs : decide (1 ≤ s.size ∧ s.size ≤ 20) = false := decide_eq_false (by omega)
      rw [hs]; rfl
  · rw [if_neg h1]
    have hs : decide (1 ≤ s.size ∧ s.size ≤ 20) = false := decide_eq_false (by omega)
    rw [hs]; rfl
def subB (u : Bool) (x m : Int) : Bool := if u = true then decide (1 ≤ x ∧ x ≤ m) else x == 0
def okB (w v h c su tr mk : Int) (nm : ByteArray) : Bool :=
  decide (1 ≤ w ∧ w ≤ 6 ∧ 1 ≤ v ∧ v ≤ 19 ∧ 1 ≤ h ∧ h ≤ 10) && (wantB w v && (!(v == 11 && h == 9) && (aboutB w v h && (ctB v c && (subB (usesS v h).2.1 su 6 && (subB (usesS v h).2.2.1 tr 8 && (subB (usesS v h).2.2.2.1 mk 4 &&
    (if (usesS v h).2.2.2.2 = true then nameB nm else nm.data.toList == []))))))))
theorem uses_total (v h : Int) (k : Nat) : ∃ u, effect_Uses.f (k + 1) v h = some u := by
  have hj : ∀ a b : Bool, ∃ u, effect_Uses.j0 (k + 1) h false false false false false v b = some u := by
    intro a b
    refine Option.isSome_iff_exists.1 ?_
    simp only [effect_Uses.j0]
    repeat' split
    all_goals rfl
  have hj' := hj true
  unfold effect_Uses.f
  by_cases c1 : v = 1
  · rw [if_pos c1]; exact hj' _
  rw [if_neg c1]
  by_cases c2 : v = 2
  · rw [if_pos c2]; exact hj' _
  rw [if_neg c2]
  by_cases c3 : v = 3
  · rw [if_pos c3]; exact hj' _
  rw [if_neg c3]
  by_cases c4 : v = 4
  · rw [if_pos c4]; exact hj' _
  rw [if_neg c4]
  by_cases c5 : v = 5
  · rw [if_pos c5]; exact hj' _
  rw [if_neg c5]
  by_cases c6 : v = 14
  · rw [if_pos c6]; exact hj' _
  rw [if_neg c6]
  by_cases c7 : v = 15
  · rw [if_pos c7]; exact hj' _
  rw [if_neg c7]
  by_cases c8 : v = 16
  · rw [if_pos c8]; exact hj' _
  rw [if_neg c8]
  exact hj' _
theorem empty_toList (s : ByteArray) : (s.toList = ([] : List UInt8)) = (s.data.toList = []) := by rw [ByteArray.toList_eq]
theorem nameB_empty (s : ByteArray) (h : s.data.toList = []) : nameB s = false := by
  have : s.size = 0 := by have := congrArg List.length h; simpa using this
  unfold nameB
  rw [this]; rfl
theorem within_eff (c : Int) (u : Bool) (lo hi : Int) : effect_within_int.f c u lo hi = some (if u = true then decide (lo ≤ c ∧ c ≤ hi) else c == 0) := by
  unfold effect_within_int.f; cases u <;> by_cases a : lo ≤ c <;> simp [a]
set_option maxHeartbeats 2000000 in
theorem check_effect (w v h c su tr mk : Int) (nm : ByteArray) (k : Nat) : ∃ e, effect_Check.f (k + 5) w v h c su tr mk nm = some e ∧ (e = 0 ↔ okB w v h c su tr mk nm = true) := by
  by_cases hr : 1 ≤ w ∧ w ≤ 6 ∧ 1 ≤ v ∧ v ≤ 19 ∧ 1 ≤ h ∧ h ≤ 10
  · obtain ⟨h1, h2, h3, h4, h5, h6⟩ := hr
    have hd : decide (h > 10) = false := decide_eq_false (by omega)
    have hok : decide (1 ≤ w ∧ w ≤ 6 ∧ 1 ≤ v ∧ v ≤ 19 ∧ 1 ≤ h ∧ h ≤ 10) = true := decide_eq_true ⟨h1, h2, h3, h4, h5, h6⟩
    unfold effect_Check.f
    rw [uses_effect v h h3 h4, bounds_effect]
    simp only [Option.bind_some]
    rw [if_neg (by omega), if_neg (by omega), if_neg (by omega), if_neg (by omega), if_neg (by omega), hd]
    unfold okB
    rw [hok]
    simp only [effect_Check.j0, effect_Check.j1, effect_Check.j2, effect_Check.j3, want_effect, about_effect _ _ _ _ _ _ _ _ h3 h4, suit_ok, trait_ok, mark_ok, within_eff, name_effect, Option.bind_some, empty_toList]
    rw [show (usesS v h).1 = cntB v from rfl]
    unfold subB ctB
    generalize (usesS v h).2.1 = u2
    generalize (usesS v h).2.2.1 = u3
    generalize (usesS v h).2.2.2.1 = u4
    generalize (usesS v h).2.2.2.2 = u5
    generalize wantB w v = b1
    generalize aboutB w v h = b2
    generalize (if u2 = true then decide (1 ≤ su ∧ su ≤ 6) else su == 0) = b3
    generalize (if u3 = true then decide (1 ≤ tr ∧ tr ≤ 8) else tr == 0) = b4
    generalize (if u4 = true then decide (1 ≤ mk ∧ mk ≤ 4) else mk == 0) = b5
    generalize decide (loI v ≤ c ∧ c ≤ hiI v) = b6
    cases b1
    · exact ⟨8, by simp, by simp⟩
    by_cases e1 : v = 11 ∧ h = 9
    · obtain ⟨rfl, rfl⟩ := e1
      exact ⟨8, by simp, by simp⟩
    have hj : (if v = 11 then (h == 9) else false) = false := by
      by_cases a : v = 11
      · rw [if_pos a]; exact beq_eq_false_iff_ne.2 (fun e => e1 ⟨a, e⟩)
      · rw [if_neg a]
    have hn : (!(v == 11 && h == 9)) = true := by
      by_cases a : v = 11
      · have : (h == 9) = false := beq_eq_false_iff_ne.2 (fun e => e1 ⟨a, e⟩)
        simp [this]
      · simp [a]
    rw [hn]
    have hj2 : ∀ (A B : Option Int), (if v = 11 then (if (h == 9) = true then A else B) else B) = B := by
      intro A B
      by_cases a : v = 11
      · have : (h == 9) = false := beq_eq_false_iff_ne.2 (fun e => e1 ⟨a, e⟩)
        rw [if_pos a, this, if_neg (by simp)]
      · rw [if_neg a]
    simp only [if_true, Bool.true_and, Bool.false_eq_true, if_false, hj2]
    cases b2
    · exact ⟨13, by simp, by simp⟩
    simp only [if_true, Bool.true_and]
    rw [show (c != 0) = !(c == 0) from rfl]
    generalize hcn : cntB v = b7
    generalize (v == 14) = b8
    generalize (c == 0) = b9
    by_cases he : nm.data.toList = []
    · rw [nameB_empty nm he]
      simp only [he, if_true]
      cases b7 <;> cases b6 <;> cases b8 <;> cases b9 <;> cases b3 <;> cases b4 <;> cases b5 <;> cases u5 <;> exact ⟨_, rfl, by decide⟩
    · have he' : (nm.data.toList == []) = false := beq_eq_false_iff_ne.2 he
      rw [he']
      simp only [if_neg he]
      generalize nameB nm = b10
      cases b7 <;> cases b6 <;> cases b8 <;> cases b9 <;> cases b3 <;> cases b4 <;> cases b5 <;> cases u5 <;> cases b10 <;> exact ⟨_, rfl, by decide⟩
  · have hok : decide (1 ≤ w ∧ w ≤ 6 ∧ 1 ≤ v ∧ v ≤ 19 ∧ 1 ≤ h ∧ h ≤ 10) = false := decide_eq_false hr
    unfold okB
    rw [hok, Bool.false_and]
    refine ⟨2, ?_, by simp⟩
    obtain ⟨u, hu⟩ := uses_total v h (k + 4)
    unfold effect_Check.f
    rw [hu, bounds_effect]
    simp only [Option.bind_some]
    by_cases c1 : w < 1
    · rw [if_pos c1]; simp [effect_Check.j0]
    rw [if_neg c1]
    by_cases c2 : w > 6
    · rw [if_pos c2]; simp [effect_Check.j0]
    rw [if_neg c2]
    by_cases c3 : v < 1
    · rw [if_pos c3]; simp [effect_Check.j0]
    rw [if_neg c3]
    by_cases c4 : v > 19
    · rw [if_pos c4]; simp [effect_Check.j0]
    rw [if_neg c4]
    by_cases c5 : h < 1
    · rw [if_pos c5]; simp [effect_Check.j0]
    rw [if_neg c5]
    have : decide (h > 10) = true := decide_eq_true (by omega)
    rw [this]; simp [effect_Check.j0]
end Go.Proofs.YtfpcideomanbbaaGreatDoor.PA
end
section
namespace Go.Proofs.YtfpcideomanbbaaGreatDoor.PA
open Go.RowKit Go.Proofs.YtfpcideomanbbaaGreatDoorW.PrintWords Go.Proofs.YtfpcideomanbbaaGreatDoorW.PrintLast Go.Proofs.YtfpcideomanbbaaGreatDoorW.PrintMore
def trait_Name.f (a0 : Int) : Option (ByteArray) := some (if 1 ≤ a0 ∧ a0 ≤ 8 then ⟨(traitNames.getD a0.toNat []).toArray⟩ else ⟨#[]⟩)
set_option maxHeartbeats 1000000 in
theorem trait_Name.calls (a0 : Int) (r : ByteArray) (w : World) (hG_ : GP w) (h : trait_Name.f a0 = some r) :
    Calls Tryz.prog 34 #[.int .u8 a0] w fun e w' => e = .returned (.string r) ∧ Drawn0 w w' := by
  unfold trait_Name.f at h
  obtain rfl := Option.some.inj h
  clear h
  by_cases h1 : 1 ≤ a0 ∧ a0 ≤ 8
  · rw [if_pos h1]
    obtain ⟨h1, h2⟩ := h1
    have hc := hG_.names a0.toNat (by omega)
    have g1 : decide (1 ≤ a0) = true := decide_eq_true h1
    have g2 : decide (a0 ≤ 8) = true := decide_eq_true h2
    have g3 : 0 ≤ a0 := by omega
    have g4 : a0 < 9 := by omega
    generalize (⟨(traitNames.getD a0.toNat []).toArray⟩ : ByteArray) = s at hc ⊢
    go_enter Tryz.func34, Tryz.ntmps34
    go_wp2
    go_ret
    exact ⟨rfl, Drawn0.refl _⟩
  · rw [if_neg h1]
    by_cases h2 : 1 ≤ a0
    · have g1 : decide (1 ≤ a0) = true := decide_eq_true h2
      have g2 : decide (a0 ≤ 8) = false := decide_eq_false (by omega)
      clear h1
      go_enter Tryz.func34, Tryz.ntmps34
      go_wp2
      go_ret
      exact ⟨rfl, Drawn0.refl _⟩
    · have g1 : decide (1 ≤ a0) = false := decide_eq_false h2
      clear h1
      go_enter Tryz.func34, Tryz.ntmps34
      go_wp2
      go_ret
      exact ⟨rfl, Drawn0.refl _⟩
def wWhens : List ByteArray := [(⟨#[112, 108, 97, 121, 101, 100]⟩ : ByteArray), (⟨#[98, 114, 111, 107, 101, 110]⟩ : ByteArray), (⟨#[98, 101, 103, 117, 110]⟩ : ByteArray), (⟨#[115, 116, 114, 117, 99, 107]⟩ : ByteArray), (⟨#[97, 108, 119, 97, 121, 115]⟩ : ByteArray), (⟨#[114, 97, 116, 104, 101, 114]⟩ : ByteArray)]
def wWhensText : ByteArray := (⟨#[112, 108, 97, 121, 101, 100, 32, 98, 114, 111, 107, 101, 110, 32, 98, 101, 103, 117, 110, 32, 115, 116, 114, 117, 99, 107, 32, 97, 108, 119, 97, 121, 115, 32, 114, 97, 116, 104, 101, 114]⟩ : ByteArray)
theorem wWhens_ascii : ∀ (j : Nat) b, wWhensText.data.toList[j]? = some b → b.toNat < 128 := ascii_of_all (by decide)
theorem wWhens_fields : ((Lib.fields wWhensText.data.toList).map fun l => Value.string ⟨l.toArray⟩).toArray = (wWhens.map Value.string).toArray := by kernel_rfl
theorem wWhens_len : (Lib.fields wWhensText.data.toList).length = 6 := by kernel_rfl
theorem wWhens_call (w : World) (hG : GP w) : Calls Tryz.prog 98 #[.string wWhensText] w fun e w' => e = .returned (.slice (some ⟨w.heap.size, 0, none⟩) 6 6) ∧ w' = w.alloc (.cells (wWhens.map Value.string).toArray 9) := by
  have h := Tryz.strings_Fields wWhensText w (by decide) wWhens_ascii hG.space
  rw [wWhens_len, wWhens_fields] at h
  exact h
def wVerbs : List ByteArray := [(⟨#[104, 97, 114, 109]⟩ : ByteArray), (⟨#[109, 101, 110, 100]⟩ : ByteArray), (⟨#[100, 114, 97, 119]⟩ : ByteArray), (⟨#[100, 114, 111, 112]⟩ : ByteArray), (⟨#[103, 97, 105, 110]⟩ : ByteArray), (⟨#[98, 114, 101, 97, 107]⟩ : ByteArray), (⟨#[99, 97, 108, 108]⟩ : ByteArray), (⟨#[98, 97, 99, 107]⟩ : ByteArray), (⟨#[112, 117, 116]⟩ : ByteArray), (⟨#[115, 101, 105, 122, 101]⟩ : ByteArray), (⟨#[100, 121, 101]⟩ : ByteArray), (⟨#[103, 114, 97, 110, 116]⟩ : ByteArray), (⟨#[115, 116, 114, 105, 112]⟩ : ByteArray), (⟨#[98, 97, 115, 101]⟩ : ByteArray), (⟨#[114, 97, 105, 115, 101]⟩ : ByteArray), (⟨#[108, 101, 115, 115]⟩ : ByteArray), (⟨#[116, 119, 105, 99, 101]⟩ : ByteArray), (⟨#[116, 117, 114, 110, 101, 100]⟩ : ByteArray), (⟨#[105, 110, 115, 116, 101, 97, 100]⟩ : ByteArray)]
def wVerbsText : ByteArray := (⟨#[104, 97, 114, 109, 32, 109, 101, 110, 100, 32, 100, 114, 97, 119, 32, 100, 114, 111, 112, 32, 103, 97, 105, 110, 32, 98, 114, 101, 97, 107, 32, 99, 97, 108, 108, 32, 98, 97, 99, 107, 32, 112, 117, 116, 32, 115, 101, 105, 122, 101, 32, 100, 121, 101, 32, 103, 114, 97, 110, 116, 32, 115, 116, 114, 105, 112, 32, 98, 97, 115, 101, 32, 114, 97, 105, 115, 101, 32, 108, 101, 115, 115, 32, 116, 119, 105, 99, 101, 32, 116, 117, 114, 110, 101, 100, 32, 105, 110, 115, 116, 101, 97, 100]⟩ : ByteArray)
theorem wVerbs_ascii : ∀ (j : Nat) b, wVerbsText.data.toList[j]? = some b → b.toNat < 128 := ascii_of_all (by decide)
theorem wVerbs_fields : ((Lib.fields wVerbsText.data.toList).map fun l => Value.string ⟨l.toArray⟩).toArray = (wVerbs.map Value.string).toArray := by kernel_rfl
theorem wVerbs_len : (Lib.fields wVerbsText.data.toList).length = 19 := by kernel_rfl
theorem wVerbs_call (w : World) (hG : GP w) : Calls Tryz.prog 98 #[.string wVerbsText] w fun e w' => e = .returned (.slice (some ⟨w.heap.size, 0, none⟩) 19 19) ∧ w' = w.alloc (.cells (wVerbs.map Value.string).toArray 9) := by
  have h := Tryz.strings_Fields wVerbsText w (by decide) wVerbs_ascii hG.space
  rw [wVerbs_len, wVerbs_fields] at h
  exact h
def wWhoms : List ByteArray := [(⟨#[121, 111, 117]⟩ : ByteArray), (⟨#[102, 111, 101]⟩ : ByteArray), (⟨#[105, 116]⟩ : ByteArray), (⟨#[115, 101, 108, 102]⟩ : ByteArray), (⟨#[121, 111, 117, 114, 115]⟩ : ByteArray), (⟨#[116, 104, 101, 105, 114, 115]⟩ : ByteArray), (⟨#[97, 108, 108]⟩ : ByteArray), (⟨#[114, 101, 115, 116]⟩ : ByteArray), (⟨#[100, 121, 101, 100]⟩ : ByteArray), (⟨#[119, 105, 116, 104]⟩ : ByteArray)]
def wWhomsText : ByteArray := (⟨#[121, 111, 117, 32, 102, 111, 101, 32, 105, 116, 32, 115, 101, 108, 102, 32, 121, 111, 117, 114, 115, 32, 116, 104, 101, 105, 114, 115, 32, 97, 108, 108, 32, 114, 101, 115, 116, 32, 100, 121, 101, 100, 32, 119, 105, 116, 104]⟩ : ByteArray)
theorem wWhoms_ascii : ∀ (j : Nat) b, wWhomsText.data.toList[j]? = some b → b.toNat < 128 := ascii_of_all (by decide)
theorem wWhoms_fields : ((Lib.fields wWhomsText.data.toList).map fun l => Value.string ⟨l.toArray⟩).toArray = (wWhoms.map Value.string).toArray := by kernel_rfl
theorem wWhoms_len : (Lib.fields wWhomsText.data.toList).length = 10 := by kernel_rfl
theorem wWhoms_call (w : World) (hG : GP w) : Calls Tryz.prog 98 #[.string wWhomsText] w fun e w' => e = .returned (.slice (some ⟨w.heap.size, 0, none⟩) 10 10) ∧ w' = w.alloc (.cells (wWhoms.map Value.string).toArray 9) := by
  have h := Tryz.strings_Fields wWhomsText w (by decide) wWhoms_ascii hG.space
  rw [wWhoms_len, wWhoms_fields] at h
  exact h
def effect_words.f  : Option (List ByteArray × List ByteArray × List ByteArray) := some (wWhens, wVerbs, wWhoms)
theorem own_strings {w : World} {base : Nat} (l : List ByteArray) (n : Nat) (hn : l.length = n) (hb : base ≤ w.heap.size) (hm : n ≤ maxLen) (ok : Nat → Prop) (hok : ok w.heap.size) :
    Kd.R Kd.string 9 (w.alloc (.cells (l.map Value.string).toArray 9)) base ok (.slice (some ⟨w.heap.size, 0, none⟩) n n) l := by
  subst hn
  have ho := World.ownsRow_lit (base := base) (e := 9) (size := 1) w (l.map Value.string).toArray l.length hb hm (by simp)
  refine Kd.R_of_own (by simpa [encs] using ho) (fun k hk => ?_)
  have : w.heap.size = k := by simpa [Value.ownBlock] using hk
  exact this ▸ hok
set_option maxHeartbeats 2000000 in
set_option maxRecDepth 100000 in
theorem effect_words.calls  (r1 : List ByteArray) (r2 : List ByteArray) (r3 : List ByteArray) (w : World) (hG_ : GP w) (h : effect_words.f  = some (r1, r2, r3)) :
    Calls Tryz.prog 51 #[] w fun e w' => ∃ v0_ v1_ v2_ : Value, e = .returned (.agg #[v0_, v1_, v2_]) ∧ Kd.R Kd.string 9 w' w.heap.size (fun k_ => some k_ ≠ (v1_ : Value).ownBlock ∧ some k_ ≠ (v2_ : Value).ownBlock) v0_ r1 ∧ Kd.R Kd.string 9 w' w.heap.size (fun k_ => some k_ ≠ (v0_ : Value).ownBlock ∧ some k_ ≠ (v2_ : Value).ownBlock) v1_ r2 ∧ Kd.R Kd.string 9 w' w.heap.size (fun k_ => some k_ ≠ (v0_ : Value).ownBlock ∧ some k_ ≠ (v1_ : Value).ownBlock) v2_ r3 ∧ Below w.heap.size w w' := by
  unfold effect_words.f at h
  injection h with h
  injection h with h1 h2
  injection h2 with h2 h3
  subst h1 h2 h3
  have HG := Lib.hid hG_
  clear hG_
  go_enter Tryz.func51, Tryz.ntmps51
  have hu74 := Tryz.underlying74
  have hu63 := Tryz.underlying63
  go_wp2_with fail
  refine (wWhens_call _ (GP_below HG.out ((Below.refl _ _).alloc (Nat.le_refl _) _))).mono ?_
  rintro e w' ⟨rfl, rfl⟩
  go_wp2_with fail
  refine (wVerbs_call _ (GP_below HG.out (((Below.refl _ _).alloc (Nat.le_refl _) _).alloc (by simp) _))).mono ?_
  rintro e w' ⟨rfl, rfl⟩
  go_wp2_with fail
  refine (wWhoms_call _ (GP_below HG.out ((((Below.refl _ _).alloc (Nat.le_refl _) _).alloc (by simp) _).alloc (by simp; omega) _))).mono ?_
  rintro e w' ⟨rfl, rfl⟩
  go_wp2
  refine bodyPost_ret (v := .agg #[.slice (some ⟨w.heap.size + 1, 0, none⟩) 6 6, .slice (some ⟨w.heap.size + 1 + 1, 0, none⟩) 19 19, .slice (some ⟨w.heap.size + 1 + 1 + 1, 0, none⟩) 10 10]) (by simp [results, Tryz.results51, go_sem]) rfl ⟨_, _, _, rfl, ?_, ?_, ?_, ?_⟩
  · have h := own_strings (w := w.alloc (.cells #[.slice (some ⟨w.heap.size + 1, 0, none⟩) 6 6, .slice (some ⟨w.heap.size + 1 + 1, 0, none⟩) 19 19, .slice (some ⟨w.heap.size + 1 + 1 + 1, 0, none⟩) 10 10] 74)) (base := w.heap.size) wWhens 6 rfl (by simp) (by unfold maxLen; omega) (fun k_ => some k_ ≠ some (w.heap.size + 1 + 1) ∧ some k_ ≠ some (w.heap.size + 1 + 1 + 1)) (by simp)
    rw [World.size_alloc] at h
    exact Kd.R_alloc (Kd.R_alloc h _) _
  · have h := own_strings (w := (w.alloc (.cells #[.slice (some ⟨w.heap.size + 1, 0, none⟩) 6 6, .slice (some ⟨w.heap.size + 1 + 1, 0, none⟩) 19 19, .slice (some ⟨w.heap.size + 1 + 1 + 1, 0, none⟩) 10 10] 74)).alloc (.cells (wWhens.map Value.string).toArray 9)) (base := w.heap.size) wVerbs 19 rfl (by simp; omega) (by unfold maxLen; omega) (fun k_ => some k_ ≠ some (w.heap.size + 1) ∧ some k_ ≠ some (w.heap.size + 1 + 1 + 1)) (by simp)
    rw [World.size_alloc, World.size_alloc] at h
    exact Kd.R_alloc h _
  · have h := own_strings (w := ((w.alloc (.cells #[.slice (some ⟨w.heap.size + 1, 0, none⟩) 6 6, .slice (some ⟨w.heap.size + 1 + 1, 0, none⟩) 19 19, .slice (some ⟨w.heap.size + 1 + 1 + 1, 0, none⟩) 10 10] 74)).alloc (.cells (wWhens.map Value.string).toArray 9)).alloc (.cells (wVerbs.map Value.string).toArray 9)) (base := w.heap.size) wWhoms 10 rfl (by simp; omega) (by unfold maxLen; omega) (fun k_ => some k_ ≠ some (w.heap.size + 1) ∧ some k_ ≠ some (w.heap.size + 1 + 1)) (by simp; omega)
    rw [World.size_alloc, World.size_alloc, World.size_alloc] at h
    exact h
  · exact (((((Below.refl _ _).alloc (Nat.le_refl _) _).alloc (by simp) _).alloc (by simp; omega) _).alloc (by simp; omega) _)
end Go.Proofs.YtfpcideomanbbaaGreatDoor.PA
end
section
namespace Go.Proofs.YtfpcideomanbbaaGreatDoor.PA
open Go.RowKit Go.Shelf Go.Proofs.YtfpcideomanbbaaGreatDoorW.PrintWords Go.Proofs.YtfpcideomanbbaaGreatDoorW.PrintLast Go.Proofs.YtfpcideomanbbaaGreatDoorW.PrintMore
def suitNames : List ByteArray := [(⟨#[97, 105, 114]⟩ : ByteArray), (⟨#[101, 97, 114, 116, 104]⟩ : ByteArray), (⟨#[102, 105, 114, 101]⟩ : ByteArray), (⟨#[119, 97, 116, 101, 114]⟩ : ByteArray), (⟨#[118, 111, 105, 100]⟩ : ByteArray), (⟨#[103, 111, 108, 100]⟩ : ByteArray)]
def suit_Of.f (a0 : ByteArray) : Option (Int × Bool) := some (if Lib.idxOfS suitNames a0 = -1 then (0, false) else (Lib.idxOfS suitNames a0 + 1, true))
attribute [local go_sem] Oper.semAt_some
theorem eqOfToListS {a b : ByteArray} (h : a.toList = b.toList) : a = b := by
  rw [ByteArray.toList_eq, ByteArray.toList_eq] at h
  exact ByteArray.ext (Array.toList_inj.1 h)
theorem cellBoxS {W : World} {B : Nat} {v : Value} {t : TypeId} (h : W.heap[B]? = some (.cells #[v] t (0, 0))) : W.cell? ⟨B, 0, none⟩ = some v ∧ W.frozen? ⟨B, 0, none⟩ = false := by
  constructor <;> simp [World.cell?, World.frozen?, h]
theorem cellNewS (W : World) (v : Value) (t : TypeId) : (W.alloc (.cells #[v] t)).cell? ⟨W.heap.size, 0, none⟩ = some v ∧ (W.alloc (.cells #[v] t)).frozen? ⟨W.heap.size, 0, none⟩ = false :=
  cellBoxS (World.alloc_heap_new W _)
theorem cellAllocS {W : World} {a : Addr} {v : Value} (o : Obj) (h : W.cell? a = some v) : (W.alloc o).cell? a = some v := cell_kept h (World.grownBy_alloc W o none) (fun r e => by cases e)
theorem frozenAllocS {W : World} {a : Addr} {v : Value} (o : Obj) (h : W.cell? a = some v) (hf : W.frozen? a = false) : (W.alloc o).frozen? a = false := (frozen_kept h (World.grownBy_alloc W o none) (fun r e => by cases e)).trans hf
def suitWord (x : Int) : ByteArray := if x = 1 then (⟨#[97, 105, 114]⟩ : ByteArray) else if x = 2 then (⟨#[101, 97, 114, 116, 104]⟩ : ByteArray) else if x = 3 then (⟨#[102, 105, 114, 101]⟩ : ByteArray) else if x = 4 then (⟨#[119, 97, 116, 101, 114]⟩ : ByteArray) else if x = 5 then (⟨#[118, 111, 105, 100]⟩ : ByteArray) else if x = 6 then (⟨#[103, 111, 108, 100]⟩ : ByteArray) else (⟨#[]⟩ : ByteArray)
theorem suitWord_name (x : Int) : suit_Name.f x = some (suitWord x) := by
  unfold suit_Name.f suitWord
  repeat' split
  all_goals rfl
def suitsTo (k : Nat) : List Int := (List.range k).map fun j : Nat => ((j : Int) + 1)
theorem suitsTo_succ (k : Nat) : suitsTo (k + 1) = suitsTo k ++ [(k : Int) + 1] := by simp [suitsTo, List.range_succ]
theorem suitsTo_length (k : Nat) : (suitsTo k).length = k := by simp [suitsTo]
set_option maxRecDepth 100000 in
set_option maxHeartbeats 2000000 in
theorem suitAll1_in (F : Fence) (n : Nat) (h7 : F.fn 132) (hro : F.round = none) (hn : 1 ≤ n) (l : Nat) (n₀ : Nat) (J Jx : List Int → World → Prop)
    (hY : ∀ pre x W, J pre W → pre.length < 6 → YieldAt F (n - 1) Tryz.prog l #[.int .u8 x] W fun e W' =>
      (e = .returned (.bool true) ∧ J (pre ++ [x]) W' ∧ Below n₀ W W') ∨ (e = .returned (.bool false) ∧ Jx (pre ++ [x]) W'))
    (W : World) (h0 : J [] W) :
    CallsIn F n Tryz.prog 132 #[.func (.yield l) #[] #[]] W fun e W' => (∃ v, e = .returned v) ∧
      ((∃ ys, ys = suitsTo 6 ∧ J ys W') ∨ (∃ pre, (∃ k, k ≤ 6 ∧ pre = suitsTo k) ∧ Jx pre W')) := by
  refine callsIn_of_wp Tryz.func132 rfl h7 ?_ hro
  simp only [Tryz.ntmps132, List.size_toArray, List.length_cons, List.length_nil, Nat.reduceAdd, Nat.reduceSub, Array.replicate_succ, Array.replicate_zero, List.push_toArray, List.append_toArray, List.nil_append, List.cons_append]
  gi_wp2
  gi_loopw [2] (fun i wr => ∃ k : Nat, k ≤ 6 ∧ i = .int .u8 ((k : Int) + 1) ∧ J (suitsTo k) wr)
    (fun i _ => 7 - (intOf i).toNat)
  case atStart => exact ⟨0, Nat.zero_le _, rfl, h0⟩
  case round =>
    obtain ⟨k, hk, rfl, hJs⟩ := hrel
    by_cases hlt : k < 6
    · obtain ⟨fn, tmps, assign, body, hy, hR⟩ := hY _ ((k : Int) + 1) wr hJs (by rw [suitsTo_length]; exact hlt)
      have hle : ((k : Int) + 1 ≤ 6) = True := eq_true (by omega)
      have hle' : decide ((k : Int) + 1 ≤ 6) = true := decide_eq_true (by omega)
      gi_wp2
      refine hR.mono ?_
      rintro e W3 (⟨rfl, hJ3, hk3⟩ | ⟨rfl, hJx3⟩)
      · gi_wp2
        go_roundw
        case rel => exact ⟨k + 1, by omega, by rw [show (((k + 1 : Nat) : Int)) = (k : Int) + 1 from rfl], by rw [suitsTo_succ]; exact hJ3⟩
        case measure => simp [intOf]; omega
      · gi_wp2
        refine bodyPost_ret (results_none rfl _ _ _) rfl ?_
        exact ⟨⟨_, rfl⟩, .inr ⟨_, ⟨k + 1, by omega, (suitsTo_succ _).symm⟩, hJx3⟩⟩
    · obtain rfl : k = 6 := by omega
      gi_wp2
      go_end0
      exact ⟨⟨_, rfl⟩, .inl ⟨_, rfl, hJs⟩⟩
theorem suitAll_stops (F : Fence) (n : Nat) (h7 : F.fn 132) (hro : F.round = none) (hn : 1 ≤ n) (n₀ : Nat) (w : World) :
    SeqStopsK F n Tryz.prog 132 #[] (fun x : Int => #[Value.int .u8 x]) (Below n₀) (fun ys => ys = suitsTo 6) (fun pre => ∃ k, k ≤ 6 ∧ pre = suitsTo k) 6 w := fun l J Jx W _ _ _ hY h0 =>
  suitAll1_in F n h7 hro hn l n₀ J Jx hY W h0
set_option maxHeartbeats 1000000 in
theorem suitAll_in (F : Fence) (n : Nat) (h7 : F.fn 101) (hro : F.round = none) (w : World) :
    CallsIn F n Tryz.prog 101 #[] w fun e w' => e = .returned (.func (.func 132) #[] #[]) ∧ w' = w := by
  refine callsIn_of_wp Tryz.func101 rfl h7 ?_ hro
  simp only [Tryz.ntmps101, List.size_toArray, List.length_cons, List.length_nil, Nat.reduceAdd, Nat.reduceSub, Array.replicate_succ, Array.replicate_zero, List.push_toArray, List.append_toArray, List.nil_append, List.cons_append]
  gi_wp2
  go_ret
  exact ⟨rfl, rfl⟩
theorem suit_Of.found {q : List Int} {x : Int} {k : Nat} {a0 : ByteArray} (hk : k ≤ 6) (hp : suitsTo k = q ++ [x]) (hq : ∀ y ∈ q, suitWord y ≠ a0) (hx : suitWord x = a0) : suit_Of.f a0 = some (x, true) := by
  match k, hk with
  | 0, _ => simp [suitsTo] at hp
  | k + 1, hk =>
    rw [suitsTo_succ] at hp
    obtain ⟨rfl, he⟩ := List.append_inj' hp rfl
    have he' : (k : Int) + 1 = x := by simpa using he
    subst he'
    subst hx
    have hcase : k = 0 ∨ k = 1 ∨ k = 2 ∨ k = 3 ∨ k = 4 ∨ k = 5 := by omega
    rcases hcase with rfl | rfl | rfl | rfl | rfl | rfl <;> decide
theorem suit_Of.missed {a0 : ByteArray} (hq : ∀ y ∈ suitsTo 6, suitWord y ≠ a0) : suit_Of.f a0 = some (0, false) := by
  have h : Lib.idxOfS suitNames a0 = -1 := by
    have := Lib.idxOfS_miss suitNames 6 a0 (fun j hj e => by
      have hcase : j = 0 ∨ j = 1 ∨ j = 2 ∨ j = 3 ∨ j = 4 ∨ j = 5 := by omega
      refine hq ((j : Int) + 1) (by simp only [suitsTo, List.mem_map, List.mem_range]; exact ⟨j, hj, rfl⟩) ?_
      rw [← e]
      rcases hcase with rfl | rfl | rfl | rfl | rfl | rfl <;> decide)
    simpa [suitNames] using this
  simp [suit_Of.f, h]
set_option maxRecDepth 100000 in
set_option maxHeartbeats 2000000 in
theorem suit_Of.calls (a0 : ByteArray) (r1 : Int) (r2 : Bool) (w : World) (h : suit_Of.f a0 = some (r1, r2)) :
    Calls Tryz.prog 56 #[.string a0] w fun e w' => e = .returned (.tuple #[.int .u8 r1, .bool r2]) ∧ Below w.heap.size w w' := by
  refine (callsIn_wide (n := 3)).1 ?_
  have hro : Fence.wide.round = none := rfl
  have h1 : 1 ≤ 3 := by omega
  refine callsIn_of_wp_marks Tryz.func56 rfl trivial ?_ hro
  simp only [Tryz.ntmps56, List.size_toArray, List.length_cons, List.length_nil, Nat.reduceAdd, Nat.reduceSub, Array.replicate_succ, Array.replicate_zero, List.push_toArray, List.append_toArray, List.nil_append, List.cons_append]
  gi_wp2_with (refine ⟨trivial, ?_⟩; gi_at_call 101; refine (suitAll_in Fence.wide _ trivial hro _).mono ?_; rintro e w' ⟨rfl, rfl⟩)
  have c0 := cellNewS w (.string a0) 9
  have c1 := cellNewS (w.alloc (.cells #[.string a0] 9)) (.int .u8 0) 22
  have c2 := cellNewS ((w.alloc (.cells #[.string a0] 9)).alloc (.cells #[.int .u8 0] 22)) (.bool false) 4
  simp only [World.size_alloc] at c1 c2
  have hB0 : Below w.heap.size w (((w.alloc (.cells #[.string a0] 9)).alloc (.cells #[.int .u8 0] 22)).alloc (.cells #[.bool false] 4)) := (((Below.refl _ w).alloc (Nat.le_refl _) _).alloc (by simp) _).alloc (by simp; omega) _
  refine wpIn_rangeFunc_ownF hro h1 (gf := 132) (lb := #[]) rfl trivial (enters_of Tryz.func132 (by kernel_rfl) rfl)
    (suitAll_stops Fence.wide _ trivial hro (by omega) w.heap.size _) belowK_t (belowK_b (by simp; omega)) (Below.refl _ _) (fun _ => rfl)
    (fun pre W => ((∀ y ∈ pre, suitWord y ≠ a0) ∧ W.cell? ⟨w.heap.size, 0, none⟩ = some (.string a0) ∧ (W.cell? ⟨w.heap.size + 1, 0, none⟩ = some (.int .u8 0) ∧ W.frozen? ⟨w.heap.size + 1, 0, none⟩ = false) ∧ W.cell? ⟨w.heap.size + 1 + 1, 0, none⟩ = some (.bool false) ∧ W.frozen? ⟨w.heap.size + 1 + 1, 0, none⟩ = false) ∧ Below w.heap.size w W)
    (fun c pre W => (c = .ret ∧ ∃ q x, pre = q ++ [x] ∧ (∀ y ∈ q, suitWord y ≠ a0) ∧ suitWord x = a0 ∧ W.cell? ⟨w.heap.size + 1, 0, none⟩ = some (.int .u8 x) ∧ W.cell? ⟨w.heap.size + 1 + 1, 0, none⟩ = some (.bool true)) ∧ Below w.heap.size w W)
    (OwnFrom.and (Own.from (fun s A B row hs hg hr => ⟨hs.1, cell_kept hs.2.1 hg hr, ⟨cell_kept hs.2.2.1.1 hg hr, (frozen_kept hs.2.2.1.1 hg hr).trans hs.2.2.1.2⟩, cell_kept hs.2.2.2.1 hg hr, (frozen_kept hs.2.2.2.1 hg hr).trans hs.2.2.2.2⟩) _) (ownFrom_below (Nat.le_refl _) (by simp; omega)))
    (fun c => OwnFrom.and (Own.from (fun s A B row hs hg hr => by obtain ⟨hc, q, x, e1, e2, e3, e4, e5⟩ := hs; exact ⟨hc, q, x, e1, e2, e3, cell_kept e4 hg hr, cell_kept e5 hg hr⟩) _) (ownFrom_below (Nat.le_refl _) (by simp; omega)))
    ⟨⟨by simp, cellAllocS _ (cellAllocS _ c0.1), ⟨cellAllocS _ c1.1, frozenAllocS _ c1.1 c1.2⟩, c2.1, c2.2⟩, hB0⟩
    (fun x => { tmps := #[.string a0, .pointer (some ⟨w.heap.size, 0, none⟩), .pointer (some ⟨w.heap.size + 1, 0, none⟩), .pointer (some ⟨w.heap.size + 1 + 1, 0, none⟩), .int .u8 x, .func (.func 132) #[] #[], .int .u8 x, undef, undef, undef, undef, undef], defers := [] }) ?assign ?body ?done ?stop
  case assign =>
    intro l x W K hK
    gi_wp2
    exact hK
  case body =>
    rintro l pre x W ⟨⟨hp, hcn, ⟨hcs, hfs⟩, hcb, hfb⟩, hB⟩ _
    have hmx : Tryz.prog.follows .mixedOrders = true := by kernel_rfl
    have hd : 1 ≤ 3 - 1 - 1 := by omega
    have hbeq : ∀ a b : ByteArray, (a.toList == b.toList) = true → a = b := fun a b e => eqOfToListS (eq_of_beq e)
    have hret : ∀ m, suitWord x = a0 → KeepsOthers W (((W.drewN m).setCell ⟨w.heap.size + 1, 0, none⟩ (.int .u8 x)).setCell ⟨w.heap.size + 1 + 1, 0, none⟩ (.bool true)) ∧
        (∃ q x', pre ++ [x] = q ++ [x'] ∧ (∀ y ∈ q, suitWord y ≠ a0) ∧ suitWord x' = a0 ∧
          (((W.drewN m).setCell ⟨w.heap.size + 1, 0, none⟩ (.int .u8 x)).setCell ⟨w.heap.size + 1 + 1, 0, none⟩ (.bool true)).cell? ⟨w.heap.size + 1, 0, none⟩ = some (.int .u8 x') ∧
          (((W.drewN m).setCell ⟨w.heap.size + 1, 0, none⟩ (.int .u8 x)).setCell ⟨w.heap.size + 1 + 1, 0, none⟩ (.bool true)).cell? ⟨w.heap.size + 1 + 1, 0, none⟩ = some (.bool true)) ∧
        Below w.heap.size w (((W.drewN m).setCell ⟨w.heap.size + 1, 0, none⟩ (.int .u8 x)).setCell ⟨w.heap.size + 1 + 1, 0, none⟩ (.bool true)) := by
      intro m hx
      have hcs' : (W.drewN m).cell? ⟨w.heap.size + 1, 0, none⟩ = some (.int .u8 0) := hcs
      have hcb' : (W.drewN m).cell? ⟨w.heap.size + 1 + 1, 0, none⟩ = some (.bool false) := hcb
      have hBd : Below w.heap.size w (W.drewN m) := hB.trans ((Drawn0.step (Drawn0.refl W) m).below.mono hB.size)
      refine ⟨((KeepsOthers.mk (Nat.le_refl _) (fun _ _ h _ => h) : KeepsOthers W (W.drewN m)).trans (KeepsOthers.setCell _ _ _)).trans (KeepsOthers.setCell _ _ _), ⟨pre, x, rfl, hp, hx, ?_, ?_⟩, (hBd.setCell (p := ⟨w.heap.size + 1, 0, none⟩) (by simp) _).setCell (p := ⟨w.heap.size + 1 + 1, 0, none⟩) (by simp; omega) _⟩
      · rw [World.cell?_setCell_other _ _ _ _ (by simp)]; exact World.cell?_setCell_same' _ _ _ (by rw [hcs']; rfl)
      · exact World.cell?_setCell_same' _ _ _ (by rw [World.cell?_setCell_other _ _ _ _ (by simp), hcb']; rfl)
    have hnorm : ∀ m, suitWord x ≠ a0 → KeepsOthers W (W.drewN m) ∧ Below w.heap.size W (W.drewN m) ∧
        ((∀ y ∈ pre ++ [x], suitWord y ≠ a0) ∧ (W.drewN m).cell? ⟨w.heap.size, 0, none⟩ = some (.string a0) ∧ ((W.drewN m).cell? ⟨w.heap.size + 1, 0, none⟩ = some (.int .u8 0) ∧ (W.drewN m).frozen? ⟨w.heap.size + 1, 0, none⟩ = false) ∧ (W.drewN m).cell? ⟨w.heap.size + 1 + 1, 0, none⟩ = some (.bool false) ∧ (W.drewN m).frozen? ⟨w.heap.size + 1 + 1, 0, none⟩ = false) ∧
        Below w.heap.size w (W.drewN m) := by
      intro m hx
      have hBd : Below w.heap.size W (W.drewN m) := (Drawn0.step (Drawn0.refl W) m).below.mono hB.size
      exact ⟨KeepsOthers.mk (Nat.le_refl _) (fun _ _ h _ => h), hBd, ⟨fun y hy => (List.mem_append.1 hy).elim (hp y) (fun e => by simp at e; subst e; exact hx), hcn, ⟨hcs, hfs⟩, hcb, hfb⟩, hB.trans hBd⟩
    gi_wp2
    gi_region_with_o (refine ⟨trivial, ?_⟩; gi_at_call 30; refine (CallsIn.inRound l (callsIn_wide.2 (suit_Name.calls x (suitWord x) _ (suitWord_name x)))).mono ?_; rintro e w' ⟨rfl, ⟨nd, rfl⟩⟩)
    all_goals gi_wp2
    all_goals (try go_bits)
    all_goals first
      | exact hnorm _ (by rename_i hx; exact fun e => by rw [e, beq_self_eq_true] at hx; cases hx)
      | (rename_i hx; have hz := hret (1 + nd) (hbeq _ _ hx); exact ⟨hz.1, ⟨rfl, hz.2.1⟩, hz.2.2⟩)
  case done =>
    rintro D ys W hD rfl ⟨⟨hne, _, ⟨hcs, hfs⟩, hcb, hfb⟩, hB⟩ hK
    gi_wp2
    have hcb1 : (W.setCell ⟨w.heap.size + 1, 0, none⟩ (.int .u8 0)).cell? ⟨w.heap.size + 1 + 1, 0, none⟩ = some (.bool false) := by rw [World.cell?_setCell_other _ _ _ _ (by simp)]; exact hcb
    have hcs2 : ((W.setCell ⟨w.heap.size + 1, 0, none⟩ (.int .u8 0)).setCell ⟨w.heap.size + 1 + 1, 0, none⟩ (.bool false)).cell? ⟨w.heap.size + 1, 0, none⟩ = some (.int .u8 0) := by
      rw [World.cell?_setCell_other _ _ _ _ (by simp)]; exact World.cell?_setCell_same' _ _ _ (by rw [hcs]; rfl)
    have hcb2 : ((W.setCell ⟨w.heap.size + 1, 0, none⟩ (.int .u8 0)).setCell ⟨w.heap.size + 1 + 1, 0, none⟩ (.bool false)).cell? ⟨w.heap.size + 1 + 1, 0, none⟩ = some (.bool false) := World.cell?_setCell_same' _ _ _ (by rw [hcb1]; rfl)
    have hK' := ((KeepsOthers.setCell W ⟨w.heap.size + 1, 0, none⟩ (.int .u8 0)).trans (KeepsOthers.setCell _ ⟨w.heap.size + 1 + 1, 0, none⟩ (.bool false))).same D _ hK rfl
    refine ⟨by simp, .inl ⟨_, _, rfl, run_takeDeferred hK', ?_⟩⟩
    have hc5 := cell_kept hcs2 (grownBy_putObj' _ D (.deferred none)) (fun r e => by cases e; exact ⟨_, hK', rfl⟩)
    have hc6 := cell_kept hcb2 (grownBy_putObj' _ D (.deferred none)) (fun r e => by cases e; exact ⟨_, hK', rfl⟩)
    have hf := suit_Of.missed hne
    rw [h] at hf
    obtain ⟨rfl, rfl⟩ : r1 = 0 ∧ r2 = false := by simpa using hf
    refine ⟨.tuple #[.int .u8 0, .bool false], ?_, rfl, ((hB.setCell (p := ⟨w.heap.size + 1, 0, none⟩) (by simp) _).setCell (p := ⟨w.heap.size + 1 + 1, 0, none⟩) (by simp; omega) _).trans (belowK_b (w := w) (Nat.le_refl _) _ D _ _ (by simp at hD; omega) hK' rfl rfl)⟩
    simp [results, Tryz.f56, go_sem, hc5, hc6]
  case stop =>
    rintro D c pre W hD ⟨k, hk, hpre⟩ ⟨⟨rfl, q, x, rfl, hq, hx, hcs, hcb⟩, hB⟩ hK
    gi_wp2
    refine ⟨by simp, .inl ⟨_, _, rfl, run_takeDeferred hK, ?_⟩⟩
    have hc5 := cell_kept hcs (grownBy_putObj' _ D (.deferred none)) (fun r e => by cases e; exact ⟨_, hK, rfl⟩)
    have hc6 := cell_kept hcb (grownBy_putObj' _ D (.deferred none)) (fun r e => by cases e; exact ⟨_, hK, rfl⟩)
    have hf := suit_Of.found hk hpre.symm hq hx
    rw [h] at hf
    obtain ⟨rfl, rfl⟩ : r1 = x ∧ r2 = true := by simpa using hf
    refine ⟨.tuple #[.int .u8 r1, .bool true], ?_, rfl, hB.trans (belowK_b (w := w) (Nat.le_refl _) W D _ _ (by simp at hD; omega) hK rfl rfl)⟩
    simp [results, Tryz.f56, go_sem, hc5, hc6]
end Go.Proofs.YtfpcideomanbbaaGreatDoor.PA
end
section
namespace Go.Proofs.YtfpcideomanbbaaGreatDoor.PA
open Go.RowKit Go.Proofs.YtfpcideomanbbaaGreatDoorW.PrintWords Go.Proofs.YtfpcideomanbbaaGreatDoorW.PrintLast Go.Proofs.YtfpcideomanbbaaGreatDoorW.PrintMore
attribute [local go_sem] max2_int min2_int max_two min_two max_three min_three max_four min_four
set_option linter.unusedVariables false
set_option linter.unusedSimpArgs false
def trait_Of.l0 : Nat → ByteArray → Int → Option (Int × Bool)
 | 0, _, _ => none
 | k + 1, x0, x4 => if x4 ≤ 8 then ((trait_Name.f x4).bind fun t704 => (if t704.toList = x0.toList then (some (x4, true)) else (trait_Of.l0 k x0 ((x4 + 1) % 256)))) else (some (0, false))
def trait_Of.f (k : Nat) (a0 : ByteArray) : Option (Int × Bool) := trait_Of.l0 k a0 1
theorem trait_Of.mono_l : ∀ k, (∀ y0 y1, LeO (trait_Of.l0 k y0 y1) (trait_Of.l0 (k + 1) y0 y1))
 | 0 => fun _ _ r h => by simp [trait_Of.l0] at h
 | k + 1 => by
  have ih0 := trait_Of.mono_l k
  ·intro y0 y1
   unfold trait_Of.l0
   repeat' first
   | (with_reducible exact ih0 _ _)
   | (with_reducible exact LeO.refl _)
   | (with_reducible exact LeO.none _)
   | (with_reducible refine LeO.ite ?_ ?_)
   | (with_reducible refine LeO.bind ?_ (fun _ => ?_))
   | exact ih0 _ _
   | exact LeO.none _
   | refine LeO.ite ?_ ?_
   | refine LeO.bind ?_ (fun _ => ?_)
theorem trait_Of.mono : ∀ a0 k, LeO (trait_Of.f k a0) (trait_Of.f (k + 1) a0) := by
 intro a0 k
 have ih0 := trait_Of.mono_l k
 unfold trait_Of.f
 repeat' first
   | (with_reducible exact ih0 _ _)
   | (with_reducible exact LeO.refl _)
   | (with_reducible exact LeO.none _)
   | (with_reducible refine LeO.ite ?_ ?_)
   | (with_reducible refine LeO.bind ?_ (fun _ => ?_))
   | exact ih0 _ _
   | exact LeO.none _
   | refine LeO.ite ?_ ?_
   | refine LeO.bind ?_ (fun _ => ?_)
set_option maxHeartbeats 8000000 in
set_option maxRecDepth 100000 in
theorem trait_Of.calls (k : Nat) (a0 : ByteArray) (r1 : Int) (r2 : Bool) (w : World) (hG_ : GP w) (h : trait_Of.f k a0 = some (r1, r2)) :
  Calls Tryz.prog 57 #[.string a0] w fun e w' => e = .returned (.tuple #[.int .u8 r1, .bool r2]) ∧ Drawn0 w w' := by
 have HGP := Aside0.mk hG_
 clear hG_
 have HB := Aside0.mk (Below.refl w.heap.size w)
 have H : (trait_Of.l0 k a0 1) = some (r1, r2) := h
 clear h
 have H' := Aside0.mk H
 clear H
 go_enter Tryz.func57, Tryz.ntmps57
 go_wp2
 go_loopg [4] k (fun kq v4 w' => ∃ (x4_1 : Int), v4 = .int .u8 x4_1 ∧ Aside0 (trait_Of.l0 kq a0 x4_1 = some (r1, r2)) ∧ Aside0 (kq ≤ k) ∧ Drawn0 w w')
 case atStart => exact ⟨(1), Zs, H', ⟨Nat.le_refl _⟩, Zd⟩
 case round =>
  clear H'
  obtain ⟨x4_1, rfl, HA, HK1, ⟨m1, rfl⟩⟩ := hrel
  cases gk with
  | zero => exact absurd HA.out (by simp [trait_Of.l0])
  | succ k1 =>
   have H := HA.out
   clear HA
   simp only [trait_Of.l0] at H
   by_cases c2 : x4_1 ≤ 8
   ·rw [if_pos c2] at H
    have c2b0 : decide (x4_1 ≤ 8) = true := decide_eq_true c2
    clear c2
    replace H := Option.bind_eq_some_iff.mp H
    obtain ⟨t704, A30, H⟩ := H
    replace H : (if t704.toList = a0.toList then (some (x4_1, true)) else (trait_Of.l0 k1 a0 ((x4_1 + 1) % 256))) = some (r1, r2) := H
    have A3 := Aside0.mk A30
    clear A30
    by_cases c4 : t704.toList = a0.toList
    ·rw [if_pos c4] at H
     have c4b0 : (t704.toList == a0.toList) = true := beq_iff_eq.mpr c4
     have c4b1 : (t704.toList != a0.toList) = false := bne_eq_false_iff_eq.mpr c4
     clear c4
     simp only [Option.some.injEq, Prod.mk.injEq] at H
     obtain ⟨rfl, rfl⟩ := H
     go_wp2_with (first | ((with_reducible refine gate_callee (f := 34) rfl ?_); refine goesL_ (some 10) rfl rfl Tryz.func34 (by kernel_rfl) rfl #[.int .u8 x4_1] rfl Zl ?_; (with_reducible refine (trait_Name.calls x4_1 t704 _ ?side1 A3.out).mono ?_); (case side1 => first | (with_reducible exact HGP.out) | exact GP_below HGP.out Zb); rintro e w' ⟨rfl, ⟨nd, rfl⟩⟩; refine ⟨_, rfl, ?_⟩))
     go_ret2
     exact ⟨Zt, Zd⟩
    ·rw [if_neg c4] at H
     have c4b0 : (t704.toList == a0.toList) = false := beq_eq_false_iff_ne.mpr c4
     have c4b1 : (t704.toList != a0.toList) = true := bne_iff_ne.mpr c4
     have H' := Aside0.mk H
     clear H
     go_wp2_with (first | ((with_reducible refine gate_callee (f := 34) rfl ?_); refine goesL_ (some 10) rfl rfl Tryz.func34 (by kernel_rfl) rfl #[.int .u8 x4_1] rfl Zl ?_; (with_reducible refine (trait_Name.calls x4_1 t704 _ ?side1 A3.out).mono ?_); (case side1 => first | (with_reducible exact HGP.out) | exact GP_below HGP.out Zb); rintro e w' ⟨rfl, ⟨nd, rfl⟩⟩; refine ⟨_, rfl, ?_⟩))
     go_roundg k1
     case measure => have := HK1.out; omega
     case rel => exact ⟨((x4_1 + 1) % 256), Zs, H', ⟨by have := HK1.out; omega⟩, Zd⟩
   ·rw [if_neg c2] at H
    have c2b0 : decide (x4_1 ≤ 8) = false := decide_eq_false c2
    clear c2
    simp only [Option.some.injEq, Prod.mk.injEq] at H
    obtain ⟨rfl, rfl⟩ := H
    go_wp2
    go_ret2
    exact ⟨Zt, Zd⟩
end Go.Proofs.YtfpcideomanbbaaGreatDoor.PA
end
