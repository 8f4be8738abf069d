/- PlayNames answers true, whatever the world, where the listed variables hold what the program's text lays: the given card of the row. Conditions: those of the row itself, no other. -/
import Derived.Test.YtdbpcmddocbfiaaGreatDoorCards
import Derived.Test.YtdbpcmddocbfiaaGreatDoorTieG
import Derived.Test.YtdbpcmddocbfiaaGreatDoorBigE
import Derived.Test.YtdbpcmddocbfiaaGreatDoorBigG
import Derived.Test.YtdbpcmddocbfiaaGreatDoorPnPlay
import Derived.WalkKit
import Derived.ProofKit
import Derived.OpenShut
import Derived.Deep.DeepHandedRow
import Derived.Deep.DeepWitnessRowRef
import Derived.Deep.DeepLaidRun
import Derived.Lib.LaidU8
namespace Go.Proofs.YtdbpcmddocbfiaaGreatDoor
open Go Go.ChangeShapes Go.WideShapes Go.ChangeAt Go.RowKit

/-- the rows of the steps: word, numbers, texts, options, again. -/
def rowLits : List (List UInt8 × Int × Int × Bool × Bool) := [([], 0, 0, false, false), ([99, 114, 101, 97, 116, 101], 3, 0, true, false), ([111, 112, 101, 110], 0, 0, false, false), ([105, 110, 115, 101, 114, 116], 1, 1, false, false), ([100, 101, 108, 101, 116, 101], 1, 0, false, false), ([103, 101, 116], 1, 0, false, false), ([116, 111, 112], 1, 1, false, false), ([114, 97, 100, 105, 117, 115], 1, 1, false, false), ([99, 111, 117, 110, 116], 0, 0, false, false), ([115, 121, 110, 99], 0, 0, false, false), ([99, 111, 109, 112, 97, 99, 116], 0, 0, false, false), ([99, 108, 111, 115, 101], 0, 0, false, false), ([97, 114, 109], 2, 0, false, false), ([99, 114, 97, 115, 104], 2, 1, false, true), ([105, 109, 97, 103, 101], 0, 0, false, false), ([114, 111, 111, 109], 1, 0, false, false), ([105, 110, 115, 112, 101, 99, 116], 0, 0, false, false), ([114, 101, 112, 97, 105, 114], 0, 0, false, false), ([103, 114, 111, 117, 112, 115], 2, 0, false, false), ([106, 111, 105, 110], 1, 0, false, false), ([115, 101, 110, 100], 1, 0, false, false), ([102, 111, 108, 108, 111, 119], 1, 1, false, false), ([97, 115, 107], 0, 1, false, false), ([115, 112, 111, 105, 108], 2, 1, false, false)]
def rowData {H : Type} (x : List UInt8 × Int × Int × Bool × Bool) : DataW H := .agg [.lit (.string x.1), .lit (.int .i64 x.2.1), .lit (.int .i64 x.2.2.1), .lit (.bool x.2.2.2.1), .lit (.bool x.2.2.2.2)]
def rowVals (x : List UInt8 × Int × Int × Bool × Bool) : List Value := [.string ⟨x.1.toArray⟩, .int .i64 x.2.1, .int .i64 x.2.2.1, .bool x.2.2.2.1, .bool x.2.2.2.2]

theorem laid_rows_eq : (Rows.laid_kindred_play_rows : DataW Unit) = .agg (rowLits.map rowData) := by rfl
theorem rowCells_eq : PnB.rowCells = (rowLits.flatMap rowVals).toArray := by rfl

section
variable {H : Type} {enc : TypeId × Value → H} {w : World} {base : Nat} {sp : Nat → Bool} {held : Bool}

theorem take_drop_one {cs : List Value} {i : Nat} {v : Value} (h : (cs.drop i).take 1 = [v]) : cs[i]? = some v := by
  have := congrArg (·[0]?) h
  simpa [List.getElem?_take, List.getElem?_drop] using this

/-- one row of the table, from its reading to its cells. -/
theorem row_cells {fuel : Nat} {cs : List Value} {x : List UInt8 × Int × Int × Bool × Bool} {p : List MemPlace} (h : DataW.trod enc Tryz.prog w base sp held fuel 77 cs = some (rowData x, p)) : cs = rowVals x := by
  obtain ⟨xs, n, rfl, hx, hl, hxl, hall⟩ := DataW.trod_struct Tryz.underlying77 h
  have hl5 : cs.length = 5 := hl.trans (by kernel_rfl)
  have hxs : xs.map (·.1) = [.lit (.string x.1), .lit (.int .i64 x.2.1), .lit (.int .i64 x.2.2.1), .lit (.bool x.2.2.2.1), .lit (.bool x.2.2.2.2)] := by
    have := congrArg Prod.fst hx
    simpa [rowData] using this.symm
  have h0 : DataW.trod enc Tryz.prog w base sp held n 9 ((cs.drop 0).take (Tryz.prog.cellsOf 9)) = xs[0]? := hall 0 _ rfl
  have h1 : DataW.trod enc Tryz.prog w base sp held n 3 ((cs.drop 1).take (Tryz.prog.cellsOf 3)) = xs[1]? := hall 1 _ rfl
  have h2 : DataW.trod enc Tryz.prog w base sp held n 3 ((cs.drop 2).take (Tryz.prog.cellsOf 3)) = xs[2]? := hall 2 _ rfl
  have h3 : DataW.trod enc Tryz.prog w base sp held n 4 ((cs.drop 3).take (Tryz.prog.cellsOf 4)) = xs[3]? := hall 3 _ rfl
  have h4 : DataW.trod enc Tryz.prog w base sp held n 4 ((cs.drop 4).take (Tryz.prog.cellsOf 4)) = xs[4]? := hall 4 _ rfl
  have s9 : Tryz.prog.cellsOf 9 = 1 := by kernel_rfl
  have s3 : Tryz.prog.cellsOf 3 = 1 := by kernel_rfl
  have s4 : Tryz.prog.cellsOf 4 = 1 := by kernel_rfl
  have g : ∀ j : Nat, (xs.map (·.1))[j]? = (xs[j]?).map (fun y : DataW H × List MemPlace => y.1) := fun j => List.getElem?_map
  rw [hxs] at g
  rw [s9] at h0
  rw [s3] at h1 h2
  rw [s4] at h3 h4
  have e0 := g 0
  have e1 := g 1
  have e2 := g 2
  have e3 := g 3
  have e4 := g 4
  rw [← h0] at e0
  rw [← h1] at e1
  rw [← h2] at e2
  rw [← h3] at e3
  rw [← h4] at e4
  obtain ⟨y0, hy0, z0⟩ := Option.map_eq_some_iff.1 e0.symm
  obtain ⟨y1, hy1, z1⟩ := Option.map_eq_some_iff.1 e1.symm
  obtain ⟨y2, hy2, z2⟩ := Option.map_eq_some_iff.1 e2.symm
  obtain ⟨y3, hy3, z3⟩ := Option.map_eq_some_iff.1 e3.symm
  obtain ⟨y4, hy4, z4⟩ := Option.map_eq_some_iff.1 e4.symm
  obtain ⟨s, c0, rfl, _⟩ := DataW.trod_string Tryz.underlying9 hy0
  obtain ⟨a, c1, rfl, _⟩ := DataW.trod_int Tryz.underlying3 hy1
  obtain ⟨b, c2, rfl, _⟩ := DataW.trod_int Tryz.underlying3 hy2
  obtain ⟨c, c3, rfl⟩ := DataW.trod_bool Tryz.underlying4 hy3
  obtain ⟨d, c4, rfl⟩ := DataW.trod_bool Tryz.underlying4 hy4
  simp only [DataW.lit.injEq, Lit.string.injEq, Lit.int.injEq, Lit.bool.injEq, true_and] at z0 z1 z2 z3 z4
  have d0 := take_drop_one c0
  have d1 := take_drop_one c1
  have d2 := take_drop_one c2
  have d3 := take_drop_one c3
  have d4 := take_drop_one c4
  obtain ⟨x0, x1, x2, x3, x4⟩ := x
  simp only at z0 z1 z2 z3 z4
  subst z0 z1 z2 z3 z4
  clear h hx hl hxl hall hxs h0 h1 h2 h3 h4 g e0 e1 e2 e3 e4 hy0 hy1 hy2 hy3 hy4 s9 s3 s4
  match cs, hl5 with
  | [v0, v1, v2, v3, v4], _ =>
    simp only [List.getElem?_cons_zero, List.getElem?_cons_succ, Option.some.injEq] at d0 d1 d2 d3 d4
    subst d0 d1 d2 d3 d4
    rfl

theorem flat_of_rows : ∀ (ls : List (List UInt8 × Int × Int × Bool × Bool)) (cs : List Value), cs.length = ls.length * 5 →
    (∀ (i : Nat) x, ls[i]? = some x → (cs.drop (i * 5)).take 5 = rowVals x) → cs = ls.flatMap rowVals
  | [], cs, hl, _ => by simpa using hl
  | x :: ls, cs, hl, h => by
    have h0 := h 0 x rfl
    simp only [Nat.zero_mul, List.drop_zero] at h0
    have hr := flat_of_rows ls (cs.drop 5) (by simp at hl ⊢; omega) (fun i y hy => by
      have := h (i + 1) y (by simpa using hy)
      rw [List.drop_drop]
      rw [show 5 + i * 5 = (i + 1) * 5 by omega]
      exact this)
    rw [List.flatMap_cons, ← h0, ← hr]
    exact (List.take_append_drop 5 cs).symm

set_option maxRecDepth 100000 in
/-- the whole table, from its reading to its cells. -/
theorem table_cells {fuel : Nat} {cs : List Value} {p : List MemPlace} (h : DataW.trod enc Tryz.prog w base sp held fuel 78 cs = some (.agg (rowLits.map rowData), p)) : cs = rowLits.flatMap rowVals := by
  obtain ⟨xs, n, rfl, hx, hl, hxl, hall⟩ := DataW.trod_array Tryz.underlying78 h
  have s77 : Tryz.prog.cellsOf 77 = 5 := by kernel_rfl
  have hxs : xs.map (·.1) = rowLits.map rowData := by
    have := congrArg Prod.fst hx
    simpa using this.symm
  refine flat_of_rows rowLits cs (hl.trans (by kernel_rfl)) fun i x hi => ?_
  have hi24 : i < 24 := by
    rcases Nat.lt_or_ge i 24 with h' | h'
    · exact h'
    · rw [List.getElem?_eq_none (by exact h')] at hi
      cases hi
  have hh := hall i hi24
  rw [s77] at hh
  have g : (xs[i]?).map (·.1) = some (rowData x) := by
    rw [← List.getElem?_map, hxs, List.getElem?_map, hi]
    rfl
  obtain ⟨y, hy, hz⟩ := Option.map_eq_some_iff.1 g
  rw [hy] at hh
  exact row_cells (x := x) (p := y.2) (hh.trans (by rw [← hz]))
end

/-- WHAT THE ROW's LIST GIVES: the block of the table of rows. -/
theorem rows_block {W : World} (h : laidMet Tryz.prog Rows.playNamesRow.laid W) : ∃ T fr, W.heap[0]? = some (.cells PnB.rowCells T fr) := by
  obtain ⟨g, t, cs, fuel, p, hg, ht, hv, hr⟩ := Lib.laidMet.reads h (n := "kindred/play.rows") (d := Rows.laid_kindred_play_rows) (by unfold Rows.playNamesRow; simp)
  obtain rfl : g = 0 := (Option.some.inj ((show Tryz.prog.globalNamed "kindred/play.rows" = some 0 by kernel_rfl).symm.trans hg)).symm
  obtain rfl : t = 78 := (Option.some.inj ((show (Tryz.prog.globals[0]?).map (·.type) = some 78 by kernel_rfl).symm.trans ht)).symm
  rw [laid_rows_eq] at hr
  have hc := table_cells hr
  have hcs : cs = PnB.rowCells := by
    rw [rowCells_eq, ← hc]
  subst hcs
  unfold World.var? at hv
  rw [hg, Option.bind_some] at hv
  cases hb : W.heap[0]? with
  | none => rw [hb] at hv; cases hv
  | some o =>
    rw [hb] at hv
    cases o with
    | cells c T fr => simp only [Option.some.injEq] at hv; subst hv; exact ⟨T, fr, rfl⟩
    | _ => cases hv

/-- what the row's law asks behind the call, where no argument holds a place. -/
theorem post_nil {H : Type} {enc : TypeId × Value → H} {P : Program} {f : Func} {s : ChangeSpec} {apart fresh handsOn again : Bool} {W W' : World} {args : Array Value} {v : Value} {ds gs : List (DataW H)}
    (hW : DataW.Whole enc P f.params.toList s.vars apart W args.toList ds gs [])
    (hres : ∀ (b : Nat) (sp : Nat → Bool) (hd : Bool), DataW.TrodAll enc P W' b sp hd f.resultTypes.toList (v.resultList f.resultTypes.size) (s.fn H (ds ++ gs)).results [])
    (hargs : ∀ sp : Nat → Bool, DataW.TrodAll enc P W' 0 sp true f.params.toList args.toList (s.fn H (ds ++ gs)).args [])
    (hvars : ∀ sp : Nat → Bool, DataW.TrodVars enc P W' sp s.vars (s.fn H (ds ++ gs)).vars [])
    (hk : W.keptBut W' (fun _ => False))
    (hok : ∀ (j : Nat) (t : TypeId) (r : Value), f.resultTypes[j]? = some t → (v.resultList f.resultTypes.size)[j]? = some r → Value.okWide P W' .any 0 t r) :
    s.post enc P f apart fresh handsOn again W args v W' := by
  refine ⟨ds, gs, [], [], [], [], hW, hres _ _ _, hargs _, hvars _, World.keptBut_mono (fun p hp => hp.elim) hk, fun _ => ?_⟩
  refine ⟨hok, _, _, ([] ++ []) ++ [], ⟨[] ++ [], [], trodAll_append (hargs _) (hres _ _ _), hvars _, rfl, ?_, ?_⟩, ?_⟩
  · intro b off hp
    cases hp
  · intro _
    exact List.nodup_nil
  · intro p hp _
    cases hp

theorem own : ownKnob Tryz.prog.godebug = none := by kernel_rfl

theorem ok_true (W' : World) : Value.okWide Tryz.prog W' .any 0 4 (.bool true) := by
  simp [Value.okWide, Tryz.underlying4, Cell.okWide, Cell.ok]
theorem res3 : Tryz.f3.resultTypes = #[4] := by kernel_rfl
theorem one_true : (Value.bool true).resultList 1 = [Value.bool true] := by rfl
set_option maxRecDepth 100000 in
/-- WHAT THE WALK GIVES, FOR EVERY WORLD THAT HOLDS THE TABLES. -/
theorem contract (H : Type) (enc : TypeId × Value → H) (W : World) (args : Array Value) (ds gs : List (DataW H)) (before : List MemPlace)
    (hW : DataW.Whole enc Tryz.prog Tryz.f3.params.toList Rows.playNamesSpec.vars false W args.toList ds gs before) (hL : laidMetH Tryz.prog Rows.playNamesRow.laid W) (hsh : W.ShapedOpen Tryz.prog) :
    Calls Tryz.prog 3 args W fun e W' => ∃ v, e = .returned v ∧ Rows.playNamesSpec.post enc Tryz.prog Tryz.f3 false true false false W args v W' := by
  have hW' := hW
  obtain ⟨p, q, hA0, hV, rfl, hfz, hnd⟩ := hW
  have hA : DataW.TrodAll enc Tryz.prog W 0 (fun _ => true) true Tryz.f3.params.toList args.toList ds p := hA0
  rw [Tryz.params3] at hA
  obtain ⟨hargs, rfl, rfl⟩ := trodAll_nil hA
  obtain rfl : args = #[] := by cases args; simp_all
  obtain ⟨rfl, rfl⟩ := trodVars_none hV
  clear hA0
  simp only [List.append_nil] at hW'
  obtain ⟨T, fr, hrows⟩ := rows_block (W := W) hL
  refine (PnB.PlayNames_true W T fr hsh hrows).mono fun e W' ⟨he, hb⟩ => ?_
  subst he
  exact ⟨_, rfl, post_nil hW' (fun _ _ _ => trodAll_cons_mk (shut_bool Tryz.underlying4 _) trodAll_mk0) (fun _ => trodAll_mk0) (fun _ => rfl)
    (hb.frame _) (ok_one res3 one_true (ok_true W'))⟩

/-- A WORLD FOR THE WITNESS: the settled one, the tables holding what their initialisers lay, the two sentinels' objects behind it. -/
noncomputable def laidWorld (os : Os) : World :=
  let w0 := World.holding Tryz.prog os ⟨#[.cells #[.string ⟨#[105, 110, 118, 97, 108, 105, 100, 32, 115, 121, 110, 116, 97, 120]⟩] 348, .cells #[.string ⟨#[118, 97, 108, 117, 101, 32, 111, 117, 116, 32, 111, 102, 32, 114, 97, 110, 103, 101]⟩] 348], #[], []⟩
  let put (h : Array Obj) (g : Nat) (cs : Array Value) : Array Obj := h.modify g fun
    | .cells _ t frozen => .cells cs t frozen
    | o => o
  let ints (d : DataW Unit) : Array Value := match d with
    | .agg l => (l.map fun | .lit (.int k n) => Value.int k n | _ => .bool false).toArray
    | _ => #[]
  let h0 := put w0.heap 0 PnB.rowCells
  let h1 := put h0 2 (ints Rows.laid_internal_strconv_uint64pow10)
  let h2 := put h1 3 #[.iface 346 (.pointer (some ⟨16, 0, none⟩))]
  let h3 := put h2 4 #[.iface 346 (.pointer (some ⟨17, 0, none⟩))]
  let h4 := put h3 5 (ints Rows.laid_kindred_seal_table)
  let h5 := put h4 6 (ints Rows.laid_math_bits_deBruijn32tab)
  let h6 := put h5 7 (ints Rows.laid_math_bits_deBruijn64tab)
  let h7 := put h6 8 (ints Rows.laid_unicode_utf8_first)
  let h8 := put h7 9 #[.int .u8 128, .int .u8 191, .int .u8 160, .int .u8 191, .int .u8 128, .int .u8 159, .int .u8 144, .int .u8 191, .int .u8 128, .int .u8 143, .int .u8 0, .int .u8 0, .int .u8 0, .int .u8 0, .int .u8 0, .int .u8 0, .int .u8 0, .int .u8 0, .int .u8 0, .int .u8 0, .int .u8 0, .int .u8 0, .int .u8 0, .int .u8 0, .int .u8 0, .int .u8 0, .int .u8 0, .int .u8 0, .int .u8 0, .int .u8 0, .int .u8 0, .int .u8 0]
  let h9 := put h8 10 (ints Rows.laid_kindred_bits_ones)
  { w0 with heap := h9 }

set_option maxRecDepth 100000 in
theorem laid_met (os : Os) : laidMet Tryz.prog Rows.playNamesRow.laid ((laidWorld os).forCall (fun _ _ => 0) ⟨#[], #[], []⟩).memory :=
  laidMet_of_run3 8 (by kernel_rfl) (by kernel_rfl) (by kernel_rfl)

theorem reads (os : Os) {H : Type} (enc : TypeId × Value → H) : ∃ places, DataW.whole enc Tryz.prog ((laidWorld os).forCall (fun _ _ => 0) ⟨#[], #[], []⟩).memory Tryz.f3.params.toList Rows.playNamesSpec.vars false (#[] : Array Value).toList 8 = some ([], [], places) :=
  ⟨[], by kernel_rfl⟩

set_option maxRecDepth 100000 in
theorem lifted (os : Os) (started : os.Started) (H : Type) (enc : TypeId × Value → H) (F : Stop.Interp) :
    ReturnsInHanded {} Tryz.checked os 3 .any ((OpenSpec.ofChange Rows.playNamesSpec).preRow enc Tryz.prog Tryz.f3 Rows.playNamesRow.domain false Rows.playNamesRow.laid) (((OpenSpec.ofChange Rows.playNamesSpec).at F).post enc Tryz.prog Tryz.f3 false true false false) := by
  obtain ⟨places, hx⟩ := reads os enc
  refine returnsInHanded_of_row (C := Tryz.checked) (s := OpenSpec.ofChange Rows.playNamesSpec) own started (by kernel_rfl) Tryz.func3
    (witness_row_atRef (enc := enc) (C := Tryz.checked) false (laidWorld os) #[] rfl (by kernel_rfl) (by kernel_rfl) (by kernel_rfl)
      (OpenSpec.preRow_of_cond 8 hx (by kernel_rfl) (fun k hk => by cases hk) (by kernel_rfl) (laid_met os))) ?_
  intro W base args ds gs before _ hW _ _ _ hL hsh _
  exact contract H enc W args ds gs before hW hL hsh

theorem said : Rows.PlayNamesSaid :=
  OpenClaim.holds_of_cond 3 Tryz.f3 rfl rfl rfl rfl rfl rfl rfl ⟨rfl, rfl, rfl, rfl, rfl⟩ rfl rfl rfl rfl rfl func_named Tryz.func3 facts
    (of_decide_eq_true (by kernel_rfl)) (by unfold Func.isWrapper; first | (rw [if_pos (by decide +kernel)]; kernel_rfl) | (rw [if_neg (by decide +kernel)]; exact ⟨rfl, rfl⟩))
    (fun os started H enc _ F => by rw [OpenClaim.pre_eq_preRow]; exact lifted os started H enc F)

/-- No parameter wants a stand-in; the program's own looks are off: what the card asks. -/
theorem plain (f : FuncId) (fn : Func) (hf : Tryz.pinned.checked.prog.funcNamed "kindred/kindredlaw26.PlayNames" = some f) (hfn : Tryz.pinned.checked.prog.funcs[f]? = some fn) :
    true = Tryz.pinned.checked.prog.looks [] ∧ ∀ (j : Nat) t, fn.params[j]? = some t → Tryz.pinned.checked.prog.wantsStandIn t = false := by
  obtain rfl : f = 3 := Option.some.inj (func_named.symm.trans hf) |>.symm
  obtain rfl : fn = Tryz.f3 := (Option.some.inj (Tryz.func3.symm.trans hfn)).symm
  refine ⟨by kernel_rfl, fun j t ht => ?_⟩
  rw [Tryz.params3] at ht
  simp at ht

/-- ████ THE CARD ████ -/
theorem playNames_card : Rows.PlayNamesCardSaid :=
  Claim7.holds_tied_plain_at .later [] _ _ _ _ said (fun _ h => by cases h) (by kernel_rfl) (fun _ h => by cases h) rowTie rfl ⟨rfl, rfl⟩ (by kernel_rfl) rfl plain goes_not
end Go.Proofs.YtdbpcmddocbfiaaGreatDoor
