/- The card of the law FnProgress: its arguments opened, the listed variables as laid, the printed walk, the pure statement of YtgfobaggkkjhpaaDoorPureFnProgress. Written by a program of mine (rowgen.py). No condition beyond the card's own. -/
import Derived.Stop.LaidErr
import Derived.Test.YtgfobaggkkjhpaaDoorShaped
import Derived.Test.YtgfobaggkkjhpaaDoorRows
import Derived.Test.YtgfobaggkkjhpaaDoorCards
import Derived.Test.YtgfobaggkkjhpaaDoorTie
import Derived.Test.YtgfobaggkkjhpaaDoorPFnProgressx9
import Derived.Test.YtgfobaggkkjhpaaDoorPureFnProgress
import Derived.Test.YtgfobaggkkjhpaaDoorOpens
import Derived.WalkKit
import Derived.ProofKit
import Derived.OpenShut
import Derived.OpenVars
import Derived.ShutString
import Derived.ChangeOld
import Derived.ChangeVars
import Derived.Below
import Derived.SizedLaws
import Derived.LaidMore
import Derived.LaidHandle
import Derived.MakeChecks
import Derived.SevenTiedAt
import Derived.Lib.LaidTab
namespace Go.Proofs.YtgfobaggkkjhpaaDoor.fnProgress
open Go.ChangeShapes Go.WideShapes Go.ChangeAt Go.RowKit Go.Proofs.YtgfobaggkkjhpaaDoorW.PrintWords Go.Proofs.YtgfobaggkkjhpaaDoor.PFnProgress Go.Proofs.YtgfobaggkkjhpaaDoor.Opens
open Go.ChangeMaps (open_string shut_string)
set_option linter.unusedVariables false
theorem own : ownKnob Tryd.prog.godebug = none := by kernel_rfl
theorem laidOut : laidOutB Tryd.prog = true := by kernel_rfl
noncomputable def start (os : Os) : World := { World.doorLaid Tryd.prog 72 os with heap := (World.doorLaid Tryd.prog 72 os).heap.modify 4 fun
    | .cells _ t fr => .cells (Go.Pinned.utf8FirstZ.map fun (z : Nat) => Value.int .u8 (Int.ofNat z)).toArray t fr
    | o => o }
set_option maxRecDepth 100000 in
theorem start_met (os : Os) : laidMetH Tryd.prog Rows.fnProgressRow.laid ((start os).forCall (fun _ _ => 0) ⟨#[], #[.slice none 0 0], []⟩).memory :=
  laidMetH_of_parts3 (fuel := 8) (laidMet_of_run' 8 (by kernel_rfl) (by kernel_rfl)) (by kernel_rfl) (by kernel_rfl)
set_option maxRecDepth 100000 in
theorem pow_laid {W : World} (h : laidMetH Tryd.prog Rows.fnProgressRow.laid W) : Lib.TabIs Tryd.prog W "internal/strconv.uint64pow10" .u64 Lib.pow10Tab := by
  rw [MakeChecks.laidMetH_plain _ _ _ (by kernel_rfl)] at h
  obtain ⟨ps, hl, _⟩ := h
  obtain ⟨g, t, cs, fuel, p, h1, h2, h3, h4⟩ := laid_at (name := "internal/strconv.uint64pow10") (d := Rows.laid_internal_strconv_uint64pow10) hl (by simp [Rows.fnProgressRow])
  obtain rfl : 3 = g := Option.some.inj ((show Tryd.prog.globalNamed "internal/strconv.uint64pow10" = some 3 by kernel_rfl).symm.trans h1)
  obtain rfl : 105 = t := Option.some.inj ((show (Tryd.prog.globals[3]?).map (·.type) = some 105 by kernel_rfl).symm.trans h2)
  rw [show (Rows.laid_internal_strconv_uint64pow10 : DataW Unit) = Lib.tabData .u64 Lib.pow10Tab by kernel_rfl] at h4
  unfold Lib.TabIs
  rw [h3, ← Lib.cells_of_tab Tryd.underlying105 Tryd.underlying71 (by kernel_rfl) (by kernel_rfl) h4]
theorem max_laid {W : World} (h : W.ShapedOpen Tryd.prog) : ∃ m, W.cell? ⟨0, 0, none⟩ = some (.int .i64 m) := cell_of_shapedOpen_int (P := Tryd.prog) (g := 0) (t := 3) (zero := #[.int .i64 0]) h (of_decide_eq_true (by kernel_rfl)) (by kernel_rfl) rfl (by kernel_rfl) (by kernel_rfl) Tryd.underlying3
set_option maxRecDepth 100000 in
theorem err_ErrSyntax {W : World} (h : laidMetH Tryd.prog Rows.fnProgressRow.laid W) : ∃ te pe, W.cell? ⟨1, 0, none⟩ = some (.iface te pe) := by
  rw [MakeChecks.laidMetH_plain _ _ _ (by kernel_rfl)] at h
  obtain ⟨a, z, h1, _⟩ := laid_sentinel (P := Tryd.prog) (g := 1) (ti := 56) (tp := 101) (te := 103) (ts := 9) h.tail.tail.tail.tail.tail (by kernel_rfl) (by kernel_rfl) Tryd.underlying56 (fun u hu => typeName_ptr_named (nm := "errors.errorString") (by kernel_rfl) (by kernel_rfl) (by decide) u (hu.trans (congrArg some (by decide)))) Tryd.underlying101 Tryd.underlying103 rfl rfl Tryd.underlying9 (by kernel_rfl) (by kernel_rfl)
  have h0 := World.var?_cell (g := 1) (by kernel_rfl) h1 0
  exact ⟨_, _, by simpa using h0⟩
set_option maxRecDepth 100000 in
theorem err_ErrRange {W : World} (h : laidMetH Tryd.prog Rows.fnProgressRow.laid W) : ∃ te pe, W.cell? ⟨2, 0, none⟩ = some (.iface te pe) := by
  rw [MakeChecks.laidMetH_plain _ _ _ (by kernel_rfl)] at h
  obtain ⟨a, z, h1, _⟩ := laid_sentinel (P := Tryd.prog) (g := 2) (ti := 56) (tp := 101) (te := 103) (ts := 9) h.tail.tail.tail.tail (by kernel_rfl) (by kernel_rfl) Tryd.underlying56 (fun u hu => typeName_ptr_named (nm := "errors.errorString") (by kernel_rfl) (by kernel_rfl) (by decide) u (hu.trans (congrArg some (by decide)))) Tryd.underlying101 Tryd.underlying103 rfl rfl Tryd.underlying9 (by kernel_rfl) (by kernel_rfl)
  have h0 := World.var?_cell (g := 2) (by kernel_rfl) h1 0
  exact ⟨_, _, by simpa using h0⟩
theorem laid_w {W : World} (h : laidMetH Tryd.prog Rows.fnProgressRow.laid W) (h2 : W.ShapedOpen Tryd.prog) : Laid W := ⟨trivial, pow_laid h, max_laid h2, err_ErrSyntax h, err_ErrRange h⟩
set_option maxRecDepth 100000 in
theorem lifted (os : Os) (started : os.Started) (H : Type) (enc : TypeId × Value → H) :
    ReturnsInHanded {} Tryd.checked os 4 .any (fun w args => (Rows.fnProgressSpec.pre enc Tryd.prog Tryd.f4 [] false w args ∧ laidMetH Tryd.prog Rows.fnProgressRow.laid w) ∧ sizedMet enc Tryd.prog Tryd.f4 (OpenSpec.ofChange Rows.fnProgressSpec) false w args) (Rows.fnProgressSpec.post enc Tryd.prog Tryd.f4 false true false false) := by
  refine Shaped.wrap (C := Tryd.checked) (X := fun w _ => laidMetH Tryd.prog Rows.fnProgressRow.laid w) (fun _ _ _ hh h => h.of_heap hh) own started (by kernel_rfl) Tryd.func4
    (ChangeSpec.witness_shaped (enc := enc) (C := Tryd.checked) (os := os) (X := fun w _ => laidMetH Tryd.prog Rows.fnProgressRow.laid w) false (start os) #[.slice none 0 0] 8 rfl (World.shaped_of_RefB (by kernel_rfl) (by kernel_rfl)) (by kernel_rfl) (by kernel_rfl) (by kernel_rfl) (start_met os)) ?_
  intro W base args ds gs before hval0 hW hsz0 hL hSh
  have hsz : (DataW.weightsEach Tryd.prog (Tryd.f4.params.toList ++ Rows.fnProgressSpec.plain.varTypes Tryd.prog) (ds ++ gs)).all (· ≤ reachBytes) = true := hsz0
  have hval : ∀ (j : Nat) t v, Tryd.f4.params[j]? = some t → args[j]? = some v → Value.okWide Tryd.prog W .any base t v := hval0
  have hW' := hW
  obtain ⟨p, q, hA0, hV0, rfl, hfz, hnd⟩ := hW
  have hA : DataW.TrodAll enc Tryd.prog W 0 (fun _ => true) true Tryd.f4.params.toList args.toList ds p := hA0
  have hV : DataW.TrodVars enc Tryd.prog W (fun _ => true) [] gs q := hV0
  rw [Tryd.params4] at hA hval hsz
  obtain ⟨v0, vs0, d0, ds0, p0, q0, hargs, rfl, rfl, h0, r0⟩ := trodAll_cons hA
  obtain ⟨rfl, rfl, rfl⟩ := trodAll_nil r0
  obtain rfl : args = #[v0] := by cases args; simp_all
  obtain ⟨rfl, rfl⟩ := trodVars_none hV
  have k0 := h0
  have lt0 : ∀ x ∈ p0, x.block < W.heap.size := by obtain ⟨m, hm⟩ := k0; exact DataW.trod_lt m _ _ _ hm
  obtain ⟨A0, c0, l0, rfl, hc0, hm0, hr0, hg0, hx0⟩ := arg_slice Tryd.underlying28 (opens_int Tryd.underlying5 (by kernel_rfl)) (hval 0 28 v0 rfl rfl) h0
  have y0 := reach_slice hsz (j := 0) (t := 28) rfl rfl Tryd.underlying28 (B := 1) (by kernel_rfl) hx0
  clear hA0 hval0 hsz0 hsz
  obtain ⟨k, hk⟩ := Pure.FnProgress l0 hm0 y0 hg0
  refine (laws_FnProgress.calls k A0 c0 l0 true W hr0 hc0 hk (laid_w hL hSh)).mono fun e W' ⟨he, bel⟩ => ?_
  subst he
  exact ⟨_, rfl, _, _, _, [], _, [], hW', trodAll_mk1 (shut_bool Tryd.underlying4 _), (trodAll_cons_mk (Below.trod laidOut (by kernel_rfl) (of_decide_eq_true (by kernel_rfl)) k0 bel lt0) trodAll_mk0), rfl, bel.frame _, fun h => by cases h⟩
theorem over : Rows.fnProgressRow.holds Tryd.pinned (OpenSpec.ofChange Rows.fnProgressSpec) :=
  OpenClaim.holds_of_wide 4 Tryd.f4 rfl rfl rfl rfl rfl rfl rfl ⟨rfl, rfl, rfl, rfl, rfl⟩ rfl rfl rfl rfl rfl (by kernel_rfl) Tryd.func4 (by kernel_rfl)
    (of_decide_eq_true (by kernel_rfl)) (by unfold Func.isWrapper; first | (rw [if_pos (by decide +kernel)]; kernel_rfl) | (rw [if_neg (by decide +kernel)]; exact ⟨rfl, rfl⟩))
    (fun os started H enc _ => lifted os started H enc)
theorem proved : Rows.FnProgressCardSaid :=
  Claim7.holds_tied_plain_at .later [] [.data, .data, .data, .data, .sentinel, .sentinel, .pinned] true (true, "45f3c89f3ab01f54b9d146326dfd941274170c236062330dd238f0b3f64d1a13") true
    over (fun _ h => by cases h) (by kernel_rfl) (fun _ h => by cases h) fnProgress_row_tie rfl ⟨rfl, rfl⟩ (by kernel_rfl) rfl
    (fun f fn hf hfn => by
      obtain rfl : f = 4 := Option.some.inj ((show Tryd.prog.funcNamed "loop.example/g00919/laws.FnProgress" = some 4 by kernel_rfl).symm.trans hf) |>.symm
      obtain rfl : fn = Tryd.f4 := (Option.some.inj (Tryd.func4.symm.trans hfn)).symm
      exact ⟨by kernel_rfl, fun j t ht => by
        rw [Tryd.params4] at ht
        have hm : t ∈ ([28] : List TypeId) := by simpa using Array.mem_of_getElem? ht
        have hall : (([28] : List TypeId).all fun u => !Tryd.prog.wantsStandIn u) = true := by kernel_rfl
        exact (show Tryd.prog.wantsStandIn t = false by simpa using List.all_eq_true.1 hall t hm)⟩)
    (by kernel_rfl)
end Go.Proofs.YtgfobaggkkjhpaaDoor.fnProgress
namespace Go.Proofs.YtgfobaggkkjhpaaDoor
/-- The card, under a short name, for the claim. -/
theorem fnProgress_holds : Rows.FnProgressCardSaid := fnProgress.proved
end Go.Proofs.YtgfobaggkkjhpaaDoor
