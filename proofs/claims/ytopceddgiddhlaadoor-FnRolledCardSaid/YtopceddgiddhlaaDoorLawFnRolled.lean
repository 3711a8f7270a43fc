/- The card of the law FnRolled: its arguments opened, the listed variables as laid, the printed walk, the pure statement of YtopceddgiddhlaaDoorPureFnRolled. Written by a program of mine (rowgen.py). No condition beyond the card's own. -/
import Derived.Test.YtopceddgiddhlaaDoorRows
import Derived.Test.YtopceddgiddhlaaDoorCards
import Derived.Test.YtopceddgiddhlaaDoorTie
import Derived.Test.YtopceddgiddhlaaDoorPFnRolledx22
import Derived.Test.YtopceddgiddhlaaDoorPureFnRolled
import Derived.Test.YtopceddgiddhlaaDoorOpens
import Derived.WalkKit
import Derived.ProofKit
import Derived.OpenShut
import Derived.OpenVars
import Derived.ShutString
import Derived.ChangeOld
import Derived.ChangeVars
import Derived.Below
import Derived.SizedLaws
import Derived.LaidMore
import Derived.LaidHandle
import Derived.MakeChecks
import Derived.SevenTiedAt
import Derived.Lib.LaidTab
namespace Go.Proofs.YtopceddgiddhlaaDoor.fnRolled
open Go.ChangeShapes Go.WideShapes Go.ChangeAt Go.RowKit Go.Proofs.YtopceddgiddhlaaDoorW.PrintWords Go.Proofs.YtopceddgiddhlaaDoor.PFnRolled Go.Proofs.YtopceddgiddhlaaDoor.Opens
open Go.ChangeMaps (open_string shut_string)
set_option linter.unusedVariables false
theorem own : ownKnob Tryd.prog.godebug = none := by kernel_rfl
theorem laidOut : laidOutB Tryd.prog = true := by kernel_rfl
noncomputable def start (os : Os) : World := { World.doorLaid Tryd.prog 24 os with heap := (World.doorLaid Tryd.prog 24 os).heap.modify 2 fun
    | .cells _ t fr => .cells (Go.Pinned.utf8FirstZ.map fun (z : Nat) => Value.int .u8 (Int.ofNat z)).toArray t fr
    | o => o }
set_option maxRecDepth 100000 in
theorem start_met (os : Os) : laidMetH Tryd.prog Rows.fnRolledRow.laid ((start os).forCall (fun _ _ => 0) ⟨#[], #[.slice none 0 0], []⟩).memory :=
  laidMetH_of_parts3 (fuel := 8) (laidMet_of_run' 8 (by kernel_rfl) (by kernel_rfl)) (by kernel_rfl) (by kernel_rfl)
set_option maxRecDepth 100000 in
theorem die_laid {W : World} (h : laidMetH Tryd.prog Rows.fnRolledRow.laid W) : W.cell? ⟨0, 0, none⟩ = some (.int .i64 0) ∧ W.cell? ⟨0, 1, none⟩ = some (.int .i64 1) ∧ W.cell? ⟨0, 2, none⟩ = some (.int .i64 2) := by
  rw [MakeChecks.laidMetH_plain _ _ _ (by kernel_rfl)] at h
  obtain ⟨ps, hl, _⟩ := h
  obtain ⟨g, t, cs, fuel, p, h1, h2, h3, h4⟩ := laid_at (name := "loop.example/g00919/impl.firstDie") (d := Rows.laid_loop_example_g00919_impl_firstDie) hl (by simp [Rows.fnRolledRow])
  obtain rfl : 0 = g := Option.some.inj ((show Tryd.prog.globalNamed "loop.example/g00919/impl.firstDie" = some 0 by kernel_rfl).symm.trans h1)
  obtain rfl : 68 = t := Option.some.inj ((show (Tryd.prog.globals[0]?).map (·.type) = some 68 by kernel_rfl).symm.trans h2)
  obtain ⟨xs, n, rfl, hx, hlen, _, he⟩ := DataW.trod_struct Tryd.underlying68 h4
  have hc : Tryd.prog.cellsOf 68 = 3 := by kernel_rfl
  have hi : Tryd.prog.cellsOf 2 = 1 := by kernel_rfl
  rw [hc] at hlen
  obtain ⟨l⟩ := cs
  match l, hlen with
  | [c0, c1, c2], _ =>
    match xs, hx with
    | [x0, x1, x2], hx =>
      simp only [Rows.laid_loop_example_g00919_impl_firstDie, List.map_cons, List.map_nil, Prod.mk.injEq, DataW.agg.injEq, List.cons.injEq, and_true] at hx
      have e0 := (show DataW.trod (fun _ => ()) Tryd.prog W 0 (fun _ => true) false n 2 (([c0, c1, c2].drop 0).take (Tryd.prog.cellsOf 2)) = some x0 from he 0 _ rfl)
      have e1 := (show DataW.trod (fun _ => ()) Tryd.prog W 0 (fun _ => true) false n 2 (([c0, c1, c2].drop 1).take (Tryd.prog.cellsOf 2)) = some x1 from he 1 _ rfl)
      have e2 := (show DataW.trod (fun _ => ()) Tryd.prog W 0 (fun _ => true) false n 2 (([c0, c1, c2].drop 2).take (Tryd.prog.cellsOf 2)) = some x2 from he 2 _ rfl)
      rw [hi] at e0 e1 e2
      obtain ⟨n0, k0, j0, _⟩ := DataW.trod_int Tryd.underlying2 e0
      obtain ⟨n1, k1, j1, _⟩ := DataW.trod_int Tryd.underlying2 e1
      obtain ⟨n2, k2, j2, _⟩ := DataW.trod_int Tryd.underlying2 e2
      simp only [List.drop_zero, List.drop_succ_cons, List.take_succ_cons, List.take_zero, List.cons.injEq, and_true] at k0 k1 k2
      subst k0 k1 k2 j0 j1 j2
      simp only [DataW.lit.injEq, Lit.int.injEq, true_and] at hx
      obtain ⟨⟨rfl, rfl, rfl⟩, _⟩ := hx
      exact ⟨World.var?_cell h1 h3 0, World.var?_cell h1 h3 1, World.var?_cell h1 h3 2⟩
theorem laid_w {W : World} (h : laidMetH Tryd.prog Rows.fnRolledRow.laid W) : Laid W := ⟨die_laid h, trivial, trivial⟩
set_option maxRecDepth 100000 in
theorem lifted (os : Os) (started : os.Started) (H : Type) (enc : TypeId × Value → H) :
    ReturnsInHanded {} Tryd.checked os 5 .any (fun w args => (Rows.fnRolledSpec.pre enc Tryd.prog Tryd.f5 [] false w args ∧ laidMetH Tryd.prog Rows.fnRolledRow.laid w) ∧ sizedMet enc Tryd.prog Tryd.f5 (OpenSpec.ofChange Rows.fnRolledSpec) false w args) (Rows.fnRolledSpec.post enc Tryd.prog Tryd.f5 false true false false) := by
  refine returnsInHanded_of_change_and (C := Tryd.checked) (X := fun w _ => laidMetH Tryd.prog Rows.fnRolledRow.laid w) (fun _ _ _ hh h => h.of_heap hh) own started (by kernel_rfl) Tryd.func5
    (ChangeSpec.witness_shaped (enc := enc) (C := Tryd.checked) (os := os) (X := fun w _ => laidMetH Tryd.prog Rows.fnRolledRow.laid w) false (start os) #[.slice none 0 0] 8 rfl (World.shaped_of_RefB (by kernel_rfl) (by kernel_rfl)) (by kernel_rfl) (by kernel_rfl) (by kernel_rfl) (start_met os)) ?_
  intro W base args ds gs before hval0 hW _ hsz0 hL _
  have hsz : (DataW.weightsEach Tryd.prog (Tryd.f5.params.toList ++ Rows.fnRolledSpec.plain.varTypes Tryd.prog) (ds ++ gs)).all (· ≤ reachBytes) = true := hsz0
  have hval : ∀ (j : Nat) t v, Tryd.f5.params[j]? = some t → args[j]? = some v → Value.okWide Tryd.prog W .any base t v := hval0
  have hW' := hW
  obtain ⟨p, q, hA0, hV0, rfl, hfz, hnd⟩ := hW
  have hA : DataW.TrodAll enc Tryd.prog W 0 (fun _ => true) true Tryd.f5.params.toList args.toList ds p := hA0
  have hV : DataW.TrodVars enc Tryd.prog W (fun _ => true) ["loop.example/g00919/impl.firstDie"] gs q := hV0
  rw [Tryd.params5] at hA hval hsz
  obtain ⟨v0, vs0, d0, ds0, p0, q0, hargs, rfl, rfl, h0, r0⟩ := trodAll_cons hA
  obtain ⟨rfl, rfl, rfl⟩ := trodAll_nil r0
  obtain rfl : args = #[v0] := by cases args; simp_all
  obtain ⟨_, _, _, _, g1, _, rfl, _⟩ := trodVars_one hV
  have k0 := h0
  have lt0 : ∀ x ∈ p0, x.block < W.heap.size := by obtain ⟨m, hm⟩ := k0; exact DataW.trod_lt m _ _ _ hm
  obtain ⟨A0, c0, l0, rfl, hc0, hm0, hr0, hg0, hx0⟩ := arg_slice Tryd.underlying22 (opens_int Tryd.underlying5 (by kernel_rfl)) (hval 0 22 v0 rfl rfl) h0
  have y0 := reach_slice hsz (j := 0) (t := 22) rfl rfl Tryd.underlying22 (B := 1) (by kernel_rfl) hx0
  clear hA0 hval0 hsz0 hsz
  obtain ⟨k, hk⟩ := Pure.FnRolled l0 hm0 y0 hg0
  refine (laws_FnRolled.calls k A0 c0 l0 true W hr0 hc0 hk (laid_w hL)).mono fun e W' ⟨he, bel⟩ => ?_
  subst he
  have hV' : DataW.TrodVars enc Tryd.prog W' (fun b => decide (b < W.heap.size)) ["loop.example/g00919/impl.firstDie"] [g1] q := Below.trodVars laidOut bel (by kernel_rfl) hV
  exact ⟨_, rfl, _, _, _, [], _, q, hW', trodAll_mk1 (shut_bool Tryd.underlying4 _), (trodAll_cons_mk (Below.trod laidOut (by kernel_rfl) (of_decide_eq_true (by kernel_rfl)) k0 bel lt0) trodAll_mk0), hV', bel.frame _, fun h => by cases h⟩
theorem over : Rows.fnRolledRow.holds Tryd.pinned (OpenSpec.ofChange Rows.fnRolledSpec) :=
  OpenClaim.holds_of_wide 5 Tryd.f5 rfl rfl rfl rfl rfl rfl rfl ⟨rfl, rfl, rfl, rfl, rfl⟩ rfl rfl rfl rfl rfl (by kernel_rfl) Tryd.func5 (by kernel_rfl)
    (of_decide_eq_true (by kernel_rfl)) (by unfold Func.isWrapper; first | (rw [if_pos (by decide +kernel)]; kernel_rfl) | (rw [if_neg (by decide +kernel)]; exact ⟨rfl, rfl⟩))
    (fun os started H enc _ => lifted os started H enc)
theorem proved : Rows.FnRolledCardSaid :=
  Claim7.holds_tied_plain_at .later [] [.data, .data, .pinned] true (true, "91e909221cb9a1197a02b0b6e2db91f53550fa5b1f5a8d496c7cdc7644582883") false
    over (fun _ h => by cases h) (by kernel_rfl) (fun _ h => by cases h) fnRolled_row_tie rfl ⟨rfl, rfl⟩ (by kernel_rfl) rfl
    (fun f fn hf hfn => by
      obtain rfl : f = 5 := Option.some.inj ((show Tryd.prog.funcNamed "loop.example/g00919/laws.FnRolled" = some 5 by kernel_rfl).symm.trans hf) |>.symm
      obtain rfl : fn = Tryd.f5 := (Option.some.inj (Tryd.func5.symm.trans hfn)).symm
      exact ⟨by kernel_rfl, fun j t ht => by
        rw [Tryd.params5] at ht
        have hm : t ∈ ([22] : List TypeId) := by simpa using Array.mem_of_getElem? ht
        have hall : (([22] : List TypeId).all fun u => !Tryd.prog.wantsStandIn u) = true := by kernel_rfl
        exact (show Tryd.prog.wantsStandIn t = false by simpa using List.all_eq_true.1 hall t hm)⟩)
    (by kernel_rfl)
end Go.Proofs.YtopceddgiddhlaaDoor.fnRolled
namespace Go.Proofs.YtopceddgiddhlaaDoor
/-- The card, under a short name, for the claim. -/
theorem fnRolled_holds : Rows.FnRolledCardSaid := fnRolled.proved
end Go.Proofs.YtopceddgiddhlaaDoor
