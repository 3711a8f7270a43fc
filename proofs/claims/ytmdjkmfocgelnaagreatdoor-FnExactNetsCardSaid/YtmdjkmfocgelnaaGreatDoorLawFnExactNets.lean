/- The card of the law FnExactNets: its arguments opened, the listed variables as laid, the printed walk, the pure statement of YtmdjkmfocgelnaaGreatDoorPureFnExactNets. Written by a program of mine (rowgen.py). No condition beyond the card's own. -/
import Derived.Test.YtmdjkmfocgelnaaGreatDoorRows
import Derived.Test.YtmdjkmfocgelnaaGreatDoorCards
import Derived.Test.YtmdjkmfocgelnaaGreatDoorTie
import Derived.Test.YtmdjkmfocgelnaaGreatDoorPFnExactNetsx22
import Derived.Test.YtmdjkmfocgelnaaGreatDoorPureFnExactNets
import Derived.Test.YtmdjkmfocgelnaaGreatDoorOpens
import Derived.WalkKit
import Derived.ProofKit
import Derived.OpenShut
import Derived.OpenVars
import Derived.ShutString
import Derived.ChangeOld
import Derived.ChangeVars
import Derived.Below
import Derived.SizedLaws
import Derived.LaidMore
import Derived.LaidHandle
import Derived.MakeChecks
import Derived.SevenTiedAt
import Derived.Lib.LaidTab
namespace Go.Proofs.YtmdjkmfocgelnaaGreatDoor.fnExactNets
open Go.ChangeShapes Go.WideShapes Go.ChangeAt Go.RowKit Go.Proofs.YtmdjkmfocgelnaaGreatDoorW.PrintWords Go.Proofs.YtmdjkmfocgelnaaGreatDoor.PFnExactNets Go.Proofs.YtmdjkmfocgelnaaGreatDoor.Opens
open Go.ChangeMaps (open_string shut_string)
set_option linter.unusedVariables false
theorem own : ownKnob Tryz.prog.godebug = none := by kernel_rfl
theorem laidOut : laidOutB Tryz.prog = true := by kernel_rfl
noncomputable def start (os : Os) : World := World.doorLaid Tryz.prog 14 os
set_option maxRecDepth 100000 in
theorem start_met (os : Os) : laidMetH Tryz.prog Rows.fnExactNetsRow.laid ((start os).forCall (fun _ _ => 0) ⟨#[], #[], []⟩).memory :=
  laidMetH_of_parts3 (fuel := 8) (laidMet_of_run' 8 (by kernel_rfl) (by kernel_rfl)) (by kernel_rfl) (by kernel_rfl)
set_option maxRecDepth 100000 in
theorem die_laid {W : World} (h : laidMetH Tryz.prog Rows.fnExactNetsRow.laid W) : W.cell? ⟨0, 0, none⟩ = some (.int .i64 0) ∧ W.cell? ⟨0, 1, none⟩ = some (.int .i64 1) ∧ W.cell? ⟨0, 2, none⟩ = some (.int .i64 2) := by
  rw [MakeChecks.laidMetH_plain _ _ _ (by kernel_rfl)] at h
  obtain ⟨ps, hl, _⟩ := h
  obtain ⟨g, t, cs, fuel, p, h1, h2, h3, h4⟩ := laid_at (name := "loop.example/g00919/impl.firstDie") (d := Rows.laid_loop_example_g00919_impl_firstDie) hl (by simp [Rows.fnExactNetsRow])
  obtain rfl : 0 = g := Option.some.inj ((show Tryz.prog.globalNamed "loop.example/g00919/impl.firstDie" = some 0 by kernel_rfl).symm.trans h1)
  obtain rfl : 73 = t := Option.some.inj ((show (Tryz.prog.globals[0]?).map (·.type) = some 73 by kernel_rfl).symm.trans h2)
  obtain ⟨xs, n, rfl, hx, hlen, _, he⟩ := DataW.trod_struct Tryz.underlying73 h4
  have hc : Tryz.prog.cellsOf 73 = 3 := by kernel_rfl
  have hi : Tryz.prog.cellsOf 2 = 1 := by kernel_rfl
  rw [hc] at hlen
  obtain ⟨l⟩ := cs
  match l, hlen with
  | [c0, c1, c2], _ =>
    match xs, hx with
    | [x0, x1, x2], hx =>
      simp only [Rows.laid_loop_example_g00919_impl_firstDie, List.map_cons, List.map_nil, Prod.mk.injEq, DataW.agg.injEq, List.cons.injEq, and_true] at hx
      have e0 := (show DataW.trod (fun _ => ()) Tryz.prog W 0 (fun _ => true) false n 2 (([c0, c1, c2].drop 0).take (Tryz.prog.cellsOf 2)) = some x0 from he 0 _ rfl)
      have e1 := (show DataW.trod (fun _ => ()) Tryz.prog W 0 (fun _ => true) false n 2 (([c0, c1, c2].drop 1).take (Tryz.prog.cellsOf 2)) = some x1 from he 1 _ rfl)
      have e2 := (show DataW.trod (fun _ => ()) Tryz.prog W 0 (fun _ => true) false n 2 (([c0, c1, c2].drop 2).take (Tryz.prog.cellsOf 2)) = some x2 from he 2 _ rfl)
      rw [hi] at e0 e1 e2
      obtain ⟨n0, k0, j0, _⟩ := DataW.trod_int Tryz.underlying2 e0
      obtain ⟨n1, k1, j1, _⟩ := DataW.trod_int Tryz.underlying2 e1
      obtain ⟨n2, k2, j2, _⟩ := DataW.trod_int Tryz.underlying2 e2
      simp only [List.drop_zero, List.drop_succ_cons, List.take_succ_cons, List.take_zero, List.cons.injEq, and_true] at k0 k1 k2
      subst k0 k1 k2 j0 j1 j2
      simp only [DataW.lit.injEq, Lit.int.injEq, true_and] at hx
      obtain ⟨⟨rfl, rfl, rfl⟩, _⟩ := hx
      exact ⟨World.var?_cell h1 h3 0, World.var?_cell h1 h3 1, World.var?_cell h1 h3 2⟩
theorem laid_w {W : World} (h : laidMetH Tryz.prog Rows.fnExactNetsRow.laid W) : Laid W := ⟨die_laid h, trivial, trivial⟩
set_option maxRecDepth 100000 in
theorem lifted (os : Os) (started : os.Started) (H : Type) (enc : TypeId × Value → H) :
    ReturnsInHanded {} Tryz.checked os 3 .any (fun w args => (Rows.fnExactNetsSpec.pre enc Tryz.prog Tryz.f3 [] false w args ∧ laidMetH Tryz.prog Rows.fnExactNetsRow.laid w) ∧ sizedMet enc Tryz.prog Tryz.f3 (OpenSpec.ofChange Rows.fnExactNetsSpec) false w args) (Rows.fnExactNetsSpec.post enc Tryz.prog Tryz.f3 false true false false) := by
  refine returnsInHanded_of_change_and (C := Tryz.checked) (X := fun w _ => laidMetH Tryz.prog Rows.fnExactNetsRow.laid w) (fun _ _ _ hh h => h.of_heap hh) own started (by kernel_rfl) Tryz.func3
    (ChangeSpec.witness_shaped (enc := enc) (C := Tryz.checked) (os := os) (X := fun w _ => laidMetH Tryz.prog Rows.fnExactNetsRow.laid w) false (start os) #[] 8 rfl (World.shaped_of_RefB (by kernel_rfl) (by kernel_rfl)) (by kernel_rfl) (by kernel_rfl) (by kernel_rfl) (start_met os)) ?_
  intro W base args ds gs before hval0 hW _ hsz0 hL _
  have hsz : (DataW.weightsEach Tryz.prog (Tryz.f3.params.toList ++ Rows.fnExactNetsSpec.plain.varTypes Tryz.prog) (ds ++ gs)).all (· ≤ reachBytes) = true := hsz0
  have hval : ∀ (j : Nat) t v, Tryz.f3.params[j]? = some t → args[j]? = some v → Value.okWide Tryz.prog W .any base t v := hval0
  have hW' := hW
  obtain ⟨p, q, hA0, hV0, rfl, hfz, hnd⟩ := hW
  have hA : DataW.TrodAll enc Tryz.prog W 0 (fun _ => true) true Tryz.f3.params.toList args.toList ds p := hA0
  have hV : DataW.TrodVars enc Tryz.prog W (fun _ => true) ["loop.example/g00919/impl.firstDie"] gs q := hV0
  rw [Tryz.params3] at hA hval hsz
  obtain ⟨ha0, rfl, rfl⟩ := trodAll_nil hA
  obtain rfl : args = #[] := Array.toList_inj.1 ha0
  obtain ⟨_, _, _, _, g1, _, rfl, _⟩ := trodVars_one hV
  clear hA0 hval0 hsz0 hsz
  obtain ⟨k, hk⟩ := Pure.FnExactNets 
  refine (laws_FnExactNets.calls k  true W  hk (laid_w hL)).mono fun e W' ⟨he, bel⟩ => ?_
  subst he
  have hV' : DataW.TrodVars enc Tryz.prog W' (fun b => decide (b < W.heap.size)) ["loop.example/g00919/impl.firstDie"] [g1] q := Below.trodVars laidOut bel (by kernel_rfl) hV
  exact ⟨_, rfl, _, _, _, [], _, q, hW', trodAll_mk1 (shut_bool Tryz.underlying4 _), trodAll_mk0, hV', bel.frame _, fun h => by cases h⟩
theorem over : Rows.fnExactNetsRow.holds Tryz.pinned (OpenSpec.ofChange Rows.fnExactNetsSpec) :=
  OpenClaim.holds_of_wide 3 Tryz.f3 rfl rfl rfl rfl rfl rfl rfl ⟨rfl, rfl, rfl, rfl, rfl⟩ rfl rfl rfl rfl rfl (by kernel_rfl) Tryz.func3 (by kernel_rfl)
    (of_decide_eq_true (by kernel_rfl)) (by unfold Func.isWrapper; first | (rw [if_pos (by decide +kernel)]; kernel_rfl) | (rw [if_neg (by decide +kernel)]; exact ⟨rfl, rfl⟩))
    (fun os started H enc _ => lifted os started H enc)
theorem proved : Rows.FnExactNetsCardSaid :=
  Claim7.holds_tied_plain_at .later [] [.data] true (true, "b8daaf1bed23c2c405560a06624efd1565d4fecbe043032c5ffd8dba34fbb040") false
    over (fun _ h => by cases h) (by kernel_rfl) (fun _ h => by cases h) fnExactNets_row_tie rfl ⟨rfl, rfl⟩ (by kernel_rfl) rfl
    (fun f fn hf hfn => by
      obtain rfl : f = 3 := Option.some.inj ((show Tryz.prog.funcNamed "loop.example/g00919/laws.FnExactNets" = some 3 by kernel_rfl).symm.trans hf) |>.symm
      obtain rfl : fn = Tryz.f3 := (Option.some.inj (Tryz.func3.symm.trans hfn)).symm
      exact ⟨by kernel_rfl, fun j t ht => by
        rw [Tryz.params3] at ht
        have hm : t ∈ ([] : List TypeId) := by simpa using Array.mem_of_getElem? ht
        have hall : (([] : List TypeId).all fun u => !Tryz.prog.wantsStandIn u) = true := by kernel_rfl
        exact (show Tryz.prog.wantsStandIn t = false by simpa using List.all_eq_true.1 hall t hm)⟩)
    (by kernel_rfl)
end Go.Proofs.YtmdjkmfocgelnaaGreatDoor.fnExactNets
namespace Go.Proofs.YtmdjkmfocgelnaaGreatDoor
/-- The card, under a short name, for the claim. -/
theorem fnExactNets_holds : Rows.FnExactNetsCardSaid := fnExactNets.proved
end Go.Proofs.YtmdjkmfocgelnaaGreatDoor
