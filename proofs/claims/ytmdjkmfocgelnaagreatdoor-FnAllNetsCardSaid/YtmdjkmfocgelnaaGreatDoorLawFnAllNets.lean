/- The card of the law FnAllNets: its arguments opened, the listed variables as laid, the printed walk, the pure statement of YtmdjkmfocgelnaaGreatDoorPureFnAllNets. Written by a program of mine (rowgen.py). No condition beyond the card's own. -/
import Derived.Test.YtmdjkmfocgelnaaGreatDoorRows
import Derived.Test.YtmdjkmfocgelnaaGreatDoorCards
import Derived.Test.YtmdjkmfocgelnaaGreatDoorTie
import Derived.Test.YtmdjkmfocgelnaaGreatDoorPFnAllNetsx23
import Derived.Test.YtmdjkmfocgelnaaGreatDoorPureFnAllNets
import Derived.Test.YtmdjkmfocgelnaaGreatDoorOpens
import Derived.WalkKit
import Derived.ProofKit
import Derived.OpenShut
import Derived.OpenVars
import Derived.ShutString
import Derived.ChangeOld
import Derived.ChangeVars
import Derived.Below
import Derived.SizedLaws
import Derived.LaidMore
import Derived.LaidHandle
import Derived.MakeChecks
import Derived.SevenTiedAt
import Derived.Lib.LaidTab
namespace Go.Proofs.YtmdjkmfocgelnaaGreatDoor.fnAllNets
open Go.ChangeShapes Go.WideShapes Go.ChangeAt Go.RowKit Go.Proofs.YtmdjkmfocgelnaaGreatDoorW.PrintWords Go.Proofs.YtmdjkmfocgelnaaGreatDoor.PFnAllNets Go.Proofs.YtmdjkmfocgelnaaGreatDoor.Opens
open Go.ChangeMaps (open_string shut_string)
set_option linter.unusedVariables false
theorem own : ownKnob Tryz.prog.godebug = none := by kernel_rfl
theorem laidOut : laidOutB Tryz.prog = true := by kernel_rfl
noncomputable def start (os : Os) : World := World.doorLaid Tryz.prog 14 os
set_option maxRecDepth 100000 in
theorem start_met (os : Os) : laidMetH Tryz.prog Rows.fnAllNetsRow.laid ((start os).forCall (fun _ _ => 0) ⟨#[], #[.slice none 0 0], []⟩).memory :=
  laidMetH_of_parts3 (fuel := 8) (laidMet_of_run' 8 (by kernel_rfl) (by kernel_rfl)) (by kernel_rfl) (by kernel_rfl)
set_option maxRecDepth 100000 in
theorem die_laid {W : World} (h : laidMetH Tryz.prog Rows.fnAllNetsRow.laid W) : W.cell? ⟨0, 0, none⟩ = some (.int .i64 0) ∧ W.cell? ⟨0, 1, none⟩ = some (.int .i64 1) ∧ W.cell? ⟨0, 2, none⟩ = some (.int .i64 2) := by
  rw [MakeChecks.laidMetH_plain _ _ _ (by kernel_rfl)] at h
  obtain ⟨ps, hl, _⟩ := h
  obtain ⟨g, t, cs, fuel, p, h1, h2, h3, h4⟩ := laid_at (name := "loop.example/g00919/impl.firstDie") (d := Rows.laid_loop_example_g00919_impl_firstDie) hl (by simp [Rows.fnAllNetsRow])
  obtain rfl : 0 = g := Option.some.inj ((show Tryz.prog.globalNamed "loop.example/g00919/impl.firstDie" = some 0 by kernel_rfl).symm.trans h1)
  obtain rfl : 73 = t := Option.some.inj ((show (Tryz.prog.globals[0]?).map (·.type) = some 73 by kernel_rfl).symm.trans h2)
  obtain ⟨xs, n, rfl, hx, hlen, _, he⟩ := DataW.trod_struct Tryz.underlying73 h4
  have hc : Tryz.prog.cellsOf 73 = 3 := by kernel_rfl
  have hi : Tryz.prog.cellsOf 2 = 1 := by kernel_rfl
  rw [hc] at hlen
  obtain ⟨l⟩ := cs
  match l, hlen with
  | [c0, c1, c2], _ =>
    match xs, hx with
    | [x0, x1, x2], hx =>
      simp only [Rows.laid_loop_example_g00919_impl_firstDie, List.map_cons, List.map_nil, Prod.mk.injEq, DataW.agg.injEq, List.cons.injEq, and_true] at hx
      have e0 := (show DataW.trod (fun _ => ()) Tryz.prog W 0 (fun _ => true) false n 2 (([c0, c1, c2].drop 0).take (Tryz.prog.cellsOf 2)) = some x0 from he 0 _ rfl)
      have e1 := (show DataW.trod (fun _ => ()) Tryz.prog W 0 (fun _ => true) false n 2 (([c0, c1, c2].drop 1).take (Tryz.prog.cellsOf 2)) = some x1 from he 1 _ rfl)
      have e2 := (show DataW.trod (fun _ => ()) Tryz.prog W 0 (fun _ => true) false n 2 (([c0, c1, c2].drop 2).take (Tryz.prog.cellsOf 2)) = some x2 from he 2 _ rfl)
      rw [hi] at e0 e1 e2
      obtain ⟨n0, k0, j0, _⟩ := DataW.trod_int Tryz.underlying2 e0
      obtain ⟨n1, k1, j1, _⟩ := DataW.trod_int Tryz.underlying2 e1
      obtain ⟨n2, k2, j2, _⟩ := DataW.trod_int Tryz.underlying2 e2
      simp only [List.drop_zero, List.drop_succ_cons, List.take_succ_cons, List.take_zero, List.cons.injEq, and_true] at k0 k1 k2
      subst k0 k1 k2 j0 j1 j2
      simp only [DataW.lit.injEq, Lit.int.injEq, true_and] at hx
      obtain ⟨⟨rfl, rfl, rfl⟩, _⟩ := hx
      exact ⟨World.var?_cell h1 h3 0, World.var?_cell h1 h3 1, World.var?_cell h1 h3 2⟩
theorem laid_w {W : World} (h : laidMetH Tryz.prog Rows.fnAllNetsRow.laid W) : Laid W := ⟨die_laid h, trivial, trivial⟩
set_option maxRecDepth 100000 in
theorem lifted (os : Os) (started : os.Started) (H : Type) (enc : TypeId × Value → H) :
    ReturnsInHanded {} Tryz.checked os 4 .any (fun w args => (Rows.fnAllNetsSpec.pre enc Tryz.prog Tryz.f4 [] false w args ∧ laidMetH Tryz.prog Rows.fnAllNetsRow.laid w) ∧ sizedMet enc Tryz.prog Tryz.f4 (OpenSpec.ofChange Rows.fnAllNetsSpec) false w args) (Rows.fnAllNetsSpec.post enc Tryz.prog Tryz.f4 false true false false) := by
  refine returnsInHanded_of_change_and (C := Tryz.checked) (X := fun w _ => laidMetH Tryz.prog Rows.fnAllNetsRow.laid w) (fun _ _ _ hh h => h.of_heap hh) own started (by kernel_rfl) Tryz.func4
    (ChangeSpec.witness_shaped (enc := enc) (C := Tryz.checked) (os := os) (X := fun w _ => laidMetH Tryz.prog Rows.fnAllNetsRow.laid w) false (start os) #[.slice none 0 0] 8 rfl (World.shaped_of_RefB (by kernel_rfl) (by kernel_rfl)) (by kernel_rfl) (by kernel_rfl) (by kernel_rfl) (start_met os)) ?_
  intro W base args ds gs before hval0 hW _ hsz0 hL _
  have hsz : (DataW.weightsEach Tryz.prog (Tryz.f4.params.toList ++ Rows.fnAllNetsSpec.plain.varTypes Tryz.prog) (ds ++ gs)).all (· ≤ reachBytes) = true := hsz0
  have hval : ∀ (j : Nat) t v, Tryz.f4.params[j]? = some t → args[j]? = some v → Value.okWide Tryz.prog W .any base t v := hval0
  have hW' := hW
  obtain ⟨p, q, hA0, hV0, rfl, hfz, hnd⟩ := hW
  have hA : DataW.TrodAll enc Tryz.prog W 0 (fun _ => true) true Tryz.f4.params.toList args.toList ds p := hA0
  have hV : DataW.TrodVars enc Tryz.prog W (fun _ => true) ["loop.example/g00919/impl.firstDie"] gs q := hV0
  rw [Tryz.params4] at hA hval hsz
  obtain ⟨v0, vs0, d0, ds0, p0, q0, hargs, rfl, rfl, h0, r0⟩ := trodAll_cons hA
  obtain ⟨rfl, rfl, rfl⟩ := trodAll_nil r0
  obtain rfl : args = #[v0] := by cases args; simp_all
  obtain ⟨_, _, _, _, g1, _, rfl, _⟩ := trodVars_one hV
  have k0 := h0
  have lt0 : ∀ x ∈ p0, x.block < W.heap.size := by obtain ⟨m, hm⟩ := k0; exact DataW.trod_lt m _ _ _ hm
  obtain ⟨A0, c0, l0, rfl, hc0, hm0, hr0, hg0, hx0⟩ := arg_slice Tryz.underlying27 (opens_int Tryz.underlying5 (by kernel_rfl)) (hval 0 27 v0 rfl rfl) h0
  have y0 := reach_slice hsz (j := 0) (t := 27) rfl rfl Tryz.underlying27 (B := 1) (by kernel_rfl) hx0
  clear hA0 hval0 hsz0 hsz
  obtain ⟨k, hk⟩ := Pure.FnAllNets l0 hm0 y0 hg0
  refine (laws_FnAllNets.calls k A0 c0 l0 true W hr0 hc0 hk (laid_w hL)).mono fun e W' ⟨he, bel⟩ => ?_
  subst he
  have hV' : DataW.TrodVars enc Tryz.prog W' (fun b => decide (b < W.heap.size)) ["loop.example/g00919/impl.firstDie"] [g1] q := Below.trodVars laidOut bel (by kernel_rfl) hV
  exact ⟨_, rfl, _, _, _, [], _, q, hW', trodAll_mk1 (shut_bool Tryz.underlying4 _), (trodAll_cons_mk (Below.trod laidOut (by kernel_rfl) (of_decide_eq_true (by kernel_rfl)) k0 bel lt0) trodAll_mk0), hV', bel.frame _, fun h => by cases h⟩
theorem over : Rows.fnAllNetsRow.holds Tryz.pinned (OpenSpec.ofChange Rows.fnAllNetsSpec) :=
  OpenClaim.holds_of_wide 4 Tryz.f4 rfl rfl rfl rfl rfl rfl rfl ⟨rfl, rfl, rfl, rfl, rfl⟩ rfl rfl rfl rfl rfl (by kernel_rfl) Tryz.func4 (by kernel_rfl)
    (of_decide_eq_true (by kernel_rfl)) (by unfold Func.isWrapper; first | (rw [if_pos (by decide +kernel)]; kernel_rfl) | (rw [if_neg (by decide +kernel)]; exact ⟨rfl, rfl⟩))
    (fun os started H enc _ => lifted os started H enc)
theorem proved : Rows.FnAllNetsCardSaid :=
  Claim7.holds_tied_plain_at .later [] [.data] true (true, "b8daaf1bed23c2c405560a06624efd1565d4fecbe043032c5ffd8dba34fbb040") false
    over (fun _ h => by cases h) (by kernel_rfl) (fun _ h => by cases h) fnAllNets_row_tie rfl ⟨rfl, rfl⟩ (by kernel_rfl) rfl
    (fun f fn hf hfn => by
      obtain rfl : f = 4 := Option.some.inj ((show Tryz.prog.funcNamed "loop.example/g00919/laws.FnAllNets" = some 4 by kernel_rfl).symm.trans hf) |>.symm
      obtain rfl : fn = Tryz.f4 := (Option.some.inj (Tryz.func4.symm.trans hfn)).symm
      exact ⟨by kernel_rfl, fun j t ht => by
        rw [Tryz.params4] at ht
        have hm : t ∈ ([27] : List TypeId) := by simpa using Array.mem_of_getElem? ht
        have hall : (([27] : List TypeId).all fun u => !Tryz.prog.wantsStandIn u) = true := by kernel_rfl
        exact (show Tryz.prog.wantsStandIn t = false by simpa using List.all_eq_true.1 hall t hm)⟩)
    (by kernel_rfl)
end Go.Proofs.YtmdjkmfocgelnaaGreatDoor.fnAllNets
namespace Go.Proofs.YtmdjkmfocgelnaaGreatDoor
/-- The card, under a short name, for the claim. -/
theorem fnAllNets_holds : Rows.FnAllNetsCardSaid := fnAllNets.proved
end Go.Proofs.YtmdjkmfocgelnaaGreatDoor
