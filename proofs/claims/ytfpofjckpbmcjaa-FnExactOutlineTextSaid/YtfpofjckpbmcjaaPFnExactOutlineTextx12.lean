/- Over the kit's printer by a driver of mine (hprint.py), with parts by hand: functions of the program as Lean functions, and that each call comes to exactly these answers. -/
import Derived.Test.YtfpofjckpbmcjaaPFnExactOutlineTextx0
import Derived.Test.YtfpofjckpbmcjaaPFnExactOutlineTextx8
import Derived.Test.YtfpofjckpbmcjaaPFnExactOutlineTextx11
namespace Go.Proofs.Ytfpofjckpbmcjaa.PFnExactOutlineText
open Go.RowKit Go.Proofs.YtfpofjckpbmcjaaW.PrintWords Go.Proofs.YtfpofjckpbmcjaaW.PrintLast Go.Proofs.YtfpofjckpbmcjaaW.PrintMore
attribute [local go_sem] max2_int min2_int max_two min_two max_three min_three max_four min_four   -- for this text's walks alone
set_option linter.unusedVariables false
set_option linter.unusedSimpArgs false

/-! ### impl_drawing: function 38 -/
-- IMPORT Derived.Laws.CopyOwn
-- IMPORT Derived.Deep.RegionLaw
-- IMPORT Derived.Deep.RegionWith
-- IMPORT Derived.Deep.CutRange
/-! A drawing under way: rows of bytes, each in a block of its own. -/
def setG (G : List (List Int)) (x y : Nat) (v : Int) : List (List Int) := G.set y ((G.getD y []).set x v)
theorem setG_len (G : List (List Int)) (x y : Nat) (v : Int) : (setG G x y v).length = G.length := by simp [setG]
structure GridAt (w : World) (R n : Nat) (bs : List Nat) (G : List (List Int)) : Prop where
  len : bs.length = G.length
  rows : w.heap[R]? = some (.cells (bs.map fun b => Value.slice (some ⟨b, 0, none⟩) n n).toArray 64 (0, 0))
  cell : ∀ (y b : Nat), bs[y]? = some b → w.heap[b]? = some (.cells ((G.getD y []).map (Value.int .u8)).toArray 5 (0, 0))
  wide : ∀ r ∈ G, r.length = n
  nd : bs.Nodup
theorem GridAt.ne {w : World} {R n : Nat} {bs : List Nat} {G : List (List Int)} (h : GridAt w R n bs G) {y b : Nat} (hb : bs[y]? = some b) : b ≠ R :=
  blk_ne (h.cell y b hb) h.rows (by decide)
theorem GridAt.get {w : World} {R n : Nat} {bs : List Nat} {G : List (List Int)} (h : GridAt w R n bs G) {y : Nat} (hy : y < G.length) : ∃ b, bs[y]? = some b ∧ w.cell? ⟨R, y, none⟩ = some (.slice (some ⟨b, 0, none⟩) n n) := by
  have hl : y < bs.length := by rw [h.len]; exact hy
  refine ⟨bs[y], List.getElem?_eq_getElem hl, ?_⟩
  rw [blk_cell h.rows y, List.getElem?_toArray, List.getElem?_map, List.getElem?_eq_getElem hl]
  rfl
theorem GridAt.row {w : World} {R n : Nat} {bs : List Nat} {G : List (List Int)} (h : GridAt w R n bs G) {y : Nat} (hy : y < G.length) : (G.getD y []).length = n := by
  refine h.wide _ ?_
  rw [List.getD_eq_getElem?_getD, List.getElem?_eq_getElem hy]
  exact List.getElem_mem hy
theorem GridAt.kept {w w' : World} {R n : Nat} {bs : List Nat} {G : List (List Int)} {S : Nat → Prop} (h : GridAt w R n bs G) (hk : Kept w w' S) (hR : ¬ S R) (hb : ∀ b ∈ bs, ¬ S b) : GridAt w' R n bs G :=
  ⟨h.len, blk_kept h.rows hk hR, fun y b hy => blk_kept (h.cell y b hy) hk (hb b (List.mem_of_getElem? hy)), h.wide, h.nd⟩
theorem GridAt.below {w w' : World} {R n : Nat} {bs : List Nat} {G : List (List Int)} (h : GridAt w R n bs G) (hb : Below w.heap.size w w') : GridAt w' R n bs G :=
  h.kept (Kept.of_below hb (fun _ => False)) (fun h => h) (fun _ _ h => h)
theorem GridAt.far {w : World} {R n : Nat} {bs : List Nat} {G : List (List Int)} (h : GridAt w R n bs G) {p : Addr} (hR : R ≠ p.block) (hb : ∀ b ∈ bs, b ≠ p.block) (u : Value) : GridAt (w.setCell p u) R n bs G :=
  ⟨h.len, blk_far h.rows hR u, fun y b hy => blk_far (h.cell y b hy) (hb b (List.mem_of_getElem? hy)) u, h.wide, h.nd⟩
theorem nodup_inj {bs : List Nat} (h : bs.Nodup) {i j : Nat} (hi : i < bs.length) (hj : j < bs.length) (e : bs[i] = bs[j]) : i = j := by
  rw [List.nodup_iff_pairwise_ne, List.pairwise_iff_getElem] at h
  rcases Nat.lt_trichotomy i j with hl | hl | hl
  · exact absurd e (h i j hi hj hl)
  · exact hl
  · exact absurd e.symm (h j i hj hi hl)
theorem GridAt.put {w : World} {R n : Nat} {bs : List Nat} {G : List (List Int)} (h : GridAt w R n bs G) {y b : Nat} (hb : bs[y]? = some b) (x : Nat) (v : Int) : GridAt (w.setCell ⟨b, x, none⟩ (.int .u8 v)) R n bs (setG G x y v) := by
  have hy : y < G.length := by rw [← h.len]; exact (List.getElem?_eq_some_iff.1 hb).1
  refine ⟨by rw [setG_len]; exact h.len, blk_far h.rows (fun e => h.ne hb e.symm) _, fun y' b' hb' => ?_, fun r hr => ?_, h.nd⟩
  · by_cases e : y' = y
    · subst e
      obtain rfl : b = b' := Option.some.inj (hb.symm.trans hb')
      refine blk_put (h.cell y' b hb) x _ ?_
      apply Array.toList_inj.1
      rw [Array.toList_setIfInBounds]
      simp only [setG]
      rw [List.getD_eq_getElem?_getD, List.getD_eq_getElem?_getD, List.getElem?_set, if_pos rfl, if_pos hy]
      simp [List.map_set]
    · have hne : b' ≠ b := fun he => by
        subst he
        obtain ⟨l1, e1⟩ := List.getElem?_eq_some_iff.1 hb
        obtain ⟨l2, e2⟩ := List.getElem?_eq_some_iff.1 hb'
        exact e (nodup_inj h.nd l2 l1 (e2.trans e1.symm))
      have hc := blk_far (h.cell y' b' hb') (p := ⟨b, x, none⟩) hne (.int .u8 v)
      rw [hc]
      simp only [setG]
      rw [List.getD_eq_getElem?_getD, List.getD_eq_getElem?_getD, List.getElem?_set, if_neg (fun h => e h.symm)]
  · rcases List.mem_or_eq_of_mem_set hr with h1 | h1
    · exact h.wide r h1
    · rw [h1, List.length_set]
      exact h.row hy
theorem GridAt.byte {w : World} {R n : Nat} {bs : List Nat} {G : List (List Int)} (h : GridAt w R n bs G) {y b : Nat} (hb : bs[y]? = some b) {x : Nat} (hx : x < n) : w.cell? ⟨b, x, none⟩ = some (.int .u8 ((G.getD y []).getD x 0)) := by
  have hy : y < G.length := by rw [← h.len]; exact (List.getElem?_eq_some_iff.1 hb).1
  have hl : x < (G.getD y []).length := by rw [h.row hy]; exact hx
  rw [blk_cell (h.cell y b hb) x, List.getElem?_toArray, List.getElem?_map, List.getElem?_eq_getElem hl, List.getD_eq_getElem?_getD (l := G.getD y []), List.getElem?_eq_getElem hl]
  rfl
/-! The first closure: are two cells apart? -/
def okC (p : Int × Int) : Prop := (-9223372036854775808 ≤ p.1 ∧ p.1 ≤ 9223372036854775807) ∧ (-9223372036854775808 ≤ p.2 ∧ p.2 ≤ 9223372036854775807)
theorem cellLaidD : Go.Maps.Keyed Try.prog 57 := Go.Maps.Keyed.of_law (Go.deep_law_laid (m := 3) (by kernel_rfl) (by omega) (of_decide_eq_true (by kernel_rfl)) (by kernel_rfl) (by kernel_rfl))
theorem cellKeyedD (p : Int × Int) (h : okC p) : ∃ l, keyOf Try.prog 57 (enc2 p) = some l :=
  key2 Try.underlying57 (by kernel_rfl) (by kernel_rfl) Try.underlying2 Try.underlying2 (by kernel_rfl) (by kernel_rfl) rfl rfl (by decide) (by decide) ⟨Try.prog.types.size - 1, by kernel_rfl⟩ p.1 p.2 h.1 h.2
theorem intZ (w : World) : (zeroValue 2).run Try.prog w = .ok (.int .i64 0) w := by kernel_rfl
def apartV (a b : Option Int) : Bool := (a.isSome != b.isSome) || (a.getD 0 != b.getD 0)
set_option maxHeartbeats 4000000 in
set_option maxRecDepth 100000 in
theorem apart_calls (W : World) (gp mb nn : Nat) (F : Int × Int → Option Int) (hgp : W.heap[gp]? = some (.cells #[.map (some mb)] 66 (0, 0))) (HM : MapF Try.prog 57 enc2 W mb nn (fun p => (F p).map (Value.int .i64))) (a b : Int × Int) (ha : okC a) (hb : okC b) :
    Calls Try.prog 45 #[.agg #[.int .i64 a.1, .int .i64 a.2], .agg #[.int .i64 b.1, .int .i64 b.2], .pointer (some ⟨gp, 0, none⟩)] W fun e w' => e = .returned (.bool (apartV (F a) (F b))) ∧ Below W.heap.size W w' := by
  have c0 : W.cell? ⟨gp, 0, none⟩ = some (.map (some mb)) := (blk_cell hgp 0).trans rfl
  have HM' := Aside0.mk HM
  have KA := Aside0.mk (cellKeyedD a ha)
  have KB := Aside0.mk (cellKeyedD b hb)
  have hB := Aside0.mk (below_alloc (below_alloc (Below.refl W.heap.size W) (.cells #[.int .i64 a.1, .int .i64 a.2] 57)) (.cells #[.int .i64 b.1, .int .i64 b.2] 57))
  have c1 := (hB.out.cell (World.block_lt_of_cell? W _ c0)).trans c0
  clear HM hgp ha hb
  have main : ∀ (r1 r2 : Option Int) (u1 u2 : Int) (q1 q2 z : Bool), F a = r1 → F b = r2 → r1.getD 0 = u1 → r2.getD 0 = u2 → r1.isSome = q1 → r2.isSome = q2 → ((q1 != q2) || (u1 != u2)) = z →
      Calls Try.prog 45 #[.agg #[.int .i64 a.1, .int .i64 a.2], .agg #[.int .i64 b.1, .int .i64 b.2], .pointer (some ⟨gp, 0, none⟩)] W fun e w' => e = .returned (.bool z) ∧ Below W.heap.size W w' := by
    intro r1 r2 u1 u2 q1 q2 z e1 e2 g1 g2 k1 k2 hz
    have E1 : (fun p => (F p).map (Value.int .i64)) a = r1.map (Value.int .i64) := by simp only [e1]
    have E2 : (fun p => (F p).map (Value.int .i64)) b = r2.map (Value.int .i64) := by simp only [e2]
    have G1 : (r1.map (Value.int .i64)).getD (.int .i64 0) = .int .i64 u1 := by subst g1; cases r1 <;> rfl
    have G2 : (r2.map (Value.int .i64)).getD (.int .i64 0) = .int .i64 u2 := by subst g2; cases r2 <;> rfl
    have Q1 : (r1.map (Value.int .i64)).isSome = q1 := by subst k1; cases r1 <;> rfl
    have Q2 : (r2.map (Value.int .i64)).isSome = q2 := by subst k2; cases r2 <;> rfl
    have A1 := Aside0.mk E1
    have A2 := Aside0.mk E2
    have A3 := Aside0.mk G1
    have A4 := Aside0.mk G2
    have A5 := Aside0.mk Q1
    have A6 := Aside0.mk Q2
    clear E1 E2 G1 G2 Q1 Q2 e1 e2 g1 g2 k1 k2
    have go : ∀ d : Bool, (u1 != u2) = d → ((q1 != q2) || d) = z → Calls Try.prog 45 #[.agg #[.int .i64 a.1, .int .i64 a.2], .agg #[.int .i64 b.1, .int .i64 b.2], .pointer (some ⟨gp, 0, none⟩)] W fun e w' => e = .returned (.bool z) ∧ Below W.heap.size W w' := by
      intro d hd hz
      have hd1 : (u1 == u2) = !d := by rw [← hd]; simp [bne]
      have hd2 : decide (u1 = u2) = !d := by rw [← hd]; by_cases h : u1 = u2 <;> simp [h]
      have HD := Aside0.mk hd
      clear hd
      cases q1 <;> cases q2 <;> cases d <;> subst hz <;> (
        go_enter Try.func45, Try.ntmps45
        go_wp2_with (first | (at_lookup; refine wpList_lookF rfl (.tmp 11) (.tmp 12) 66 rfl 57 2 cellLaidD Try.underlying66 (intZ _) enc2 mb nn _ rfl ((HM'.out.alloc _).alloc _) a rfl KA.out _ A1.out _ _ A3.out A5.out ?_) | (at_lookup; refine wpList_lookF rfl (.tmp 17) (.tmp 18) 66 rfl 57 2 cellLaidD Try.underlying66 (intZ _) enc2 mb nn _ rfl ((HM'.out.alloc _).alloc _) b rfl KB.out _ A2.out _ _ A4.out A6.out ?_))
        go_ret
        exact ⟨by first | rfl | (show Ending.returned (.bool (u1 != u2)) = _; rw [HD.out]), hB.out⟩)
    exact go _ rfl hz
  exact main _ _ _ _ _ _ _ rfl rfl rfl rfl rfl rfl rfl
/-! The second closure: a side and its two corners are drawn, and counted. -/
def cornersOf (x1 y1 x2 y2 : Nat) : Nat → Nat × Nat
  | 0 => (x1, y1)
  | _ => (x2, y2)
def gridAfter (G : List (List Int)) (x1 y1 x2 y2 : Nat) : Nat → List (List Int)
  | 0 => G
  | 1 => setG G x1 y1 43
  | _ => setG (setG G x1 y1 43) x2 y2 43
theorem gridAfter_len (G : List (List Int)) (x1 y1 x2 y2 j : Nat) : (gridAfter G x1 y1 x2 y2 j).length = G.length := by
  match j with
  | 0 => rfl
  | 1 => exact setG_len _ _ _ _
  | j + 2 => exact (setG_len _ _ _ _).trans (setG_len _ _ _ _)
set_option maxHeartbeats 4000000 in
set_option maxRecDepth 100000 in
theorem draw_calls (B : Nat) (w0 W : World) (R n : Nat) (bs : List Nat) (G : List (List Int)) (rp cp K : Nat) (cnt b : Int) (x y x1 y1 x2 y2 : Nat) (hB : Below B w0 W) (hBW : B ≤ W.heap.size) (hbs : ∀ q ∈ bs, B ≤ q) (hcB : B ≤ cp)
    (hG : GridAt W R n bs G) (hrp : W.heap[rp]? = some (.cells #[.slice (some ⟨R, 0, none⟩) G.length G.length] 68 (0, 0))) (hcp : W.heap[cp]? = some (.cells #[.int .i64 cnt] 2 (0, 0)))
    (hK : W.heap[K]? = some (.cells #[.int .i64 (x1 : Int), .int .i64 (y1 : Int), .int .i64 (x2 : Int), .int .i64 (y2 : Int)] 57 (0, 0)))
    (hx : x < n) (hy : y < G.length) (hx1 : x1 < n) (hy1 : y1 < G.length) (hx2 : x2 < n) (hy2 : y2 < G.length) (hn : n ≤ 1000) (hl : G.length ≤ 1000) :
    Calls Try.prog 48 #[.int .i64 (x : Int), .int .i64 (y : Int), .int .u8 b, .slice (some ⟨K, 0, none⟩) 2 2, .pointer (some ⟨rp, 0, none⟩), .pointer (some ⟨cp, 0, none⟩)] W fun e w' =>
      e = .returned (.tuple #[]) ∧ GridAt w' R n bs (gridAfter (setG G x y b) x1 y1 x2 y2 2) ∧ w'.heap[rp]? = some (.cells #[.slice (some ⟨R, 0, none⟩) G.length G.length] 68 (0, 0)) ∧ w'.heap[cp]? = some (.cells #[.int .i64 (wrap64 (cnt + 1))] 2 (0, 0)) ∧ Kept W w' (fun k => k ∈ bs ∨ k = cp) ∧ Below B w0 w' := by
  obtain ⟨g, hg, hrow⟩ := hG.get hy
  have c0 : W.cell? ⟨rp, 0, none⟩ = some (.slice (some ⟨R, 0, none⟩) G.length G.length) := (blk_cell hrp 0).trans rfl
  have c1 := hG.byte hg hx
  have f1 := blk_frozen (hG.cell y g hg) x
  have hgp : g ≠ cp := blk_ne (hG.cell y g hg) hcp (by decide)
  have hgr : g ≠ rp := blk_ne (hG.cell y g hg) hrp (by decide)
  have hgK : g ≠ K := blk_ne (hG.cell y g hg) hK (by decide)
  have hcR : cp ≠ R := blk_ne hcp hG.rows (by decide)
  have hcr : cp ≠ rp := blk_ne hcp hrp (by decide)
  have hcK : cp ≠ K := blk_ne hcp hK (by decide)
  have hcb : ∀ q ∈ bs, q ≠ cp := fun q hq => by
    obtain ⟨i, hi⟩ := List.getElem?_of_mem hq
    exact blk_ne (hG.cell i q hi) hcp (by decide)
  have G1 := Aside0.mk ((hG.put hg x b).far (p := ⟨cp, 0, none⟩) (fun e => hcR e.symm) hcb (.int .i64 (wrap64 (cnt + 1))))
  have cc : (W.setCell ⟨g, x, none⟩ (.int .u8 b)).cell? ⟨cp, 0, none⟩ = some (.int .i64 cnt) := (blk_cell (blk_far hcp (p := ⟨g, x, none⟩) (fun e => hgp e.symm) _) 0).trans rfl
  have fc : (W.setCell ⟨g, x, none⟩ (.int .u8 b)).frozen? ⟨cp, 0, none⟩ = false := blk_frozen (blk_far hcp (p := ⟨g, x, none⟩) (fun e => hgp e.symm) _) 0
  have R1 := Aside0.mk (blk_far (blk_far hrp (p := ⟨g, x, none⟩) (fun e => hgr e.symm) (.int .u8 b)) (p := ⟨cp, 0, none⟩) (fun e => hcr e.symm) (.int .i64 (wrap64 (cnt + 1))))
  have P1 := Aside0.mk (blk_put (cs' := #[.int .i64 (wrap64 (cnt + 1))]) (blk_far hcp (p := ⟨g, x, none⟩) (fun e => hgp e.symm) (.int .u8 b)) 0 (.int .i64 (wrap64 (cnt + 1))) rfl)
  have K1 := Aside0.mk (blk_far (blk_far hK (p := ⟨g, x, none⟩) (fun e => hgK e.symm) (.int .u8 b)) (p := ⟨cp, 0, none⟩) (fun e => hcK e.symm) (.int .i64 (wrap64 (cnt + 1))))
  have hgm : g ∈ bs := List.mem_of_getElem? hg
  have T1 := Aside0.mk (((Kept.refl W (fun k => k ∈ bs ∨ k = cp)).setCell (p := ⟨g, x, none⟩) (.inl (.inl hgm)) (.int .u8 b)).setCell (p := ⟨cp, 0, none⟩) (.inl (.inr rfl)) (.int .i64 (wrap64 (cnt + 1))))
  have B1 := Aside0.mk ((hB.setCell (p := ⟨g, x, none⟩) (hbs g hgm) (.int .u8 b)).setCell (p := ⟨cp, 0, none⟩) hcB (.int .i64 (wrap64 (cnt + 1))))
  have d1 : decide (0 ≤ (x : Int)) = true := decide_eq_true (by omega)
  have d2 : decide ((x : Int) < (n : Int)) = true := decide_eq_true (by omega)
  have d3 : decide (0 ≤ (y : Int)) = true := decide_eq_true (by omega)
  have d4 : decide ((y : Int) < (G.length : Int)) = true := decide_eq_true (by omega)
  have NN := Aside0.mk (And.intro hn hl)
  have HY := Aside0.mk (And.intro hy1 hy2)
  have HX := Aside0.mk (And.intro hx1 hx2)
  have HS := Aside0.mk (And.intro hbs hBW)
  have hgc : ¬ g = cp := hgp
  clear hG hrp hcp hK hB hbs hcR hcr hcK hgr hgK hcb hgm hcB hBW hn hl hgp hy1 hy2 hx1 hx2
  go_enter Try.func48, Try.ntmps48
  go_wp2
  clear d1 d2 d3 d4 cc fc f1 c1 c0 hrow
  go_loopg [23] 2 (fun kq v23 w' => ∃ (j : Nat), v23 = .int .i64 j ∧ Aside0 (kq + j = 2) ∧ Aside0 (GridAt w' R n bs (gridAfter (setG G x y b) x1 y1 x2 y2 j)) ∧ Aside0 (w'.heap[rp]? = some (.cells #[.slice (some ⟨R, 0, none⟩) G.length G.length] 68 (0, 0))) ∧ Aside0 (w'.heap[cp]? = some (.cells #[.int .i64 (wrap64 (cnt + 1))] 2 (0, 0))) ∧ Aside0 (w'.heap[K]? = some (.cells #[.int .i64 (x1 : Int), .int .i64 (y1 : Int), .int .i64 (x2 : Int), .int .i64 (y2 : Int)] 57 (0, 0))) ∧ Aside0 (Kept W w' (fun k => k ∈ bs ∨ k = cp)) ∧ Aside0 (Below B w0 w'))
  case atStart => exact ⟨0, rfl, ⟨rfl⟩, G1, R1, P1, K1, T1, B1⟩
  case round =>
    clear G1 R1 P1 K1 T1 B1
    obtain ⟨j, rfl, HK, HG, RB, CB, KB, TB, BB⟩ := hrel
    cases gk with
    | zero =>
      obtain rfl : j = 2 := by have := HK.out; omega
      go_wp2
      go_end0
      exact ⟨rfl, HG.out, RB.out, CB.out, TB.out, BB.out⟩
    | succ kk =>
      rcases (show j = 0 ∨ j = 1 by have := HK.out; omega) with rfl | rfl
      · have hyl : y1 < (gridAfter (setG G x y b) x1 y1 x2 y2 0).length := by rw [gridAfter_len, setG_len]; exact HY.out.1
        obtain ⟨g2, hg2, hrow2⟩ := HG.out.get hyl
        have hbl := below_alloc (Below.refl wr.heap.size wr) (.cells #[.int .i64 (x1 : Int), .int .i64 (y1 : Int)] 57)
        have k0 : wr.cell? ⟨K, 0, none⟩ = some (.int .i64 (x1 : Int)) := (blk_cell KB.out 0).trans rfl
        have k1 : wr.cell? ⟨K, 1, none⟩ = some (.int .i64 (y1 : Int)) := (blk_cell KB.out 1).trans rfl
        have c0 : (wr.alloc (.cells #[.int .i64 (x1 : Int), .int .i64 (y1 : Int)] 57)).cell? ⟨rp, 0, none⟩ = some (.slice (some ⟨R, 0, none⟩) G.length G.length) := (blk_cell (blk_alloc RB.out _) 0).trans rfl
        have c1 := (hbl.cell (World.block_lt_of_cell? wr _ hrow2)).trans hrow2
        have c2 := (HG.out.below hbl).byte hg2 HX.out.1
        have f2 := blk_frozen ((HG.out.below hbl).cell _ _ hg2) x1
        have n0 : (wr.alloc (.cells #[.int .i64 (x1 : Int), .int .i64 (y1 : Int)] 57)).cell? ⟨wr.heap.size, 0, none⟩ = some (.int .i64 (x1 : Int)) := (blk_cell (heap_alloc_new wr _) 0).trans rfl
        have n1 : (wr.alloc (.cells #[.int .i64 (x1 : Int), .int .i64 (y1 : Int)] 57)).cell? ⟨wr.heap.size, 1, none⟩ = some (.int .i64 (y1 : Int)) := (blk_cell (heap_alloc_new wr _) 1).trans rfl
        have hgm := List.mem_of_getElem? hg2
        have G2 := Aside0.mk ((HG.out.below hbl.drew).put hg2 x1 43)
        have hg2c : g2 ≠ cp := blk_ne (HG.out.cell _ _ hg2) CB.out (by decide)
        have hg2r : g2 ≠ rp := blk_ne (HG.out.cell _ _ hg2) RB.out (by decide)
        have hg2K : g2 ≠ K := blk_ne (HG.out.cell _ _ hg2) KB.out (by decide)
        have R2 := Aside0.mk (blk_far (w := (wr.alloc (.cells #[.int .i64 (x1 : Int), .int .i64 (y1 : Int)] 57)).drew) (blk_alloc RB.out (.cells #[.int .i64 (x1 : Int), .int .i64 (y1 : Int)] 57)) (p := ⟨g2, x1, none⟩) (fun e => hg2r e.symm) (.int .u8 43))
        have C2 := Aside0.mk (blk_far (w := (wr.alloc (.cells #[.int .i64 (x1 : Int), .int .i64 (y1 : Int)] 57)).drew) (blk_alloc CB.out (.cells #[.int .i64 (x1 : Int), .int .i64 (y1 : Int)] 57)) (p := ⟨g2, x1, none⟩) (fun e => hg2c e.symm) (.int .u8 43))
        have K2 := Aside0.mk (blk_far (w := (wr.alloc (.cells #[.int .i64 (x1 : Int), .int .i64 (y1 : Int)] 57)).drew) (blk_alloc KB.out (.cells #[.int .i64 (x1 : Int), .int .i64 (y1 : Int)] 57)) (p := ⟨g2, x1, none⟩) (fun e => hg2K e.symm) (.int .u8 43))
        have T2 := Aside0.mk ((TB.out.alloc (.cells #[.int .i64 (x1 : Int), .int .i64 (y1 : Int)] 57)).drew.setCell (p := ⟨g2, x1, none⟩) (.inl (.inl hgm)) (.int .u8 43))
        have B2 := Aside0.mk ((BB.out.alloc (Nat.le_trans HS.out.2 TB.out.1) (.cells #[.int .i64 (x1 : Int), .int .i64 (y1 : Int)] 57)).drew.setCell (p := ⟨g2, x1, none⟩) (HS.out.1 g2 hgm) (.int .u8 43))
        have e1 : decide (0 ≤ (x1 : Int)) = true := decide_eq_true (by omega)
        have e2 : decide ((x1 : Int) < (n : Int)) = true := decide_eq_true (by have := HX.out.1; omega)
        have e3 : decide (0 ≤ (y1 : Int)) = true := decide_eq_true (by omega)
        have e4 : decide ((y1 : Int) < (G.length : Int)) = true := decide_eq_true (by have := HY.out.1; omega)
        have hxx := HX.out.1
        have hyy := HY.out.1
        clear hbl hgm hg2c hg2r hg2K hyl
        go_wp2
        go_region
        go_wp2
        go_roundg kk
        case measure => omega
        case rel => exact ⟨1, rfl, ⟨by have := HK.out; omega⟩, G2, R2, C2, K2, T2, B2⟩
      · have hyl : y2 < (gridAfter (setG G x y b) x1 y1 x2 y2 1).length := by rw [gridAfter_len, setG_len]; exact HY.out.2
        obtain ⟨g2, hg2, hrow2⟩ := HG.out.get hyl
        have hbl := below_alloc (Below.refl wr.heap.size wr) (.cells #[.int .i64 (x2 : Int), .int .i64 (y2 : Int)] 57)
        have k0 : wr.cell? ⟨K, 2, none⟩ = some (.int .i64 (x2 : Int)) := (blk_cell KB.out 2).trans rfl
        have k1 : wr.cell? ⟨K, 3, none⟩ = some (.int .i64 (y2 : Int)) := (blk_cell KB.out 3).trans rfl
        have c0 : (wr.alloc (.cells #[.int .i64 (x2 : Int), .int .i64 (y2 : Int)] 57)).cell? ⟨rp, 0, none⟩ = some (.slice (some ⟨R, 0, none⟩) G.length G.length) := (blk_cell (blk_alloc RB.out _) 0).trans rfl
        have c1 := (hbl.cell (World.block_lt_of_cell? wr _ hrow2)).trans hrow2
        have c2 := (HG.out.below hbl).byte hg2 HX.out.2
        have f2 := blk_frozen ((HG.out.below hbl).cell _ _ hg2) x2
        have n0 : (wr.alloc (.cells #[.int .i64 (x2 : Int), .int .i64 (y2 : Int)] 57)).cell? ⟨wr.heap.size, 0, none⟩ = some (.int .i64 (x2 : Int)) := (blk_cell (heap_alloc_new wr _) 0).trans rfl
        have n1 : (wr.alloc (.cells #[.int .i64 (x2 : Int), .int .i64 (y2 : Int)] 57)).cell? ⟨wr.heap.size, 1, none⟩ = some (.int .i64 (y2 : Int)) := (blk_cell (heap_alloc_new wr _) 1).trans rfl
        have hgm := List.mem_of_getElem? hg2
        have G2 := Aside0.mk ((HG.out.below hbl.drew).put hg2 x2 43)
        have hg2c : g2 ≠ cp := blk_ne (HG.out.cell _ _ hg2) CB.out (by decide)
        have hg2r : g2 ≠ rp := blk_ne (HG.out.cell _ _ hg2) RB.out (by decide)
        have hg2K : g2 ≠ K := blk_ne (HG.out.cell _ _ hg2) KB.out (by decide)
        have R2 := Aside0.mk (blk_far (w := (wr.alloc (.cells #[.int .i64 (x2 : Int), .int .i64 (y2 : Int)] 57)).drew) (blk_alloc RB.out (.cells #[.int .i64 (x2 : Int), .int .i64 (y2 : Int)] 57)) (p := ⟨g2, x2, none⟩) (fun e => hg2r e.symm) (.int .u8 43))
        have C2 := Aside0.mk (blk_far (w := (wr.alloc (.cells #[.int .i64 (x2 : Int), .int .i64 (y2 : Int)] 57)).drew) (blk_alloc CB.out (.cells #[.int .i64 (x2 : Int), .int .i64 (y2 : Int)] 57)) (p := ⟨g2, x2, none⟩) (fun e => hg2c e.symm) (.int .u8 43))
        have K2 := Aside0.mk (blk_far (w := (wr.alloc (.cells #[.int .i64 (x2 : Int), .int .i64 (y2 : Int)] 57)).drew) (blk_alloc KB.out (.cells #[.int .i64 (x2 : Int), .int .i64 (y2 : Int)] 57)) (p := ⟨g2, x2, none⟩) (fun e => hg2K e.symm) (.int .u8 43))
        have T2 := Aside0.mk ((TB.out.alloc (.cells #[.int .i64 (x2 : Int), .int .i64 (y2 : Int)] 57)).drew.setCell (p := ⟨g2, x2, none⟩) (.inl (.inl hgm)) (.int .u8 43))
        have B2 := Aside0.mk ((BB.out.alloc (Nat.le_trans HS.out.2 TB.out.1) (.cells #[.int .i64 (x2 : Int), .int .i64 (y2 : Int)] 57)).drew.setCell (p := ⟨g2, x2, none⟩) (HS.out.1 g2 hgm) (.int .u8 43))
        have e1 : decide (0 ≤ (x2 : Int)) = true := decide_eq_true (by omega)
        have e2 : decide ((x2 : Int) < (n : Int)) = true := decide_eq_true (by have := HX.out.2; omega)
        have e3 : decide (0 ≤ (y2 : Int)) = true := decide_eq_true (by omega)
        have e4 : decide ((y2 : Int) < (G.length : Int)) = true := decide_eq_true (by have := HY.out.2; omega)
        have hxx := HX.out.2
        have hyy := HY.out.2
        clear hbl hgm hg2c hg2r hg2K hyl
        go_wp2
        go_region
        go_wp2
        go_roundg kk
        case measure => omega
        case rel => exact ⟨2, rfl, ⟨by have := HK.out; omega⟩, G2, R2, C2, K2, T2, B2⟩
/-! slices.Repeat of one byte. -/
theorem made_bytes (n : Nat) : madeCells #[Value.int .u8 0] n = (List.replicate n (Value.int .u8 0)).toArray := by
  apply Array.ext
  · simp [size_madeCells]
  · intro i h1 h2
    simp [madeCells, Nat.mod_one]
theorem infoU8 : (Try.prog.info? 5).map (fun i => (i.zero, i.size, i.bytes)) = some (some (.int .u8 0), 1, 1) := by kernel_rfl
theorem sizeU8 : (Try.prog.info? 5).map (·.size) = some 1 := by kernel_rfl
theorem splice_rep (n j m : Nat) (v z : Value) (hj : j + m ≤ n) : splice (List.replicate j v ++ List.replicate (n - j) z) j (List.replicate m v) = List.replicate (j + m) v ++ List.replicate (n - (j + m)) z := by
  unfold splice
  rw [List.take_left' (by simp), List.length_replicate, List.drop_append, List.drop_of_length_le (by simp)]
  simp only [List.length_replicate, List.nil_append, List.drop_replicate]
  rw [← List.append_assoc, List.replicate_append_replicate, show n - j - (j + m - j) = n - (j + m) by omega]
theorem cut_low {P : Program} (t e : TypeId) {i : TypeInfo} (ht : P.underlying t = some (.slice e)) (hi : P.info? e = some i) (hsz : i.size = 1) (g n m : Nat) (hm : m < n) (W : World) :
    (Instr.slice t (.slice (some ⟨g, 0, none⟩) n n) (some (.int .i64 (m : Int))) none none).run P W = .ok (.slice (some ⟨g, m, none⟩) (n - m) (n - m)) W := by
  have hel : P.elem t = e := by simp [Program.elem, ht]
  have hu : P.underlying t = some (.slice (P.elem t)) := by rw [hel]; exact ht
  have hc : ¬ n = m := by omega
  have ha : (⟨g, 0, none⟩ : Addr).add m = ⟨g, m, none⟩ := add_plain g m
  rw [run_slice_l W t (some ⟨g, 0, none⟩) n n hu .i64 (m : Int) (Int.natCast_nonneg _) (by omega), hel]
  simp [sizeOf, typeInfo, hi, hsz, sliced, Result.andThen, hc, ha]
theorem cut_high {P : Program} (t e : TypeId) {i : TypeInfo} (ht : P.underlying t = some (.slice e)) (hi : P.info? e = some i) (hsz : i.size = 1) (g n m : Nat) (hm : m ≤ n) (W : World) :
    (Instr.slice t (.slice (some ⟨g, 0, none⟩) n n) none (some (.int .i64 (m : Int))) none).run P W = .ok (.slice (some ⟨g, 0, none⟩) m n) W := by
  have hel : P.elem t = e := by simp [Program.elem, ht]
  have hu : P.underlying t = some (.slice (P.elem t)) := by rw [hel]; exact ht
  rw [run_slice_h W t (some ⟨g, 0, none⟩) n n hu .i64 (m : Int) (Int.natCast_nonneg _) (by omega), hel]
  simp [sizeOf, typeInfo, hi, hsz, sliced, Result.andThen, Addr.add]
set_option maxHeartbeats 1000000 in
set_option maxRecDepth 100000 in
theorem rep_calls (W : World) (ad : Addr) (c : Nat) (v : Int) (hv : W.cell? ad = some (.int .u8 v)) (n : Nat) (h1 : 1 ≤ n) (hn : n < 64) (hmul : ∀ W' : World, Calls Try.prog 58 #[.int .u64 1, .int .u64 (n : Int)] W' fun e w' => e = .returned (.tuple #[.int .u64 0, .int .u64 (n : Int)]) ∧ Drawn0 W' w') :
    Calls Try.prog 47 #[.slice (some ad) 1 c, .int .i64 (n : Int)] W fun e w' => ∃ g, e = .returned (.slice (some ⟨g, 0, none⟩) n n) ∧ W.heap.size ≤ g ∧ w'.heap[g]? = some (.cells (List.replicate n (Value.int .u8 v)).toArray 5 (0, 0)) ∧ Below W.heap.size W w' := by
  obtain ⟨i0, hi, hzz⟩ := Option.map_eq_some_iff.1 infoU8
  simp only [Prod.mk.injEq] at hzz
  obtain ⟨hz0, hz1, hz2⟩ := hzz
  have hmk : ∀ W' : World, (Instr.makeSlice 64 (.int .i64 (n : Int)) (.int .i64 (n : Int))).run Try.prog W' = .ok (.slice (some ⟨W'.heap.size, 0, none⟩) n n) (W'.alloc (.cells (List.replicate n (Value.int .u8 0)).toArray 5)) := fun W' => by
    have h := run_make (P := Try.prog) W' 64 5 i0 (.int .u8 0) Try.underlying64 hi hz0 .i64 .i64 (n : Int) n (by omega) (Int.le_refl _) (by rw [hz2]; omega) (by omega)
    rw [hz1] at h
    simpa [made_bytes, Value.cells] using h
  have hwu : IntKind.u64.wrap (n : Int) = (n : Int) := by simp [IntKind.wrap, IntKind.bits, IntKind.signed]; omega
  have hwi : wrap64 (n : Int) = (n : Int) := by unfold wrap64; omega
  have hwj : IntKind.i64.wrap (n : Int) = (n : Int) := (i64_w _).trans hwi
  have hl0 : decide ((n : Int) < 0) = false := decide_eq_false (by omega)
  have hl1 : decide ((n : Int) > 9223372036854775807) = false := decide_eq_false (by omega)
  have HV := Aside0.mk hv
  have HN := Aside0.mk (And.intro h1 hn)
  have CL := fun (m : Nat) (hm : m < n) (W' : World) => cut_low (P := Try.prog) 64 5 Try.underlying64 hi hz1 W.heap.size n m hm W'
  have CH := fun (m : Nat) (hm : m ≤ n) (W' : World) => cut_high (P := Try.prog) 64 5 Try.underlying64 hi hz1 W.heap.size n m hm W'
  have CL' := Aside0.mk CL
  have CH' := Aside0.mk CH
  clear hi hz0 hz1 hz2 h1 hn hv CL CH
  go_enter Try.func47, Try.ntmps47
  go_wp2_with (first | (go_at_call 58; refine (hmul _).mono ?_; rintro e w1 ⟨rfl, ⟨nd, rfl⟩⟩) | ((with_reducible refine gate_builtin (b := .copy) (xs := #[.tmp 31, .tmp 32]) rfl ?_); refine wpList_copy_splice rfl (.tmp 31) (.tmp 32) 64 64 rfl 5 Try.underlying64 sizeU8 _ _ n n 1 c rfl rfl W.heap.size 0 (List.replicate n (Value.int .u8 0)) 5 ?hg [.int .u8 v] ?hn ?hpos ?hfit ?h1 W.heap.size W ?hb (Nat.le_refl _) ?_; (case hg => first | exact heap_alloc_new _ _ | simpa using heap_alloc_new (W.drewN nd) (.cells (List.replicate n (Value.int .u8 0)).toArray 5)); (case hn => exact (Nat.min_eq_left HN.out.1).symm); (case hpos => intro _; refine ⟨rfl, ad, rfl, fun j u hu => ?_⟩; rcases j with _ | j; (obtain rfl := Option.some.inj hu; rw [Addr.add_zero']; exact ((below_alloc (pw_below_drewN (Below.refl W.heap.size W) nd) _).cell (World.block_lt_of_cell? W _ HV.out)).trans HV.out); (simp at hu)); (case hfit => have := HN.out; simp; omega); (case h1 => intro u hu; obtain rfl := List.mem_singleton.1 hu; rfl); (case hb => exact below_alloc (pw_below_drewN (Below.refl _ _) nd) _); intro w2 hh hb2; have H2 := Aside0.mk (show w2.heap[W.heap.size]? = some (.cells (List.replicate 1 (Value.int .u8 v) ++ List.replicate (n - 1) (Value.int .u8 0)).toArray 5 (0, 0)) from (by have h3 := splice_rep n 0 1 (Value.int .u8 v) (Value.int .u8 0) (by have := HN.out; omega); simp only [List.replicate_zero, List.nil_append, Nat.sub_zero, Nat.zero_add] at h3; rw [← h3]; exact hh)); have B2 := Aside0.mk hb2; clear hh hb2))
  clear hmk hmul
  go_loopg [8] n (fun kq v8 w' => ∃ (j : Nat), v8 = .int .i64 j ∧ Aside0 (kq + j = n + 1 ∧ 1 ≤ j ∧ j ≤ n) ∧ Aside0 (w'.heap[W.heap.size]? = some (.cells (List.replicate j (Value.int .u8 v) ++ List.replicate (n - j) (Value.int .u8 0)).toArray 5 (0, 0))) ∧ Aside0 (Below W.heap.size W w'))
  case atStart => exact ⟨1, rfl, ⟨by have := HN.out; omega⟩, H2, B2⟩
  case round =>
    clear H2 B2
    obtain ⟨j, rfl, HJ, HH, HB⟩ := hrel
    have hn1 := HN.out.1
    by_cases hj : j < n
    · have d1 : decide ((j : Int) < (n : Int)) = true := decide_eq_true (by omega)
      have hj1 : 1 ≤ j := HJ.out.2.1
      have s1 := CL'.out j hj
      have s2 := CH'.out j (by omega)
      have hw : wrap64 ((j : Int) + ((min j (n - j) : Nat) : Int)) = ((j + min j (n - j) : Nat) : Int) := by have := HN.out; unfold wrap64; omega
      go_wp2
      go_region_law (refine step_copy_splice rfl (.tmp 41) (.tmp 44) 64 64 rfl 5 Try.underlying64 sizeU8 (some ⟨W.heap.size, j, none⟩) (some ⟨W.heap.size, 0, none⟩) (n - j) (n - j) j n (by simp [Act.eval, Act.put]) (by simp [Act.eval, Act.put]) W.heap.size j (List.replicate j (Value.int .u8 v) ++ List.replicate (n - j) (Value.int .u8 0)) 5 HH.out (List.replicate (min j (n - j)) (Value.int .u8 v)) (by simp) (fun _ => ⟨rfl, ⟨W.heap.size, 0, none⟩, rfl, fun q u hu => ?hq⟩) (by simp; omega) (fun u hu => by rw [(List.mem_replicate.1 hu).2]; rfl) W.heap.size W HB.out.drew (Nat.le_refl _) ?_; (case hq => rw [add_plain, blk_cell (w := wr.drew) HH.out q, List.getElem?_toArray]; obtain ⟨hq1, hq2⟩ := List.getElem?_eq_some_iff.1 hu; simp only [List.length_replicate] at hq1; rw [List.getElem?_append_left (by simp; omega), List.getElem?_replicate, if_pos (by omega), ← hq2, List.getElem_replicate]); intro w4 hh hb4; have H4 := Aside0.mk (show w4.heap[W.heap.size]? = some (.cells (List.replicate (j + min j (n - j)) (Value.int .u8 v) ++ List.replicate (n - (j + min j (n - j))) (Value.int .u8 0)).toArray 5 (0, 0)) from (by rw [← splice_rep n j (min j (n - j)) (Value.int .u8 v) (Value.int .u8 0) (by omega)]; exact hh)); have B4 := Aside0.mk hb4; clear hh hb4)
      all_goals (
        go_wp2
        go_roundg (n + 1 - (j + min j (n - j)))
        case measure => (have := HJ.out; omega)
        case rel => exact ⟨j + min j (n - j), by first | rfl | exact congrArg (Value.int .i64) ((i64_w _).trans hw), ⟨by have := HJ.out; omega⟩, H4, B4⟩)
    · obtain rfl : j = n := by have := HJ.out; omega
      have hh := HH.out
      simp only [Nat.sub_self, List.replicate_zero, List.append_nil] at hh
      have HH' := Aside0.mk hh
      clear hh HH hj
      go_wp2
      go_ret
      exact ⟨_, rfl, Nat.le_refl _, HH'.out, HB.out⟩
/-! slices.Repeat: the product. -/
theorem mul_small : ∀ n : Nat, n < 64 → bits_Mul.f 1 (n : Int) = some (0, (n : Int)) := by decide +kernel
theorem infoRow : (Try.prog.info? 64).map (fun i => (i.zero, i.size, i.bytes)) = some (some (.slice none 0 0), 1, 24) := by kernel_rfl
theorem made_rows (n : Nat) : madeCells #[Value.slice none 0 0] n = (List.replicate n (Value.slice none 0 0)).toArray := by
  apply Array.ext
  · simp [size_madeCells]
  · intro i h1 h2
    simp [madeCells, Nat.mod_one]
/-! The rows, being laid. -/
structure RowsAt (w : World) (R n m j : Nat) (bs : List Nat) : Prop where
  len : bs.length = j
  rows : w.heap[R]? = some (.cells (bs.map (fun b => Value.slice (some ⟨b, 0, none⟩) m m) ++ List.replicate (n - j) (Value.slice none 0 0)).toArray 64 (0, 0))
  cell : ∀ b ∈ bs, w.heap[b]? = some (.cells (List.replicate m (Value.int .u8 32)).toArray 5 (0, 0))
  nd : bs.Nodup
theorem RowsAt.next {w w6 : World} {R n m j g : Nat} {bs : List Nat} (h : RowsAt w R n m j bs) (hj : j < n) (hb : Below w.heap.size w w6) (hg : w.heap.size ≤ g) (hc : w6.heap[g]? = some (.cells (List.replicate m (Value.int .u8 32)).toArray 5 (0, 0))) :
    RowsAt (w6.setCell ⟨R, j, none⟩ (.slice (some ⟨g, 0, none⟩) m m)) R n m (j + 1) (bs ++ [g]) := by
  have hr6 := blk_below h.rows hb
  refine ⟨by simp [h.len], blk_put hr6 j _ ?_, fun b hm => ?_, ?_⟩
  · apply Array.toList_inj.1
    rw [Array.toList_setIfInBounds]
    have e : List.replicate (n - j) (Value.slice none 0 0) = Value.slice none 0 0 :: List.replicate (n - (j + 1)) (Value.slice none 0 0) := by
      rw [show n - j = (n - (j + 1)) + 1 by omega, List.replicate_succ]
    rw [e, List.set_append_right _ _ (by simp [h.len]), show j - (bs.map fun b => Value.slice (some ⟨b, 0, none⟩) m m).length = 0 by simp [h.len], List.set_cons_zero]
    simp
  · rcases List.mem_append.1 hm with h1 | h1
    · have hb1 := h.cell b h1
      exact blk_far (blk_below hb1 hb) (blk_ne (blk_below hb1 hb) hr6 (by decide)) _
    · obtain rfl := List.mem_singleton.1 h1
      exact blk_far hc (blk_ne hc hr6 (by decide)) _
  · rw [List.nodup_append]
    refine ⟨h.nd, by simp, fun a ha b hbm e => ?_⟩
    obtain rfl := List.mem_singleton.1 hbm
    have := blk_lt (h.cell a ha)
    omega
theorem RowsAt.grid {w : World} {R n m : Nat} {bs : List Nat} (h : RowsAt w R n m n bs) : GridAt w R m bs (List.replicate n (List.replicate m 32)) := by
  refine ⟨by simp [h.len], by simpa using h.rows, fun y b hy => ?_, fun r hr => by rw [(List.mem_replicate.1 hr).2, List.length_replicate], h.nd⟩
  have hl := (List.getElem?_eq_some_iff.1 hy).1
  rw [h.cell b (List.mem_of_getElem? hy), List.getD_eq_getElem?_getD, List.getElem?_replicate, if_pos (by rw [← h.len]; exact hl)]
  simp
theorem RowsAt.spot {w w6 : World} {R n m j : Nat} {bs : List Nat} (h : RowsAt w R n m j bs) (hj : j < n) (hb : Below w.heap.size w w6) : w6.cell? ⟨R, j, none⟩ = some (.slice none 0 0) ∧ w6.frozen? ⟨R, j, none⟩ = false := by
  have hr6 := blk_below h.rows hb
  refine ⟨?_, blk_frozen hr6 j⟩
  rw [blk_cell hr6 j, List.getElem?_toArray, List.getElem?_append_right (by simp [h.len]), List.getElem?_replicate, if_pos (by simp [h.len]; omega)]
/-! The drawing, without a machine. -/
def keyD (c : S57) : Int × Int := (c.f0, c.f1)
def mget : List ((Int × Int) × Int) → Int × Int → Option Int
  | [], _ => none
  | (q, d) :: m, p => if p = q then some d else mget m p
def fillM (N : List S57) (gs : List Int) : Nat → List ((Int × Int) × Int)
  | 0 => []
  | j + 1 => (keyD (rd_T57 N j), rd gs j) :: fillM N gs j
def markV (F : Int × Int → Option Int) (h x y : Nat) (s : List (List Int) × Int) : List (List Int) × Int :=
  if y < h ∧ apartV (F ((x : Int), (y : Int))) (F ((x : Int) - 1, (y : Int))) = true then (gridAfter (setG s.1 (2 * x) (2 * y + 1) 124) (2 * x) (2 * y) (2 * x) (2 * y + 2) 2, s.2 + 1) else s
def markH (F : Int × Int → Option Int) (w x y : Nat) (s : List (List Int) × Int) : List (List Int) × Int :=
  if x < w ∧ apartV (F ((x : Int), (y : Int))) (F ((x : Int), (y : Int) - 1)) = true then (gridAfter (setG s.1 (2 * x + 1) (2 * y) 45) (2 * x) (2 * y) (2 * x + 2) (2 * y) 2, s.2 + 1) else s
def rowD (F : Int × Int → Option Int) (w h y : Nat) : Nat → List (List Int) × Int → List (List Int) × Int
  | 0, s => s
  | x + 1, s => markH F w x y (markV F h x y (rowD F w h y x s))
def allD (F : Int × Int → Option Int) (w h : Nat) : Nat → List (List Int) × Int → List (List Int) × Int
  | 0, s => s
  | y + 1, s => rowD F w h y (w + 1) (allD F w h y s)
def blankD (w h : Nat) : List (List Int) := List.replicate (2 * h + 1) (List.replicate (2 * w + 1) 32)
def drawnD (F : Int × Int → Option Int) (w h : Nat) : List (List Int) × Int := allD F w h (h + 1) (blankD w h, 0)
def textD (G : List (List Int)) : ByteArray := joined (G.map strOfNums) ⟨#[10]⟩
def okD (N : List S57) (gs : List Int) (w h : Int) : Prop := ((0 ≤ w ∧ w ≤ 20) ∧ (0 ≤ h ∧ h ≤ 20)) ∧ (N.length ≤ gs.length ∧ N.length ≤ 1000) ∧ (∀ c ∈ N, okC (keyD c)) ∧ (textD (drawnD (mget (fillM N gs N.length)) w.toNat h.toNat).1).size ≤ 140737488355328
instance (p : Int × Int) : Decidable (okC p) := inferInstanceAs (Decidable (_ ∧ _))
instance (N : List S57) (gs : List Int) (w h : Int) : Decidable (okD N gs w h) := inferInstanceAs (Decidable (_ ∧ _))
def impl_drawing.f (k : Nat) (l0 : List S57) (l1 : List Int) : Option (ByteArray × Int) := (impl_normal.f k l0).bind fun N => (impl_sizeOf.f k l0).bind fun s => if okD N l1 s.1 s.2 then some (textD (drawnD (mget (fillM N l1 N.length)) s.1.toNat s.2.toNat).1, (drawnD (mget (fillM N l1 N.length)) s.1.toNat s.2.toNat).2) else none
theorem impl_drawing.mono : ∀ l0 l1 k, LeO (impl_drawing.f k l0 l1) (impl_drawing.f (k + 1) l0 l1) := by
  intro l0 l1 k
  unfold impl_drawing.f
  exact LeO.bind (impl_normal.mono l0 k) (fun _ => LeO.bind (impl_sizeOf.mono l0 k) (fun _ => LeO.refl _))
theorem mget_next (m : List ((Int × Int) × Int)) (y : Int × Int) (d : Int) (q : Int × Int) : (if q = y then some (Value.int .i64 d) else (mget m q).map (Value.int .i64)) = (mget ((y, d) :: m) q).map (Value.int .i64) := by
  rw [mget]
  by_cases h : q = y
  · rw [if_pos h, if_pos h]; rfl
  · rw [if_neg h, if_neg h]
theorem rd_memD (l : List S57) (i : Int) (h0 : 0 ≤ i) (h : i < (l.length : Int)) : rd_T57 l i ∈ l := by
  unfold rd_T57
  rw [List.getD_eq_getElem?_getD, List.getElem?_eq_getElem (by omega), Option.getD_some]
  exact List.getElem_mem _
/-! The state of the drawing. -/
structure DrawSt (w w' : World) (R C ng : Nat) (bs : List Nat) (W0 H0 : Nat) (F : Int × Int → Option Int) (m : Nat) (s : List (List Int) × Int) : Prop where
  grid : GridAt w' R (2 * W0 + 1) bs s.1
  len : s.1.length = 2 * H0 + 1
  far : ∀ b ∈ bs, w.heap.size ≤ b
  rp : w'.heap[R + 1]? = some (.cells #[.slice (some ⟨R, 0, none⟩) (2 * H0 + 1) (2 * H0 + 1)] 68 (0, 0))
  cp : w'.heap[C]? = some (.cells #[.int .i64 s.2] 2 (0, 0))
  cC : w.heap.size ≤ C
  cnt : 0 ≤ s.2 ∧ s.2 ≤ (m : Int)
  map : MapF Try.prog 57 enc2 w' w.heap.size ng (fun q => (F q).map (Value.int .i64))
  hg : w'.heap[w.heap.size + 1]? = some (.cells #[.map (some w.heap.size)] 66 (0, 0))
  blw : Below w.heap.size w w'
section
variable {w W W2 : World} {R C ng : Nat} {bs : List Nat} {W0 H0 : Nat} {F : Int × Int → Option Int} {m : Nat} {s : List (List Int) × Int}
theorem DrawSt.below (h : DrawSt w W R C ng bs W0 H0 F m s) (hb : Below W.heap.size W W2) : DrawSt w W2 R C ng bs W0 H0 F m s :=
  ⟨h.grid.below hb, h.len, h.far, blk_below h.rp hb, blk_below h.cp hb, h.cC, h.cnt, h.map.below' hb, blk_below h.hg hb, below_step h.blw hb⟩
theorem DrawSt.alloc (h : DrawSt w W R C ng bs W0 H0 F m s) (o : Obj) : DrawSt w (W.alloc o) R C ng bs W0 H0 F m s := h.below (below_alloc (Below.refl _ _) o)
theorem DrawSt.more (h : DrawSt w W R C ng bs W0 H0 F m s) {m' : Nat} (hm : m ≤ m') : DrawSt w W R C ng bs W0 H0 F m' s :=
  ⟨h.grid, h.len, h.far, h.rp, h.cp, h.cC, ⟨h.cnt.1, by have := h.cnt.2; omega⟩, h.map, h.hg, h.blw⟩
theorem DrawSt.apart (h : DrawSt w W R C ng bs W0 H0 F m s) (a0 a1 b0 b1 : Int) (ha : okC (a0, a1)) (hb : okC (b0, b1)) :
    Calls Try.prog 45 #[.agg #[.int .i64 a0, .int .i64 a1], .agg #[.int .i64 b0, .int .i64 b1], .pointer (some ⟨w.heap.size + 1, 0, none⟩)] W fun e w' => e = .returned (.bool (apartV (F (a0, a1)) (F (b0, b1)))) ∧ DrawSt w w' R C ng bs W0 H0 F m s ∧ Below W.heap.size W w' :=
  (apart_calls W _ _ _ F h.hg h.map (a0, a1) (b0, b1) ha hb).mono fun _ _ hh => ⟨hh.1, h.below hh.2, hh.2⟩
theorem DrawSt.draw (h : DrawSt w W R C ng bs W0 H0 F m s) (hW : W0 ≤ 20 ∧ H0 ≤ 20) (hm : m ≤ 4000) (K : Nat) (b X Y X1 Y1 X2 Y2 : Int) (x y x1 y1 x2 y2 : Nat) (eX : X = (x : Int)) (eY : Y = (y : Int)) (eX1 : X1 = (x1 : Int)) (eY1 : Y1 = (y1 : Int)) (eX2 : X2 = (x2 : Int)) (eY2 : Y2 = (y2 : Int))
    (hx : x < 2 * W0 + 1 ∧ y < 2 * H0 + 1) (hx1 : x1 < 2 * W0 + 1 ∧ y1 < 2 * H0 + 1) (hx2 : x2 < 2 * W0 + 1 ∧ y2 < 2 * H0 + 1)
    (hK : W.heap[K]? = some (.cells #[.int .i64 X1, .int .i64 Y1, .int .i64 X2, .int .i64 Y2] 57 (0, 0))) :
    Calls Try.prog 48 #[.int .i64 X, .int .i64 Y, .int .u8 b, .slice (some ⟨K, 0, none⟩) 2 2, .pointer (some ⟨R + 1, 0, none⟩), .pointer (some ⟨C, 0, none⟩)] W fun e w' => e = .returned (.tuple #[]) ∧ DrawSt w w' R C ng bs W0 H0 F (m + 1) (gridAfter (setG s.1 x y b) x1 y1 x2 y2 2, s.2 + 1) ∧ ∀ (q : Nat) (o : Array Value), W.heap[q]? = some (.cells o 57 (0, 0)) → w'.heap[q]? = some (.cells o 57 (0, 0)) := by
  subst eX eY eX1 eY1 eX2 eY2
  refine (draw_calls w.heap.size w W R (2 * W0 + 1) bs s.1 (R + 1) C K s.2 b x y x1 y1 x2 y2 h.blw h.blw.size h.far h.cC h.grid (by rw [h.len]; exact h.rp) h.cp hK hx.1 (by rw [h.len]; exact hx.2) hx1.1 (by rw [h.len]; exact hx1.2) hx2.1 (by rw [h.len]; exact hx2.2) (by omega) (by rw [h.len]; omega)).mono ?_
  rintro e w' ⟨rfl, g, r, c, kp, bl⟩
  have hw : wrap64 (s.2 + 1) = s.2 + 1 := by have := h.cnt; unfold wrap64; omega
  rw [h.len] at r
  rw [hw] at c
  have hbs : ∀ q ∈ bs, ∃ cs, W.heap[q]? = some (.cells cs 5 (0, 0)) := fun q hq => by
    obtain ⟨i, hi⟩ := List.getElem?_of_mem hq
    exact ⟨_, h.grid.cell i q hi⟩
  refine ⟨rfl, ⟨g, by rw [gridAfter_len, setG_len]; exact h.len, h.far, r, c, h.cC, ⟨by have := h.cnt; show 0 ≤ s.2 + 1; omega, by have := h.cnt; show s.2 + 1 ≤ ((m + 1 : Nat) : Int); omega⟩, h.map.move (kp.2 _ h.map.lt ?_), blk_kept h.hg kp ?_, bl⟩, fun q o hq => blk_kept hq kp ?_⟩
  · rintro (hq | hq)
    · obtain ⟨cs, hc⟩ := hbs _ hq
      exact h.map.ne ⟨_, _, _, hc⟩ rfl
    · exact h.map.ne ⟨_, _, _, h.cp⟩ hq.symm
  · rintro (hq | hq)
    · obtain ⟨cs, hc⟩ := hbs _ hq
      exact blk_ne h.hg hc (by decide) rfl
    · exact blk_ne h.hg h.cp (by decide) hq
  · rintro (hk | hk)
    · obtain ⟨cs, hc⟩ := hbs _ hk
      exact blk_ne hq hc (by decide) rfl
    · exact blk_ne hq h.cp (by decide) hk
end
theorem markV_is (F : Int × Int → Option Int) (h x y : Nat) (s : List (List Int) × Int) : markV F h x y s = if (decide (y < h) && apartV (F ((x : Int), (y : Int))) (F ((x : Int) - 1, (y : Int)))) = true then (gridAfter (setG s.1 (2 * x) (2 * y + 1) 124) (2 * x) (2 * y) (2 * x) (2 * y + 2) 2, s.2 + 1) else s := by
  unfold markV
  by_cases h1 : y < h <;> simp [h1]
theorem markH_is (F : Int × Int → Option Int) (w x y : Nat) (s : List (List Int) × Int) : markH F w x y s = if (decide (x < w) && apartV (F ((x : Int), (y : Int))) (F ((x : Int), (y : Int) - 1))) = true then (gridAfter (setG s.1 (2 * x + 1) (2 * y) 45) (2 * x) (2 * y) (2 * x + 2) (2 * y) 2, s.2 + 1) else s := by
  unfold markH
  by_cases h1 : x < w <;> simp [h1]
theorem cellOk (x y : Nat) (hx : x ≤ 100) (hy : y ≤ 100) : okC ((x : Int), (y : Int)) ∧ okC ((x : Int) - 1, (y : Int)) ∧ okC ((x : Int), (y : Int) - 1) := by
  unfold okC
  simp only
  omega
theorem infoStr : (Try.prog.info? 9).map (fun i => (i.zero, i.size, i.bytes)) = some (some (.string ⟨#[]⟩), 1, 16) := by kernel_rfl
theorem take_texts (G : List (List Int)) (j : Nat) (h : j < G.length) : (G.take (j + 1)).map strOfNums = (G.take j).map strOfNums ++ [strOfNums (G.getD j [])] := by
  rw [List.take_add_one, List.getElem?_eq_getElem h, List.getD_eq_getElem?_getD, List.getElem?_eq_getElem h, List.map_append]
  rfl
theorem DrawSt.text {w W W2 : World} {R C ng : Nat} {bs : List Nat} {W0 H0 : Nat} {F : Int × Int → Option Int} {m : Nat} {s : List (List Int) × Int} (h : DrawSt w W R C ng bs W0 H0 F m s) (hb : Below W.heap.size W W2) (hw : W0 ≤ 20) {j : Nat} (hj : j < 2 * H0 + 1) :
    ∃ g, W2.cell? ⟨R, j, none⟩ = some (.slice (some ⟨g, 0, none⟩) (2 * W0 + 1) (2 * W0 + 1)) ∧ (convert 64 9 (.slice (some ⟨g, 0, none⟩) (2 * W0 + 1) (2 * W0 + 1))).run Try.prog W2 = .ok (.string (strOfNums (s.1.getD j []))) W2 := by
  have h2 := h.below hb
  have hl : j < s.1.length := by rw [h.len]; exact hj
  obtain ⟨g, hg, hr⟩ := h2.grid.get hl
  refine ⟨g, hr, string_of_reads Try.underlying64 Try.underlying5 Try.underlying9 ⟨h2.grid.row hl, by omega, fun _ => ⟨_, rfl, fun x hx => ?_⟩⟩⟩
  rw [add_plain]
  exact h2.grid.byte hg hx
set_option maxHeartbeats 2000000 in
set_option maxRecDepth 100000 in
theorem impl_drawing.calls (k : Nat) (A0 : Option Addr) (c0 : Nat) (l0 : List S57) (A1 : Option Addr) (c1 : Nat) (l1 : List Int) (r1 : ByteArray) (r2 : Int) (w : World) (hr0 : Kd.C k57 w A0 l0.length l0) (hc0 : l0.length ≤ c0) (hr1 : Kd.C (Kd.int .i64) w A1 l1.length l1) (hc1 : l1.length ≤ c1) (h : impl_drawing.f k l0 l1 = some (r1, r2)) :
    Calls Try.prog 38 #[.slice A0 l0.length c0, .slice A1 l1.length c1] w fun e w' => e = .returned (.tuple #[.string r1, .int .i64 r2]) ∧ Below w.heap.size w w' := by
  obtain ⟨N, hN, h⟩ := Option.bind_eq_some_iff.1 h
  obtain ⟨⟨sw, sh⟩, hS, h⟩ := Option.bind_eq_some_iff.1 h
  simp only at h
  by_cases hok : okD N l1 sw sh
  case neg => rw [if_neg hok] at h; cases h
  rw [if_pos hok] at h
  obtain ⟨⟨⟨w0, w1⟩, h0, h1⟩, ⟨n0, n1⟩, hcell, htext⟩ := hok
  obtain ⟨W0, rfl⟩ := Int.eq_ofNat_of_zero_le w0
  obtain ⟨H0, rfl⟩ := Int.eq_ofNat_of_zero_le h0
  simp only [Int.toNat_natCast] at h htext
  have HRES := Aside0.mk (Option.some.inj h)
  have HT := Aside0.mk htext
  have HWH := Aside0.mk (show W0 ≤ 20 ∧ H0 ≤ 20 by omega)
  have HNL := Aside0.mk (And.intro n0 n1)
  have HCK := Aside0.mk hcell
  have HR0 := Aside0.mk hr0
  have HC0 := Aside0.mk hc0
  have HR1 := Aside0.mk hr1
  have HC1 := Aside0.mk hc1
  have AN := Aside0.mk hN
  have AS := Aside0.mk hS
  clear h w0 w1 h0 h1 n0 n1 hcell htext hr0 hc0 hr1 hc1 hN hS
  have HM0 := Aside0.mk ((MapF.made Try.prog 57 enc2 w).alloc (.cells #[.map (some w.heap.size)] 66))
  have hmm : ∀ W : World, (Instr.makeMap 66 none).run Try.prog W = .ok (.map (some W.heap.size)) (W.alloc (.map #[] 0)) := fun _ => rfl
  have hb1 := below_alloc (below_alloc (Below.refl w.heap.size w) (.map #[] 0)) (.cells #[.map (some w.heap.size)] 66)
  have HB1 := Aside0.mk hb1
  have HG1 := Aside0.mk (show ((w.alloc (.map #[] 0)).alloc (.cells #[.map (some w.heap.size)] 66)).heap[w.heap.size + 1]? = some (.cells #[.map (some w.heap.size)] 66 (0, 0)) from (by
    have e : (w.alloc (.map #[] 0)).heap.size = w.heap.size + 1 := by simp only [World.alloc, Array.size_push]
    rw [← e]; exact heap_alloc_new (w.alloc (.map #[] 0)) (.cells #[.map (some w.heap.size)] 66)))
  clear hb1
  go_enter Try.func38, Try.ntmps38
  go_wp2_with (first | (go_at_call 44; refine (impl_normal.calls k A0 c0 l0 N _ (Kd.C_below HR0.out HB1.out) HC0.out AN.out).mono ?_; rintro e w2 ⟨v0, rfl, ho, hb⟩; have HB2 := Aside0.mk (below_step HB1.out hb); have HM2 := Aside0.mk (HM0.out.below' hb); have HG2 := Aside0.mk (blk_below HG1.out hb); have HO2 := Aside0.mk (Kd.R_lower ho (below_size HB1.out)); clear ho hb; obtain ⟨Al, cl, el⟩ := Kd.R_slice HO2.out; subst el))
  clear HB1 HM0 HG1 hmm
  have HM2' : Aside0 (MapF Try.prog 57 enc2 w2 w.heap.size 0 (fun q => (mget (fillM N l1 0) q).map (Value.int .i64))) := ⟨HM2.out.ext (fun _ => rfl)⟩
  clear HM2
  go_loopg [26] N.length (fun kq v26 w' => ∃ (j : Nat), v26 = .int .i64 j ∧ Aside0 (kq + j = N.length) ∧ Aside0 (MapF Try.prog 57 enc2 w' w.heap.size j (fun q => (mget (fillM N l1 j) q).map (Value.int .i64))) ∧ Aside0 (w'.heap[w.heap.size + 1]? = some (.cells #[.map (some w.heap.size)] 66 (0, 0))) ∧ Aside0 (Kd.R k57 57 w' w.heap.size (fun _ => True) (.slice Al N.length cl) N) ∧ Aside0 (Below w.heap.size w w'))
  case atStart => exact ⟨0, rfl, ⟨rfl⟩, HM2', HG2, HO2, HB2⟩
  case round =>
    clear HM2' HG2 HO2 HB2
    obtain ⟨j, rfl, HJ, HM, HG, HO, HB⟩ := hrel
    cases gk with
    | succ kk =>
      have hj : j < N.length := by have := HJ.out; omega
      have hji : (j : Int) < (N.length : Int) := by omega
      have c1 := decide_eq_true hji
      obtain ⟨ad, e1, hx0, hx1⟩ := at_T57 (Kd.R_reads' HO.out).2.2 (j : Int) (by omega) hji
      cases e1
      have hgl : (j : Int) < (l1.length : Int) := by have := HNL.out.1; omega
      obtain ⟨ag, e2, hg0⟩ := Kd.at_int HR1.out (j : Int) (by omega) hgl
      cases e2
      replace hg0 := (HB.out.cell (World.block_lt_of_cell? w _ hg0)).trans hg0
      have hmem := rd_memD N (j : Int) (by omega) hji
      have hkey := cellKeyedD _ (HCK.out _ hmem)
      rw [Int.toNat_natCast] at hx0 hx1 hg0
      generalize hcc : rd_T57 N (j : Int) = cc at hx0 hx1 hmem hkey
      generalize hdd : rd l1 (j : Int) = dd at hg0
      have hal := below_alloc (Below.refl wr.heap.size wr) (.cells #[.int .i64 cc.f0, .int .i64 cc.f1] 57)
      obtain ⟨w5, hrun, hm5, hg5⟩ := (HM.out.alloc (.cells #[.int .i64 cc.f0, .int .i64 cc.f1] 57)).drew.put_run cellLaidD Try.underlying66 (e := 2) (by have := HNL.out.2; unfold maxLen; omega) (x := keyD cc) (fun q hq => enc2_inj _ _ hq) hkey (.int .i64 dd)
      have hrun' : (Instr.mapUpdate 66 (.map (some w.heap.size)) (.agg #[.int .i64 cc.f0, .int .i64 cc.f1]) (.int .i64 dd)).run Try.prog (wr.alloc (.cells #[.int .i64 cc.f0, .int .i64 cc.f1] 57)).drew = .ok () w5 := hrun
      clear hrun
      have M5 : Aside0 (MapF Try.prog 57 enc2 w5 w.heap.size (j + 1) (fun q => (mget (fillM N l1 (j + 1)) q).map (Value.int .i64))) := ⟨hm5.ext (fun q => by rw [fillM, hcc, hdd]; exact mget_next _ _ _ _)⟩
      have G5 := Aside0.mk (blk_grown (w := (wr.alloc (.cells #[.int .i64 cc.f0, .int .i64 cc.f1] 57)).drew) (blk_alloc HG.out (.cells #[.int .i64 cc.f0, .int .i64 cc.f1] 57)) hg5 (by simp))
      have O5 := Aside0.mk (Kd.R_mapTurn (Kd.R_drew (Kd.R_alloc HO.out (.cells #[.int .i64 cc.f0, .int .i64 cc.f1] 57))) (HM.out.alloc (.cells #[.int .i64 cc.f0, .int .i64 cc.f1] 57)).drew.block hg5)
      have B5 := Aside0.mk (below_mapTurn (below_drew1 (below_alloc HB.out (.cells #[.int .i64 cc.f0, .int .i64 cc.f1] 57))) hg5 (Nat.le_refl _) (below_size (below_drew1 (below_alloc HB.out (.cells #[.int .i64 cc.f0, .int .i64 cc.f1] 57)))))
      have m0 : (wr.alloc (.cells #[.int .i64 cc.f0, .int .i64 cc.f1] 57)).cell? ⟨w.heap.size + 1, 0, none⟩ = some (.map (some w.heap.size)) := (blk_cell (blk_alloc HG.out _) 0).trans rfl
      have n0 : (wr.alloc (.cells #[.int .i64 cc.f0, .int .i64 cc.f1] 57)).cell? ⟨wr.heap.size, 0, none⟩ = some (.int .i64 cc.f0) := (blk_cell (heap_alloc_new wr _) 0).trans rfl
      have n1 : (wr.alloc (.cells #[.int .i64 cc.f0, .int .i64 cc.f1] 57)).cell? ⟨wr.heap.size, 1, none⟩ = some (.int .i64 cc.f1) := (blk_cell (heap_alloc_new wr _) 1).trans rfl
      have g0 := (hal.cell (World.block_lt_of_cell? wr _ hg0)).trans hg0
      have d0 : decide (0 ≤ (j : Int)) = true := decide_eq_true (by omega)
      have d1 : (j < l1.length) = True := eq_true (by omega)
      have d2 : j < l1.length := by omega
      clear hm5 hg5 hal hmem hkey
      go_wp2
      go_region
      go_wp2
      go_roundg kk
      case measure => omega
      case rel => exact ⟨j + 1, congrArg (Value.int .i64) (by have := HNL.out.2; unfold wrap64; omega), ⟨by have := HJ.out; omega⟩, M5, G5, O5, B5⟩
    | zero =>
      obtain rfl : j = N.length := by have := HJ.out; omega
      have hwh := HWH.out
      obtain ⟨i0, hi, hzz⟩ := Option.map_eq_some_iff.1 infoRow
      simp only [Prod.mk.injEq] at hzz
      obtain ⟨hz0, hz1, hz2⟩ := hzz
      have hmk : ∀ W' : World, (Instr.makeSlice 68 (.int .i64 (2 * (H0 : Int) + 1)) (.int .i64 (2 * (H0 : Int) + 1))).run Try.prog W' = .ok (.slice (some ⟨W'.heap.size, 0, none⟩) (2 * H0 + 1) (2 * H0 + 1)) (W'.alloc (.cells (List.replicate (2 * H0 + 1) (Value.slice none 0 0)).toArray 64)) := fun W' => by
        have h := run_make (P := Try.prog) W' 68 64 i0 (.slice none 0 0) Try.underlying68 hi hz0 .i64 .i64 (2 * (H0 : Int) + 1) (2 * (H0 : Int) + 1) (by omega) (Int.le_refl _) (by rw [hz2]; omega) (by omega)
        rw [hz1, show (2 * (H0 : Int) + 1).toNat = 2 * H0 + 1 by omega] at h
        simpa [made_rows, Value.cells] using h
      have hw1 : wrap64 (2 * (H0 : Int)) = 2 * (H0 : Int) := by unfold wrap64; omega
      have hw2 : wrap64 (2 * (H0 : Int) + 1) = 2 * (H0 : Int) + 1 := by unfold wrap64; omega
      have HMK := Aside0.mk hmk
      clear hi hz0 hz1 hz2 hwh
      go_wp2_with (first | (go_at_call 46; refine (impl_sizeOf.calls k A0 c0 l0 _ _ _ (Kd.C_below HR0.out HB.out) HC0.out AS.out).mono ?_; rintro e w3 ⟨rfl, hb⟩; have HB3 := Aside0.mk (below_step HB.out hb); have HM3 := Aside0.mk (HM.out.below' hb); have HG3 := Aside0.mk (blk_below HG.out hb); clear hb))
      have hb4 := below_alloc (below_alloc (Below.refl w3.heap.size w3) (.cells (List.replicate (2 * H0 + 1) (Value.slice none 0 0)).toArray 64)) (.cells #[.slice (some ⟨w3.heap.size, 0, none⟩) (2 * H0 + 1) (2 * H0 + 1)] 68)
      have R4 : Aside0 (RowsAt ((w3.alloc (.cells (List.replicate (2 * H0 + 1) (Value.slice none 0 0)).toArray 64)).alloc (.cells #[.slice (some ⟨w3.heap.size, 0, none⟩) (2 * H0 + 1) (2 * H0 + 1)] 68)) w3.heap.size (2 * H0 + 1) (2 * W0 + 1) 0 []) := ⟨⟨rfl, by simpa using blk_alloc (heap_alloc_new w3 (.cells (List.replicate (2 * H0 + 1) (Value.slice none 0 0)).toArray 64)) (.cells #[.slice (some ⟨w3.heap.size, 0, none⟩) (2 * H0 + 1) (2 * H0 + 1)] 68), (fun b hb => absurd hb (by simp)), List.nodup_nil⟩⟩
      have P4 := Aside0.mk (show ((w3.alloc (.cells (List.replicate (2 * H0 + 1) (Value.slice none 0 0)).toArray 64)).alloc (.cells #[.slice (some ⟨w3.heap.size, 0, none⟩) (2 * H0 + 1) (2 * H0 + 1)] 68)).heap[w3.heap.size + 1]? = some (.cells #[.slice (some ⟨w3.heap.size, 0, none⟩) (2 * H0 + 1) (2 * H0 + 1)] 68 (0, 0)) from (by
        have e : (w3.alloc (.cells (List.replicate (2 * H0 + 1) (Value.slice none 0 0)).toArray 64)).heap.size = w3.heap.size + 1 := by simp only [World.alloc, Array.size_push]
        rw [← e]
        exact heap_alloc_new _ _))
      have M4 := Aside0.mk (HM3.out.below' hb4)
      have G4 := Aside0.mk (blk_below HG3.out hb4)
      have B4 := Aside0.mk (below_step HB3.out hb4)
      have Z3 := Aside0.mk HB3.out.size
      clear hb4 HM3 HG3 HB3 HO HM HG HB HMK hmk hw1 hw2
      simp only [List.toArray_replicate] at R4 P4 M4 G4 B4
      generalize (w3.alloc (.cells (Array.replicate (2 * H0 + 1) (Value.slice none 0 0)) 64)).alloc (.cells #[.slice (some ⟨w3.heap.size, 0, none⟩) (2 * H0 + 1) (2 * H0 + 1)] 68) = w4 at R4 P4 M4 G4 B4 ⊢
      generalize w3.heap.size = R at R4 P4 Z3 ⊢
      go_loopg [50] (2 * H0 + 1) (fun kq v50 w' => ∃ (j : Nat) (bs : List Nat), v50 = .int .i64 j ∧ Aside0 (kq + j = 2 * H0 + 1) ∧ Aside0 (RowsAt w' R (2 * H0 + 1) (2 * W0 + 1) j bs) ∧ Aside0 (∀ b ∈ bs, w.heap.size ≤ b) ∧ Aside0 (w'.heap[R + 1]? = some (.cells #[.slice (some ⟨R, 0, none⟩) (2 * H0 + 1) (2 * H0 + 1)] 68 (0, 0))) ∧ Aside0 (MapF Try.prog 57 enc2 w' w.heap.size N.length (fun q => (mget (fillM N l1 N.length) q).map (Value.int .i64))) ∧ Aside0 (w'.heap[w.heap.size + 1]? = some (.cells #[.map (some w.heap.size)] 66 (0, 0))) ∧ Aside0 (Below w.heap.size w w'))
      case atStart => exact ⟨0, [], rfl, ⟨rfl⟩, R4, ⟨fun b hb => by cases hb⟩, P4, M4, G4, B4⟩
      case round =>
        clear R4 P4 M4 G4 B4
        obtain ⟨j, bs, rfl, HJ2, RA, BB, PB, HM, HG, HB⟩ := hrel
        cases gk with
        | zero =>
          obtain rfl : j = 2 * H0 + 1 := by have := HJ2.out; omega
          have hwh := HWH.out
          have hw1 : wrap64 ((H0 : Int) + 1) = (H0 : Int) + 1 := by unfold wrap64; omega
          have D0 : Aside0 (DrawSt w (wr.alloc (.cells #[.int .i64 0] 2)) R wr.heap.size N.length bs W0 H0 (mget (fillM N l1 N.length)) (42 * 0) (allD (mget (fillM N l1 N.length)) W0 H0 0 (blankD W0 H0, 0))) :=
            ⟨⟨RA.out.grid.below (below_alloc (Below.refl _ _) _), by simp [allD, blankD], BB.out, blk_alloc PB.out _, heap_alloc_new _ _, HB.out.size, by simp [allD], HM.out.alloc _, blk_alloc HG.out _, below_alloc HB.out _⟩⟩
          clear RA BB PB HM HG HB hwh
          generalize hF : mget (fillM N l1 N.length) = F at HRES HT D0
          clear hF
          go_wp2
          rw [hw1]
          clear hw1
          generalize wr.heap.size = C at D0 ⊢
          go_loopg [65] (H0 + 1) (fun kq v65 w' => ∃ (y : Nat), v65 = .int .i64 y ∧ Aside0 (kq + y = H0 + 1) ∧ Aside0 (DrawSt w w' R C N.length bs W0 H0 F (42 * y) (allD F W0 H0 y (blankD W0 H0, 0))))
          case atStart => exact ⟨0, rfl, ⟨rfl⟩, D0⟩
          case round =>
            clear D0
            obtain ⟨y, rfl, HY, HD⟩ := hrel
            cases gk with
            | zero =>
              have c1 : decide ((y : Int) < (H0 : Int) + 1) = false := decide_eq_false (by have := HY.out; omega)
              have D9 : Aside0 (DrawSt w wr R C N.length bs W0 H0 F (42 * (H0 + 1)) (drawnD F W0 H0)) := ⟨by obtain rfl : y = H0 + 1 := (by have := HY.out; omega); exact HD.out⟩
              clear HD
              generalize drawnD F W0 H0 = G at HRES HT D9
              obtain ⟨wt, hwt⟩ : ∃ wt, wt = wr := ⟨_, rfl⟩
              subst hwt
              go_wp2_with (first | ((with_reducible refine gate_dst (N := 140) rfl ?_); refine Kd.R_lit (w0 := wt) Kd.string wt.heap.size 9 ?hg (N := 140) ?hd (xs := ([] : List ByteArray)) (inner := []) (ok := fun _ => True) (okp := fun _ => True) ?hr ?hp (fun _ hk => hk) trivial (Below.refl _ _) (Nat.le_refl _) (by simp) ?_; (case hd => rfl); (case hg => rfl); (case hr => first | (go_simp; done) | (go_simp; rfl)); (case hp => exact (Reps.none _ _)); intro v102 w9 ho4 hb hg_ hnew_; have m0 : w9.cell? ⟨R + 1, 0, none⟩ = some (.slice (some ⟨R, 0, none⟩) (2 * H0 + 1) (2 * H0 + 1)) := (blk_cell (blk_below D9.out.rp hb) 0).trans rfl; have O9 := Aside0.mk ho4; have B9 := Aside0.mk hb; clear hg_ hnew_ ho4 hb))
              have c2 : Aside0 (G.1.length = 2 * H0 + 1) := ⟨D9.out.len⟩
              clear m0
              go_loopg [19, 143] (2 * H0 + 1) (fun kq v19 v143 w' => ∃ (j : Nat), v143 = .int .i64 j ∧ Aside0 (kq + j = 2 * H0 + 1) ∧ Aside0 (Kd.R Kd.string 9 w' wt.heap.size (fun _ => True) v19 ((G.1.take j).map strOfNums)) ∧ Aside0 (Below wt.heap.size wt w'))
              case atStart => exact ⟨0, rfl, ⟨by omega⟩, O9, B9⟩
              case round =>
                clear O9 B9
                obtain ⟨j, rfl, HJ, HO, HB⟩ := hrel
                have HO' := HO.out
                obtain ⟨Ao, co, eo⟩ := Kd.R_slice HO'
                subst eo
                clear HO'
                cases gk with
                | zero =>
                  obtain rfl : j = 2 * H0 + 1 := by have := HJ.out; omega
                  have c3 : decide (((2 * H0 + 1 : Nat) : Int) < 2 * (H0 : Int) + 1) = false := decide_eq_false (by omega)
                  have hT : G.1.take (2 * H0 + 1) = G.1 := List.take_of_length_le (by rw [c2.out]; omega)
                  rw [hT] at HO ⊢
                  have hC := Aside0.mk (Kd.R_reads' HO.out)
                  have hJn : strings_Join.f (G.1.map strOfNums) ⟨#[10]⟩ = some (textD G.1) := by
                    unfold strings_Join.f
                    rw [if_pos ⟨by rw [List.length_map, c2.out]; have := HWH.out; omega, HT.out⟩]
                    rfl
                  have hcall : ∀ W' : World, Below wr.heap.size wr W' → Calls Try.prog 49 #[.slice Ao G.1.length co, .string ⟨#[10]⟩] W' fun e w' => e = .returned (.string (textD G.1)) ∧ Below W'.heap.size W' w' := fun W' hb => by
                    have h0 := strings_Join.calls Ao co (G.1.map strOfNums) ⟨#[10]⟩ (textD G.1) W' (Kd.C_below hC.out.2.2 hb) hC.out.2.1 hJn
                    rwa [List.length_map] at h0
                  have HCALL := Aside0.mk hcall
                  have CP := Aside0.mk (blk_below D9.out.cp HB.out)
                  have m1 : wr.cell? ⟨C, 0, none⟩ = some (.int .i64 G.2) := (blk_cell CP.out 0).trans rfl
                  obtain ⟨rfl, rfl⟩ := Prod.mk.inj HRES.out
                  clear hT hJn HO hcall
                  go_wp2
                  go_region_with (go_at_call 49; refine (HCALL.out _ ?_).mono ?_; exact below_drew1 (Below.refl _ _); rintro e w12 ⟨rfl, hb⟩; have m2 : w12.cell? ⟨C, 0, none⟩ = some (.int .i64 G.2) := (blk_cell (blk_below CP.out (below_then (below_drew1 (Below.refl wr.heap.size wr)) (Nat.le_refl _) hb)) 0).trans rfl; have B12 := Aside0.mk (below_step (below_step D9.out.blw HB.out) (below_then (below_drew1 (Below.refl wr.heap.size wr)) (Nat.le_refl _) hb)); clear hb)
                  all_goals (
                    go_wp2
                    go_ret2
                    exact ⟨rfl, B12.out⟩)
                | succ kj =>
                  have hj : j < 2 * H0 + 1 := by have := HJ.out; omega
                  have c3 : decide ((j : Int) < 2 * (H0 : Int) + 1) = true := decide_eq_true (by omega)
                  have hji : (j : Int) < 2 * (H0 : Int) + 1 := by omega
                  obtain ⟨g, hg1, hg2⟩ := D9.out.text HB.out HWH.out.1 hj
                  have hwh := HWH.out
                  have hw1 : wrap64 ((j : Int) + 1) = (j : Int) + 1 := by unfold wrap64; omega
                  clear hwh
                  go_wp2_with (first | ((with_reducible refine gate_builtin (b := .append) (xs := #[.tmp 147, .tmp 150]) rfl ?_); at_builtin; refine Kd.R_append (w0 := wt) Kd.string wt.heap.size rfl (.tmp 147) (.tmp 150) 71 9 (.string ⟨#[]⟩) 16 rfl Try.underlying71 infoStr rfl (by decide) (by omega) (.slice Ao ((G.1.take j).map strOfNums).length co) ((G.1.take j).map strOfNums) (strOfNums (G.1.getD j [])) [.string (strOfNums (G.1.getD j []))] (fun _ => True) (fun _ => False) rfl rfl ?aP (fun _ hk => hk.elim) ?aF ?aO ?aB ?aS ?aL ?_; (case aP => exact rfl); (case aB => exact HB.out); (case aF => exact (fun _ _ => trivial)); (case aO => exact HO.out); (case aS => exact below_size HB.out); (case aL => rw [List.length_map, List.length_take]; have := HWH.out; omega); intro v105 w11 ho hb hg hat; rw [← take_texts _ _ (by rw [c2.out]; omega)] at ho; have O2 := Aside0.mk ho; have B2 := Aside0.mk hb; clear ho hb hg hat))
                  go_roundg kj
                  case measure => omega
                  case rel => exact ⟨j + 1, congrArg (Value.int .i64) (by omega), ⟨by have := HJ.out; omega⟩, O2, B2⟩
            | succ kk =>
              have hy : y < H0 + 1 := by have := HY.out; omega
              have hyi : (y : Int) < (H0 : Int) + 1 := by omega
              have hwh := HWH.out
              have hw1 : wrap64 ((H0 : Int) + 1) = (H0 : Int) + 1 := by unfold wrap64; omega
              have hw2 : wrap64 ((W0 : Int) + 1) = (W0 : Int) + 1 := by unfold wrap64; omega
              clear hwh
              go_wp2
              rw [hw2]
              clear hw1 hw2 hyi
              go_loopg [70] (W0 + 1) (fun kq v70 w' => ∃ (x : Nat), v70 = .int .i64 x ∧ Aside0 (kq + x = W0 + 1) ∧ Aside0 (DrawSt w w' R C N.length bs W0 H0 F (42 * y + 2 * x) (rowD F W0 H0 y x (allD F W0 H0 y (blankD W0 H0, 0)))))
              case atStart => exact ⟨0, rfl, ⟨rfl⟩, ⟨HD.out⟩⟩
              case round =>
                clear HD
                obtain ⟨x, rfl, HX, HD⟩ := hrel
                cases gk with
                | zero =>
                  have c1 : decide ((x : Int) < (W0 : Int) + 1) = false := decide_eq_false (by have := HX.out; omega)
                  have hwh := HWH.out
                  have hw1 : wrap64 ((y : Int) + 1) = (y : Int) + 1 := by unfold wrap64; omega
                  go_wp2
                  go_roundg kk
                  case measure => omega
                  case rel => exact ⟨y + 1, congrArg (Value.int .i64) (by omega), ⟨by have := HY.out; omega⟩, ⟨by obtain rfl : x = W0 + 1 := (by have := HX.out; omega); exact HD.out.more (by omega)⟩⟩
                | succ kx =>
                  have hx : x < W0 + 1 := by have := HX.out; omega
                  have hxi : (x : Int) < (W0 : Int) + 1 := by omega
                  have hwh := HWH.out
                  have D1 := Aside0.mk (HD.out.alloc (.cells #[.int .i64 (x : Int), .int .i64 (y : Int)] 57))
                  have n0 : (wr.alloc (.cells #[.int .i64 (x : Int), .int .i64 (y : Int)] 57)).cell? ⟨wr.heap.size, 0, none⟩ = some (.int .i64 (x : Int)) := (blk_cell (heap_alloc_new wr _) 0).trans rfl
                  have n1 : (wr.alloc (.cells #[.int .i64 (x : Int), .int .i64 (y : Int)] 57)).cell? ⟨wr.heap.size, 1, none⟩ = some (.int .i64 (y : Int)) := (blk_cell (heap_alloc_new wr _) 1).trans rfl
                  have hm : Aside0 (42 * y + 2 * x ≤ 1000) := ⟨by omega⟩
                  clear hwh
                  have B1 := Aside0.mk (heap_alloc_new wr (.cells #[.int .i64 (x : Int), .int .i64 (y : Int)] 57))
                  generalize hcb : wr.heap.size = cb at n0 n1 B1
                  go_upto_region 24 with (fail)
                  go_cut [87] from 71 to 138 (fun v87 wc => ∃ b1 : Bool, v87 = .bool b1 ∧ Aside0 (b1 = (decide (y < H0) && apartV (F ((x : Int), (y : Int))) (F ((x : Int) - 1, (y : Int))))) ∧ Aside0 (DrawSt w wc R C N.length bs W0 H0 F (42 * y + 2 * x) (rowD F W0 H0 y x (allD F W0 H0 y (blankD W0 H0, 0)))) ∧ Aside0 (wc.heap[cb]? = some (.cells #[.int .i64 (x : Int), .int .i64 (y : Int)] 57 (0, 0))))
                  case first =>
                    have hwh := HWH.out
                    have hw1 : wrap64 ((x : Int) - 1) = (x : Int) - 1 := by unfold wrap64; omega
                    have hok := cellOk x y (by omega) (by omega)
                    have HOK := Aside0.mk hok
                    clear hwh hok
                    by_cases hc : y < H0
                    · have hc1 : decide ((y : Int) < (H0 : Int)) = true := decide_eq_true (by omega)
                      go_wp2_with (go_at_call 45; refine (D1.out.apart (x : Int) (y : Int) ((x : Int) - 1) (y : Int) HOK.out.1 HOK.out.2.1).mono ?_; rintro e w7 ⟨rfl, hd7, hb7⟩; have D7 := Aside0.mk hd7; have B7 := Aside0.mk (blk_below B1.out hb7); clear hd7 hb7)
                      go_meet
                      case rel => exact ⟨_, rfl, ⟨by simp [hc]⟩, D7, B7⟩
                    · have hc1 : decide ((y : Int) < (H0 : Int)) = false := decide_eq_false (by omega)
                      go_wp2
                      go_meet
                      case rel => exact ⟨_, rfl, ⟨by simp [hc]⟩, D1, B1⟩
                  case rest =>
                    clear D1 B1 n0 n1
                    obtain ⟨b1, rfl, HB1, D2, B2⟩ := hcut
                    go_upto_if 87 with (fail)
                    go_cut [] from 71 to 138 (fun wc => Aside0 (DrawSt w wc R C N.length bs W0 H0 F (42 * y + 2 * x + 1) (markV F H0 x y (rowD F W0 H0 y x (allD F W0 H0 y (blankD W0 H0, 0))))) ∧ Aside0 (wc.heap[cb]? = some (.cells #[.int .i64 (x : Int), .int .i64 (y : Int)] 57 (0, 0))))
                    case first =>
                      have hwh := HWH.out
                      have hxy : x ≤ W0 ∧ y ≤ H0 := by omega
                      cases hb1 : b1 with
                      | true =>
                        subst hb1
                        have hyl : y < H0 := by have := HB1.out; simp at this; exact this.1
                        have w1 : wrap64 (2 * (x : Int)) = 2 * (x : Int) := by unfold wrap64; omega
                        have w2 : wrap64 (2 * (y : Int)) = 2 * (y : Int) := by unfold wrap64; omega
                        have w3 : wrap64 (2 * (y : Int) + 1) = 2 * (y : Int) + 1 := by unfold wrap64; omega
                        have w4 : wrap64 (2 * (y : Int) + 2) = 2 * (y : Int) + 2 := by unfold wrap64; omega
                        have hb := below_alloc (Below.refl wc.heap.size wc) (.cells #[.int .i64 (2 * (x : Int)), .int .i64 (2 * (y : Int)), .int .i64 (2 * (x : Int)), .int .i64 (2 * (y : Int) + 2)] 57)
                        have HXY := Aside0.mk (And.intro hxy hyl)
                        have D3 := Aside0.mk (D2.out.below hb)
                        have B3 := Aside0.mk (blk_below B2.out hb)
                        clear hb hwh hxy hyl
                        go_wp2_with (go_at_call 48; refine (D3.out.draw HWH.out (by have := hm.out; omega) wc.heap.size 124 (2 * (x : Int)) (2 * (y : Int) + 1) (2 * (x : Int)) (2 * (y : Int)) (2 * (x : Int)) (2 * (y : Int) + 2) (2 * x) (2 * y + 1) (2 * x) (2 * y) (2 * x) (2 * y + 2) (by omega) (by omega) (by omega) (by omega) (by omega) (by omega) (by have := HXY.out; omega) (by have := HXY.out; omega) (by have := HXY.out; omega) (heap_alloc_new _ _)).mono ?_; rintro e w7 ⟨rfl, hd7, hb7⟩; have D7 := Aside0.mk hd7; have B7 := Aside0.mk (hb7 _ _ B3.out); clear hd7 hb7)
                        go_meet
                        case rel => exact ⟨⟨by rw [markV_is, if_pos HB1.out.symm]; exact D7.out⟩, B7⟩
                      | false =>
                        subst hb1
                        go_wp2
                        go_meet
                        case rel => exact ⟨⟨by rw [markV_is, if_neg (by rw [← HB1.out]; decide)]; exact D2.out.more (Nat.le_succ _)⟩, B2⟩
                    case rest =>
                      clear D2 B2 HB1
                      obtain ⟨D4, B4⟩ := hcut
                      have n0 : wc.cell? ⟨cb, 0, none⟩ = some (.int .i64 (x : Int)) := (blk_cell B4.out 0).trans rfl
                      have n1 : wc.cell? ⟨cb, 1, none⟩ = some (.int .i64 (y : Int)) := (blk_cell B4.out 1).trans rfl
                      go_upto_region 26 with (fail)
                      go_cut [118] from 71 to 138 (fun v118 wc => ∃ b1 : Bool, v118 = .bool b1 ∧ Aside0 (b1 = (decide (x < W0) && apartV (F ((x : Int), (y : Int))) (F ((x : Int), (y : Int) - 1)))) ∧ Aside0 (DrawSt w wc R C N.length bs W0 H0 F (42 * y + 2 * x + 1) (markV F H0 x y (rowD F W0 H0 y x (allD F W0 H0 y (blankD W0 H0, 0))))) ∧ Aside0 (wc.heap[cb]? = some (.cells #[.int .i64 (x : Int), .int .i64 (y : Int)] 57 (0, 0))))
                      case first =>
                        have hwh := HWH.out
                        have hw1 : wrap64 ((y : Int) - 1) = (y : Int) - 1 := by unfold wrap64; omega
                        have hok := cellOk x y (by omega) (by omega)
                        have HOK := Aside0.mk hok
                        clear hwh hok
                        by_cases hc : x < W0
                        · have hc1 : decide ((x : Int) < (W0 : Int)) = true := decide_eq_true (by omega)
                          go_wp2_with (go_at_call 45; refine (D4.out.apart (x : Int) (y : Int) (x : Int) ((y : Int) - 1) HOK.out.1 HOK.out.2.2).mono ?_; rintro e w7 ⟨rfl, hd7, hb7⟩; have D7 := Aside0.mk hd7; have B7 := Aside0.mk (blk_below B4.out hb7); clear hd7 hb7)
                          go_meet
                          case rel => exact ⟨_, rfl, ⟨by simp [hc]⟩, D7, B7⟩
                        · have hc1 : decide ((x : Int) < (W0 : Int)) = false := decide_eq_false (by omega)
                          go_wp2
                          go_meet
                          case rel => exact ⟨_, rfl, ⟨by simp [hc]⟩, D4, B4⟩
                      case rest =>
                          clear D4 B4 n0 n1
                          obtain ⟨b1, rfl, HB1, D2, B2⟩ := hcut
                          have hwh := HWH.out
                          have hxy : x ≤ W0 ∧ y ≤ H0 := by omega
                          have w5 : wrap64 ((x : Int) + 1) = (x : Int) + 1 := by unfold wrap64; omega
                          cases hb1 : b1 with
                          | true =>
                            subst hb1
                            have hxl : x < W0 := by have := HB1.out; simp at this; exact this.1
                            have w1 : wrap64 (2 * (x : Int)) = 2 * (x : Int) := by unfold wrap64; omega
                            have w2 : wrap64 (2 * (y : Int)) = 2 * (y : Int) := by unfold wrap64; omega
                            have w3 : wrap64 (2 * (x : Int) + 1) = 2 * (x : Int) + 1 := by unfold wrap64; omega
                            have w4 : wrap64 (2 * (x : Int) + 2) = 2 * (x : Int) + 2 := by unfold wrap64; omega
                            have hb := below_alloc (Below.refl wc.heap.size wc) (.cells #[.int .i64 (2 * (x : Int)), .int .i64 (2 * (y : Int)), .int .i64 (2 * (x : Int) + 2), .int .i64 (2 * (y : Int))] 57)
                            have HXY := Aside0.mk (And.intro hxy hxl)
                            have D3 := Aside0.mk (D2.out.below hb)
                            clear hb hwh hxy hxl
                            go_wp2_with (go_at_call 48; refine (D3.out.draw HWH.out (by have := hm.out; omega) wc.heap.size 45 (2 * (x : Int) + 1) (2 * (y : Int)) (2 * (x : Int)) (2 * (y : Int)) (2 * (x : Int) + 2) (2 * (y : Int)) (2 * x + 1) (2 * y) (2 * x) (2 * y) (2 * x + 2) (2 * y) (by omega) (by omega) (by omega) (by omega) (by omega) (by omega) (by have := HXY.out; omega) (by have := HXY.out; omega) (by have := HXY.out; omega) (heap_alloc_new _ _)).mono ?_; rintro e w7 ⟨rfl, hd7, hb7⟩; have D7 := Aside0.mk hd7; clear hd7 hb7)
                            go_roundg kx
                            case measure => omega
                            case rel => exact ⟨x + 1, congrArg (Value.int .i64) (by omega), ⟨by have := HX.out; omega⟩, ⟨by rw [rowD, markH_is, if_pos HB1.out.symm]; exact D7.out⟩⟩
                          | false =>
                            subst hb1
                            go_wp2
                            go_roundg kx
                            case measure => omega
                            case rel => exact ⟨x + 1, congrArg (Value.int .i64) (by omega), ⟨by have := HX.out; omega⟩, ⟨by rw [rowD, markH_is, if_neg (by rw [← HB1.out]; decide)]; exact D2.out.more (Nat.le_succ _)⟩⟩
        | succ kk =>
          have hj : j < 2 * H0 + 1 := by have := HJ2.out; omega
          have hji : (j : Int) < 2 * (H0 : Int) + 1 := by omega
          have hwh := HWH.out
          have hw1 : wrap64 (2 * (W0 : Int)) = 2 * (W0 : Int) := by unfold wrap64; omega
          have hrep : ∀ (W' : World) (ad : Addr), W'.cell? ad = some (.int .u8 32) → Calls Try.prog 47 #[.slice (some ad) 1 1, .int .i64 (IntKind.i64.wrap (IntKind.i64.wrap (2 * (W0 : Int)) + 1))] W' fun e w' => ∃ g, e = .returned (.slice (some ⟨g, 0, none⟩) (2 * W0 + 1) (2 * W0 + 1)) ∧ W'.heap.size ≤ g ∧ w'.heap[g]? = some (.cells (List.replicate (2 * W0 + 1) (Value.int .u8 32)).toArray 5 (0, 0)) ∧ Below W'.heap.size W' w' := fun W' ad hv => by
            rw [i64_w, i64_w, show wrap64 (wrap64 (2 * (W0 : Int)) + 1) = ((2 * W0 + 1 : Nat) : Int) by unfold wrap64; omega]
            exact rep_calls W' ad 1 32 hv (2 * W0 + 1) (by omega) (by omega) (fun W'' => bits_Mul.calls 1 _ 0 _ W'' (mul_small _ (by omega)))
          have m0 : wr.cell? ⟨R + 1, 0, none⟩ = some (.slice (some ⟨R, 0, none⟩) (2 * H0 + 1) (2 * H0 + 1)) := (blk_cell PB.out 0).trans rfl
          have m1 : (wr.alloc (.cells #[.int .u8 32] 5)).cell? ⟨R + 1, 0, none⟩ = some (.slice (some ⟨R, 0, none⟩) (2 * H0 + 1) (2 * H0 + 1)) := (blk_cell (blk_alloc PB.out _) 0).trans rfl
          have hRm : R ≠ w.heap.size := HM.out.ne ⟨_, _, _, RA.out.rows⟩
          have hRg : w.heap.size + 1 ≠ R := blk_ne HG.out RA.out.rows (by decide)
          have HRM := Aside0.mk hRm
          have HRG := Aside0.mk hRg
          have HREP := Aside0.mk hrep
          clear hwh hrep hRm hRg
          go_wp2
          go_region_with (go_at_call 47; refine (HREP.out _ ⟨wr.heap.size, 0, none⟩ ?_).mono ?_; exact (blk_cell (w := (wr.alloc (.cells #[.int .u8 32] 5)).drew) (heap_alloc_new wr (.cells #[.int .u8 32] 5)) 0).trans rfl; rintro e w6 ⟨g, rfl, hg, hc, hb⟩; have hbb : Below wr.heap.size wr w6 := below_step (below_drew1 (below_alloc (Below.refl wr.heap.size wr) (.cells #[.int .u8 32] 5))) hb; obtain ⟨s1, s2⟩ := RA.out.spot hj hbb; have p6 : w6.cell? ⟨R + 1, 0, none⟩ = some (.slice (some ⟨R, 0, none⟩) (2 * H0 + 1) (2 * H0 + 1)) := (blk_cell (blk_below PB.out hbb) 0).trans rfl; have hg' : wr.heap.size ≤ g := Nat.le_trans (below_drew1 (below_alloc (Below.refl wr.heap.size wr) (.cells #[.int .u8 32] 5))).size hg; have R6 := Aside0.mk (RA.out.next hj hbb hg' hc); have Q6 := Aside0.mk (show ∀ b ∈ bs ++ [g], w.heap.size ≤ b from fun b hm => (by rcases List.mem_append.1 hm with h1 | h1; exact BB.out b h1; obtain rfl := List.mem_singleton.1 h1; exact Nat.le_trans HB.out.size hg')); have P6 := Aside0.mk (blk_far (blk_below PB.out hbb) (p := ⟨R, j, none⟩) (show R + 1 ≠ R by omega) (.slice (some ⟨g, 0, none⟩) (2 * W0 + 1) (2 * W0 + 1))); have M6 := Aside0.mk ((HM.out.below' hbb).setCell (a := ⟨R, j, none⟩) HRM.out (.slice (some ⟨g, 0, none⟩) (2 * W0 + 1) (2 * W0 + 1))); have G6 := Aside0.mk (blk_far (blk_below HG.out hbb) (p := ⟨R, j, none⟩) HRG.out (.slice (some ⟨g, 0, none⟩) (2 * W0 + 1) (2 * W0 + 1))); have B6 := Aside0.mk ((below_step HB.out hbb).setCell (p := ⟨R, j, none⟩) Z3.out (.slice (some ⟨g, 0, none⟩) (2 * W0 + 1) (2 * W0 + 1))); clear hg hc hb hbb hg')
          all_goals (
            go_wp2
            go_roundg kk
            case measure => omega
            case rel => exact ⟨j + 1, bs ++ [g], congrArg (Value.int .i64) (by have := HWH.out; unfold wrap64; omega), ⟨by have := HJ2.out; omega⟩, R6, Q6, P6, M6, G6, B6⟩)


/-! ### impl_GroupsText: function 22 -/
def impl_GroupsText.f (k : Nat) (l0 : List (S57)) (l1 : List Int) : Option (ByteArray × Int) := (impl_groupsCode.f k l0 l1).bind fun t347 => (if t347 = 0 then ((impl_drawing.f k l0 l1).bind fun bt348 => (some (bt348.1, 0))) else (some ((⟨#[]⟩ : ByteArray), t347)))
theorem impl_GroupsText.mono : ∀ a0 a1 k, LeO (impl_GroupsText.f k a0 a1) (impl_GroupsText.f (k + 1) a0 a1) := by
  intro a0 a1 k
  unfold impl_GroupsText.f
  repeat' first
      | (with_reducible exact impl_drawing.mono _ _ _)
      | (with_reducible exact impl_groupsCode.mono _ _ _)
      | (with_reducible exact LeO.refl _)
      | (with_reducible exact LeO.none _)
      | (with_reducible refine LeO.ite ?_ ?_)
      | (with_reducible refine LeO.bind ?_ (fun _ => ?_))
      | exact impl_drawing.mono _ _ _
      | exact impl_groupsCode.mono _ _ _
      | exact LeO.none _
      | refine LeO.ite ?_ ?_
      | refine LeO.bind ?_ (fun _ => ?_)
set_option maxHeartbeats 8000000 in
set_option maxRecDepth 100000 in
theorem impl_GroupsText.calls (k : Nat) (A0 : Option Addr) (c0 : Nat) (l0 : List (S57)) (A1 : Option Addr) (c1 : Nat) (l1 : List Int) (r1 : ByteArray) (r2 : Int) (w : World) (hr0 : Kd.C k57 w A0 l0.length l0) (hc0 : l0.length ≤ c0) (hr1 : Kd.C (Kd.int .i64) w A1 l1.length l1) (hc1 : l1.length ≤ c1) (h : impl_GroupsText.f k l0 l1 = some (r1, r2)) :
    Calls Try.prog 22 #[.slice A0 l0.length c0, .slice A1 l1.length c1] w fun e w' => e = .returned (.tuple #[.string r1, .int .i64 r2]) ∧ Below w.heap.size w w' := by
  have HR0 := Aside0.mk hr0
  have HC0 := Aside0.mk hc0
  clear hr0 hc0
  have HR1 := Aside0.mk hr1
  have HC1 := Aside0.mk hc1
  clear hr1 hc1
  have HB := Aside0.mk (Below.refl w.heap.size w)
  have H : ((impl_groupsCode.f k l0 l1).bind fun t347 => (if t347 = 0 then ((impl_drawing.f k l0 l1).bind fun bt348 => (some (bt348.1, 0))) else (some ((⟨#[]⟩ : ByteArray), t347)))) = some (r1, r2) := h
  clear h
  replace H := Option.bind_eq_some_iff.mp H
  obtain ⟨t347, A30, H⟩ := H
  replace H : (if t347 = 0 then ((impl_drawing.f k l0 l1).bind fun bt348 => (some (bt348.1, 0))) else (some ((⟨#[]⟩ : ByteArray), t347))) = some (r1, r2) := H
  have A3 := Aside0.mk A30
  clear A30
  by_cases c4 : t347 = 0
  · rw [if_pos c4] at H
    have c4b0 : (t347 == 0) = true := beq_iff_eq.mpr c4
    have c4b1 : (t347 != 0) = false := bne_eq_false_iff_eq.mpr c4
    clear c4
    replace H := Option.bind_eq_some_iff.mp H
    obtain ⟨⟨t348, t349⟩, A50, H⟩ := H
    replace H : (some (t348, 0)) = some (r1, r2) := H
    have A5 := Aside0.mk A50
    clear A50
    simp only [Option.some.injEq, Prod.mk.injEq] at H
    obtain ⟨rfl, rfl⟩ := H
    go_enter Try.func22, Try.ntmps22
    go_wp2_with (first | ((with_reducible refine gate_callee (f := 37) rfl ?_); refine goesL_ (some 11) rfl rfl Try.func37 (by kernel_rfl) rfl #[.slice A0 l0.length c0, .slice A1 l1.length c1] rfl (by (try simp only [List.map_toArray, List.map_cons, List.map_nil]); first | done | rfl | (simp only [List.length_drop, List.length_take]; rfl)) ?_; (with_reducible refine (impl_groupsCode.calls k _ _ l0 _ _ l1 t347 _ ?side1 ?side2 ?side3 ?side4 A3.out).mono ?_); (case side1 => repeat (first | exact HR0.out | (with_reducible refine Kd.C_alloc ?_ _) | (with_reducible refine Kd.C_drewN ?_ _) | (with_reducible refine Kd.C_drew ?_))); (case side2 => exact HC0.out); (case side3 => repeat (first | exact HR1.out | (with_reducible refine Kd.C_alloc ?_ _) | (with_reducible refine Kd.C_drewN ?_ _) | (with_reducible refine Kd.C_drew ?_))); (case side4 => exact HC1.out); rintro e w6 ⟨rfl, hb⟩; refine ⟨_, rfl, ?_⟩; have n0_ := Aside0.mk (below_step (by repeat (first | (with_reducible first | exact HB.out | apply below_alloc | apply pw_below_drewN | apply below_drew1) | exact HB.out)) hb); clear HB; have HB := n0_; clear n0_; (try clear hb); (try clear hb2); (try clear hk); (try clear hi)) | ((with_reducible refine gate_callee (f := 38) rfl ?_); refine goesL_ (some 18) rfl rfl Try.func38 (by kernel_rfl) rfl #[.slice A0 l0.length c0, .slice A1 l1.length c1] rfl (by (try simp only [List.map_toArray, List.map_cons, List.map_nil]); first | done | rfl | (simp only [List.length_drop, List.length_take]; rfl)) ?_; (with_reducible refine (impl_drawing.calls k _ _ l0 _ _ l1 t348 t349 _ ?side1 ?side2 ?side3 ?side4 A5.out).mono ?_); (case side1 => repeat (first | exact (Kd.C_below HR0.out HB.out) | (with_reducible refine Kd.C_alloc ?_ _) | (with_reducible refine Kd.C_drewN ?_ _) | (with_reducible refine Kd.C_drew ?_))); (case side2 => exact HC0.out); (case side3 => repeat (first | exact (Kd.C_below HR1.out HB.out) | (with_reducible refine Kd.C_alloc ?_ _) | (with_reducible refine Kd.C_drewN ?_ _) | (with_reducible refine Kd.C_drew ?_))); (case side4 => exact HC1.out); rintro e w7 ⟨rfl, hb⟩; refine ⟨_, rfl, ?_⟩; have n0_ := Aside0.mk (below_step (by repeat (first | (with_reducible first | exact HB.out | apply below_alloc | apply pw_below_drewN | apply below_drew1) | exact HB.out)) hb); clear HB; have HB := n0_; clear n0_; (try clear hb); (try clear hb2); (try clear hk); (try clear hi)))
    go_ret2
    exact ⟨by first | rfl | (simp [errW_none, errW_some] <;> rfl) | (simp [*, errW_none, errW_some] <;> rfl), by repeat (first | (with_reducible first | exact HB.out | apply below_alloc | apply pw_below_drewN | apply below_drew1) | exact HB.out)⟩
  · rw [if_neg c4] at H
    have c4b0 : (t347 == 0) = false := beq_eq_false_iff_ne.mpr c4
    have c4b1 : (t347 != 0) = true := bne_iff_ne.mpr c4
    simp only [Option.some.injEq, Prod.mk.injEq] at H
    obtain ⟨rfl, rfl⟩ := H
    go_enter Try.func22, Try.ntmps22
    go_wp2_with (first | ((with_reducible refine gate_callee (f := 37) rfl ?_); refine goesL_ (some 11) rfl rfl Try.func37 (by kernel_rfl) rfl #[.slice A0 l0.length c0, .slice A1 l1.length c1] rfl (by (try simp only [List.map_toArray, List.map_cons, List.map_nil]); first | done | rfl | (simp only [List.length_drop, List.length_take]; rfl)) ?_; (with_reducible refine (impl_groupsCode.calls k _ _ l0 _ _ l1 t347 _ ?side1 ?side2 ?side3 ?side4 A3.out).mono ?_); (case side1 => repeat (first | exact HR0.out | (with_reducible refine Kd.C_alloc ?_ _) | (with_reducible refine Kd.C_drewN ?_ _) | (with_reducible refine Kd.C_drew ?_))); (case side2 => exact HC0.out); (case side3 => repeat (first | exact HR1.out | (with_reducible refine Kd.C_alloc ?_ _) | (with_reducible refine Kd.C_drewN ?_ _) | (with_reducible refine Kd.C_drew ?_))); (case side4 => exact HC1.out); rintro e w8 ⟨rfl, hb⟩; refine ⟨_, rfl, ?_⟩; have n0_ := Aside0.mk (below_step (by repeat (first | (with_reducible first | exact HB.out | apply below_alloc | apply pw_below_drewN | apply below_drew1) | exact HB.out)) hb); clear HB; have HB := n0_; clear n0_; (try clear hb); (try clear hb2); (try clear hk); (try clear hi)))
    go_ret2
    exact ⟨by first | rfl | (simp [errW_none, errW_some] <;> rfl) | (simp [*, errW_none, errW_some] <;> rfl), by repeat (first | (with_reducible first | exact HB.out | apply below_alloc | apply pw_below_drewN | apply below_drew1) | exact HB.out)⟩

end Go.Proofs.Ytfpofjckpbmcjaa.PFnExactOutlineText
