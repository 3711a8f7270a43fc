/- Over the kit's printer by a driver of mine (hprint.py), with parts by hand: functions of the program as Lean functions, and that each call comes to exactly these answers. -/
import Derived.Test.YtopceddgiddhlaaDoorPFnRolledx0
import Derived.Test.YtopceddgiddhlaaDoorPFnRolledx8
import Derived.Test.YtopceddgiddhlaaDoorPFnRolledx12
import Derived.Test.YtopceddgiddhlaaDoorPFnRolledx20
namespace Go.Proofs.YtopceddgiddhlaaDoor.PFnRolled
open Go.RowKit Go.Proofs.YtopceddgiddhlaaDoorW.PrintWords Go.Proofs.YtopceddgiddhlaaDoorW.PrintLast Go.Proofs.YtopceddgiddhlaaDoorW.PrintMore
attribute [local go_sem] max2_int min2_int max_two min_two max_three min_three max_four min_four   -- for this text's walks alone
set_option linter.unusedVariables false
set_option linter.unusedSimpArgs false

/-! ### spec_FacesOf: function 31 -/
def spec_FacesOf.f (k : Nat) (l0 : List (S78)) : Option (List Int × Int) := (spec_IsConnected.f k l0).bind fun t518 => (if t518 = true then ((spec_l32Faces.f k l0).bind fun t519 => (some (t519, 0))) else (some (([] : List Int), 1)))
theorem spec_FacesOf.mono : ∀ a0 k, LeO (spec_FacesOf.f k a0) (spec_FacesOf.f (k + 1) a0) := by
 intro a0 k
 unfold spec_FacesOf.f
 with_reducible (repeat' first | exact spec_IsConnected.mono _ _ | exact spec_l32Faces.mono _ _ | exact LeO.refl _ | exact LeO.none _ | refine LeO.ite ?_ ?_ | refine LeO.bind ?_ (fun _ => ?_))
set_option maxHeartbeats 8000000 in
set_option maxRecDepth 100000 in
theorem spec_FacesOf.calls (k : Nat) (A0 : Option Addr) (c0 : Nat) (l0 : List (S78)) (r1 : List Int) (r2 : Int) (w : World) (hr0 : Kd.C k78 w A0 l0.length l0) (hc0 : l0.length ≤ c0) (h : spec_FacesOf.f k l0 = some (r1, r2)) :
  Calls Tryd.prog 31 #[.slice A0 l0.length c0] w fun e w' => ∃ v0_ : Value, e = .returned (.tuple #[v0_, .int .i64 r2]) ∧ Kd.R (Kd.int .i64) 2 w' w.heap.size (fun _ => True) v0_ r1 ∧ Below w.heap.size w w' := by
 have HR0 := Aside0.mk hr0
 have HC0 := Aside0.mk hc0
 clear hr0 hc0
 have HB := a0_ (Below.refl w.heap.size w)
 have H := h
 clear h
 unfold spec_FacesOf.f at H
 obtain ⟨t518, A2, H⟩ := bs_ H
 by_cases c3 : t518 = true
 ·subst c3
  rw [if_pos rfl] at H
  obtain ⟨t519, A4, H⟩ := bs_ H
  simp only [Option.some.injEq, Prod.mk.injEq] at H
  obtain ⟨rfl, rfl⟩ := H
  go_enter Tryd.func31, Tryd.ntmps31
  go_wp2_with (first | ((with_reducible refine gate_callee (f := 50) rfl ?_); refine goesL_ (some 5) rfl rfl Tryd.func50 kr_ rfl #[.slice A0 l0.length c0] rfl ta_ ?_; (with_reducible refine (spec_IsConnected.calls k _ _ l0 true _ ?side1 ?side2 A2.out).mono ?_); (case side1 => exact ca_ HR0.out); (case side2 => exact HC0.out); rintro e w5 ⟨rfl, hb⟩; refine ⟨_, rfl, ?_⟩; replace HB := a0_ (below_step (bl0_) hb); (try clear hb); (try clear hb2); (try clear hk); (try clear hi)) | ((with_reducible refine gate_callee (f := 48) rfl ?_); refine goesL_ (some 8) rfl rfl Tryd.func48 kr_ rfl #[.slice A0 l0.length c0] rfl ta_ ?_; (with_reducible refine (spec_l32Faces.calls k _ _ l0 t519 _ ?side1 ?side2 A4.out).mono ?_); (case side1 => exact ca_ (Kd.C_below HR0.out HB.out)); (case side2 => exact HC0.out); rintro e w6 ⟨v520, rfl, ho0, hb⟩; refine ⟨_, rfl, ?_⟩; have HO521 := a0_ (Kd.R_lower ho0 (below_size (bl0_))); replace HB := a0_ (below_step (bl0_) hb); (try clear hb); (try clear hb2); (try clear hk); (try clear hi); (try clear ho0)))
  go_ret2
  exact ⟨_, er_, ra_ HO521.out, bl0_⟩
 ·replace c3 := Bool.eq_false_iff.mpr c3
  subst c3
  rw [if_neg (show ¬ (false = true) by decide)] at H
  simp only [Option.some.injEq, Prod.mk.injEq] at H
  obtain ⟨rfl, rfl⟩ := H
  go_enter Tryd.func31, Tryd.ntmps31
  go_wp2_with (first | ((with_reducible refine gate_callee (f := 50) rfl ?_); refine goesL_ (some 5) rfl rfl Tryd.func50 kr_ rfl #[.slice A0 l0.length c0] rfl ta_ ?_; (with_reducible refine (spec_IsConnected.calls k _ _ l0 false _ ?side1 ?side2 A2.out).mono ?_); (case side1 => exact ca_ HR0.out); (case side2 => exact HC0.out); rintro e w7 ⟨rfl, hb⟩; refine ⟨_, rfl, ?_⟩; replace HB := a0_ (below_step (bl0_) hb); (try clear hb); (try clear hb2); (try clear hk); (try clear hi)))
  go_ret2
  exact ⟨_, er_, by first | exact Kd.R_nil _ _ _ _ _ | exact Kd.N_nil _ _ _ _ _ | exact Kd.V_nil _ _ _ _ _ | exact Kd.Q_nil _ _ _ _ _ | exact Kd.S_nil _ _ _ _ _, bl0_⟩

/-! ### impl_backWord: function 60 -/
-- IMPORT Derived.Lib.OwnBridge
/-! A word turned by two and reversed: bytes out of a string, each one replaced, the row reversed. -/
def turnI (x : Int) : Int := if x = 114 then 108 else if x = 100 then 117 else if x = 108 then 114 else 100
def bytesI (s : ByteArray) : List Int := s.data.toList.map fun b => (b.toNat : Int)
def turnB (s : ByteArray) : ByteArray := strOfNums ((bytesI s).map turnI)
def mirrorB (s : ByteArray) : ByteArray := ⟨s.data.reverse⟩
def backB (s : ByteArray) : ByteArray := mirrorB (turnB s)
def impl_backWord.f (a0 : ByteArray) : Option ByteArray := if a0.size ≤ 1000000 then some (backB a0) else none
def encByte (b : UInt8) : Value := .int .u8 (b.toNat : Int)
theorem strOfNums_bytes (l : List UInt8) : strOfNums (l.map fun b => (b.toNat : Int)) = ⟨l.toArray⟩ := by
 unfold strOfNums
 rw [List.map_map]
 congr 2
 conv => rhs; rw [← List.map_id l]
 apply List.map_congr_left
 intro b _
 simp
theorem mirror_rev (s : ByteArray) (hs : s.size ≤ 9223372036854775807) (W : World) (c : Nat) :
  Calls Tryd.prog 40 #[.slice (some ⟨W.heap.size, 0, none⟩) s.size c] (Lib.bytesWorld W 5 s) fun e w' =>
   e = .returned (.tuple #[]) ∧ Below W.heap.size W w' ∧ (convert 22 9 (.slice (some ⟨W.heap.size, 0, none⟩) s.size c)).run Tryd.prog w' = .ok (.string (mirrorB s)) w' := by
 have hH : Sort.Holds encByte (Lib.bytesWorld W 5 s) W.heap.size 0 s.data := fun j hj => by
  refine ⟨?_, ?_⟩
  ·rw [Nat.zero_add, Lib.bytesWorld_cell W 5 s j hj]
   have hj2 : j < s.data.size := hj
   simp [encByte, List.getD_eq_getElem?_getD, getElem!_pos s.data j hj2, Array.getElem?_eq_getElem hj2]
  ·simp only [World.frozen?, Lib.bytesWorld_at_new, Nat.zero_add, Lib.bytesCells, Array.size_append, Array.size_map]
   have : j < s.size := hj
   have e : s.data.size = s.size := rfl
   rw [e]
   simp
   omega
 have h := AnyE.slices_Reverse_arr Tryd.revB encByte (fun _ => rfl) W.heap.size 0 c s.data (Lib.bytesWorld W 5 s) hH hs
 refine h.mono ?_
 rintro e w' ⟨rfl, n, rfl⟩
 refine ⟨rfl, Lib.below_putRow (bytes_below (Below.refl _ _) (Nat.le_refl _) _ s) (Nat.le_refl _), ?_⟩
 have hr : ReadsInt (Sort.putRow encByte (Sort.ahead (Lib.bytesWorld W 5 s) n) W.heap.size 0 s.data.reverse) .u8 (some ⟨W.heap.size, 0, none⟩) s.size (s.data.reverse.toList.map fun b => (b.toNat : Int)) := by
  refine ⟨by rw [List.length_map, Array.length_toList, Array.size_reverse]; rfl, hs, fun _ => ⟨_, rfl, fun j hj => ?_⟩⟩
  have hj' : j < s.data.reverse.size := by rw [Array.size_reverse]; exact hj
  have := Sort.cell?_putRow encByte (Sort.ahead (Lib.bytesWorld W 5 s) n) W.heap.size 0 s.data s.data.reverse (Sort.holds_ahead _ _ _ _ _ _ hH) (by simp) j hj'
  rw [Nat.zero_add] at this
  rw [add_plain, this]
  simp only [encByte, getElem!_pos s.data.reverse j hj', List.getD_eq_getElem?_getD, List.getElem?_map]
  rw [List.getElem?_eq_getElem (by simpa using hj')]
  simp
 rw [string_of_reads Tryd.underlying22 Tryd.underlying5 Tryd.underlying9 hr, strOfNums_bytes]
 rfl
theorem turn_at : ∀ b : Fin 256, ∃ i : Int, Lib.indexByte [114, 100, 108, 117] (b.val.toUInt8) = i ∧ ((i = -1 ∨ i = 3) ∧ turnI (b.val : Int) = 100 ∨ i = 0 ∧ turnI (b.val : Int) = 108 ∨ i = 1 ∧ turnI (b.val : Int) = 117 ∨ i = 2 ∧ turnI (b.val : Int) = 114) := by
 intro b
 refine ⟨_, rfl, ?_⟩
 revert b
 decide +kernel
theorem getD_turn (l : List Int) (j : Nat) (hj : j < l.length) : ((l.take j).map turnI ++ l.drop j).getD j 0 = l.getD j 0 ∧ ((l.take j).map turnI ++ l.drop j).set j (turnI (l.getD j 0)) = (l.take (j + 1)).map turnI ++ l.drop (j + 1) := by
 have hlen : (List.map turnI (l.take j)).length = j := by simp; omega
 constructor
 ·rw [List.getD_eq_getElem?_getD, List.getElem?_append_right (by omega), hlen, Nat.sub_self, List.getElem?_drop, Nat.add_zero, List.getD_eq_getElem?_getD]
 ·rw [List.set_append_right _ _ (by omega), hlen, Nat.sub_self, List.drop_eq_getElem_cons hj, List.set_cons_zero, List.take_succ_eq_append_getElem hj, List.map_append, List.getD_eq_getElem?_getD, List.getElem?_eq_getElem hj]
  simp
theorem row_string {W : World} {b : Nat} {row : List Int} (h : ByteRow W 5 b row) (hm : row.length ≤ 1000000) (c : Nat) : (convert 22 9 (.slice (some ⟨b, 0, none⟩) row.length c)).run Tryd.prog W = .ok (.string (strOfNums row)) W := by
 have hr : ReadsInt W .u8 (some ⟨b, 0, none⟩) row.length row := ⟨rfl, by omega, fun _ => ⟨_, rfl, fun j hj => by rw [add_plain]; exact h.cell hj⟩⟩
 exact string_of_reads Tryd.underlying22 Tryd.underlying5 Tryd.underlying9 hr
set_option maxHeartbeats 4000000 in
set_option maxRecDepth 100000 in
theorem turnWord_calls (s : ByteArray) (hs : s.size ≤ 1000000) (w : World) :
  Calls Tryd.prog 96 #[.string s, .int .i64 2] w fun e w' => e = .returned (.string (turnB s)) ∧ Below w.heap.size w w' := by
 have hlen : (bytesI s).length = s.size := by unfold bytesI; rw [List.length_map]; rfl
 have hbyte : ∀ j, j < (bytesI s).length → 0 ≤ (bytesI s).getD j 0 ∧ (bytesI s).getD j 0 < 256 := fun j hj => by
  unfold bytesI at hj ⊢
  rw [List.length_map] at hj
  rw [List.getD_eq_getElem?_getD, List.getElem?_map, List.getElem?_eq_getElem hj]
  have h := (s.data.toList[j]).toNat_lt
  generalize s.data.toList[j] = b at h
  show 0 ≤ (b.toNat : Int) ∧ (b.toNat : Int) < 256
  have : (2 : Nat) ^ 8 = 256 := by decide
  omega
 have kb := fun W => print_bytes (P := Tryd.prog) 9 22 5 Tryd.underlying9 Tryd.underlying22 Tryd.underlying5 s W
 have R0 : Aside0 (ByteRow (Lib.bytesWorld w 5 s) 5 w.heap.size ((bytesI s).take 0 |>.map turnI |> (· ++ (bytesI s).drop 0))) := ⟨by simpa [bytesI] using ByteRow.laid w 5 s⟩
 have B0 := a0_ (below_bytes (Below.refl w.heap.size w) (Nat.le_refl _) 5 s)
 have HT : Aside0 (turnB s = strOfNums ((bytesI s).map turnI)) := ⟨rfl⟩
 have HY := Aside0.mk hbyte
 have HS := Aside0.mk hs
 have HL := Aside0.mk hlen
 clear hbyte hs
 generalize bytesI s = L at R0 HT HY HL hlen
 generalize turnB s = y at HT
 go_enter Tryd.func96, Tryd.ntmps96
 go_wp2
 generalize grownCap w s.size 0 5 = cap
 generalize Lib.bytesWorld w 5 s = W0 at R0 B0 ⊢
 clear kb hlen
 go_loopg [6, 7, 12] s.size (fun kq _ _ v12 w' => ∃ j : Nat, v12 = .int .i64 j ∧ Aside0 (kq + j = s.size) ∧ Aside0 (ByteRow w' 5 w.heap.size ((L.take j).map turnI ++ L.drop j)) ∧ Aside0 (Below w.heap.size w w'))
 case atStart => exact ⟨0, rfl, ⟨by omega⟩, R0, B0⟩
 case round =>
  clear R0 B0
  obtain ⟨j, rfl, HJ, HR, HB⟩ := hrel
  cases gk with
  | zero =>
   obtain rfl : j = s.size := by have := HJ.out; omega
   have d0 : decide ((s.size : Int) < (s.size : Int)) = false := decide_eq_false (by omega)
   have HR2 : Aside0 (ByteRow wr 5 w.heap.size (L.map turnI)) := ⟨by have := HR.out; rw [← HL.out, List.take_length, List.drop_length, List.append_nil] at this; exact this⟩
   have hcv := row_string HR2.out (by rw [List.length_map]; have := HL.out; have := HS.out; omega)
   rw [List.length_map, ← HT.out, HL.out] at hcv
   clear HR HR2
   go_wp2
   go_ret
   exact ⟨rfl, HB.out⟩
  | succ kk =>
   have hj : j < L.length := by have := HJ.out; have := HL.out; omega
   have hjs : j < s.size := by have := HJ.out; omega
   have d0 : decide ((j : Int) < (s.size : Int)) = true := decide_eq_true (by omega)
   have d1 : decide (j < s.size) = true := decide_eq_true hjs
   have p0 : (0 ≤ (j : Int)) = True := eq_true (by omega)
   have p1 : ((j : Int) < (s.size : Int)) = True := eq_true (by omega)
   have p2 : (j < s.size) = True := eq_true hjs
   have hlr : ((L.take j).map turnI ++ L.drop j).length = L.length := by simp; omega
   have hx := HR.out.cell (i := j) (by rw [hlr]; exact hj)
   have hf := HR.out.thaw (i := j) (by rw [hlr]; exact hj)
   obtain ⟨g1, g2⟩ := getD_turn L j hj
   rw [g1] at hx
   have HG := Aside0.mk g2
   have HLR := Aside0.mk hlr
   have HJL := Aside0.mk hj
   have hw1 : wrap64 ((j : Int) + 1) = ((j + 1 : Nat) : Int) := by have := HL.out; have := HS.out; unfold wrap64; omega
   obtain ⟨y0, y1⟩ := HY.out j hj
   obtain ⟨n, hn⟩ := Int.eq_ofNat_of_zero_le y0
   obtain ⟨i, hi, hcase⟩ := turn_at ⟨n, by omega⟩
   simp only at hi hcase
   have hix := fun W => Tryd.strings_IndexByte ⟨#[114, 100, 108, 117]⟩ (L.getD j 0) W
   rw [hn] at hx hix HG
   have hix2 : ∀ W, Calls Tryd.prog 127 #[.string ⟨#[114, 100, 108, 117]⟩, .int .u8 (n : Int)] W fun e w' => e = .returned (.int .i64 i) ∧ w' = W := fun W => by
    have h := hix W
    rw [show (Lib.indexByte (⟨#[114, 100, 108, 117]⟩ : ByteArray).data.toList ((n : Int)).toNat.toUInt8) = i from hi] at h
    exact h
   generalize turnI (n : Int) = z at hcase HG
   clear hix hi g1 g2 hlr hj hjs y0 y1 hn
   rcases hcase with ⟨rfl | rfl, rfl⟩ | ⟨rfl, rfl⟩ | ⟨rfl, rfl⟩ | ⟨rfl, rfl⟩
   all_goals
    go_wp2_with (go_at_call 127; refine (hix2 _).mono ?_; rintro e w1 ⟨rfl, rfl⟩)
    go_roundg kk
    case measure => omega
    case rel => exact ⟨j + 1, by first | rfl | (rw [← hw1]; rfl) | simp [hw1], ⟨by have := HJ.out; omega⟩, ⟨by first | (have h := HR.out.put (i := j) (by rw [HLR.out]; exact HJL.out) 100; rw [HG.out] at h; exact h) | (have h := HR.out.put (i := j) (by rw [HLR.out]; exact HJL.out) 108; rw [HG.out] at h; exact h) | (have h := HR.out.put (i := j) (by rw [HLR.out]; exact HJL.out) 117; rw [HG.out] at h; exact h) | (have h := HR.out.put (i := j) (by rw [HLR.out]; exact HJL.out) 114; rw [HG.out] at h; exact h)⟩, ⟨below_set HB.out (Nat.le_refl _)⟩⟩
set_option maxHeartbeats 1000000 in
theorem impl_backWord.calls (a0 : ByteArray) (r : ByteArray) (w : World) (h : impl_backWord.f a0 = some r) :
  Calls Tryd.prog 60 #[.string a0] w fun e w' => e = .returned (.string r) ∧ Below w.heap.size w w' := by
 unfold impl_backWord.f at h
 split at h
 case isFalse => cases h
 rename_i hs
 have HE := a0_ (Option.some.inj h)
 have ht := turnWord_calls a0 hs w
 have hsz : (turnB a0).size ≤ 9223372036854775807 := by
  unfold turnB strOfNums bytesI
  show ((List.map _ _).toArray).size ≤ _
  simp
  have : a0.data.size = a0.size := rfl
  omega
 have hbk : backB a0 = mirrorB (turnB a0) := rfl
 rw [hbk] at HE
 clear h hs hbk
 have kb := fun W => print_bytes (P := Tryd.prog) 9 22 5 Tryd.underlying9 Tryd.underlying22 Tryd.underlying5 (turnB a0) W
 have hrev := fun W c => mirror_rev (turnB a0) hsz W c
 generalize turnB a0 = x at ht kb hrev HE
 go_enter Tryd.func60, Tryd.ntmps60
 go_wp2_with (first | (go_at_call 96; refine ht.mono ?_; rintro e w1 ⟨rfl, hb⟩; have HB := Aside0.mk hb; clear hb) | (go_at_call 40; refine (hrev _ _).mono ?_; rintro e w2 ⟨rfl, hb, hcv⟩; rw [HE.out] at hcv; have HB2 := a0_ (below_step HB.out hb); clear hb))
 go_ret
 exact ⟨rfl, HB2.out⟩


/-! ### impl_BackWord: function 32 -/
def impl_BackWord.f (a0 : ByteArray) : Option (ByteArray × Int) := (impl_isWord.f a0).bind fun t522 => (if t522 = true then ((impl_backWord.f a0).bind fun t523 => (some (t523, 0))) else (some ((⟨#[]⟩ : ByteArray), 6)))
set_option maxHeartbeats 8000000 in
set_option maxRecDepth 100000 in
theorem impl_BackWord.calls (a0 : ByteArray) (r1 : ByteArray) (r2 : Int) (w : World) (h : impl_BackWord.f a0 = some (r1, r2)) :
  Calls Tryd.prog 32 #[.string a0] w fun e w' => e = .returned (.tuple #[.string r1, .int .i64 r2]) ∧ Below w.heap.size w w' := by
 have HB := a0_ (Below.refl w.heap.size w)
 have H := h
 clear h
 unfold impl_BackWord.f at H
 obtain ⟨t522, A2, H⟩ := bs_ H
 by_cases c3 : t522 = true
 ·subst c3
  rw [if_pos rfl] at H
  obtain ⟨t523, A4, H⟩ := bs_ H
  simp only [Option.some.injEq, Prod.mk.injEq] at H
  obtain ⟨rfl, rfl⟩ := H
  go_enter Tryd.func32, Tryd.ntmps32
  go_wp2_with (first | ((with_reducible refine gate_callee (f := 54) rfl ?_); refine goesL_ (some 5) rfl rfl Tryd.func54 kr_ rfl #[.string a0] rfl ta_ ?_; (with_reducible refine (impl_isWord.calls a0 true _ A2.out).mono ?_); rintro e w5 ⟨rfl, hb⟩; refine ⟨_, rfl, ?_⟩; replace HB := a0_ (below_step (bl0_) hb); (try clear hb); (try clear hb2); (try clear hk); (try clear hi)) | ((with_reducible refine gate_callee (f := 60) rfl ?_); refine goesL_ (some 8) rfl rfl Tryd.func60 kr_ rfl #[.string a0] rfl ta_ ?_; (with_reducible refine (impl_backWord.calls a0 t523 _ A4.out).mono ?_); rintro e w6 ⟨rfl, hb⟩; refine ⟨_, rfl, ?_⟩; replace HB := a0_ (below_step (bl0_) hb); (try clear hb); (try clear hb2); (try clear hk); (try clear hi)))
  go_ret2
  exact ⟨er_, bl0_⟩
 ·replace c3 := Bool.eq_false_iff.mpr c3
  subst c3
  rw [if_neg (show ¬ (false = true) by decide)] at H
  simp only [Option.some.injEq, Prod.mk.injEq] at H
  obtain ⟨rfl, rfl⟩ := H
  go_enter Tryd.func32, Tryd.ntmps32
  go_wp2_with (first | ((with_reducible refine gate_callee (f := 54) rfl ?_); refine goesL_ (some 5) rfl rfl Tryd.func54 kr_ rfl #[.string a0] rfl ta_ ?_; (with_reducible refine (impl_isWord.calls a0 false _ A2.out).mono ?_); rintro e w7 ⟨rfl, hb⟩; refine ⟨_, rfl, ?_⟩; replace HB := a0_ (below_step (bl0_) hb); (try clear hb); (try clear hb2); (try clear hk); (try clear hi)))
  go_ret2
  exact ⟨er_, bl0_⟩

end Go.Proofs.YtopceddgiddhlaaDoor.PFnRolled
