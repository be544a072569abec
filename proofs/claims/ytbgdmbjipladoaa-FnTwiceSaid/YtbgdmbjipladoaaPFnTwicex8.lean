-- laid by a program of this session (wip/lay/lay.py); Lean checks it
import Derived.Test.YtbgdmbjipladoaaPFnTwicex0
namespace Go.Proofs.Ytbgdmbjipladoaa.PFnTwice
open Go.RowKit Go.Proofs.YtbgdmbjipladoaaW.PrintWords Go.Proofs.YtbgdmbjipladoaaW.PrintLast Go.Proofs.YtbgdmbjipladoaaW.PrintMore
attribute [local go_sem] max2_int min2_int max_two min_two max_three min_three max_four min_four   -- for this text's walks alone
set_option linter.unusedVariables false
set_option linter.unusedSimpArgs false

/-! ### laws_big: function 37 -/
def laws_big.f (l0 : List Int) : Option (Bool) := some (decide ((l0.length : Int) > 1048576))
set_option maxHeartbeats 8000000 in
set_option maxRecDepth 100000 in
theorem laws_big.calls (A0 : Option Addr) (c0 : Nat) (l0 : List Int) (r : Bool) (w : World) (hr0 : Kd.C (Kd.int .u8) w A0 l0.length l0) (hc0 : l0.length ≤ c0) (h : laws_big.f l0 = some r) :
    Calls Try.prog 37 #[.slice A0 l0.length c0] w fun e w' => e = .returned (.bool r) ∧ Drawn0 w w' := by
  have HR0 := Aside0.mk hr0
  have HC0 := Aside0.mk hc0
  clear hr0 hc0
  have H : (some (decide ((l0.length : Int) > 1048576))) = some r := h
  clear h
  obtain rfl := Option.some.inj H
  go_enter Try.func37, Try.ntmps37
  go_wp2
  go_ret
  exact ⟨by first | rfl | (simp; done) | (simp [*]; done), by repeat (first | exact Drawn0.refl _ | apply Drawn0.step)⟩

/-! ### laws_at: function 39 -/
def laws_at.f (l0 : List Int) (a1 : Int) : Option (Int) := if a1 < (l0.length : Int) then (if 0 ≤ a1 then (some (wrap64 (rd l0 a1))) else (none)) else (some (Int.tmod (wrap64 ((wrap64 (a1 * 7)) + (l0.length : Int))) 256))
set_option maxHeartbeats 8000000 in
set_option maxRecDepth 100000 in
theorem laws_at.calls (A0 : Option Addr) (c0 : Nat) (l0 : List Int) (a1 : Int) (r : Int) (w : World) (hr0 : Kd.C (Kd.int .u8) w A0 l0.length l0) (hc0 : l0.length ≤ c0) (h : laws_at.f l0 a1 = some r) :
    Calls Try.prog 39 #[.slice A0 l0.length c0, .int .i64 a1] w fun e w' => e = .returned (.int .i64 r) ∧ Drawn0 w w' := by
  have HR0 := Aside0.mk hr0
  have HC0 := Aside0.mk hc0
  clear hr0 hc0
  have H : (if a1 < (l0.length : Int) then (if 0 ≤ a1 then (some (wrap64 (rd l0 a1))) else (none)) else (some (Int.tmod (wrap64 ((wrap64 (a1 * 7)) + (l0.length : Int))) 256))) = some r := h
  clear h
  by_cases c3 : a1 < (l0.length : Int)
  · rw [if_pos c3] at H
    have c3b0 : decide (a1 < (l0.length : Int)) = true := decide_eq_true c3
    clear c3
    by_cases c4 : 0 ≤ a1
    · rw [if_pos c4] at H
      have c4b0 : decide (0 ≤ a1) = true := decide_eq_true c4
      clear c4
      obtain rfl := Option.some.inj H
      have p189 : 0 ≤ (a1 : Int) := of_decide_eq_true (by first | (with_reducible assumption) | assumption)
      have q189 : a1 < (l0.length : Int) := of_decide_eq_true (by first | (with_reducible assumption) | assumption)
      obtain ⟨ad189, e189, hx189_0⟩ := Kd.at_int HR0.out a1 p189 q189
      cases e189
      replace p189 := eq_true p189
      replace q189 := eq_true q189
      go_enter Try.func39, Try.ntmps39
      go_wp2
      go_ret
      exact ⟨by first | rfl | (simp; done) | (simp [*]; done), by repeat (first | exact Drawn0.refl _ | apply Drawn0.step)⟩
    · rw [if_neg c4] at H
      exact absurd H (by simp)
  · rw [if_neg c3] at H
    have c3b0 : decide (a1 < (l0.length : Int)) = false := decide_eq_false c3
    clear c3
    obtain rfl := Option.some.inj H
    go_enter Try.func39, Try.ntmps39
    go_wp2
    go_ret
    exact ⟨by first | rfl | (simp; done) | (simp [*]; done), by repeat (first | exact Drawn0.refl _ | apply Drawn0.step)⟩

/-! ### laws_frames: function 38 -/
def laws_frames.b (l : List Int) (x : Int) : Int := (laws_at.f l x).getD 0 % 256
def laws_frames.b0 (l : List Int) (x : Int) : Int := Int.tmod ((laws_at.f l x).getD 0) 49 % 256
def laws_frames.pk (l : List Int) (i : Int) : S44 := ⟨30 * i, i, ⟨laws_frames.b0 l i, laws_frames.b l (i + 1), laws_frames.b l (i + 2), laws_frames.b l (i + 3), laws_frames.b l (i + 4), laws_frames.b l (i + 5), laws_frames.b l (i + 6), laws_frames.b l (i + 7), laws_frames.b l (i + 8), laws_frames.b l (i + 9), laws_frames.b l (i + 10), laws_frames.b l (i + 11), laws_frames.b l (i + 12), laws_frames.b l (i + 13), laws_frames.b l (i + 14), laws_frames.b l (i + 15)⟩⟩
def laws_frames.f (l0 : List Int) (a1 : Int) : Option (List S44) := if 0 ≤ a1 ∧ a1 ≤ 100 then some ((List.range a1.toNat).map fun i : Nat => laws_frames.pk l0 (i : Int)) else none
theorem laws_frames.at_some (l : List Int) (x : Int) (h : 0 ≤ x) : laws_at.f l x = some ((laws_at.f l x).getD 0) := by
  unfold laws_at.f
  split
  · simp [h]
  · rfl
def laws_frames.row (l : List Int) (i : Int) (b : Nat) : List Int := (List.range 16).map fun j => if 1 ≤ j ∧ j < b then laws_frames.b l (i + (j : Int)) else 0
theorem laws_frames.row_len (l : List Int) (i : Int) (b : Nat) : (laws_frames.row l i b).length = 16 := by simp [laws_frames.row]
theorem laws_frames.row_step (l : List Int) (i : Int) (b : Nat) (h : 1 ≤ b) : (laws_frames.row l i b).set b (laws_frames.b l (i + (b : Int))) = laws_frames.row l i (b + 1) := by
  refine List.ext_getElem (by simp [laws_frames.row]) fun j h1 h2 => ?_
  simp only [laws_frames.row, List.getElem_set, List.getElem_map, List.getElem_range]
  by_cases e : b = j
  · subst e; rw [if_pos rfl, if_pos ⟨h, by omega⟩]
  · rw [if_neg e]
    by_cases c : 1 ≤ j ∧ j < b
    · rw [if_pos c, if_pos ⟨c.1, by omega⟩]
    · rw [if_neg c, if_neg (by omega)]
def laws_frames.cs (t s : Int) (bs : List Int) : Array Value := (.int .i64 t :: .int .i64 s :: bs.map (Value.int .u8)).toArray
theorem laws_frames.cs_one (t s : Int) (bs : List Int) : (laws_frames.cs t s bs).all (·.oneCell') = true := by simp [laws_frames.cs, Value.oneCell']
theorem laws_frames.cs_set (t s : Int) (bs : List Int) (b : Nat) (v : Int) : (laws_frames.cs t s bs).setIfInBounds (2 + b) (.int .u8 v) = laws_frames.cs t s (bs.set b v) := by
  simp [laws_frames.cs, show 2 + b = b + 1 + 1 by omega, List.map_set]
theorem laws_frames.cs_get (t s : Int) (bs : List Int) (b : Nat) (h : b < bs.length) : (laws_frames.cs t s bs)[2 + b]? = some (.int .u8 (bs.getD b 0)) := by
  simp [laws_frames.cs, show 2 + b = b + 1 + 1 by omega, List.getElem?_eq_getElem h]
theorem laws_frames.last (l : List Int) (i : Int) : laws_frames.cs (30 * i) i ((laws_frames.row l i 16).set 0 (laws_frames.b0 l i)) = #[.int .i64 (laws_frames.pk l i).f0, .int .i64 (laws_frames.pk l i).f1, .int .u8 (laws_frames.pk l i).f2.f0, .int .u8 (laws_frames.pk l i).f2.f1, .int .u8 (laws_frames.pk l i).f2.f2, .int .u8 (laws_frames.pk l i).f2.f3, .int .u8 (laws_frames.pk l i).f2.f4, .int .u8 (laws_frames.pk l i).f2.f5, .int .u8 (laws_frames.pk l i).f2.f6, .int .u8 (laws_frames.pk l i).f2.f7, .int .u8 (laws_frames.pk l i).f2.f8, .int .u8 (laws_frames.pk l i).f2.f9, .int .u8 (laws_frames.pk l i).f2.f10, .int .u8 (laws_frames.pk l i).f2.f11, .int .u8 (laws_frames.pk l i).f2.f12, .int .u8 (laws_frames.pk l i).f2.f13, .int .u8 (laws_frames.pk l i).f2.f14, .int .u8 (laws_frames.pk l i).f2.f15] := rfl
theorem laws_frames.info : (Try.prog.info? 44).map (fun i => (i.zero, i.size, i.bytes)) = some (some (.agg #[(.int .i64 0), (.int .i64 0), (.int .u8 0), (.int .u8 0), (.int .u8 0), (.int .u8 0), (.int .u8 0), (.int .u8 0), (.int .u8 0), (.int .u8 0), (.int .u8 0), (.int .u8 0), (.int .u8 0), (.int .u8 0), (.int .u8 0), (.int .u8 0), (.int .u8 0), (.int .u8 0)]), 18, 32) := by kernel_rfl
theorem laws_frames.keep {W W' : World} {base gK : Nat} {v : Value} {xs : List S44} (h : Kd.R k44 44 W base (fun _ => True) v xs) (hne : ∀ k, v.ownBlock = some k → k ≠ gK) (hk : ∀ k, k ≠ gK → W'.heap[k]? = W.heap[k]?) : Kd.R k44 44 W' base (fun _ => True) v xs := by
  obtain ⟨hok, inner, hown, hr⟩ := h
  exact ⟨hok, inner, own_move hown (fun k hk' => hk k (hne k hk')), hr⟩
set_option maxHeartbeats 8000000 in
set_option maxRecDepth 100000 in
theorem laws_frames.calls (A0 : Option Addr) (c0 : Nat) (l0 : List Int) (a1 : Int) (r : List S44) (w : World) (hr0 : Kd.C (Kd.int .u8) w A0 l0.length l0) (hc0 : l0.length ≤ c0) (h : laws_frames.f l0 a1 = some r) :
    Calls Try.prog 38 #[.slice A0 l0.length c0, .int .i64 a1] w fun e w' => ∃ v0_ : Value, e = .returned (v0_) ∧ Kd.R k44 44 w' w.heap.size (fun _ => True) v0_ r ∧ Below w.heap.size w w' := by
  have hu26 := Try.underlying26
  have hu44 := Try.underlying44
  have hu39 := Try.underlying39
  have hn : 0 ≤ a1 ∧ a1 ≤ 100 := by
    unfold laws_frames.f at h
    split at h
    · assumption
    · cases h
  rw [laws_frames.f, if_pos hn] at h
  obtain rfl := Option.some.inj h
  clear h
  have HN := Aside0.mk hn
  have HR0 := Aside0.mk hr0
  have HC0 := Aside0.mk hc0
  have HB := Aside0.mk (Below.refl w.heap.size w)
  clear hr0 hc0 hn
  go_enter Try.func38, Try.ntmps38
  go_wp2_with (first | ((with_reducible refine gate_dst (N := 9) rfl ?_); refine Kd.R_lit k44 _ 44 ?hg (N := 9) ?hd (xs := ([] : List S44)) (inner := []) (ok := fun _ => True) (okp := fun _ => True) ?hr ?hp (fun _ hk => hk) trivial (Below.refl _ _) (Nat.le_refl _) (by simp) ?_; (case hd => rfl); (case hg => rfl); (case hr => first | (go_simp; done) | (go_simp; rfl)); (case hp => exact (Reps.none _ _)); intro v9 w9 ho hb hg_ hnew_; have n0_ := Aside0.mk (Kd.R_lower ho (below_size HB.out)); have n1_ := Aside0.mk (below_step HB.out hb); clear HB; have HB := n1_; have HO := n0_; clear n0_ n1_ hg_ hnew_ hb ho))
  go_loopg [5, 6] a1.toNat (fun g v5 v6 w' => ∃ (x : Int) (i : Nat), v6 = .int .i64 x ∧ Aside0 (x = (i : Int) ∧ (i : Int) ≤ a1 ∧ g = a1.toNat - i) ∧ Aside0 (Kd.R k44 44 w' w.heap.size (fun _ => True) v5 ((List.range i).map fun i : Nat => laws_frames.pk l0 (i : Int))) ∧ Aside0 (Below w.heap.size w w'))
  case atStart => exact ⟨0, 0, rfl, ⟨⟨rfl, HN.out.1, rfl⟩⟩, HO, HB⟩
  case round =>
    clear HO HB
    obtain ⟨x, i, rfl, HI, HO, HB⟩ := hrel
    by_cases c : x < a1
    · have cb : decide (x < a1) = true := decide_eq_true c
      have cx0 : 0 ≤ x := by have := HI.out; omega
      have cx1 : x < 100 := by have := HN.out; omega
      have hw30 : wrap64 (30 * x) = 30 * x := by unfold wrap64; omega
      have CX := Aside0.mk (show 0 ≤ x ∧ x < a1 ∧ x < 100 from ⟨cx0, c, cx1⟩)
      clear c cx0 cx1
      go_wp2_with (first | ((with_reducible refine gate_dst (N := 7) rfl ?_); refine box_event ?hg (N := 7) ?hd (cs := #[.int .i64 0, .int .i64 0, .int .u8 0, .int .u8 0, .int .u8 0, .int .u8 0, .int .u8 0, .int .u8 0, .int .u8 0, .int .u8 0, .int .u8 0, .int .u8 0, .int .u8 0, .int .u8 0, .int .u8 0, .int .u8 0, .int .u8 0, .int .u8 0]) (t := 44) ?hr ?_; (case hd => rfl); (case hg => rfl); (case hr => first | (go_simp; done) | (go_simp; rfl)); intro gK hg_ wK hbox_ hb_; have GK := Aside0.mk (show w.heap.size ≤ gK by rw [hg_]; exact below_size HB.out); have AP := Aside0.mk (show ∀ k, u5.ownBlock = some k → k ≠ gK from fun k hk => by have := Kd.R_lt HO.out k hk; omega); have n0_ := Aside0.mk (Kd.R_below HO.out hb_); have n1_ := Aside0.mk (below_step HB.out hb_); have SK := Aside0.mk hbox_; clear HO HB; have HO := n0_; have HB := n1_; clear hg_ hbox_ hb_ n0_ n1_) | ((with_reducible refine gate_store (t := 44) (p := 7) rfl ?_); refine Arr.store_all (T := 44) (p := 7) (g := gK) (old := #[.int .i64 0, .int .i64 0, .int .u8 0, .int .u8 0, .int .u8 0, .int .u8 0, .int .u8 0, .int .u8 0, .int .u8 0, .int .u8 0, .int .u8 0, .int .u8 0, .int .u8 0, .int .u8 0, .int .u8 0, .int .u8 0, .int .u8 0, .int .u8 0]) (cs := #[.int .i64 (30 * x), .int .i64 x, .int .u8 0, .int .u8 0, .int .u8 0, .int .u8 0, .int .u8 0, .int .u8 0, .int .u8 0, .int .u8 0, .int .u8 0, .int .u8 0, .int .u8 0, .int .u8 0, .int .u8 0, .int .u8 0, .int .u8 0, .int .u8 0]) (t := 44) rfl rfl rfl rfl ?hv ?hb ?hi ?hs ?h1 ?_; (case hv => first | rfl | (simp [hw30]; done)); (case hb => exact SK.out); (case hi => kernel_rfl); (case hs => rfl); (case h1 => simp [Value.oneCell']); intro wS hs_ hk_ hB_; have HS := Aside0.mk hs_; have HKF := Aside0.mk hk_; have HBF := Aside0.mk hB_; clear hs_ hk_ hB_))
      have SK1 := Aside0.mk (show wS.heap[gK]? = some (.cells (laws_frames.cs (30 * x) x (laws_frames.row l0 x 1)) 44 (0, 0)) from HS.out)
      have HB1 := Aside0.mk (HBF.out _ _ HB.out GK.out)
      have HO1 := Aside0.mk (laws_frames.keep HO.out AP.out HKF.out)
      clear HS HKF HBF SK HO HB
      go_wp2
      go_loopg [8] 15 (fun g v8 w' => ∃ (y : Int) (b : Nat), v8 = .int .i64 y ∧ Aside0 (y = (b : Int) ∧ 1 ≤ b ∧ b ≤ 16 ∧ g = 16 - b) ∧ Aside0 (w'.heap[gK]? = some (.cells (laws_frames.cs (30 * x) x (laws_frames.row l0 x b)) 44 (0, 0))) ∧ Aside0 (Kd.R k44 44 w' w.heap.size (fun _ => True) u5 ((List.range i).map fun i : Nat => laws_frames.pk l0 (i : Int))) ∧ Aside0 (Below w.heap.size w w'))
      case atStart => exact ⟨1, 1, rfl, ⟨⟨rfl, by decide, by decide, rfl⟩⟩, SK1, HO1, HB1⟩
      case round =>
        clear SK1 HO1 HB1
        obtain ⟨y, b, rfl, HY, SK, HO, HB⟩ := hrel
        by_cases c : y < 16
        · have cb : decide (y < 16) = true := decide_eq_true c
          have CY := Aside0.mk (show 1 ≤ y ∧ y < 16 by have := HY.out; omega)
          have hxy : wrap64 (x + y) = x + y := by have := CX.out; have := CY.out; unfold wrap64; omega
          have HA := Aside0.mk (laws_frames.at_some l0 (x + y) (by have := CX.out; have := CY.out; omega))
          have p0 := eq_true (show 0 ≤ y by have := CY.out; omega)
          have p1 := eq_true c
          clear c
          go_wp2_with (first | (go_at_call 39; (with_reducible refine (laws_at.calls _ _ l0 (x + y) ((laws_at.f l0 (x + y)).getD 0) _ ?side1 ?side2 HA.out).mono ?_); (case side1 => repeat (first | exact (Kd.C_below HR0.out HB.out) | (with_reducible refine Kd.C_alloc ?_ _) | (with_reducible refine Kd.C_drewN ?_ _) | (with_reducible refine Kd.C_drew ?_))); (case side2 => exact HC0.out); rintro e w' ⟨rfl, ⟨nd, rfl⟩⟩; (try refine ⟨_, rfl, ?_⟩); have hcK := (blk_cell (blk_drewN SK.out nd) (2 + y.toNat)).trans (laws_frames.cs_get (30 * x) x (laws_frames.row l0 x b) y.toNat (by rw [laws_frames.row_len]; have := CY.out; omega)); have hfK := blk_frozen (blk_drewN SK.out nd) (2 + y.toNat)))
          go_roundg (15 - b)
          case measure => have := HY.out; have := CY.out; omega
          case rel =>
            have hy := HY.out
            have cy := CY.out
            have e1 : y.toNat = b := by omega
            refine ⟨wrap64 (y + 1), b + 1, rfl, ⟨⟨by unfold wrap64; omega, by omega, by omega, by omega⟩⟩, ⟨blk_put (blk_drewN SK.out nd) (2 + y.toNat) _ ?_⟩, ⟨laws_frames.keep HO.out AP.out (fun k hk => Below.heap_setCell _ _ _ k hk)⟩, ⟨(pw_below_drewN HB.out nd).setCell GK.out _⟩⟩
            rw [laws_frames.cs_set, e1, hy.1]
            exact congrArg _ (laws_frames.row_step l0 x b hy.2.1)
        · have e1 : b = 16 := by have := HY.out; omega
          have cb : decide (y < 16) = false := decide_eq_false c
          subst e1
          have HA := Aside0.mk (laws_frames.at_some l0 x CX.out.1)
          clear c
          go_upto_region 11 with (first | (go_at_call 39; (with_reducible refine (laws_at.calls _ _ l0 x ((laws_at.f l0 x).getD 0) _ ?side1 ?side2 HA.out).mono ?_); (case side1 => repeat (first | exact (Kd.C_below HR0.out HB.out) | (with_reducible refine Kd.C_alloc ?_ _) | (with_reducible refine Kd.C_drewN ?_ _) | (with_reducible refine Kd.C_drew ?_))); (case side2 => exact HC0.out); rintro e w' ⟨rfl, ⟨nd, rfl⟩⟩; (try refine ⟨_, rfl, ?_⟩); have hcK := (blk_cell (blk_drewN SK.out nd) (2 + 0)).trans (laws_frames.cs_get (30 * x) x (laws_frames.row l0 x 16) 0 (by rw [laws_frames.row_len]; decide)); have hfK := blk_frozen (blk_drewN SK.out nd) (2 + 0)))
          obtain ⟨wz, hwz⟩ : ∃ wz, wz = (wr.drewN nd).setCell ⟨gK, 2, none⟩ (.int .u8 (Int.tmod ((laws_at.f l0 x).getD 0) 49 % 256)) := ⟨_, rfl⟩
          rw [← hwz]
          have SK2 := Aside0.mk (show wz.heap[gK]? = some (.cells #[.int .i64 (laws_frames.pk l0 x).f0, .int .i64 (laws_frames.pk l0 x).f1, .int .u8 (laws_frames.pk l0 x).f2.f0, .int .u8 (laws_frames.pk l0 x).f2.f1, .int .u8 (laws_frames.pk l0 x).f2.f2, .int .u8 (laws_frames.pk l0 x).f2.f3, .int .u8 (laws_frames.pk l0 x).f2.f4, .int .u8 (laws_frames.pk l0 x).f2.f5, .int .u8 (laws_frames.pk l0 x).f2.f6, .int .u8 (laws_frames.pk l0 x).f2.f7, .int .u8 (laws_frames.pk l0 x).f2.f8, .int .u8 (laws_frames.pk l0 x).f2.f9, .int .u8 (laws_frames.pk l0 x).f2.f10, .int .u8 (laws_frames.pk l0 x).f2.f11, .int .u8 (laws_frames.pk l0 x).f2.f12, .int .u8 (laws_frames.pk l0 x).f2.f13, .int .u8 (laws_frames.pk l0 x).f2.f14, .int .u8 (laws_frames.pk l0 x).f2.f15] 44 (0, 0)) from by rw [hwz]; exact blk_put (blk_drewN SK.out nd) 2 (.int .u8 (laws_frames.b0 l0 x)) ((laws_frames.cs_set (30 * x) x (laws_frames.row l0 x 16) 0 (laws_frames.b0 l0 x)).trans (laws_frames.last l0 x)))
          have HO2 := Aside0.mk (show Kd.R k44 44 wz w.heap.size (fun _ => True) u5 ((List.range i).map fun i : Nat => laws_frames.pk l0 (i : Int)) from by rw [hwz]; exact laws_frames.keep HO.out AP.out (fun k hk => Below.heap_setCell _ _ _ k hk))
          have HB2 := Aside0.mk (show Below w.heap.size w wz from by rw [hwz]; exact (pw_below_drewN HB.out nd).setCell (p := ⟨gK, 2, none⟩) GK.out _)
          clear hwz SK HO HB hcK hfK
          have HI2 := Aside0.mk (show i ≤ 100 by have := HI.out; have := HN.out; omega)
          go_wp2_with (first | ((with_reducible refine gate_dst (N := 40) rfl ?_); refine Arr.load_all rfl rfl rfl rfl SK2.out hu44 rfl (by kernel_rfl) ?_) | ((with_reducible refine gate_builtin (b := .append) (xs := #[.tmp 39, .tmp 41]) rfl ?_); at_builtin; refine Kd.R_append k44 (w0 := w) w.heap.size rfl (.tmp 39) (.tmp 41) 26 44 (.agg #[(.int .i64 0), (.int .i64 0), (.int .u8 0), (.int .u8 0), (.int .u8 0), (.int .u8 0), (.int .u8 0), (.int .u8 0), (.int .u8 0), (.int .u8 0), (.int .u8 0), (.int .u8 0), (.int .u8 0), (.int .u8 0), (.int .u8 0), (.int .u8 0), (.int .u8 0), (.int .u8 0)]) 32 rfl Try.underlying26 laws_frames.info rfl (by decide) (by omega) u5 ((List.range i).map fun i : Nat => laws_frames.pk l0 (i : Int)) (laws_frames.pk l0 x) [.int .i64 (laws_frames.pk l0 x).f0, .int .i64 (laws_frames.pk l0 x).f1, .int .u8 (laws_frames.pk l0 x).f2.f0, .int .u8 (laws_frames.pk l0 x).f2.f1, .int .u8 (laws_frames.pk l0 x).f2.f2, .int .u8 (laws_frames.pk l0 x).f2.f3, .int .u8 (laws_frames.pk l0 x).f2.f4, .int .u8 (laws_frames.pk l0 x).f2.f5, .int .u8 (laws_frames.pk l0 x).f2.f6, .int .u8 (laws_frames.pk l0 x).f2.f7, .int .u8 (laws_frames.pk l0 x).f2.f8, .int .u8 (laws_frames.pk l0 x).f2.f9, .int .u8 (laws_frames.pk l0 x).f2.f10, .int .u8 (laws_frames.pk l0 x).f2.f11, .int .u8 (laws_frames.pk l0 x).f2.f12, .int .u8 (laws_frames.pk l0 x).f2.f13, .int .u8 (laws_frames.pk l0 x).f2.f14, .int .u8 (laws_frames.pk l0 x).f2.f15] (fun _ => True) (fun _ => False) rfl rfl ?aP (fun _ hk => hk.elim) ?aF ?aO ?aB ?aS ?aL ?_; (case aP => exact k44_mkM _ _ _ (laws_frames.pk l0 x)); (case aB => exact HB2.out); (case aF => exact (fun _ _ => trivial)); (case aO => exact HO2.out); (case aS => exact (below_size HB2.out)); (case aL => have := HI2.out; simp only [List.length_map, List.length_range]; omega); intro v42 w42 ho hb hg hat; have HO := Aside0.mk ho; have HB := Aside0.mk hb; clear ho hb hg hat HO2 HB2))
          go_roundg (a1.toNat - (i + 1))
          case measure => have := HI.out; have := CX.out; omega
          case rel =>
            have hi := HI.out
            have hx := CX.out
            refine ⟨wrap64 (x + 1), i + 1, rfl, ⟨⟨by unfold wrap64; omega, by omega, by omega⟩⟩, ⟨?_⟩, HB⟩
            rw [List.range_succ, List.map_append, List.map_singleton, ← hi.1]
            exact HO.out
    · have hi : i = a1.toNat := by have := HI.out; omega
      have cb : decide (x < a1) = false := decide_eq_false c
      clear c
      subst hi
      go_wp2
      go_ret
      exact ⟨_, rfl, HO.out, HB.out⟩

/-! ### laws_sameInts: function 40 -/
def laws_sameInts.l0 : Nat → List Int → List Int → Int → Option (Bool)
  | 0, _, _, _ => none
  | k + 1, x0, x1, x5 => if x5 < (x0.length : Int) then (if 0 ≤ x5 then (if x5 < (x1.length : Int) then (if (rd x0 x5) = (rd x1 x5) then (laws_sameInts.l0 k x0 x1 (wrap64 (x5 + 1))) else (some false)) else (none)) else (none)) else (some true)
def laws_sameInts.f (k : Nat) (l0 : List Int) (l1 : List Int) : Option (Bool) := if (l0.length : Int) = (l1.length : Int) then (laws_sameInts.l0 k l0 l1 0) else (some false)
theorem laws_sameInts.mono_l : ∀ k, (∀ y0 y1 y2, LeO (laws_sameInts.l0 k y0 y1 y2) (laws_sameInts.l0 (k + 1) y0 y1 y2))
  | 0 => fun _ _ _ r h => by simp [laws_sameInts.l0] at h
  | k + 1 => by
    have ih0 := laws_sameInts.mono_l k
    · intro y0 y1 y2
      unfold laws_sameInts.l0
      repeat' first
      | (with_reducible exact ih0 _ _ _)
      | (with_reducible exact LeO.refl _)
      | (with_reducible exact LeO.none _)
      | (with_reducible refine LeO.ite ?_ ?_)
      | (with_reducible refine LeO.bind ?_ (fun _ => ?_))
      | exact ih0 _ _ _
      | exact LeO.none _
      | refine LeO.ite ?_ ?_
      | refine LeO.bind ?_ (fun _ => ?_)
theorem laws_sameInts.mono : ∀ a0 a1 k, LeO (laws_sameInts.f k a0 a1) (laws_sameInts.f (k + 1) a0 a1) := by
  intro a0 a1 k
  have ih0 := laws_sameInts.mono_l k
  unfold laws_sameInts.f
  repeat' first
      | (with_reducible exact ih0 _ _ _)
      | (with_reducible exact LeO.refl _)
      | (with_reducible exact LeO.none _)
      | (with_reducible refine LeO.ite ?_ ?_)
      | (with_reducible refine LeO.bind ?_ (fun _ => ?_))
      | exact ih0 _ _ _
      | exact LeO.none _
      | refine LeO.ite ?_ ?_
      | refine LeO.bind ?_ (fun _ => ?_)
set_option maxHeartbeats 8000000 in
set_option maxRecDepth 100000 in
theorem laws_sameInts.calls (k : Nat) (A0 : Option Addr) (c0 : Nat) (l0 : List Int) (A1 : Option Addr) (c1 : Nat) (l1 : List Int) (r : Bool) (w : World) (hr0 : Kd.C (Kd.int .i64) w A0 l0.length l0) (hc0 : l0.length ≤ c0) (hr1 : Kd.C (Kd.int .i64) w A1 l1.length l1) (hc1 : l1.length ≤ c1) (h : laws_sameInts.f k l0 l1 = some r) :
    Calls Try.prog 40 #[.slice A0 l0.length c0, .slice A1 l1.length c1] w fun e w' => e = .returned (.bool r) ∧ Drawn0 w w' := by
  have HR0 := Aside0.mk hr0
  have HC0 := Aside0.mk hc0
  clear hr0 hc0
  have HR1 := Aside0.mk hr1
  have HC1 := Aside0.mk hc1
  clear hr1 hc1
  have H : (if (l0.length : Int) = (l1.length : Int) then (laws_sameInts.l0 k l0 l1 0) else (some false)) = some r := h
  clear h
  by_cases c3 : (l0.length : Int) = (l1.length : Int)
  · rw [if_pos c3] at H
    have c3b0 : ((l0.length : Int) == (l1.length : Int)) = true := beq_iff_eq.mpr c3
    have c3b1 : ((l0.length : Int) != (l1.length : Int)) = false := bne_eq_false_iff_eq.mpr c3
    have c3b2 : (l0.length == l1.length) = true := by first | simpa using c3 | (simp at c3 ⊢; omega)
    clear c3
    have H' := Aside0.mk H
    clear H
    go_enter Try.func40, Try.ntmps40
    go_wp2
    repeat (go_quiet (fail); try go_wp2)
    go_loopg [5] k (fun kq v5 w' => ∃ (x5_1 : Int), v5 = .int .i64 x5_1 ∧ Aside0 (laws_sameInts.l0 kq l0 l1 x5_1 = some r) ∧ Aside0 (kq ≤ k) ∧ Drawn0 w w')
    case atStart => exact ⟨(0), (by first | rfl | (simp; done) | (simp [*]; done)), H', ⟨Nat.le_refl _⟩, by repeat (first | exact Drawn0.refl _ | apply Drawn0.step)⟩
    case round =>
      clear H'
      try clear c1
      try clear p2
      try clear c3
      try clear c3b0
      try clear c3b1
      try clear c3b2
      obtain ⟨x5_1, rfl, HA, HK1, ⟨m1, rfl⟩⟩ := hrel
      cases gk with
      | zero => exact absurd HA.out (by simp [laws_sameInts.l0])
      | succ k1 =>
        have H := HA.out
        clear HA
        simp only [laws_sameInts.l0] at H
        by_cases c4 : x5_1 < (l0.length : Int)
        · rw [if_pos c4] at H
          have c4b0 : decide (x5_1 < (l0.length : Int)) = true := decide_eq_true c4
          clear c4
          by_cases c5 : 0 ≤ x5_1
          · rw [if_pos c5] at H
            have c5b0 : decide (0 ≤ x5_1) = true := decide_eq_true c5
            clear c5
            by_cases c6 : x5_1 < (l1.length : Int)
            · rw [if_pos c6] at H
              have c6b0 : decide (x5_1 < (l1.length : Int)) = true := decide_eq_true c6
              clear c6
              by_cases c7 : (rd l0 x5_1) = (rd l1 x5_1)
              · rw [if_pos c7] at H
                have c7b0 : ((rd l0 x5_1) == (rd l1 x5_1)) = true := beq_iff_eq.mpr c7
                have c7b1 : ((rd l0 x5_1) != (rd l1 x5_1)) = false := bne_eq_false_iff_eq.mpr c7
                clear c7
                have H' := Aside0.mk H
                clear H
                have p190 : 0 ≤ (x5_1 : Int) := of_decide_eq_true (by first | (with_reducible assumption) | assumption)
                have q190 : x5_1 < (l0.length : Int) := of_decide_eq_true (by first | (with_reducible assumption) | assumption)
                obtain ⟨ad190, e190, hx190_0⟩ := Kd.at_int HR0.out x5_1 p190 q190
                cases e190
                replace p190 := eq_true p190
                replace q190 := eq_true q190
                have p191 : 0 ≤ (x5_1 : Int) := of_decide_eq_true (by first | (with_reducible assumption) | assumption)
                have q191 : x5_1 < (l1.length : Int) := of_decide_eq_true (by first | (with_reducible assumption) | assumption)
                obtain ⟨ad191, e191, hx191_0⟩ := Kd.at_int HR1.out x5_1 p191 q191
                cases e191
                replace p191 := eq_true p191
                replace q191 := eq_true q191
                go_wp2
                repeat (go_quiet (fail); try go_wp2)
                go_roundg k1
                case measure => have := HK1.out; omega
                case rel => exact ⟨(wrap64 (x5_1 + 1)), (by first | rfl | (simp; done) | (simp [*]; done)), H', ⟨by have := HK1.out; omega⟩, by repeat (first | exact Drawn0.refl _ | apply Drawn0.step)⟩
              · rw [if_neg c7] at H
                have c7b0 : ((rd l0 x5_1) == (rd l1 x5_1)) = false := beq_eq_false_iff_ne.mpr c7
                have c7b1 : ((rd l0 x5_1) != (rd l1 x5_1)) = true := bne_iff_ne.mpr c7
                obtain rfl := Option.some.inj H
                have p190 : 0 ≤ (x5_1 : Int) := of_decide_eq_true (by first | (with_reducible assumption) | assumption)
                have q190 : x5_1 < (l0.length : Int) := of_decide_eq_true (by first | (with_reducible assumption) | assumption)
                obtain ⟨ad190, e190, hx190_0⟩ := Kd.at_int HR0.out x5_1 p190 q190
                cases e190
                replace p190 := eq_true p190
                replace q190 := eq_true q190
                have p191 : 0 ≤ (x5_1 : Int) := of_decide_eq_true (by first | (with_reducible assumption) | assumption)
                have q191 : x5_1 < (l1.length : Int) := of_decide_eq_true (by first | (with_reducible assumption) | assumption)
                obtain ⟨ad191, e191, hx191_0⟩ := Kd.at_int HR1.out x5_1 p191 q191
                cases e191
                replace p191 := eq_true p191
                replace q191 := eq_true q191
                go_wp2
                repeat (go_quiet (fail); try go_wp2)
                go_ret
                exact ⟨by first | rfl | (simp; done) | (simp [*]; done), by repeat (first | exact Drawn0.refl _ | apply Drawn0.step)⟩
            · rw [if_neg c6] at H
              exact absurd H (by simp)
          · rw [if_neg c5] at H
            exact absurd H (by simp)
        · rw [if_neg c4] at H
          have c4b0 : decide (x5_1 < (l0.length : Int)) = false := decide_eq_false c4
          clear c4
          obtain rfl := Option.some.inj H
          go_wp2
          repeat (go_quiet (fail); try go_wp2)
          go_ret
          exact ⟨by first | rfl | (simp; done) | (simp [*]; done), by repeat (first | exact Drawn0.refl _ | apply Drawn0.step)⟩
  · rw [if_neg c3] at H
    have c3b0 : ((l0.length : Int) == (l1.length : Int)) = false := beq_eq_false_iff_ne.mpr c3
    have c3b1 : ((l0.length : Int) != (l1.length : Int)) = true := bne_iff_ne.mpr c3
    have c3b2 : (l0.length == l1.length) = false := by first | simpa using c3 | (simp at c3 ⊢; omega)
    obtain rfl := Option.some.inj H
    go_enter Try.func40, Try.ntmps40
    go_wp2
    repeat (go_quiet (fail); try go_wp2)
    go_ret
    exact ⟨by first | rfl | (simp; done) | (simp [*]; done), by repeat (first | exact Drawn0.refl _ | apply Drawn0.step)⟩

end Go.Proofs.Ytbgdmbjipladoaa.PFnTwice
